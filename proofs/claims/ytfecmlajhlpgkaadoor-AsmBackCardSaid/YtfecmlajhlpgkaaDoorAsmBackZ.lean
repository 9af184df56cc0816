/- The law AsmBack: whatever the input, it answers true. No conditions. (Part AsmBackZ of its proof.) -/
import Derived.Test.YtfecmlajhlpgkaaDoorG
import Derived.Test.YtfecmlajhlpgkaaDoorProg
set_option linter.unusedVariables false
set_option linter.unusedSimpArgs false
set_option linter.unusedSectionVars false
/- Printed by gen (walk.py). -/
namespace Go.Proofs.Abs
open Go Go.Proofs
set_option linter.unusedVariables false
set_option maxRecDepth 100000
set_option maxHeartbeats 0
structure T_asm_Label where
  Name_ : ByteArray
  At_ : Int
  deriving Inhabited
def e_asm_Label (x : T_asm_Label) : List AV := [.str x.Name_, .int .i64 x.At_]
structure T_asm_Unit where
  Words_ : (List Int)
  Labels_ : (List T_asm_Label)
  deriving Inhabited
def e_asm_Unit (x : T_asm_Unit) : List AV := [.sl 1 (List.map (eI .u32) x.Words_), .sl 2 (List.map e_asm_Label x.Labels_)]
structure T_asm_row where
  line_ : Int
  op_ : Int
  fields_ : (List ByteArray)
  word_ : Int
  deriving Inhabited
def e_asm_row (x : T_asm_row) : List AV := [.int .i64 x.line_, .int .i64 x.op_, .sl 1 (List.map eS x.fields_), .int .u32 x.word_]
structure T_asm_reader where
  unit_ : T_asm_Unit
  rows_ : (List T_asm_row)
  deriving Inhabited
def e_asm_reader (x : T_asm_reader) : List AV := [.sl 1 (List.map (eI .u32) x.unit_.Words_), .sl 2 (List.map e_asm_Label x.unit_.Labels_), .sl 4 (List.map e_asm_row x.rows_)]
structure T_instr_Instr where
  Op_ : Int
  A_ : Int
  B_ : Int
  C_ : Int
  Imm_ : Int
  deriving Inhabited
def e_instr_Instr (x : T_instr_Instr) : List AV := [.int .i64 x.Op_, .int .i64 x.A_, .int .i64 x.B_, .int .i64 x.C_, .int .i64 x.Imm_]
structure T_ref02_Instr where
  Op_ : Int
  A_ : Int
  B_ : Int
  C_ : Int
  Imm_ : Int
  deriving Inhabited
def e_ref02_Instr (x : T_ref02_Instr) : List AV := [.int .i64 x.Op_, .int .i64 x.A_, .int .i64 x.B_, .int .i64 x.C_, .int .i64 x.Imm_]
structure T_ref05_Label where
  Name_ : ByteArray
  At_ : Int
  deriving Inhabited
def e_ref05_Label (x : T_ref05_Label) : List AV := [.str x.Name_, .int .i64 x.At_]
structure T_ref05_row where
  line_ : Int
  op_ : Int
  word_ : Int
  fields_ : (List ByteArray)
  deriving Inhabited
def e_ref05_row (x : T_ref05_row) : List AV := [.int .i64 x.line_, .int .i64 x.op_, .int .u32 x.word_, .sl 1 (List.map eS x.fields_)]
def m0_asm_row (x : T_asm_row) : List MC := [(.top, .int .i64 x.line_), (.top, .int .i64 x.op_), ((.own 0), .sl 1 (List.map eS x.fields_)), (.top, .int .u32 x.word_)]
def m0_instr_Instr (x : T_instr_Instr) : List MC := [(.top, .int .i64 x.Op_), (.top, .int .i64 x.A_), (.top, .int .i64 x.B_), (.top, .int .i64 x.C_), (.top, .int .i64 x.Imm_)]
def m1_asm_row (x : T_asm_row) : List MC := [(.top, .int .i64 x.line_), (.top, .int .i64 x.op_), (.bh, .sl 1 (List.map eS x.fields_)), (.top, .int .u32 x.word_)]
def m0_ref02_Instr (x : T_ref02_Instr) : List MC := [(.top, .int .i64 x.Op_), (.top, .int .i64 x.A_), (.top, .int .i64 x.B_), (.top, .int .i64 x.C_), (.top, .int .i64 x.Imm_)]
def m0_ref05_row (x : T_ref05_row) : List MC := [(.top, .int .i64 x.line_), (.top, .int .i64 x.op_), (.top, .int .u32 x.word_), ((.own 0), .sl 1 (List.map eS x.fields_))]
def m1_ref05_row (x : T_ref05_row) : List MC := [(.top, .int .i64 x.line_), (.top, .int .i64 x.op_), (.top, .int .u32 x.word_), (.ro, .sl 1 (List.map eS x.fields_))]
def o_asm_reader (x : T_asm_reader) : List MC := [((.own 1), .sl 1 (List.map (eI .u32) x.unit_.Words_)), ((.own 1), .sl 2 (List.map e_asm_Label x.unit_.Labels_)), ((.own 1), .sl 4 (List.map e_asm_row x.rows_))]
noncomputable def get_asm_reader (H : Heap) (i o : Nat) : Option T_asm_reader := hgetT o_asm_reader 3 H i o
def set_asm_reader (H : Heap) (i o : Nat) (x : T_asm_reader) : Heap := hset H i o (o_asm_reader x)
def new_asm_reader (H : Heap) (x : T_asm_reader) : Heap := H ++ [o_asm_reader x]
def o_r256_bool (x : (Arr 256 Bool)) : List MC := (arB 256 x)
noncomputable def get_r256_bool (H : Heap) (i o : Nat) : Option (Arr 256 Bool) := hgetT o_r256_bool 256 H i o
def set_r256_bool (H : Heap) (i o : Nat) (x : (Arr 256 Bool)) : Heap := hset H i o (o_r256_bool x)
def new_r256_bool (H : Heap) (x : (Arr 256 Bool)) : Heap := H ++ [o_r256_bool x]
def o_instr_Instr (x : T_instr_Instr) : List MC := [(.top, .int .i64 x.Op_), (.top, .int .i64 x.A_), (.top, .int .i64 x.B_), (.top, .int .i64 x.C_), (.top, .int .i64 x.Imm_)]
noncomputable def get_instr_Instr (H : Heap) (i o : Nat) : Option T_instr_Instr := hgetT o_instr_Instr 5 H i o
def set_instr_Instr (H : Heap) (i o : Nat) (x : T_instr_Instr) : Heap := hset H i o (o_instr_Instr x)
def new_instr_Instr (H : Heap) (x : T_instr_Instr) : Heap := H ++ [o_instr_Instr x]
def o_p3 (x : Int) : List MC := [(.top, .int .i64 x)]
noncomputable def get_p3 (H : Heap) (i o : Nat) : Option Int := hgetT o_p3 1 H i o
def set_p3 (H : Heap) (i o : Nat) (x : Int) : Heap := hset H i o (o_p3 x)
def new_p3 (H : Heap) (x : Int) : Heap := H ++ [o_p3 x]
end Go.Proofs.Abs
/- Printed by gen (walk.py). -/
namespace Go.Proofs.Abs.Z
open Go Go.Proofs Go.Proofs.Abs
set_option linter.unusedVariables false
set_option maxRecDepth 100000
set_option maxHeartbeats 0
def e_instr_Instr (x : T_instr_Instr) : List AV := [.int .i64 x.Op_, .int .i64 x.A_, .int .i64 x.B_, .int .i64 x.C_, .int .i64 x.Imm_]
def m0_instr_Instr (x : T_instr_Instr) : List MC := [(.top, .int .i64 x.Op_), (.top, .int .i64 x.A_), (.top, .int .i64 x.B_), (.top, .int .i64 x.C_), (.top, .int .i64 x.Imm_)]
end Go.Proofs.Abs.Z
/- Printed by gen (walk.py). -/
namespace Go.Proofs.Abs.Z
open Go Go.Proofs Go.Proofs.Abs
set_option linter.unusedVariables false
set_option maxRecDepth 100000
set_option maxHeartbeats 0
def i25 : FI := { pure := true, regs := [(0, dd [2]), (1, dd [0, 3, 4, 5])] }
def i26 : FI := { pure := true, regs := [(0, dd [3]), (1, dd [8, 9, 10, 11]), (2, dd [12, 13, 14]), (3, dd [15]), (4, dd [17, 18, 19, 20, 21, 22, 23, 24, 25, 26]), (5, dd [5]), (6, dd [29]), (7, dd [30]), (8, dd [31, 32, 33, 34]), (9, dd [36]), (10, dd [37]), (11, dd [38]), (12, dd [39, 40, 41, 42]), (13, dd [44]), (14, dd [45, 46, 47, 48]), (15, dd [27, 50]), (16, dd [51, 52, 53, 54]), (17, dd [55, 56, 57, 58, 59]), (18, dd [0, 6, 7, 60, 61, 62, 63, 64, 65]), (19, dd [67]), (20, { dead := ([4, 68], [4]) })], conds := [((16, 5, 0), ([16], []), ([16], [])), ((28, 0, 8), ([], []), ([28], [])), ((28, 9, 10), ([27, 28], []), ([28], [])), ((35, 0, 11), ([], []), ([35], [])), ((35, 0, 12), ([], []), ([35], [])), ((35, 13, 14), ([27, 35], []), ([35], [])), ((43, 15, 16), ([27, 43], []), ([43], [])), ((49, 17, 0), ([49], []), ([49], [])), ((66, 20, 0), ([4, 66], [4]), ([66], []))] }
def i27 : FI := { pure := true, regs := [(0, dd [0, 2, 3]), (1, dd [8, 9]), (2, dd [10]), (3, dd [4, 12]), (4, dd [13, 14, 15]), (5, { dead := ([1, 16], [1]) }), (7, dd [21, 22, 23]), (8, dd [6, 24]), (9, dd [26, 27]), (10, dd [7, 28, 29, 30, 31]), (11, dd [32]), (12, dd [5, 33])], conds := [((11, 4, 0), ([1, 11], [1]), ([4, 11], [])), ((20, 0, 0), ([20], []), ([17, 18, 19, 20], [])), ((25, 10, 0), ([25], []), ([25], []))] }
def i40 : FI := { pure := true, regs := [(0, dd [2]), (1, dd [3]), (2, dd [0, 5, 6, 7, 8, 9]), (3, dd [0, 10, 11, 12])], conds := [((4, 3, 0), ([4], []), ([4], []))] }
def i42 : FI := { pure := true, regs := [(0, dd [0, 2, 3]), (1, dd [6, 7]), (2, dd [8]), (3, dd [4, 10]), (4, dd [11, 12, 13, 14]), (5, dd [15, 16, 17]), (6, { dead := ([1, 5, 19, 20, 21, 22, 23, 24], [1]) }), (7, { dead := ([1, 5, 25, 26, 27, 28, 29, 30, 31, 32, 33, 34, 35, 36, 37, 38, 39, 40, 41, 42, 43, 44], [1]) })], conds := [((9, 4, 0), ([1, 9], [1]), ([4, 9], [])), ((18, 7, 0), ([18], []), ([18], []))] }
def i50 : FI := { pure := true, regs := [(0, dd [6]), (3, dd [10, 11, 12, 13, 14, 15, 16, 17, 18, 19, 20, 21]), (4, dd [23, 24, 25, 26]), (5, dd [27, 28]), (6, dd [29]), (7, dd [9, 31, 32, 33, 34]), (8, dd [9, 35, 36, 37, 38, 39]), (9, dd [40, 41, 42]), (10, { dead := ([7, 8, 43, 44, 45], [7]) })], conds := [((22, 0, 0), ([22], []), ([0, 1, 2, 22], [])), ((30, 8, 9), ([30], []), ([30], []))] }
def i51 : FI := { pure := true, regs := [(0, dd [2]), (1, dd [0]), (2, dd [5]), (4, dd [7]), (5, dd [8]), (6, dd [9]), (8, dd [11]), (9, dd [12]), (10, dd [13]), (12, dd [15]), (13, dd [16]), (14, dd [17]), (16, dd [19]), (17, dd [20]), (18, dd [21]), (20, dd [23]), (21, dd [24]), (22, dd [25]), (23, dd [26]), (24, dd [27]), (25, dd [28]), (26, dd [29]), (27, dd [30]), (28, dd [31]), (29, dd [32]), (30, dd [33]), (31, dd [34]), (33, dd [36]), (34, dd [37]), (35, dd [38]), (36, dd [39]), (37, dd [40]), (38, dd [41]), (40, dd [43]), (41, dd [44]), (43, dd [3, 46])], conds := [((4, 4, 5), ([3, 4], []), ([4], [])), ((6, 0, 6), ([], []), ([6], [])), ((6, 0, 7), ([], []), ([6], [])), ((6, 8, 9), ([3, 6], []), ([6], [])), ((10, 0, 10), ([], []), ([10], [])), ((10, 0, 11), ([], []), ([10], [])), ((10, 12, 13), ([3, 10], []), ([10], [])), ((14, 0, 14), ([], []), ([14], [])), ((14, 0, 15), ([], []), ([14], [])), ((14, 16, 17), ([3, 14], []), ([14], [])), ((18, 0, 18), ([], []), ([18], [])), ((18, 0, 19), ([], []), ([18], [])), ((18, 20, 21), ([3, 18], []), ([18], [])), ((22, 0, 22), ([], []), ([22], [])), ((22, 0, 23), ([], []), ([22], [])), ((22, 0, 24), ([], []), ([22], [])), ((22, 0, 25), ([], []), ([22], [])), ((22, 0, 26), ([], []), ([22], [])), ((22, 0, 27), ([], []), ([22], [])), ((22, 0, 28), ([], []), ([22], [])), ((22, 0, 29), ([], []), ([22], [])), ((22, 0, 30), ([], []), ([22], [])), ((22, 0, 31), ([], []), ([22], [])), ((22, 0, 32), ([], []), ([22], [])), ((22, 33, 34), ([3, 22], []), ([22], [])), ((35, 0, 35), ([], []), ([35], [])), ((35, 0, 36), ([], []), ([35], [])), ((35, 0, 37), ([], []), ([35], [])), ((35, 0, 38), ([], []), ([35], [])), ((35, 0, 39), ([], []), ([35], [])), ((35, 40, 41), ([3, 35], []), ([35], [])), ((42, 0, 42), ([], []), ([42], [])), ((42, 43, 44), ([3, 42], []), ([42], [])), ((45, 45, 0), ([45], []), ([45], []))] }
def i52 : FI := { pure := true, regs := [(0, dd [4]), (1, dd [6]), (3, dd [1, 8, 9, 10]), (4, dd [0, 5, 11, 12, 13, 14, 15, 16])], conds := [((7, 3, 0), ([0, 1, 7], []), ([7], []))] }
def i53 : FI := { pure := true, regs := [(0, dd [0, 2]), (1, dd [5, 6, 7]), (2, dd [8]), (4, dd [10, 11, 12, 13, 14, 15, 16, 17, 18, 19, 20, 21, 22, 23, 24, 25, 26, 27, 28, 29, 30]), (6, dd [32, 33, 34]), (7, dd [3]), (8, dd [37]), (9, dd [38]), (10, dd [39]), (11, { dead := ([1, 40, 41, 42, 43, 44, 45, 46, 47, 48, 49, 50], [1]) }), (12, dd [52]), (13, dd [53]), (14, dd [54]), (15, { dead := ([1, 55, 56, 57, 58, 59, 60], [1]) }), (16, dd [35, 62]), (18, dd [4, 63])], conds := [((9, 4, 0), ([1, 3, 9], [1]), ([9], [])), ((31, 6, 0), ([1, 3, 31], [1]), ([31], [])), ((36, 0, 10), ([], []), ([36], [])), ((36, 0, 11), ([], []), ([36], [])), ((36, 12, 13), ([35, 36], []), ([36], [])), ((51, 0, 14), ([], []), ([51], [])), ((51, 0, 15), ([], []), ([51], [])), ((51, 16, 17), ([35, 51], []), ([1, 51], [1])), ((61, 18, 0), ([4, 61], []), ([61], [])), ((64, 20, 0), ([64], []), ([64], []))] }
def i54 : FI := { pure := true, regs := [(0, dd [2]), (1, dd [3, 4, 5, 6, 7]), (3, dd [0, 9, 10, 11, 12])], conds := [((8, 3, 0), ([0, 8], []), ([8], []))] }
def i55 : FI := { pure := true, regs := [(0, dd [0, 2]), (1, { dead := ([7, 8, 9, 10, 11, 12, 13, 14, 15, 16, 17, 18, 19, 20, 21], []), sch := (.take 0 (.take 1 (.take 4 (.take 5 (.take 8 (.take 9 (.take 12 (.take 13 (.last 2 (.take 3 (.last 6 (.take 7 (.last 10 (.take 11 (.last 14 (.take 15 (.take 16 (.take 17 (.take 18 .done))))))))))))))))))), rpu := true, rlc := [1] }), (2, dd [22, 23]), (3, dd [25, 26, 27]), (4, { dead := ([1, 28, 29], [1]) }), (5, dd [32]), (6, dd [33]), (7, dd [3, 6, 34, 35, 36]), (8, dd [38]), (9, dd [39]), (10, dd [3, 4, 6, 40, 41, 42, 43]), (11, dd [45]), (12, dd [3, 4, 5, 46, 47, 48, 49]), (13, dd [51]), (14, dd [3, 52, 53]), (15, dd [55]), (16, dd [30, 56]), (17, dd [6, 57, 58])], conds := [((24, 4, 0), ([4, 24], []), ([24], [])), ((31, 0, 7), ([], []), ([31], [])), ((31, 8, 9), ([4, 5, 30, 31], []), ([31], [])), ((37, 0, 10), ([], []), ([37], [])), ((37, 11, 12), ([5, 30, 37], []), ([37], [])), ((44, 13, 14), ([6, 30, 44], []), ([4, 5, 44], [])), ((50, 15, 16), ([6, 30, 50], []), ([3, 50], [])), ((54, 0, 17), ([30], []), ([54], [])), ((54, 18, 0), ([54], []), ([6, 54], []))] }
def i69 : FI := { pure := true, regs := [(0, dd [0]), (1, dd [1])] }
def i73 : FI := { pure := true, regs := [(0, dd [2]), (1, dd [0, 3, 4, 5, 6, 7, 8])] }
def i74 : FI := { pure := true, regs := [(0, dd [0, 4]), (1, dd [1]), (2, dd [7]), (3, dd [8]), (4, { dead := ([2, 9, 10, 11], [2]) }), (5, dd [13]), (6, dd [14]), (7, dd [15]), (8, { dead := ([2, 16, 17, 18], [2]) }), (9, dd [5, 20]), (10, { dead := ([2, 21, 22, 23], [2]) }), (11, { dead := ([2, 24, 25, 26], [2]) })], conds := [((6, 0, 4), ([], []), ([6], [])), ((6, 5, 6), ([5, 6], []), ([6], [])), ((12, 0, 7), ([], []), ([12], [])), ((12, 0, 8), ([], []), ([12], [])), ((12, 9, 10), ([5, 12], []), ([12], [])), ((19, 11, 0), ([19], []), ([19], []))] }
def i88 : FI := { pure := true, regs := [(0, dd [4]), (1, dd [6]), (3, dd [1, 8, 9, 10]), (4, dd [0, 5, 11, 12, 13, 14, 15, 16, 17, 18, 19, 20])], conds := [((7, 3, 0), ([0, 1, 7], []), ([7], []))] }
def i89 : FI := { pure := true, regs := [(0, dd [4]), (1, dd [0, 1, 5, 6, 7, 8, 9, 10, 11, 12, 13, 14, 15, 16, 17])] }
def fi (f : Nat) : FI := (bif Nat.blt f 53 then (bif Nat.blt f 42 then (bif Nat.blt f 27 then (bif Nat.blt f 26 then (bif Nat.beq f 25 then i25 else {}) else (bif Nat.beq f 26 then i26 else {})) else (bif Nat.blt f 40 then (bif Nat.beq f 27 then i27 else {}) else (bif Nat.beq f 40 then i40 else {}))) else (bif Nat.blt f 51 then (bif Nat.blt f 50 then (bif Nat.beq f 42 then i42 else {}) else (bif Nat.beq f 50 then i50 else {})) else (bif Nat.blt f 52 then (bif Nat.beq f 51 then i51 else {}) else (bif Nat.beq f 52 then i52 else {})))) else (bif Nat.blt f 73 then (bif Nat.blt f 55 then (bif Nat.blt f 54 then (bif Nat.beq f 53 then i53 else {}) else (bif Nat.beq f 54 then i54 else {})) else (bif Nat.blt f 69 then (bif Nat.beq f 55 then i55 else {}) else (bif Nat.beq f 69 then i69 else {}))) else (bif Nat.blt f 88 then (bif Nat.blt f 74 then (bif Nat.beq f 73 then i73 else {}) else (bif Nat.beq f 74 then i74 else {})) else (bif Nat.blt f 89 then (bif Nat.beq f 88 then i88 else {}) else (bif Nat.beq f 89 then i89 else {})))))
noncomputable def X : Cx := mkX Tryd.prog fi
end Go.Proofs.Abs.Z
/- Printed by gen (walk.py). -/
namespace Go.Proofs.Abs.Z
open Go Go.Proofs Go.Proofs.Abs
set_option linter.unusedVariables false
set_option maxRecDepth 100000
set_option maxHeartbeats 0
noncomputable def word_digits_j2 (a1 : Int) (p1 : Int) (a2 : Int) (j8 : (Arr 64 Int)) : Option ((Int × Int × (Arr 64 Int)) ⊕ ((Int × (Arr 64 Int)))) :=
  bind1 (quoI .u64 a1 p1) fun v10 =>
  some (Sum.inl (v10, (IntKind.wrap .i64 (a2 - 1)), j8))
noncomputable def word_digits_L1 (p2 : Int) (p1 : Int) (a1 : Int) (a2 : Int) (a3 : (Arr 64 Int)) : Option ((Int × Int × (Arr 64 Int)) ⊕ ((Int × (Arr 64 Int)))) :=
  if ((decide (a1 > 0)) || ((decide (a2 > (IntKind.wrap .i64 (64 - (if 1 > p2 then 1 else p2))))) && (decide (a2 > 0)))) = true then (bind1 (remI .u64 a1 p1) fun v6 =>
  if (decide ((IntKind.wrap .u8 v6) < 10)) = true then (bind1 (ga a3 (IntKind.wrap .i64 (a2 - 1))) fun v12 =>
  bind1 (sa a3 (IntKind.wrap .i64 (a2 - 1)) (IntKind.wrap .u8 (48 + (IntKind.wrap .u8 v6)))) fun v14 =>
  word_digits_j2 a1 p1 a2 v14)
  else (bind1 (ga a3 (IntKind.wrap .i64 (a2 - 1))) fun v16 =>
  bind1 (sa a3 (IntKind.wrap .i64 (a2 - 1)) (IntKind.wrap .u8 ((IntKind.wrap .u8 (97 + (IntKind.wrap .u8 v6))) - 10))) fun v18 =>
  word_digits_j2 a1 p1 a2 v18))
  else (some (Sum.inr (a2, a3)))
noncomputable def word_digits  (p0 : Int) (p1 : Int) (p2 : Int) : Option (ByteArray) :=
  bind1 (loopO (fun (x : (Int × Int × (Arr 64 Int))) => word_digits_L1 p2 p1 x.1 x.2.1 x.2.2) (p0, 64, (arrR 64 0 : Arr 64 Int))) (tup2 fun b21 b22 =>
  bind1 (cut ((List.range 64).map b22.g) b21 64) fun v23 =>
  some (sOf v23))
theorem ok_word_digits (H : Heap) {p0 : Int} {p1 : Int} {p2 : Int} {ra : ByteArray} (hF : word_digits p0 p1 p2 = some ra) : evS X 50 [.one .top (.int .u64 p0), .one .top (.int .u64 p1), .one .top (.int .i64 p2)] H = some (.one .top (.str ra), H) := by
 refine wf Tryd.func50 true 14 ?_; intro q
 obtain ⟨⟨b21, b22⟩, hL20, hF⟩ := bind1_inv hF
 refine wL (fun (x : (Int × Int × (Arr 64 Int))) => up [(0, .one .top (.int .u64 x.1)), (8, vi x.2.1)] [] [(7, (arM .u8 64 x.2.2))] []) (fun (y : (Int × (Arr 64 Int))) => wz (.exit 0) (up [(8, vi y.1)] [0, 1, 2] [(7, (arM .u8 64 y.2))] [])) hL20 ?_ ?_
 rintro ⟨a1, a2, a3⟩ o hF q
 refine go 6 ?_; intro q
 refine wr 0 (fun x => ut [(22, vb x)] [10, 11, 12]) ((decide (a1 > 0)) || ((decide (a2 > (IntKind.wrap .i64 (64 - (if 1 > p2 then 1 else p2))))) && (decide (a2 > 0)))) ?_ ?_; intro q
 refine wb [11, 12] (decide (a1 > 0)) 11 6 (fun h4 => ?_) (fun h4 => ?_)
 intro q
 exact wl true (by first | (simp only [h4]; done) | (simp only [h4]; rfl) | simp [h4])
 intro q
 refine wb [17, 18] (decide (a2 > (IntKind.wrap .i64 (64 - (if 1 > p2 then 1 else p2))))) 5 5 (fun h5 => ?_) (fun h5 => ?_)
 intro q
 exact wl (decide (a2 > 0)) (by first | (simp only [h4, h5]; done) | (simp only [h4, h5]; rfl) | simp [h4, h5])
 intro q
 exact wl false (by first | (simp only [h4, h5]; done) | (simp only [h4, h5]; rfl) | simp [h4, h5])
 intro q
 refine wi 6 0 hF (fun _ hF => ?_) (fun _ hF => ?_)
 intro q
 obtain ⟨v6, h7, hF⟩ := bind1_inv hF
 refine wbi 15 h7 .u64 (ev_rem (P := X.P) (ty := 104) (x := (.tmp 23)) (y := (.tmp 24)) (m := .top) (m' := .top) (k := .u64) (a := a1) (b := p1)) ?_; intro q
 refine wj 3 0 (fun x => up [] [9, 30] [(7, (arM .u8 64 x))] []) (word_digits_j2 a1 p1 a2) o ?_ ?_
 rintro j8 hF q
 obtain ⟨v10, h11, hF⟩ := bind1_inv hF
 refine wbi 3 h11 .u64 (ev_quo (P := X.P) (ty := 104) (x := (.tmp 40)) (y := (.tmp 41)) (m := .top) (m' := .top) (k := .u64) (a := a1) (b := p1)) ?_; intro q
 exact wln _ hF
 intro hJ9 q
 refine wi 4 5 hF (fun _ hF => ?_) (fun _ hF => ?_)
 intro q
 obtain ⟨v12, h13, hF⟩ := bind1_inv hF
 refine wiL 0 7 0 h13 ?_; intro q
 obtain ⟨v14, h15, hF⟩ := bind1_inv hF
 refine wsL 1 7 0 h15 (fun q => .int .u8 q) ?_; intro q
 exact we hJ9 v14 hF
 intro q
 obtain ⟨v16, h17, hF⟩ := bind1_inv hF
 refine wiL 0 7 0 h17 ?_; intro q
 obtain ⟨v18, h19, hF⟩ := bind1_inv hF
 refine wsL 1 7 0 h19 (fun q => .int .u8 q) ?_; intro q
 exact we hJ9 v18 hF
 intro q
 exact wlx _ hF
 replace hF := tup2_inv hF
 intro q
 refine go 4 ?_; intro q
 obtain ⟨v23, h24, hF⟩ := bind1_inv hF
 refine wsA 0 7 64 h24 (fun q => .int .u8 q) ?_; intro q
 refine wstr 2 v23 ?_; intro q
 obtain rfl := some1_inv hF
 exact wrp
noncomputable def word_Hex  (p0 : Int) : Option (ByteArray) :=
  bind1 (word_digits (IntKind.wrap .u64 p0) 16 8) fun r1 =>
  some r1
theorem ok_word_Hex (H : Heap) {p0 : Int} {ra : ByteArray} (hF : word_Hex p0 = some ra) : evS X 25 [.one .top (.int .u32 p0)] H = some (.one .top (.str ra), H) := by
 refine wf Tryd.func25 true 8 ?_; intro q
 obtain ⟨r1, c2, hF⟩ := bind1_inv hF
 refine wc 2 (ok_word_digits H c2) ?_; intro q
 obtain rfl := some1_inv hF
 exact wrp
noncomputable def instr_Shape_j7 (p0 : Int) (j13 : Bool) : Option (Int) :=
  if j13 = true then (some 7)
  else (if (p0 == 28) = true then (some 8)
  else (some (-1)))
noncomputable def instr_Shape_j6 (p0 : Int) (j11 : Bool) : Option (Int) :=
  if j11 = true then (some 6)
  else (if (p0 == 22) = true then (instr_Shape_j7 p0 (p0 == 22))
  else (instr_Shape_j7 p0 (p0 == 23)))
noncomputable def instr_Shape_j5 (p0 : Int) (j9 : Bool) : Option (Int) :=
  if j9 = true then (some 5)
  else (if (p0 == 24) = true then (instr_Shape_j6 p0 (p0 == 24))
  else (if (p0 == 25) = true then (instr_Shape_j6 p0 (p0 == 25))
  else (if (p0 == 27) = true then (instr_Shape_j6 p0 (p0 == 27))
  else (if (p0 == 29) = true then (instr_Shape_j6 p0 (p0 == 29))
  else (if (p0 == 31) = true then (instr_Shape_j6 p0 (p0 == 31))
  else (instr_Shape_j6 p0 (p0 == 32)))))))
noncomputable def instr_Shape_j4 (p0 : Int) (j7 : Bool) : Option (Int) :=
  if j7 = true then (some 4)
  else (if (p0 == 6) = true then (instr_Shape_j5 p0 (p0 == 6))
  else (if (p0 == 7) = true then (instr_Shape_j5 p0 (p0 == 7))
  else (if (p0 == 8) = true then (instr_Shape_j5 p0 (p0 == 8))
  else (if (p0 == 9) = true then (instr_Shape_j5 p0 (p0 == 9))
  else (if (p0 == 10) = true then (instr_Shape_j5 p0 (p0 == 10))
  else (if (p0 == 11) = true then (instr_Shape_j5 p0 (p0 == 11))
  else (if (p0 == 12) = true then (instr_Shape_j5 p0 (p0 == 12))
  else (if (p0 == 13) = true then (instr_Shape_j5 p0 (p0 == 13))
  else (if (p0 == 14) = true then (instr_Shape_j5 p0 (p0 == 14))
  else (if (p0 == 15) = true then (instr_Shape_j5 p0 (p0 == 15))
  else (if (p0 == 16) = true then (instr_Shape_j5 p0 (p0 == 16))
  else (instr_Shape_j5 p0 (p0 == 17)))))))))))))
noncomputable def instr_Shape_j3 (p0 : Int) (j5 : Bool) : Option (Int) :=
  if j5 = true then (some 3)
  else (if (p0 == 4) = true then (instr_Shape_j4 p0 (p0 == 4))
  else (if (p0 == 34) = true then (instr_Shape_j4 p0 (p0 == 34))
  else (instr_Shape_j4 p0 (p0 == 26))))
noncomputable def instr_Shape_j2 (p0 : Int) (j3 : Bool) : Option (Int) :=
  if j3 = true then (some 2)
  else (if (p0 == 5) = true then (instr_Shape_j3 p0 (p0 == 5))
  else (if (p0 == 18) = true then (instr_Shape_j3 p0 (p0 == 18))
  else (instr_Shape_j3 p0 (p0 == 19))))
noncomputable def instr_Shape_j1 (p0 : Int) (j1 : Bool) : Option (Int) :=
  if j1 = true then (some 1)
  else (if (p0 == 3) = true then (instr_Shape_j2 p0 (p0 == 3))
  else (if (p0 == 30) = true then (instr_Shape_j2 p0 (p0 == 30))
  else (instr_Shape_j2 p0 (p0 == 33))))
noncomputable def instr_Shape  (p0 : Int) : Option (Int) :=
  if (p0 == 1) = true then (some 0)
  else (if (p0 == 2) = true then (instr_Shape_j1 p0 (p0 == 2))
  else (if (p0 == 20) = true then (instr_Shape_j1 p0 (p0 == 20))
  else (instr_Shape_j1 p0 (p0 == 21))))
theorem ok_instr_Shape (H : Heap) {p0 : Int} {ra : Int} (hF : instr_Shape p0 = some ra) : evS X 51 [.one .top (.int .i64 p0)] H = some (.one .top (.int .i64 ra), H) := by
 refine wf Tryd.func51 true 15 ?_; intro q
 refine wi 4 6 hF (fun _ hF => ?_) (fun _ hF => ?_)
 intro q
 obtain rfl := some1_inv hF
 exact wrp
 intro q
 refine wj 0 0 (fun x => ut [(6, vb x)] []) (instr_Shape_j1 p0) ra ?_ ?_
 rintro j1 hF q
 refine wi 4 6 hF (fun _ hF => ?_) (fun _ hF => ?_)
 intro q
 obtain rfl := some1_inv hF
 exact wrp
 intro q
 refine wj 0 0 (fun x => ut [(10, vb x)] []) (instr_Shape_j2 p0) ra ?_ ?_
 rintro j3 hF q
 refine wi 4 6 hF (fun _ hF => ?_) (fun _ hF => ?_)
 intro q
 obtain rfl := some1_inv hF
 exact wrp
 intro q
 refine wj 0 0 (fun x => ut [(14, vb x)] []) (instr_Shape_j3 p0) ra ?_ ?_
 rintro j5 hF q
 refine wi 4 6 hF (fun _ hF => ?_) (fun _ hF => ?_)
 intro q
 obtain rfl := some1_inv hF
 exact wrp
 intro q
 refine wj 0 0 (fun x => ut [(18, vb x)] []) (instr_Shape_j4 p0) ra ?_ ?_
 rintro j7 hF q
 refine wi 4 6 hF (fun _ hF => ?_) (fun _ hF => ?_)
 intro q
 obtain rfl := some1_inv hF
 exact wrp
 intro q
 refine wj 0 0 (fun x => ut [(22, vb x)] []) (instr_Shape_j5 p0) ra ?_ ?_
 rintro j9 hF q
 refine wi 4 6 hF (fun _ hF => ?_) (fun _ hF => ?_)
 intro q
 obtain rfl := some1_inv hF
 exact wrp
 intro q
 refine wj 0 0 (fun x => ut [(35, vb x)] []) (instr_Shape_j6 p0) ra ?_ ?_
 rintro j11 hF q
 refine wi 4 6 hF (fun _ hF => ?_) (fun _ hF => ?_)
 intro q
 obtain rfl := some1_inv hF
 exact wrp
 intro q
 refine wj 0 0 (fun x => ut [(42, vb x)] []) (instr_Shape_j7 p0) ra ?_ ?_
 rintro j13 hF q
 refine wi 4 5 hF (fun _ hF => ?_) (fun _ hF => ?_)
 intro q
 obtain rfl := some1_inv hF
 exact wrp
 intro q
 refine wi 4 6 hF (fun _ hF => ?_) (fun _ hF => ?_)
 intro q
 obtain rfl := some1_inv hF
 exact wrp
 intro q
 obtain rfl := some1_inv hF
 exact wrp
 intro hJ14 q
 refine wi 1 4 hF (fun _ hF => ?_) (fun _ hF => ?_)
 intro q
 exact we hJ14 (p0 == 22) hF
 intro q
 exact we hJ14 (p0 == 23) hF
 intro hJ12 q
 refine wi 1 5 hF (fun _ hF => ?_) (fun _ hF => ?_)
 intro q
 exact we hJ12 (p0 == 24) hF
 intro q
 refine wi 1 5 hF (fun _ hF => ?_) (fun _ hF => ?_)
 intro q
 exact we hJ12 (p0 == 25) hF
 intro q
 refine wi 1 5 hF (fun _ hF => ?_) (fun _ hF => ?_)
 intro q
 exact we hJ12 (p0 == 27) hF
 intro q
 refine wi 1 5 hF (fun _ hF => ?_) (fun _ hF => ?_)
 intro q
 exact we hJ12 (p0 == 29) hF
 intro q
 refine wi 1 4 hF (fun _ hF => ?_) (fun _ hF => ?_)
 intro q
 exact we hJ12 (p0 == 31) hF
 intro q
 exact we hJ12 (p0 == 32) hF
 intro hJ10 q
 refine wi 1 5 hF (fun _ hF => ?_) (fun _ hF => ?_)
 intro q
 exact we hJ10 (p0 == 6) hF
 intro q
 refine wi 1 5 hF (fun _ hF => ?_) (fun _ hF => ?_)
 intro q
 exact we hJ10 (p0 == 7) hF
 intro q
 refine wi 1 5 hF (fun _ hF => ?_) (fun _ hF => ?_)
 intro q
 exact we hJ10 (p0 == 8) hF
 intro q
 refine wi 1 5 hF (fun _ hF => ?_) (fun _ hF => ?_)
 intro q
 exact we hJ10 (p0 == 9) hF
 intro q
 refine wi 1 5 hF (fun _ hF => ?_) (fun _ hF => ?_)
 intro q
 exact we hJ10 (p0 == 10) hF
 intro q
 refine wi 1 5 hF (fun _ hF => ?_) (fun _ hF => ?_)
 intro q
 exact we hJ10 (p0 == 11) hF
 intro q
 refine wi 1 5 hF (fun _ hF => ?_) (fun _ hF => ?_)
 intro q
 exact we hJ10 (p0 == 12) hF
 intro q
 refine wi 1 5 hF (fun _ hF => ?_) (fun _ hF => ?_)
 intro q
 exact we hJ10 (p0 == 13) hF
 intro q
 refine wi 1 5 hF (fun _ hF => ?_) (fun _ hF => ?_)
 intro q
 exact we hJ10 (p0 == 14) hF
 intro q
 refine wi 1 5 hF (fun _ hF => ?_) (fun _ hF => ?_)
 intro q
 exact we hJ10 (p0 == 15) hF
 intro q
 refine wi 1 4 hF (fun _ hF => ?_) (fun _ hF => ?_)
 intro q
 exact we hJ10 (p0 == 16) hF
 intro q
 exact we hJ10 (p0 == 17) hF
 intro hJ8 q
 refine wi 1 5 hF (fun _ hF => ?_) (fun _ hF => ?_)
 intro q
 exact we hJ8 (p0 == 4) hF
 intro q
 refine wi 1 4 hF (fun _ hF => ?_) (fun _ hF => ?_)
 intro q
 exact we hJ8 (p0 == 34) hF
 intro q
 exact we hJ8 (p0 == 26) hF
 intro hJ6 q
 refine wi 1 5 hF (fun _ hF => ?_) (fun _ hF => ?_)
 intro q
 exact we hJ6 (p0 == 5) hF
 intro q
 refine wi 1 4 hF (fun _ hF => ?_) (fun _ hF => ?_)
 intro q
 exact we hJ6 (p0 == 18) hF
 intro q
 exact we hJ6 (p0 == 19) hF
 intro hJ4 q
 refine wi 1 5 hF (fun _ hF => ?_) (fun _ hF => ?_)
 intro q
 exact we hJ4 (p0 == 3) hF
 intro q
 refine wi 1 4 hF (fun _ hF => ?_) (fun _ hF => ?_)
 intro q
 exact we hJ4 (p0 == 30) hF
 intro q
 exact we hJ4 (p0 == 33) hF
 intro hJ2 q
 refine wi 1 5 hF (fun _ hF => ?_) (fun _ hF => ?_)
 intro q
 exact we hJ2 (p0 == 2) hF
 intro q
 refine wi 1 4 hF (fun _ hF => ?_) (fun _ hF => ?_)
 intro q
 exact we hJ2 (p0 == 20) hF
 intro q
 exact we hJ2 (p0 == 21) hF
noncomputable def word_Sext  (p0 : Int) (p1 : Int) : Option (Int) :=
  if (decide (p1 < 1)) = true then (some 0)
  else (bind1 (shlI .u32 p0 (IntKind.wrap .i64 (32 - (if 32 < p1 then 32 else p1)))) fun v1 =>
  bind1 (shrI .i32 (IntKind.wrap .i32 v1) (IntKind.wrap .i64 (32 - (if 32 < p1 then 32 else p1)))) fun v3 =>
  some v3)
theorem ok_word_Sext (H : Heap) {p0 : Int} {p1 : Int} {ra : Int} (hF : word_Sext p0 p1 = some ra) : evS X 52 [.one .top (.int .u32 p0), .one .top (.int .i64 p1)] H = some (.one .top (.int .i32 ra), H) := by
 refine wf Tryd.func52 true 10 ?_; intro q
 refine wi 4 12 hF (fun _ hF => ?_) (fun _ hF => ?_)
 intro q
 obtain rfl := some1_inv hF
 exact wrp
 intro q
 obtain ⟨v1, h2, hF⟩ := bind1_inv hF
 refine wbi 2 h2 .u32 (ev_shl (P := X.P) (ty := 45) (x := (.tmp 11)) (y := (.tmp 12)) (m := .top) (m' := .top) (k := .u32) (k' := .i64) (a := p0) (b := (IntKind.wrap .i64 (32 - (if 32 < p1 then 32 else p1))))) ?_; intro q
 obtain ⟨v3, h4, hF⟩ := bind1_inv hF
 refine wbi 2 h4 .i32 (ev_shr (P := X.P) (ty := 21) (x := (.tmp 14)) (y := (.tmp 15)) (m := .top) (m' := .top) (k := .i32) (k' := .i64) (a := (IntKind.wrap .i32 v1)) (b := (IntKind.wrap .i64 (32 - (if 32 < p1 then 32 else p1))))) ?_; intro q
 obtain rfl := some1_inv hF
 exact wrp
noncomputable def instr_reg  (p0 : Int) : Option (Bool) :=
  some ((decide (p0 ≥ 0)) && (decide (p0 < 16)))
theorem ok_instr_reg (H : Heap) {p0 : Int} {ra : Bool} (hF : instr_reg p0 = some ra) : evS X 73 [.one .top (.int .i64 p0)] H = some (.one .top (.bool ra), H) := by
 refine wf Tryd.func73 true 9 ?_; intro q
 refine wr 0 (fun x => ut [(2, vb x)] [0, 3, 4, 5]) ((decide (p0 ≥ 0)) && (decide (p0 < 16))) ?_ ?_; intro q
 refine wb [4, 5] (decide (p0 ≥ 0)) 5 5 (fun h1 => ?_) (fun h1 => ?_)
 intro q
 exact wl (decide (p0 < 16)) (by first | (simp only [h1]; done) | (simp only [h1]; rfl) | simp [h1])
 intro q
 exact wl false (by first | (simp only [h1]; done) | (simp only [h1]; rfl) | simp [h1])
 intro q
 obtain rfl := some1_inv hF
 exact wrp
noncomputable def word_Fits  (p0 : Int) (p1 : Int) : Option (Bool) :=
  if (decide (p1 < 1)) = true then (some false)
  else (bind1 (shlI .i64 (-1) (IntKind.wrap .i64 ((if 40 < p1 then 40 else p1) - 1))) fun v1 =>
  bind1 (if (decide (p0 ≥ v1)) = true then (bind1 (shlI .i64 1 (IntKind.wrap .i64 ((if 40 < p1 then 40 else p1) - 1))) fun v3 =>
  some (decide (p0 < v3))) else (some false)) fun w5 =>
  some w5)
theorem ok_word_Fits (H : Heap) {p0 : Int} {p1 : Int} {ra : Bool} (hF : word_Fits p0 p1 = some ra) : evS X 88 [.one .top (.int .i64 p0), .one .top (.int .i64 p1)] H = some (.one .top (.bool ra), H) := by
 refine wf Tryd.func88 true 10 ?_; intro q
 refine wi 4 12 hF (fun _ hF => ?_) (fun _ hF => ?_)
 intro q
 obtain rfl := some1_inv hF
 exact wrp
 intro q
 obtain ⟨v1, h2, hF⟩ := bind1_inv hF
 refine wbi 2 h2 .i64 (ev_shl (P := X.P) (ty := 3) (x := (.const (.int .i64 (-1)))) (y := (.tmp 12)) (m := .top) (m' := .top) (k := .i64) (k' := .i64) (a := (-1)) (b := (IntKind.wrap .i64 ((if 40 < p1 then 40 else p1) - 1)))) ?_; intro q
 obtain ⟨w5, hB6, hF⟩ := bind1_inv hF
 refine wr0 0 (uf (⟨[(4, vb w5)], [], H⟩ : St)) ?_ ?_; intro q
 refine wg [14, 15] 2 7 hB6 (fun _ hB6 => ?_) (fun _ hB6 => ?_)
 intro q
 obtain ⟨v3, h4, hB6⟩ := bind1_inv hB6
 refine wbi 4 h4 .i64 (ev_shl (P := X.P) (ty := 3) (x := (.const (.int .i64 (1)))) (y := (.tmp 17)) (m := .top) (m' := .top) (k := .i64) (k' := .i64) (a := 1) (b := (IntKind.wrap .i64 ((if 40 < p1 then 40 else p1) - 1)))) ?_; intro q
 cases hB6
 exact wl0
 intro q
 cases hB6
 exact wl0
 intro q
 obtain rfl := some1_inv hF
 exact wrp
noncomputable def word_Within  (p0 : Int) (p1 : Int) : Option (Bool) :=
  bind1 (if (decide (p1 ≥ 0)) = true then (if (decide (p0 ≥ 0)) = true then (bind1 (shlI .i64 1 (if 40 < p1 then 40 else p1)) fun v1 =>
  some (decide (p0 < v1))) else (some false)) else (some false)) fun w3 =>
  some w3
theorem ok_word_Within (H : Heap) {p0 : Int} {p1 : Int} {ra : Bool} (hF : word_Within p0 p1 = some ra) : evS X 89 [.one .top (.int .i64 p0), .one .top (.int .i64 p1)] H = some (.one .top (.bool ra), H) := by
 refine wf Tryd.func89 true 9 ?_; intro q
 obtain ⟨w3, hB4, hF⟩ := bind1_inv hF
 refine wr0 0 (ut [(4, vb w3)] [0, 1, 5, 6, 7]) ?_ ?_; intro q
 refine wg [6, 7] 4 12 hB4 (fun _ hB4 => ?_) (fun _ hB4 => ?_)
 intro q
 refine wg [9, 10, 11] 3 8 hB4 (fun _ hB4 => ?_) (fun _ hB4 => ?_)
 intro q
 obtain ⟨v1, h2, hB4⟩ := bind1_inv hB4
 refine wbi 4 h2 .i64 (ev_shl (P := X.P) (ty := 3) (x := (.const (.int .i64 (1)))) (y := (.tmp 14)) (m := .top) (m' := .top) (k := .i64) (k' := .i64) (a := 1) (b := (if 40 < p1 then 40 else p1))) ?_; intro q
 cases hB4
 exact wl0
 intro q
 cases hB4
 exact wl0
 intro q
 cases hB4
 exact wl0
 intro q
 obtain rfl := some1_inv hF
 exact wrp
noncomputable def instr_imm_j2 (p0 : T_instr_Instr) (p1 : Int) (j5 : Bool) : Option (Bool) :=
  if j5 = true then (bind1 (word_Within p0.Imm_ 16) fun r7 =>
  some r7)
  else (if (p1 == 7) = true then (bind1 (word_Fits p0.Imm_ 24) fun r9 =>
  some r9)
  else (some (p0.Imm_ == 0)))
noncomputable def instr_imm_j1 (p0 : T_instr_Instr) (p1 : Int) (j1 : Bool) : Option (Bool) :=
  if j1 = true then (bind1 (word_Fits p0.Imm_ 16) fun r3 =>
  some r3)
  else (if (p1 == 2) = true then (instr_imm_j2 p0 p1 (p1 == 2))
  else (if (p1 == 4) = true then (instr_imm_j2 p0 p1 (p1 == 4))
  else (instr_imm_j2 p0 p1 (p1 == 8))))
noncomputable def instr_imm  (p0 : T_instr_Instr) (p1 : Int) : Option (Bool) :=
  if (p1 == 1) = true then (instr_imm_j1 p0 p1 (p1 == 1))
  else (instr_imm_j1 p0 p1 (p1 == 3))
theorem ok_instr_imm (H : Heap) {p0 : T_instr_Instr} {p1 : Int} {ra : Bool} (hF : instr_imm p0 p1 = some ra) : evS X 74 [.agg (m0_instr_Instr p0), .one .top (.int .i64 p1)] H = some (.one .top (.bool ra), H) := by
 refine wf Tryd.func74 true 17 ?_; intro q
 refine wj 0 0 (fun x => ut [(6, vb x)] []) (instr_imm_j1 p0 p1) ra ?_ ?_
 rintro j1 hF q
 refine wi 4 6 hF (fun _ hF => ?_) (fun _ hF => ?_)
 intro q
 obtain ⟨r3, c4, hF⟩ := bind1_inv hF
 refine wc 2 (ok_word_Fits H c4) ?_; intro q
 obtain rfl := some1_inv hF
 exact wrp
 intro q
 refine wj 0 0 (fun x => ut [(12, vb x)] []) (instr_imm_j2 p0 p1) ra ?_ ?_
 rintro j5 hF q
 refine wi 4 5 hF (fun _ hF => ?_) (fun _ hF => ?_)
 intro q
 obtain ⟨r7, c8, hF⟩ := bind1_inv hF
 refine wc 2 (ok_word_Within H c8) ?_; intro q
 obtain rfl := some1_inv hF
 exact wrp
 intro q
 refine wi 4 9 hF (fun _ hF => ?_) (fun _ hF => ?_)
 intro q
 obtain ⟨r9, c10, hF⟩ := bind1_inv hF
 refine wc 2 (ok_word_Fits H c10) ?_; intro q
 obtain rfl := some1_inv hF
 exact wrp
 intro q
 obtain rfl := some1_inv hF
 exact wrp
 intro hJ6 q
 refine wi 1 5 hF (fun _ hF => ?_) (fun _ hF => ?_)
 intro q
 exact we hJ6 (p1 == 2) hF
 intro q
 refine wi 1 4 hF (fun _ hF => ?_) (fun _ hF => ?_)
 intro q
 exact we hJ6 (p1 == 4) hF
 intro q
 exact we hJ6 (p1 == 8) hF
 intro hJ2 q
 refine wi 1 4 hF (fun _ hF => ?_) (fun _ hF => ?_)
 intro q
 exact we hJ2 (p1 == 1) hF
 intro q
 exact we hJ2 (p1 == 3) hF
noncomputable def instr_Check_j2 (j15 : Bool) : Option (Int) :=
  if (!j15) = true then (some 20)
  else (some 0)
noncomputable def instr_Check_j3 (p0 : T_instr_Instr) (r1 : Int) (j19 : Bool) : Option (Int) :=
  if j19 = true then (instr_Check_j2 ((p0.C_ == 0) && (p0.B_ == 0)))
  else (if (r1 == 5) = true then (instr_Check_j2 true)
  else (instr_Check_j2 (p0.C_ == 0)))
noncomputable def instr_Check_j1 (p0 : T_instr_Instr) (r1 : Int) (j13 : Bool) : Option (Int) :=
  if j13 = true then (instr_Check_j2 ((p0.C_ == 0) && ((p0.A_ == 0) && (p0.B_ == 0))))
  else (if (r1 == 1) = true then (instr_Check_j3 p0 r1 (r1 == 1))
  else (if (r1 == 2) = true then (instr_Check_j3 p0 r1 (r1 == 2))
  else (instr_Check_j3 p0 r1 (r1 == 6))))
noncomputable def instr_Check  (p0 : T_instr_Instr) : Option (Int) :=
  bind1 (instr_Shape p0.Op_) fun r1 =>
  if (decide (r1 < 0)) = true then (some 21)
  else (bind1 (instr_reg p0.A_) fun r3 =>
  bind1 (if (!r3) = true then (some true) else (bind1 (instr_reg p0.B_) fun r5 =>
  if (!r5) = true then (some true) else (bind1 (instr_reg p0.C_) fun r7 =>
  if (!r7) = true then (some true) else (bind1 (instr_imm p0 r1) fun r9 =>
  some (!r9))))) fun w11 =>
  if w11 = true then (some 20)
  else (if (r1 == 0) = true then (instr_Check_j1 p0 r1 (r1 == 0))
  else (if (r1 == 7) = true then (instr_Check_j1 p0 r1 (r1 == 7))
  else (instr_Check_j1 p0 r1 (r1 == 8)))))
theorem ok_instr_Check (H : Heap) {p0 : T_instr_Instr} {ra : Int} (hF : instr_Check p0 = some ra) : evS X 53 [.agg (m0_instr_Instr p0)] H = some (.one .top (.int .i64 ra), H) := by
 refine wf Tryd.func53 true 9 ?_; intro q
 obtain ⟨r1, c2, hF⟩ := bind1_inv hF
 refine wc 8 (ok_instr_Shape H c2) ?_; intro q
 refine wi 4 6 hF (fun _ hF => ?_) (fun _ hF => ?_)
 intro q
 obtain rfl := some1_inv hF
 exact wrp
 intro q
 obtain ⟨r3, c4, hF⟩ := bind1_inv hF
 refine wc 2 (ok_instr_reg H c4) ?_; intro q
 obtain ⟨w11, hB12, hF⟩ := bind1_inv hF
 refine wr0 0 (ut [(31, vb w11)] [10, 11, 12, 13, 14]) ?_ ?_; intro q
 refine wg [13, 14] 18 2 hB12 (fun _ hB12 => ?_) (fun _ hB12 => ?_)
 intro q
 cases hB12
 exact wl0
 intro q
 obtain ⟨r5, c6, hB12⟩ := bind1_inv hB12
 refine wc 3 (ok_instr_reg H c6) ?_; intro q
 refine wg [18, 19, 20] 12 2 hB12 (fun _ hB12 => ?_) (fun _ hB12 => ?_)
 intro q
 cases hB12
 exact wl0
 intro q
 obtain ⟨r7, c8, hB12⟩ := bind1_inv hB12
 refine wc 3 (ok_instr_reg H c8) ?_; intro q
 refine wg [24, 25, 26] 6 2 hB12 (fun _ hB12 => ?_) (fun _ hB12 => ?_)
 intro q
 cases hB12
 exact wl0
 intro q
 obtain ⟨r9, c10, hB12⟩ := bind1_inv hB12
 refine wc 3 (ok_instr_imm H c10) ?_; intro q
 cases hB12
 exact wl0
 intro q
 refine wi 4 20 hF (fun _ hF => ?_) (fun _ hF => ?_)
 intro q
 obtain rfl := some1_inv hF
 exact wrp
 intro q
 refine wj 0 0 (fun x => ut [(36, vb x)] []) (instr_Check_j1 p0 r1) ra ?_ ?_
 rintro j13 hF q
 refine wj 7 0 (fun x => uf (⟨[(4, vb x)], [], H⟩ : St)) instr_Check_j2 ra ?_ ?_
 rintro j15 hF q
 refine wi 4 5 hF (fun _ hF => ?_) (fun _ hF => ?_)
 intro q
 obtain rfl := some1_inv hF
 exact wrp
 intro q
 obtain rfl := some1_inv hF
 exact wrp
 intro hJ16 q
 refine wi 3 6 hF (fun _ hF => ?_) (fun _ hF => ?_)
 intro q
 refine wr 0 (fun x => uf (⟨[(4, vb x)], [], H⟩ : St)) ((p0.C_ == 0) && ((p0.A_ == 0) && (p0.B_ == 0))) ?_ ?_; intro q
 refine wb [4, 40, 41] (p0.C_ == 0) 5 11 (fun h17 => ?_) (fun h17 => ?_)
 intro q
 refine wb [44, 45, 46] (p0.A_ == 0) 6 6 (fun h18 => ?_) (fun h18 => ?_)
 intro q
 exact wl (p0.B_ == 0) (by first | (simp only [h17, h18]; done) | (simp only [h17, h18]; rfl) | simp [h17, h18])
 intro q
 exact wl false (by first | (simp only [h17, h18]; done) | (simp only [h17, h18]; rfl) | simp [h17, h18])
 intro q
 exact wl false (by first | (simp only [h17]; done) | (simp only [h17]; rfl) | simp [h17])
 intro q
 exact we hJ16 ((p0.C_ == 0) && ((p0.A_ == 0) && (p0.B_ == 0))) hF
 intro q
 refine wj 0 0 (fun x => ut [(51, vb x)] []) (instr_Check_j3 p0 r1) ra ?_ ?_
 rintro j19 hF q
 refine wi 3 5 hF (fun _ hF => ?_) (fun _ hF => ?_)
 intro q
 refine wr 0 (fun x => uf (⟨[(4, vb x)], [], H⟩ : St)) ((p0.C_ == 0) && (p0.B_ == 0)) ?_ ?_; intro q
 refine wb [4, 55, 56] (p0.C_ == 0) 6 6 (fun h21 => ?_) (fun h21 => ?_)
 intro q
 exact wl (p0.B_ == 0) (by first | (simp only [h21]; done) | (simp only [h21]; rfl) | simp [h21])
 intro q
 exact wl false (by first | (simp only [h21]; done) | (simp only [h21]; rfl) | simp [h21])
 intro q
 exact we hJ16 ((p0.C_ == 0) && (p0.B_ == 0)) hF
 intro q
 refine wi 3 1 hF (fun _ hF => ?_) (fun _ hF => ?_)
 intro q
 exact we hJ16 true hF
 intro q
 exact we hJ16 (p0.C_ == 0) hF
 intro hJ20 q
 refine wi 1 5 hF (fun _ hF => ?_) (fun _ hF => ?_)
 intro q
 exact we hJ20 (r1 == 1) hF
 intro q
 refine wi 1 4 hF (fun _ hF => ?_) (fun _ hF => ?_)
 intro q
 exact we hJ20 (r1 == 2) hF
 intro q
 exact we hJ20 (r1 == 6) hF
 intro hJ14 q
 refine wi 1 5 hF (fun _ hF => ?_) (fun _ hF => ?_)
 intro q
 exact we hJ14 (r1 == 0) hF
 intro q
 refine wi 1 4 hF (fun _ hF => ?_) (fun _ hF => ?_)
 intro q
 exact we hJ14 (r1 == 7) hF
 intro q
 exact we hJ14 (r1 == 8) hF
noncomputable def instr_Encode  (p0 : T_instr_Instr) : Option (Int × Int) :=
  bind1 (instr_Check p0) fun r1 =>
  if (r1 != 0) = true then (some (0, r1))
  else (bind1 (instr_Shape p0.Op_) fun r3 =>
  if (r3 == 7) = true then (some ((bitsOf .or .u32 (IntKind.wrap .u32 ((IntKind.wrap .u32 p0.Op_) * 2 ^ 24)) (bitsOf .and .u32 (IntKind.wrap .u32 p0.Imm_) 16777215)), 0))
  else (some ((bitsOf .or .u32 (bitsOf .or .u32 (bitsOf .or .u32 (bitsOf .or .u32 (IntKind.wrap .u32 ((IntKind.wrap .u32 p0.Op_) * 2 ^ 24)) (IntKind.wrap .u32 ((IntKind.wrap .u32 p0.A_) * 2 ^ 20))) (IntKind.wrap .u32 ((IntKind.wrap .u32 p0.B_) * 2 ^ 16))) (bitsOf .and .u32 (IntKind.wrap .u32 p0.Imm_) 65535)) (IntKind.wrap .u32 p0.C_)), 0)))
theorem ok_instr_Encode (H : Heap) {p0 : T_instr_Instr} {ra : Int} {rb : Int} (hF : instr_Encode p0 = some (ra, rb)) : evS X 42 [.agg (m0_instr_Instr p0)] H = some (.tup [.one .top (.int .u32 ra), .one .top (.int .i64 rb)], H) := by
 refine wf Tryd.func42 true 10 ?_; intro q
 obtain ⟨r1, c2, hF⟩ := bind1_inv hF
 refine wc 7 (ok_instr_Check H c2) ?_; intro q
 refine wi 6 14 hF (fun _ hF => ?_) (fun _ hF => ?_)
 intro q
 obtain ⟨rfl, rfl⟩ := some2_inv hF
 exact wrp
 intro q
 obtain ⟨r3, c4, hF⟩ := bind1_inv hF
 refine wc 2 (ok_instr_Shape H c4) ?_; intro q
 refine wi 11 26 hF (fun _ hF => ?_) (fun _ hF => ?_)
 intro q
 obtain ⟨rfl, rfl⟩ := some2_inv hF
 exact wrp
 intro q
 obtain ⟨rfl, rfl⟩ := some2_inv hF
 exact wrp
noncomputable def instr_Decode_j3 (p0 : Int) (j7 : T_instr_Instr) : Option (T_instr_Instr × Int) :=
  bind2 (instr_Encode j7) fun r9 r10 =>
  if ((r10 != 0) || (r9 != p0)) = true then (some ((T_instr_Instr.mk 0 0 0 0 0), 21))
  else (some (j7, 0))
noncomputable def instr_Decode_j4 (p0 : Int) (j3 : T_instr_Instr) (r1 : Int) (j15 : Bool) : Option (T_instr_Instr × Int) :=
  if j15 = true then (instr_Decode_j3 p0 (T_instr_Instr.mk j3.Op_ j3.A_ j3.B_ j3.C_ (IntKind.wrap .i64 (bitsOf .and .u32 p0 65535))))
  else (if (r1 == 7) = true then (bind1 (word_Sext p0 24) fun r17 =>
  instr_Decode_j3 p0 (T_instr_Instr.mk j3.Op_ j3.A_ j3.B_ j3.C_ (IntKind.wrap .i64 r17)))
  else (if (r1 == 5) = true then (instr_Decode_j3 p0 (T_instr_Instr.mk j3.Op_ j3.A_ j3.B_ (IntKind.wrap .i64 (bitsOf .and .u32 p0 15)) j3.Imm_))
  else (instr_Decode_j3 p0 j3)))
noncomputable def instr_Decode_j2 (p0 : Int) (j3 : T_instr_Instr) (r1 : Int) (j5 : Bool) : Option (T_instr_Instr × Int) :=
  if j5 = true then (bind1 (word_Sext p0 16) fun r13 =>
  instr_Decode_j3 p0 (T_instr_Instr.mk j3.Op_ j3.A_ j3.B_ j3.C_ (IntKind.wrap .i64 r13)))
  else (if (r1 == 2) = true then (instr_Decode_j4 p0 j3 r1 (r1 == 2))
  else (if (r1 == 4) = true then (instr_Decode_j4 p0 j3 r1 (r1 == 4))
  else (instr_Decode_j4 p0 j3 r1 (r1 == 8))))
noncomputable def instr_Decode_j1 (r1 : Int) (p0 : Int) (j3 : T_instr_Instr) : Option (T_instr_Instr × Int) :=
  if (r1 == 1) = true then (instr_Decode_j2 p0 j3 r1 (r1 == 1))
  else (instr_Decode_j2 p0 j3 r1 (r1 == 3))
noncomputable def instr_Decode  (p0 : Int) : Option (T_instr_Instr × Int) :=
  bind1 (instr_Shape (IntKind.wrap .i64 (Int.fdiv p0 (2 ^ 24)))) fun r1 =>
  if (r1 != 7) = true then (instr_Decode_j1 r1 p0 (T_instr_Instr.mk (IntKind.wrap .i64 (Int.fdiv p0 (2 ^ 24))) (IntKind.wrap .i64 (bitsOf .and .u32 (Int.fdiv p0 (2 ^ 20)) 15)) (IntKind.wrap .i64 (bitsOf .and .u32 (Int.fdiv p0 (2 ^ 16)) 15)) 0 0))
  else (instr_Decode_j1 r1 p0 (T_instr_Instr.mk (IntKind.wrap .i64 (Int.fdiv p0 (2 ^ 24))) 0 0 0 0))
theorem ok_instr_Decode (H : Heap) {p0 : Int} {ra : T_instr_Instr} {rb : Int} (hF : instr_Decode p0 = some (ra, rb)) : evS X 26 [.one .top (.int .u32 p0)] H = some (.tup [.agg (m0_instr_Instr ra), .one .top (.int .i64 rb)], H) := by
 refine wf Tryd.func26 true 18 ?_; intro q
 obtain ⟨r1, c2, hF⟩ := bind1_inv hF
 refine wc 8 (ok_instr_Shape H c2) ?_; intro q
 refine wj 12 0 (fun x => up [] [16] [(4, (m0_instr_Instr x))] []) (instr_Decode_j1 r1 p0) (ra, rb) ?_ ?_
 rintro j3 hF q
 refine wj 0 0 (fun x => ut [(28, vb x)] []) (instr_Decode_j2 p0 j3 r1) (ra, rb) ?_ ?_
 rintro j5 hF q
 refine wj 4 0 (fun x => up [] [27, 28] [(4, (m0_instr_Instr x))] []) (instr_Decode_j3 p0) (ra, rb) ?_ ?_
 rintro j7 hF q
 obtain ⟨r9, r10, c11, hF⟩ := bind2_inv hF
 refine wc 12 (ok_instr_Encode H c11) ?_; intro q
 refine wr 0 (fun x => ut [(66, vb x)] [0, 6, 7, 60, 61, 62]) ((r10 != 0) || (r9 != p0)) ?_ ?_; intro q
 refine wb [61, 62] (r10 != 0) 5 5 (fun h12 => ?_) (fun h12 => ?_)
 intro q
 exact wl true (by first | (simp only [h12]; done) | (simp only [h12]; rfl) | simp [h12])
 intro q
 exact wl (r9 != p0) (by first | (simp only [h12]; done) | (simp only [h12]; rfl) | simp [h12])
 intro q
 refine wi 6 7 hF (fun _ hF => ?_) (fun _ hF => ?_)
 intro q
 obtain ⟨rfl, rfl⟩ := some2_inv hF
 exact wrp
 intro q
 obtain ⟨rfl, rfl⟩ := some2_inv hF
 exact wrp
 intro hJ8 q
 refine wi 2 6 hF (fun _ hF => ?_) (fun _ hF => ?_)
 intro q
 obtain ⟨r13, c14, hF⟩ := bind1_inv hF
 refine wc 4 (ok_word_Sext H c14) ?_; intro q
 exact we hJ8 (T_instr_Instr.mk j3.Op_ j3.A_ j3.B_ j3.C_ (IntKind.wrap .i64 r13)) hF
 intro q
 refine wj 0 0 (fun x => ut [(35, vb x)] []) (instr_Decode_j4 p0 j3 r1) (ra, rb) ?_ ?_
 rintro j15 hF q
 refine wi 7 5 hF (fun _ hF => ?_) (fun _ hF => ?_)
 intro q
 exact we hJ8 (T_instr_Instr.mk j3.Op_ j3.A_ j3.B_ j3.C_ (IntKind.wrap .i64 (bitsOf .and .u32 p0 65535))) hF
 intro q
 refine wi 2 5 hF (fun _ hF => ?_) (fun _ hF => ?_)
 intro q
 obtain ⟨r17, c18, hF⟩ := bind1_inv hF
 refine wc 4 (ok_word_Sext H c18) ?_; intro q
 exact we hJ8 (T_instr_Instr.mk j3.Op_ j3.A_ j3.B_ j3.C_ (IntKind.wrap .i64 r17)) hF
 intro q
 refine wi 7 1 hF (fun _ hF => ?_) (fun _ hF => ?_)
 intro q
 exact we hJ8 (T_instr_Instr.mk j3.Op_ j3.A_ j3.B_ (IntKind.wrap .i64 (bitsOf .and .u32 p0 15)) j3.Imm_) hF
 intro q
 exact we hJ8 j3 hF
 intro hJ16 q
 refine wi 1 5 hF (fun _ hF => ?_) (fun _ hF => ?_)
 intro q
 exact we hJ16 (r1 == 2) hF
 intro q
 refine wi 1 4 hF (fun _ hF => ?_) (fun _ hF => ?_)
 intro q
 exact we hJ16 (r1 == 4) hF
 intro q
 exact we hJ16 (r1 == 8) hF
 intro hJ6 q
 refine wi 1 4 hF (fun _ hF => ?_) (fun _ hF => ?_)
 intro q
 exact we hJ6 (r1 == 1) hF
 intro q
 exact we hJ6 (r1 == 3) hF
 intro hJ4 q
 refine wi 14 1 hF (fun _ hF => ?_) (fun _ hF => ?_)
 intro q
 exact we hJ4 (T_instr_Instr.mk (IntKind.wrap .i64 (Int.fdiv p0 (2 ^ 24))) (IntKind.wrap .i64 (bitsOf .and .u32 (Int.fdiv p0 (2 ^ 20)) 15)) (IntKind.wrap .i64 (bitsOf .and .u32 (Int.fdiv p0 (2 ^ 16)) 15)) 0 0) hF
 intro q
 exact we hJ4 (T_instr_Instr.mk (IntKind.wrap .i64 (Int.fdiv p0 (2 ^ 24))) 0 0 0 0) hF
noncomputable def instr_names  : Option ((List ByteArray)) :=
  some ([ByteArray.empty, (ByteArray.mk #[72, 65, 76, 84]), (ByteArray.mk #[76, 68, 73]), (ByteArray.mk #[76, 85, 73]), (ByteArray.mk #[79, 82, 73]), (ByteArray.mk #[65, 68, 68, 73]), (ByteArray.mk #[65, 68, 68]), (ByteArray.mk #[83, 85, 66]), (ByteArray.mk #[77, 85, 76]), (ByteArray.mk #[68, 73, 86]), (ByteArray.mk #[77, 79, 68]), (ByteArray.mk #[65, 78, 68]), (ByteArray.mk #[79, 82]), (ByteArray.mk #[88, 79, 82]), (ByteArray.mk #[83, 76, 84]), (ByteArray.mk #[83, 76, 69]), (ByteArray.mk #[83, 69, 81]), (ByteArray.mk #[83, 78, 69]), (ByteArray.mk #[76, 68, 87]), (ByteArray.mk #[83, 84, 87]), (ByteArray.mk #[66, 90]), (ByteArray.mk #[66, 78, 90]), (ByteArray.mk #[66, 82]), (ByteArray.mk #[67, 65, 76, 76]), (ByteArray.mk #[74, 82]), (ByteArray.mk #[67, 65, 76, 76, 82]), (ByteArray.mk #[67, 72, 75]), (ByteArray.mk #[78, 73, 76]), (ByteArray.mk #[84, 82, 65, 80]), (ByteArray.mk #[82, 65, 73, 83, 69]), (ByteArray.mk #[79, 85, 84]), (ByteArray.mk #[73, 78]), (ByteArray.mk #[67, 72, 75, 83]), (ByteArray.mk #[82, 84, 67]), (ByteArray.mk #[88, 79, 82, 73])] : List ByteArray)
theorem ok_instr_names (H : Heap) {ra : (List ByteArray)} (hF : instr_names = some ra) : evS X 69 [] H = some (.one (.own 1) (.sl 1 (List.map eS ra)), H) := by
 refine wf Tryd.func69 true 9 ?_; intro q
 obtain rfl := some1_inv hF
 exact wrp
noncomputable def instr_Name  (p0 : Int) : Option (ByteArray) :=
  if ((decide (p0 < 1)) || (decide (p0 > 34))) = true then (some ByteArray.empty)
  else (bind1 (instr_names) fun r2 =>
  bind1 (gi r2 p0) fun x4 =>
  some x4)
theorem ok_instr_Name (H : Heap) {p0 : Int} {ra : ByteArray} (hF : instr_Name p0 = some ra) : evS X 54 [.one .top (.int .i64 p0)] H = some (.one .top (.str ra), H) := by
 refine wf Tryd.func54 true 10 ?_; intro q
 refine wr 0 (fun x => ut [(8, vb x)] [3, 4, 5]) ((decide (p0 < 1)) || (decide (p0 > 34))) ?_ ?_; intro q
 refine wb [4, 5] (decide (p0 < 1)) 4 4 (fun h1 => ?_) (fun h1 => ?_)
 intro q
 exact wl true (by first | (simp only [h1]; done) | (simp only [h1]; rfl) | simp [h1])
 intro q
 exact wl (decide (p0 > 34)) (by first | (simp only [h1]; done) | (simp only [h1]; rfl) | simp [h1])
 intro q
 refine wi 4 3 hF (fun _ hF => ?_) (fun _ hF => ?_)
 intro q
 obtain rfl := some1_inv hF
 exact wrp
 intro q
 obtain ⟨r2, c3, hF⟩ := bind1_inv hF
 refine wc 1 (ok_instr_names H c3) ?_; intro q
 obtain ⟨x4, h5, hF⟩ := bind1_inv hF
 refine wix 3 h5 eS ?_; intro q
 obtain rfl := some1_inv hF
 exact wrp
noncomputable def word_Text  (p0 : Int) : Option (ByteArray) :=
  if (decide (p0 < 0)) = true then (bind1 (word_digits (IntKind.wrap .u64 (IntKind.wrap .i64 (0 - p0))) 10 1) fun r1 =>
  bind1 (sCat (ByteArray.mk #[45]) r1) fun s3 =>
  some s3)
  else (bind1 (word_digits (IntKind.wrap .u64 p0) 10 1) fun r5 =>
  some r5)
theorem ok_word_Text (H : Heap) {p0 : Int} {ra : ByteArray} (hF : word_Text p0 = some ra) : evS X 40 [.one .top (.int .i64 p0)] H = some (.one .top (.str ra), H) := by
 refine wf Tryd.func40 true 10 ?_; intro q
 refine wi 5 5 hF (fun _ hF => ?_) (fun _ hF => ?_)
 intro q
 obtain ⟨r1, c2, hF⟩ := bind1_inv hF
 refine wc 0 (ok_word_digits H c2) ?_; intro q
 obtain ⟨s3, h4, hF⟩ := bind1_inv hF
 refine wcat 2 h4 ?_; intro q
 obtain rfl := some1_inv hF
 exact wrp
 intro q
 obtain ⟨r5, c6, hF⟩ := bind1_inv hF
 refine wc 2 (ok_word_digits H c6) ?_; intro q
 obtain rfl := some1_inv hF
 exact wrp
noncomputable def instr_fields_j4 (r13 : ByteArray) (j23 : Bool) : Option ((List ByteArray)) :=
  if j23 = true then (some ([r13] : List ByteArray))
  else (some ([] : List ByteArray))
noncomputable def instr_fields_j3 (s3 : ByteArray) (j15 : ByteArray) (r13 : ByteArray) (r17 : Int) (s11 : ByteArray) (j21 : Bool) : Option ((List ByteArray)) :=
  if j21 = true then (some ([s3, j15, r13] : List ByteArray))
  else (if (r17 == 5) = true then (some ([s3, j15, s11] : List ByteArray))
  else (if (r17 == 6) = true then (some ([s3] : List ByteArray))
  else (if (r17 == 7) = true then (instr_fields_j4 r13 (r17 == 7))
  else (instr_fields_j4 r13 (r17 == 8)))))
noncomputable def instr_fields_j2 (s3 : ByteArray) (r13 : ByteArray) (r17 : Int) (j15 : ByteArray) (s11 : ByteArray) (j19 : Bool) : Option ((List ByteArray)) :=
  if j19 = true then (some ([s3, r13] : List ByteArray))
  else (if (r17 == 3) = true then (instr_fields_j3 s3 j15 r13 r17 s11 (r17 == 3))
  else (instr_fields_j3 s3 j15 r13 r17 s11 (r17 == 4)))
noncomputable def instr_fields_j1 (p0 : T_instr_Instr) (s3 : ByteArray) (r13 : ByteArray) (s11 : ByteArray) (j15 : ByteArray) : Option ((List ByteArray)) :=
  bind1 (instr_Shape p0.Op_) fun r17 =>
  if (r17 == 1) = true then (instr_fields_j2 s3 r13 r17 j15 s11 (r17 == 1))
  else (instr_fields_j2 s3 r13 r17 j15 s11 (r17 == 2))
noncomputable def instr_fields  (p0 : T_instr_Instr) : Option ((List ByteArray)) :=
  bind1 (word_Text p0.A_) fun r1 =>
  bind1 (sCat (ByteArray.mk #[114]) r1) fun s3 =>
  bind1 (word_Text p0.B_) fun r5 =>
  bind1 (sCat (ByteArray.mk #[114]) r5) fun s7 =>
  bind1 (word_Text p0.C_) fun r9 =>
  bind1 (sCat (ByteArray.mk #[114]) r9) fun s11 =>
  bind1 (word_Text p0.Imm_) fun r13 =>
  if (p0.Op_ == 26) = true then (bind1 (word_Text p0.B_) fun r25 =>
  instr_fields_j1 p0 s3 r13 s11 r25)
  else (instr_fields_j1 p0 s3 r13 s11 s7)
theorem ok_instr_fields (H : Heap) {p0 : T_instr_Instr} {ra : (List ByteArray)} (hF : instr_fields p0 = some ra) : evS X 55 [.agg (m0_instr_Instr p0)] H = some (.one (.own 1) (.sl 1 (List.map eS ra)), H) := by
 refine wf Tryd.func55 true 15 ?_; intro q
 obtain ⟨r1, c2, hF⟩ := bind1_inv hF
 refine wc 0 (ok_word_Text H c2) ?_; intro q
 obtain ⟨s3, h4, hF⟩ := bind1_inv hF
 refine wcat 0 h4 ?_; intro q
 obtain ⟨r5, c6, hF⟩ := bind1_inv hF
 refine wc 0 (ok_word_Text H c6) ?_; intro q
 obtain ⟨s7, h8, hF⟩ := bind1_inv hF
 refine wcat 0 h8 ?_; intro q
 obtain ⟨r9, c10, hF⟩ := bind1_inv hF
 refine wc 0 (ok_word_Text H c10) ?_; intro q
 obtain ⟨s11, h12, hF⟩ := bind1_inv hF
 refine wcat 0 h12 ?_; intro q
 obtain ⟨r13, c14, hF⟩ := bind1_inv hF
 refine wc 12 (ok_word_Text H c14) ?_; intro q
 refine wj 5 0 (fun x => ut [(4, .one .top (.str x))] [24]) (instr_fields_j1 p0 s3 r13 s11) ra ?_ ?_
 rintro j15 hF q
 obtain ⟨r17, c18, hF⟩ := bind1_inv hF
 refine wc 8 (ok_instr_Shape H c18) ?_; intro q
 refine wj 0 0 (fun x => ut [(31, vb x)] []) (instr_fields_j2 s3 r13 r17 j15 s11) ra ?_ ?_
 rintro j19 hF q
 refine wi 7 6 hF (fun _ hF => ?_) (fun _ hF => ?_)
 intro q
 obtain rfl := some1_inv hF
 exact wrp
 intro q
 refine wj 0 0 (fun x => ut [(37, vb x)] []) (instr_fields_j3 s3 j15 r13 r17 s11) ra ?_ ?_
 rintro j21 hF q
 refine wi 8 5 hF (fun _ hF => ?_) (fun _ hF => ?_)
 intro q
 obtain rfl := some1_inv hF
 exact wrp
 intro q
 refine wi 8 5 hF (fun _ hF => ?_) (fun _ hF => ?_)
 intro q
 obtain rfl := some1_inv hF
 exact wrp
 intro q
 refine wi 6 6 hF (fun _ hF => ?_) (fun _ hF => ?_)
 intro q
 obtain rfl := some1_inv hF
 exact wrp
 intro q
 refine wj 0 0 (fun x => ut [(54, vb x)] [30]) (instr_fields_j4 r13) ra ?_ ?_
 rintro j23 hF q
 refine wi 6 6 hF (fun _ hF => ?_) (fun _ hF => ?_)
 intro q
 obtain rfl := some1_inv hF
 exact wrp
 intro q
 obtain rfl := some1_inv hF
 exact wrp
 intro hJ24 q
 refine wi 1 4 hF (fun _ hF => ?_) (fun _ hF => ?_)
 intro q
 exact we hJ24 (r17 == 7) hF
 intro q
 exact we hJ24 (r17 == 8) hF
 intro hJ22 q
 refine wi 1 4 hF (fun _ hF => ?_) (fun _ hF => ?_)
 intro q
 exact we hJ22 (r17 == 3) hF
 intro q
 exact we hJ22 (r17 == 4) hF
 intro hJ20 q
 refine wi 1 4 hF (fun _ hF => ?_) (fun _ hF => ?_)
 intro q
 exact we hJ20 (r17 == 1) hF
 intro q
 exact we hJ20 (r17 == 2) hF
 intro hJ16 q
 refine wi 3 1 hF (fun _ hF => ?_) (fun _ hF => ?_)
 intro q
 obtain ⟨r25, c26, hF⟩ := bind1_inv hF
 refine wc 2 (ok_word_Text H c26) ?_; intro q
 exact we hJ16 r25 hF
 intro q
 exact we hJ16 s7 hF
noncomputable def instr_Text_j2 (x9 : ByteArray) (a8 : Int) (j11 : ByteArray) : Option ((ByteArray × Int) ⊕ ((ByteArray))) :=
  bind1 (sCat (ByteArray.mk #[32]) x9) fun s13 =>
  bind1 (sCat j11 s13) fun s15 =>
  some (Sum.inl (s15, (IntKind.wrap .i64 (a8 + 1))))
noncomputable def instr_Text_L1 (r5 : (List ByteArray)) (a7 : ByteArray) (a8 : Int) : Option ((ByteArray × Int) ⊕ ((ByteArray))) :=
  if (decide (a8 < (r5.length : Int))) = true then (bind1 (gi r5 a8) fun x9 =>
  if (decide (a8 > 0)) = true then (bind1 (sCat a7 (ByteArray.mk #[44])) fun s17 =>
  instr_Text_j2 x9 a8 s17)
  else (instr_Text_j2 x9 a8 a7))
  else (some (Sum.inr a7))
noncomputable def instr_Text  (p0 : T_instr_Instr) : Option (ByteArray × Int) :=
  bind1 (instr_Check p0) fun r1 =>
  if (r1 != 0) = true then (some (ByteArray.empty, r1))
  else (bind1 (instr_Name p0.Op_) fun r3 =>
  bind1 (instr_fields p0) fun r5 =>
  bind1 (loopO (fun (x : (ByteArray × Int)) => instr_Text_L1 r5 x.1 x.2) (r3, 0)) (fun b20 =>
  some (b20, 0)))
theorem ok_instr_Text (H : Heap) {p0 : T_instr_Instr} {ra : ByteArray} {rb : Int} (hF : instr_Text p0 = some (ra, rb)) : evS X 27 [.agg (m0_instr_Instr p0)] H = some (.tup [.one .top (.str ra), .one .top (.int .i64 rb)], H) := by
 refine wf Tryd.func27 true 10 ?_; intro q
 obtain ⟨r1, c2, hF⟩ := bind1_inv hF
 refine wc 7 (ok_instr_Check H c2) ?_; intro q
 refine wi 6 5 hF (fun _ hF => ?_) (fun _ hF => ?_)
 intro q
 obtain ⟨rfl, rfl⟩ := some2_inv hF
 exact wrp
 intro q
 obtain ⟨r3, c4, hF⟩ := bind1_inv hF
 refine wc 6 (ok_instr_Name H c4) ?_; intro q
 obtain ⟨r5, c6, hF⟩ := bind1_inv hF
 refine wc 0 (ok_instr_fields H c6) ?_; intro q
 refine wle 3 r5 eS ?_; intro q
 obtain ⟨b20, hL19, hF⟩ := bind1_inv hF
 refine wL (fun (x : (ByteArray × Int)) => ut [(5, .one .top (.str x.1)), (19, vi x.2)] []) (fun (y : (ByteArray)) => wz (.exit 0) (ut [(5, .one .top (.str y))] [17, 18, 19])) hL19 ?_ ?_
 rintro ⟨a7, a8⟩ o hF q
 refine go 5 ?_; intro q
 refine wi 6 0 hF (fun _ hF => ?_) (fun _ hF => ?_)
 intro q
 obtain ⟨x9, h10, hF⟩ := bind1_inv hF
 refine wix 10 h10 eS ?_; intro q
 refine wj 3 0 (fun x => ut [(5, .one .top (.str x))] [25]) (instr_Text_j2 x9 a8) o ?_ ?_
 rintro j11 hF q
 obtain ⟨s13, h14, hF⟩ := bind1_inv hF
 refine wcat 0 h14 ?_; intro q
 obtain ⟨s15, h16, hF⟩ := bind1_inv hF
 refine wcat 7 h16 ?_; intro q
 exact wln _ hF
 intro hJ12 q
 refine wi 2 1 hF (fun _ hF => ?_) (fun _ hF => ?_)
 intro q
 obtain ⟨s17, h18, hF⟩ := bind1_inv hF
 refine wcat 2 h18 ?_; intro q
 exact we hJ12 s17 hF
 intro q
 exact we hJ12 a7 hF
 intro q
 exact wlx _ hF
 intro q
 refine go 7 ?_; intro q
 obtain ⟨rfl, rfl⟩ := some2_inv hF
 exact wrp
end Go.Proofs.Abs.Z
