import Derived.Test.YtflfkbnklncilaaGreatDoorR0
import Derived.Test.YtflfkbnklncilaaGreatDoorProg
import Derived.KernelRfl
/-! The functions, as the abstract layer has them: each is the model's. -/
set_option maxRecDepth 100000
namespace Go.Ab
def c_parse_reader_number.r0 : List CI :=
  [⟨some 6, .mv (.c (.int .i64 0)), [], none⟩]
def c_parse_reader_number.r1 : List CI :=
  [⟨some 8, .mv (.t 0), [], none⟩,
   ⟨some 9, .call n_parse_reader_take [(.t 8), (.c (.int .i64 3))], [], none⟩,
   ⟨some 7, .alloc 113 [.int .i64 0, .str [], .int .i64 0, .int .i64 0], [], none⟩,
   ⟨none, .store 4 (.t 7) (.t 9), [], none⟩]
def c_parse_reader_number.r2 : List CI :=
  [⟨some 10, .fadr 2 (.t 7), [], none⟩,
   ⟨some 11, .load 1 false (.t 10), [], none⟩,
   ⟨some 12, .mv (.t 1), [], none⟩,
   ⟨some 13, .bin .lss (.t 11) (.t 12), [], none⟩,
   ⟨some 14, .mv (.t 13), [], none⟩,
   ⟨some 15, .fadr 2 (.t 7), [], (some (4, false))⟩,
   ⟨some 16, .load 1 false (.t 15), [], (some (4, false))⟩,
   ⟨some 17, .mv (.t 2), [], (some (4, false))⟩,
   ⟨some 18, .bin .gtr (.t 16) (.t 17), [], (some (4, false))⟩,
   ⟨some 19, .pick (.t 14) (.c (.bool true)) (.t 18), [], none⟩]
def c_parse_reader_number.r3 : List CI :=
  [⟨some 20, .fadr 3 (.t 7), [], none⟩,
   ⟨some 21, .load 1 false (.t 20), [], none⟩,
   ⟨some 22, .call n_parse_fail [(.c (.int .i64 5)), (.t 21)], [], none⟩]
def c_parse_reader_number.r4 : List CI :=
  [⟨some 23, .fadr 2 (.t 7), [], none⟩,
   ⟨some 24, .load 1 false (.t 23), [], none⟩,
   ⟨some 6, .mv (.t 24), [], none⟩]
def c_parse_reader_number : CF := { nt := 25, res := [.tmp 6], body :=
  (.seq (.region false c_parse_reader_number.r0) (.seq (.region false c_parse_reader_number.r1) (.seqK [7] (.seq (.region false c_parse_reader_number.r2) (.cond (.t 19) (.region false c_parse_reader_number.r3) .skip)) (.seq (.region false c_parse_reader_number.r4) .ret)))) }
theorem k_parse_reader_number : chkF Go.Proofs.Tryz.prog n_parse_reader_number c_parse_reader_number = true := by kernel_rfl

def c_parse_reader_must.r0 : List CI :=
  [⟨some 6, .mv (.t 0), [], none⟩,
   ⟨some 7, .mv (.t 1), [], none⟩,
   ⟨some 8, .mv (.t 2), [], none⟩,
   ⟨some 9, .call n_parse_reader_is [(.t 6), (.t 7), (.t 8)], [], none⟩,
   ⟨some 10, .un .not (.t 9), [], none⟩]
def c_parse_reader_must.r1 : List CI :=
  [⟨some 11, .mv (.t 0), [], none⟩,
   ⟨some 12, .call n_parse_reader_next [(.t 11)], [], none⟩,
   ⟨some 13, .fld 3 1 false (.t 12), [], none⟩,
   ⟨some 14, .call n_parse_fail [(.c (.int .i64 6)), (.t 13)], [], none⟩]
def c_parse_reader_must : CF := { nt := 15, res := [], body :=
  (.seq (.region false c_parse_reader_must.r0) (.cond (.t 10) (.region false c_parse_reader_must.r1) .skip)) }
theorem k_parse_reader_must : chkF Go.Proofs.Tryz.prog n_parse_reader_must c_parse_reader_must = true := by kernel_rfl

def c_parse_reader_leads.r0 : List CI :=
  [⟨some 2, .mv (.c (.str [])), [], none⟩]
def c_parse_reader_leads.r1 : List CI :=
  [⟨some 3, .mv (.t 0), [], none⟩,
   ⟨some 4, .call n_parse_reader_must [(.t 3), (.c (.int .i64 1)), (.c (.str [103, 111, 116, 111]))], [], none⟩]
def c_parse_reader_leads.r2 : List CI :=
  [⟨some 5, .mv (.t 0), [], none⟩,
   ⟨some 6, .call n_parse_reader_name [(.t 5), (.c (.int .i64 1))], [], none⟩,
   ⟨some 2, .mv (.t 6), [], none⟩]
def c_parse_reader_leads : CF := { nt := 7, res := [.tmp 2], body :=
  (.seq (.region false c_parse_reader_leads.r0) (.seq (.region false c_parse_reader_leads.r1) (.seq (.region false c_parse_reader_leads.r2) .ret))) }
theorem k_parse_reader_leads : chkF Go.Proofs.Tryz.prog n_parse_reader_leads c_parse_reader_leads = true := by kernel_rfl

def c_parse_reader_arms.r0 : List CI :=
  [⟨some 6, .mv (.t 0), [], none⟩,
   ⟨some 7, .call n_parse_reader_must [(.t 6), (.c (.int .i64 5)), (.c (.str [123]))], [], none⟩]
def c_parse_reader_arms.r1 : List CI :=
  [⟨some 8, .mv (.t 0), [], none⟩,
   ⟨some 9, .call n_parse_reader_take [(.t 8), (.c (.int .i64 6))], [], none⟩]
def c_parse_reader_arms.r2 : List CI :=
  [⟨some 10, .mv (.t 0), [], none⟩,
   ⟨some 11, .call n_parse_reader_next [(.t 10)], [], none⟩,
   ⟨some 4, .alloc 113 [.int .i64 0, .str [], .int .i64 0, .int .i64 0], [], none⟩,
   ⟨none, .store 4 (.t 4) (.t 11), [], none⟩]
def c_parse_reader_arms.r3 : List CI :=
  [⟨some 12, .mv (.t 1), [], none⟩,
   ⟨some 13, .nilck (.t 12), [], none⟩,
   ⟨some 14, .fadr 7 (.t 13), [], none⟩,
   ⟨some 15, .load 1 false (.t 14), [], none⟩,
   ⟨some 16, .bin .eql (.t 15) (.c (.str [])), [], none⟩,
   ⟨some 17, .mv (.t 16), [], none⟩,
   ⟨some 18, .mv (.t 0), [], (some (5, true))⟩,
   ⟨some 19, .call n_parse_reader_is [(.t 18), (.c (.int .i64 1)), (.c (.str [116, 105, 109, 101, 111, 117, 116]))], [], (some (5, true))⟩,
   ⟨some 20, .pick (.t 17) (.t 19) (.c (.bool false)), [], none⟩]
def c_parse_reader_arms.r4 : List CI :=
  [⟨some 21, .mv (.t 1), [], none⟩,
   ⟨some 22, .mv (.t 0), [], none⟩,
   ⟨some 23, .call n_parse_reader_number [(.t 22), (.c (.int .i64 1)), (.c (.int .i64 1000))], [], none⟩,
   ⟨some 24, .nilck (.t 21), [], none⟩,
   ⟨some 25, .fadr 6 (.t 24), [], none⟩,
   ⟨none, .store 1 (.t 25) (.t 23), [], none⟩]
def c_parse_reader_arms.r5 : List CI :=
  [⟨some 26, .mv (.t 1), [], none⟩,
   ⟨some 27, .mv (.t 0), [], none⟩,
   ⟨some 28, .call n_parse_reader_leads [(.t 27)], [], none⟩,
   ⟨some 29, .nilck (.t 26), [], none⟩,
   ⟨some 30, .fadr 7 (.t 29), [], none⟩,
   ⟨none, .store 1 (.t 30) (.t 28), [], none⟩]
def c_parse_reader_arms.r6 : List CI :=
  [⟨some 31, .mv (.t 0), [], none⟩,
   ⟨some 32, .call n_parse_reader_take [(.t 31), (.c (.int .i64 6))], [], none⟩]
def c_parse_reader_arms.r7 : List CI :=
  [⟨some 33, .mv (.t 1), [], none⟩,
   ⟨some 34, .nilck (.t 33), [], none⟩,
   ⟨some 35, .fadr 5 (.t 34), [], none⟩,
   ⟨some 36, .load 1 false (.t 35), [], none⟩,
   ⟨some 37, .lenV (.t 36), [], none⟩,
   ⟨some 38, .bin .gtr (.t 37) (.c (.int .i64 0)), [], none⟩,
   ⟨some 39, .mv (.t 38), [], none⟩,
   ⟨some 40, .mv (.t 1), [], (some (6, false))⟩,
   ⟨some 41, .nilck (.t 40), [], (some (6, false))⟩,
   ⟨some 42, .fadr 7 (.t 41), [], (some (6, false))⟩,
   ⟨some 43, .load 1 false (.t 42), [], (some (6, false))⟩,
   ⟨some 44, .bin .neq (.t 43) (.c (.str [])), [], (some (6, false))⟩,
   ⟨some 45, .pick (.t 39) (.c (.bool true)) (.t 44), [], none⟩,
   ⟨some 46, .mv (.t 45), [], none⟩,
   ⟨some 47, .mv (.t 0), [], (some (13, true))⟩,
   ⟨some 48, .call n_parse_reader_is [(.t 47), (.c (.int .i64 5)), (.c (.str [125]))], [], (some (13, true))⟩,
   ⟨some 49, .pick (.t 46) (.t 48) (.c (.bool false)), [], none⟩]
def c_parse_reader_arms.r8 : List CI :=
  [⟨some 50, .mv (.t 1), [], none⟩,
   ⟨some 51, .nilck (.t 50), [], none⟩,
   ⟨some 52, .fadr 7 (.t 51), [], none⟩,
   ⟨some 53, .load 1 false (.t 52), [], none⟩,
   ⟨some 54, .bin .neq (.t 53) (.c (.str [])), [], none⟩,
   ⟨some 55, .mv (.t 54), [], none⟩,
   ⟨some 56, .fadr 0 (.t 4), [], (some (5, false))⟩,
   ⟨some 57, .load 1 false (.t 56), [], (some (5, false))⟩,
   ⟨some 58, .bin .neq (.t 57) (.c (.int .i64 4)), [], (some (5, false))⟩,
   ⟨some 59, .mv (.t 58), [], (some (5, false))⟩,
   ⟨some 60, .fadr 0 (.t 4), [], (some (9, true))⟩,
   ⟨some 61, .load 1 false (.t 60), [], (some (9, true))⟩,
   ⟨some 62, .bin .neq (.t 61) (.c (.int .i64 1)), [], (some (9, true))⟩,
   ⟨some 63, .mv (.t 62), [], (some (9, true))⟩,
   ⟨some 64, .fadr 1 (.t 4), [], (some (13, false))⟩,
   ⟨some 65, .load 1 false (.t 64), [], (some (13, false))⟩,
   ⟨some 66, .bin .neq (.t 65) (.c (.str [103, 108, 111, 98])), [], (some (13, false))⟩,
   ⟨some 67, .mv (.t 66), [], (some (13, false))⟩,
   ⟨some 68, .fadr 1 (.t 4), [], (some (17, true))⟩,
   ⟨some 69, .load 1 false (.t 68), [], (some (17, true))⟩,
   ⟨some 70, .bin .neq (.t 69) (.c (.str [114, 101])), [], (some (17, true))⟩,
   ⟨some 71, .pick (.t 67) (.t 70) (.c (.bool false)), [], (some (13, false))⟩,
   ⟨some 72, .pick (.t 63) (.c (.bool true)) (.t 71), [], (some (9, true))⟩,
   ⟨some 73, .pick (.t 59) (.t 72) (.c (.bool false)), [], (some (5, false))⟩,
   ⟨some 74, .pick (.t 55) (.c (.bool true)) (.t 73), [], none⟩]
def c_parse_reader_arms.r9 : List CI :=
  [⟨some 75, .fadr 3 (.t 4), [], none⟩,
   ⟨some 76, .load 1 false (.t 75), [], none⟩,
   ⟨some 77, .call n_parse_fail [(.c (.int .i64 6)), (.t 76)], [], none⟩]
def c_parse_reader_arms.r10 : List CI :=
  [⟨some 78, .mv (.t 1), [], none⟩,
   ⟨some 79, .nilck (.t 78), [], none⟩,
   ⟨some 80, .fadr 5 (.t 79), [], none⟩,
   ⟨some 81, .load 1 false (.t 80), [], none⟩,
   ⟨some 82, .lenV (.t 81), [], none⟩,
   ⟨some 83, .bin .eql (.t 82) (.c (.int .i64 8)), [], none⟩]
def c_parse_reader_arms.r11 : List CI :=
  [⟨some 84, .fadr 3 (.t 4), [], none⟩,
   ⟨some 85, .load 1 false (.t 84), [], none⟩,
   ⟨some 86, .call n_parse_fail [(.c (.int .i64 8)), (.t 85)], [], none⟩]
def c_parse_reader_arms.r12 : List CI :=
  [⟨some 87, .mv (.t 0), [], none⟩,
   ⟨some 88, .call n_parse_reader_pattern [(.t 87)], [], none⟩,
   ⟨some 5, .alloc 51 [.int .i64 0, .str []], [], none⟩,
   ⟨none, .store 2 (.t 5) (.t 88), [], none⟩]
def c_parse_reader_arms.r13 : List CI :=
  [⟨some 89, .mv (.t 1), [], none⟩,
   ⟨some 90, .mv (.t 1), [], none⟩,
   ⟨some 91, .nilck (.t 90), [1], none⟩,
   ⟨some 92, .fadr 5 (.t 91), [2], none⟩,
   ⟨some 93, .load 1 false (.t 92), [3], none⟩,
   ⟨some 94, .load 2 true (.t 5), [], none⟩,
   ⟨some 95, .mv (.t 0), [], none⟩,
   ⟨some 96, .call n_parse_reader_leads [(.t 95)], [6], none⟩,
   ⟨some 97, .build [.int .i64 0, .str [], .str []] [(0, 2, (.t 94)), (2, 1, (.t 96))], [5, 7], none⟩,
   ⟨some 98, .bslice 3 1 [.int .i64 0, .str [], .str []] [(0, (.t 97))], [8], none⟩,
   ⟨some 99, .app 53 3 40 [.int .i64 0, .str [], .str []] (.t 93) (.t 98), [4, 9, 7], none⟩,
   ⟨some 100, .nilck (.t 89), [0, 0, 1, 2, 3, 4, 5, 6, 7, 8, 9, 10], none⟩,
   ⟨some 101, .fadr 5 (.t 100), [11, 0, 1, 2, 3, 4, 5, 6, 7, 8, 9, 10], none⟩,
   ⟨none, .store 1 (.t 101) (.t 99), [12, 10, 10, 0, 1, 2, 3, 4, 5, 6, 7, 8, 9, 10], none⟩]
def c_parse_reader_arms.r14 : List CI :=
  [⟨some 102, .mv (.t 0), [], none⟩,
   ⟨some 103, .call n_parse_reader_take [(.t 102), (.c (.int .i64 6))], [], none⟩]
def c_parse_reader_arms : CF := { nt := 104, res := [], body :=
  (.seq (.region false c_parse_reader_arms.r0) (.seq (.region false c_parse_reader_arms.r1) (.block 0 (.loop [0, 1] (.block 1 (.seq (.region false c_parse_reader_arms.r2) (.seq (.seq (.region false c_parse_reader_arms.r3) (.cond (.t 20) (.seq (.region false c_parse_reader_arms.r4) (.seq (.region false c_parse_reader_arms.r5) (.seq (.region false c_parse_reader_arms.r6) (.exit 1)))) .skip)) (.seq (.seq (.region false c_parse_reader_arms.r7) (.cond (.t 49) .ret .skip)) (.seqK [0, 1, 4] (.seq (.region false c_parse_reader_arms.r8) (.cond (.t 74) (.region false c_parse_reader_arms.r9) .skip)) (.seqK [0, 1] (.seq (.region false c_parse_reader_arms.r10) (.cond (.t 83) (.region false c_parse_reader_arms.r11) .skip)) (.seq (.region false c_parse_reader_arms.r12) (.seq (.regionP [0, 1, 2, 3, 4, 5, 6, 7, 8, 9, 10, 11, 12, 13] [] c_parse_reader_arms.r13) (.region false c_parse_reader_arms.r14))))))))))))) }
theorem k_parse_reader_arms : chkF Go.Proofs.Tryz.prog n_parse_reader_arms c_parse_reader_arms = true := by kernel_rfl

def c_parse_few.r0 : List CI :=
  [⟨some 1, .box 38 (.t 0), [], none⟩,
   ⟨some 2, .mv (.c (.bool false)), [], none⟩]
def c_parse_few.r1 : List CI :=
  [⟨some 3, .mv (.c (.int .i64 0)), [], none⟩]
def c_parse_few.r2 : List CI :=
  [⟨some 8, .fadr 0 (.t 1), [], none⟩,
   ⟨some 9, .load 1 false (.t 8), [], none⟩,
   ⟨some 10, .lenV (.t 9), [], none⟩,
   ⟨some 11, .mv (.c (.int .i64 0)), [], none⟩]
def c_parse_few.r3 : List CI :=
  [⟨some 12, .bin .lss (.t 11) (.t 10), [], none⟩]
def c_parse_few.r4 : List CI :=
  [⟨some 13, .iadr 2 (.t 9) (.t 11), [], none⟩,
   ⟨some 14, .load 2 true (.t 13), [], none⟩,
   ⟨some 5, .alloc 45 [.str [], .sl none 0 0], [], none⟩,
   ⟨none, .store 2 (.t 5) (.t 14), [], none⟩]
def c_parse_few.r5 : List CI :=
  [⟨some 15, .mv (.t 3), [], none⟩,
   ⟨some 16, .fadr 1 (.t 5), [], none⟩,
   ⟨some 17, .load 1 false (.t 16), [], none⟩,
   ⟨some 18, .lenV (.t 17), [], none⟩,
   ⟨some 19, .bin .add (.t 15) (.t 18), [], none⟩,
   ⟨some 3, .mv (.t 19), [], none⟩]
def c_parse_few.r6 : List CI :=
  [⟨some 20, .fadr 1 (.t 5), [], none⟩,
   ⟨some 21, .load 1 false (.t 20), [], none⟩,
   ⟨some 22, .lenV (.t 21), [], none⟩,
   ⟨some 23, .mv (.c (.int .i64 0)), [], none⟩]
def c_parse_few.r7 : List CI :=
  [⟨some 24, .bin .lss (.t 23) (.t 22), [], none⟩]
def c_parse_few.r8 : List CI :=
  [⟨some 25, .iadr 8 (.t 21) (.t 23), [], none⟩,
   ⟨some 26, .load 8 true (.t 25), [], none⟩,
   ⟨some 7, .alloc 49 [.int .i64 0, .str [], .str [], .int .i64 0, .str [], .sl none 0 0, .int .i64 0, .str []], [], none⟩,
   ⟨none, .store 8 (.t 7) (.t 26), [], none⟩]
def c_parse_few.r9 : List CI :=
  [⟨some 27, .fadr 5 (.t 7), [], none⟩,
   ⟨some 28, .load 1 false (.t 27), [], none⟩,
   ⟨some 29, .lenV (.t 28), [], none⟩,
   ⟨some 30, .bin .gtr (.t 29) (.c (.int .i64 8)), [], none⟩,
   ⟨some 31, .mv (.t 30), [], none⟩,
   ⟨some 32, .fadr 1 (.t 7), [], (some (4, false))⟩,
   ⟨some 33, .load 1 false (.t 32), [], (some (4, false))⟩,
   ⟨some 34, .lenS (.t 33), [], (some (4, false))⟩,
   ⟨some 35, .bin .gtr (.t 34) (.c (.int .i64 64)), [], (some (4, false))⟩,
   ⟨some 36, .pick (.t 31) (.c (.bool true)) (.t 35), [], none⟩]
def c_parse_few.r10 : List CI :=
  [⟨some 2, .mv (.c (.bool false)), [], none⟩]
def c_parse_few.r11 : List CI :=
  [⟨some 37, .bin .add (.t 23) (.c (.int .i64 1)), [], none⟩,
   ⟨some 23, .mv (.t 37), [], none⟩]
def c_parse_few.r12 : List CI :=
  [⟨some 38, .bin .add (.t 11) (.c (.int .i64 1)), [], none⟩,
   ⟨some 11, .mv (.t 38), [], none⟩]
def c_parse_few.r13 : List CI :=
  [⟨some 39, .fadr 0 (.t 1), [], none⟩,
   ⟨some 40, .load 1 false (.t 39), [], none⟩,
   ⟨some 41, .lenV (.t 40), [], none⟩,
   ⟨some 42, .bin .leq (.t 41) (.c (.int .i64 32)), [], none⟩,
   ⟨some 43, .mv (.t 42), [], none⟩,
   ⟨some 44, .mv (.t 3), [], (some (4, true))⟩,
   ⟨some 45, .bin .leq (.t 44) (.c (.int .i64 128)), [], (some (4, true))⟩,
   ⟨some 46, .pick (.t 43) (.t 45) (.c (.bool false)), [], none⟩,
   ⟨some 2, .mv (.t 46), [], none⟩]
def c_parse_few : CF := { nt := 47, res := [.tmp 2], body :=
  (.seq (.region false c_parse_few.r0) (.seq (.region false c_parse_few.r1) (.seq (.seq (.region false c_parse_few.r2) (.block 0 (.loop [1, 3, 9, 10, 11] (.seq (.region false c_parse_few.r3) (.seq (.cond (.t 12) .skip (.exit 0)) (.seq (.block 1 (.seq (.region false c_parse_few.r4) (.seq (.region false c_parse_few.r5) (.seq (.region false c_parse_few.r6) (.block 2 (.loop [1, 3, 9, 10, 11, 21, 22, 23] (.seq (.region false c_parse_few.r7) (.seq (.cond (.t 24) .skip (.exit 2)) (.seq (.block 3 (.seq (.region false c_parse_few.r8) (.seq (.region false c_parse_few.r9) (.cond (.t 36) (.seq (.region false c_parse_few.r10) .ret) .skip)))) (.region false c_parse_few.r11)))))))))) (.region false c_parse_few.r12))))))) (.seq (.region false c_parse_few.r13) .ret)))) }
theorem k_parse_few : chkF Go.Proofs.Tryz.prog n_parse_few c_parse_few = true := by kernel_rfl

def c_parse_same.r0 : List CI :=
  [⟨some 2, .box 49 (.t 0), [], none⟩,
   ⟨some 3, .box 49 (.t 1), [], none⟩,
   ⟨some 4, .mv (.c (.bool false)), [], none⟩]
def c_parse_same.r1 : List CI :=
  [⟨some 6, .fadr 0 (.t 2), [], none⟩,
   ⟨some 7, .load 1 false (.t 6), [], none⟩,
   ⟨some 8, .fadr 0 (.t 3), [], none⟩,
   ⟨some 9, .load 1 false (.t 8), [], none⟩,
   ⟨some 10, .bin .neq (.t 7) (.t 9), [], none⟩,
   ⟨some 11, .mv (.t 10), [], none⟩,
   ⟨some 12, .fadr 1 (.t 2), [], (some (5, false))⟩,
   ⟨some 13, .load 1 false (.t 12), [], (some (5, false))⟩,
   ⟨some 14, .fadr 1 (.t 3), [], (some (5, false))⟩,
   ⟨some 15, .load 1 false (.t 14), [], (some (5, false))⟩,
   ⟨some 16, .bin .neq (.t 13) (.t 15), [], (some (5, false))⟩,
   ⟨some 17, .pick (.t 11) (.c (.bool true)) (.t 16), [], none⟩,
   ⟨some 18, .mv (.t 17), [], none⟩,
   ⟨some 19, .fadr 2 (.t 2), [], (some (12, false))⟩,
   ⟨some 20, .load 1 false (.t 19), [], (some (12, false))⟩,
   ⟨some 21, .fadr 2 (.t 3), [], (some (12, false))⟩,
   ⟨some 22, .load 1 false (.t 21), [], (some (12, false))⟩,
   ⟨some 23, .bin .neq (.t 20) (.t 22), [], (some (12, false))⟩,
   ⟨some 24, .pick (.t 18) (.c (.bool true)) (.t 23), [], none⟩,
   ⟨some 25, .mv (.t 24), [], none⟩,
   ⟨some 26, .fadr 3 (.t 2), [], (some (19, false))⟩,
   ⟨some 27, .load 1 false (.t 26), [], (some (19, false))⟩,
   ⟨some 28, .fadr 3 (.t 3), [], (some (19, false))⟩,
   ⟨some 29, .load 1 false (.t 28), [], (some (19, false))⟩,
   ⟨some 30, .bin .neq (.t 27) (.t 29), [], (some (19, false))⟩,
   ⟨some 31, .pick (.t 25) (.c (.bool true)) (.t 30), [], none⟩,
   ⟨some 32, .mv (.t 31), [], none⟩,
   ⟨some 33, .fadr 4 (.t 2), [], (some (26, false))⟩,
   ⟨some 34, .load 1 false (.t 33), [], (some (26, false))⟩,
   ⟨some 35, .fadr 4 (.t 3), [], (some (26, false))⟩,
   ⟨some 36, .load 1 false (.t 35), [], (some (26, false))⟩,
   ⟨some 37, .bin .neq (.t 34) (.t 36), [], (some (26, false))⟩,
   ⟨some 38, .pick (.t 32) (.c (.bool true)) (.t 37), [], none⟩,
   ⟨some 39, .mv (.t 38), [], none⟩,
   ⟨some 40, .fadr 6 (.t 2), [], (some (33, false))⟩,
   ⟨some 41, .load 1 false (.t 40), [], (some (33, false))⟩,
   ⟨some 42, .fadr 6 (.t 3), [], (some (33, false))⟩,
   ⟨some 43, .load 1 false (.t 42), [], (some (33, false))⟩,
   ⟨some 44, .bin .neq (.t 41) (.t 43), [], (some (33, false))⟩,
   ⟨some 45, .pick (.t 39) (.c (.bool true)) (.t 44), [], none⟩,
   ⟨some 46, .mv (.t 45), [], none⟩,
   ⟨some 47, .fadr 7 (.t 2), [], (some (40, false))⟩,
   ⟨some 48, .load 1 false (.t 47), [], (some (40, false))⟩,
   ⟨some 49, .fadr 7 (.t 3), [], (some (40, false))⟩,
   ⟨some 50, .load 1 false (.t 49), [], (some (40, false))⟩,
   ⟨some 51, .bin .neq (.t 48) (.t 50), [], (some (40, false))⟩,
   ⟨some 52, .pick (.t 46) (.c (.bool true)) (.t 51), [], none⟩,
   ⟨some 53, .mv (.t 52), [], none⟩,
   ⟨some 54, .fadr 5 (.t 2), [], (some (47, false))⟩,
   ⟨some 55, .load 1 false (.t 54), [], (some (47, false))⟩,
   ⟨some 56, .lenV (.t 55), [], (some (47, false))⟩,
   ⟨some 57, .fadr 5 (.t 3), [], (some (47, false))⟩,
   ⟨some 58, .load 1 false (.t 57), [], (some (47, false))⟩,
   ⟨some 59, .lenV (.t 58), [], (some (47, false))⟩,
   ⟨some 60, .bin .neq (.t 56) (.t 59), [], (some (47, false))⟩,
   ⟨some 61, .pick (.t 53) (.c (.bool true)) (.t 60), [], none⟩]
def c_parse_same.r2 : List CI :=
  [⟨some 4, .mv (.c (.bool false)), [], none⟩]
def c_parse_same.r3 : List CI :=
  [⟨some 62, .fadr 5 (.t 2), [], none⟩,
   ⟨some 63, .load 1 false (.t 62), [], none⟩,
   ⟨some 64, .lenV (.t 63), [], none⟩,
   ⟨some 65, .mv (.c (.int .i64 0)), [], none⟩]
def c_parse_same.r4 : List CI :=
  [⟨some 66, .bin .lss (.t 65) (.t 64), [], none⟩]
def c_parse_same.r5 : List CI :=
  [⟨some 67, .mv (.t 65), [], none⟩,
   ⟨some 5, .mv (.t 67), [], none⟩]
def c_parse_same.r6 : List CI :=
  [⟨some 68, .fadr 5 (.t 2), [], none⟩,
   ⟨some 69, .load 1 false (.t 68), [0], none⟩,
   ⟨some 70, .mv (.t 5), [], none⟩,
   ⟨some 71, .iadr 3 (.t 69) (.t 70), [1, 2], none⟩,
   ⟨some 72, .load 3 true (.t 71), [3], none⟩,
   ⟨some 73, .fadr 5 (.t 3), [], none⟩,
   ⟨some 74, .load 1 false (.t 73), [5], none⟩,
   ⟨some 75, .mv (.t 5), [], none⟩,
   ⟨some 76, .iadr 3 (.t 74) (.t 75), [6, 7], none⟩,
   ⟨some 77, .load 3 true (.t 76), [8], none⟩,
   ⟨some 78, .eqa true [0, 1, 1] (.t 72) (.t 77), [4, 9], none⟩]
def c_parse_same.r7 : List CI :=
  [⟨some 4, .mv (.c (.bool false)), [], none⟩]
def c_parse_same.r8 : List CI :=
  [⟨some 79, .bin .add (.t 65) (.c (.int .i64 1)), [], none⟩,
   ⟨some 65, .mv (.t 79), [], none⟩]
def c_parse_same.r9 : List CI :=
  [⟨some 4, .mv (.c (.bool true)), [], none⟩]
def c_parse_same : CF := { nt := 80, res := [.tmp 4], body :=
  (.seq (.region false c_parse_same.r0) (.seq (.seq (.region false c_parse_same.r1) (.cond (.t 61) (.seq (.region false c_parse_same.r2) .ret) .skip)) (.seq (.seq (.region false c_parse_same.r3) (.block 0 (.loop [2, 3, 64, 65] (.seq (.region false c_parse_same.r4) (.seq (.cond (.t 66) .skip (.exit 0)) (.seq (.block 1 (.seq (.region false c_parse_same.r5) (.seq (.regionP [0, 1, 2, 3, 4, 5, 6, 7, 8, 9, 10] [] c_parse_same.r6) (.cond (.t 78) (.seq (.region false c_parse_same.r7) .ret) .skip)))) (.region false c_parse_same.r8))))))) (.seq (.region false c_parse_same.r9) .ret)))) }
theorem k_parse_same : chkF Go.Proofs.Tryz.prog n_parse_same c_parse_same = true := by kernel_rfl

def c_parse_writer_row.r0 : List CI :=
  [⟨some 4, .mv (.t 0), [], none⟩,
   ⟨some 5, .nilck (.t 4), [], none⟩,
   ⟨some 6, .fadr 0 (.t 5), [], none⟩,
   ⟨some 7, .call n_strings_Builder_Len [(.t 6)], [], none⟩,
   ⟨some 8, .bin .gtr (.t 7) (.c (.int .i64 0)), [], none⟩]
def c_parse_writer_row.r1 : List CI :=
  [⟨some 9, .mv (.t 0), [], none⟩,
   ⟨some 10, .nilck (.t 9), [], none⟩,
   ⟨some 11, .fadr 0 (.t 10), [], none⟩,
   ⟨some 12, .call n_strings_Builder_WriteByte [(.t 11), (.c (.int .u8 10))], [], none⟩]
def c_parse_writer_row.r2 : List CI :=
  [⟨some 13, .mv (.t 0), [], none⟩,
   ⟨some 14, .nilck (.t 13), [0], none⟩,
   ⟨some 15, .fadr 0 (.t 14), [1], none⟩,
   ⟨some 16, .mv (.t 1), [], none⟩,
   ⟨some 17, .call n_strings_Join [(.t 16), (.c (.str [32]))], [3], none⟩,
   ⟨some 18, .call n_strings_Builder_WriteString [(.t 15), (.t 17)], [2, 4, 4], none⟩]
def c_parse_writer_row : CF := { nt := 19, res := [], body :=
  (.seqK [0, 1] (.seq (.region false c_parse_writer_row.r0) (.cond (.t 8) (.region false c_parse_writer_row.r1) .skip)) (.regionP [0, 1, 2, 3, 4, 5] [] c_parse_writer_row.r2)) }
theorem k_parse_writer_row : chkF Go.Proofs.Tryz.prog n_parse_writer_row c_parse_writer_row = true := by kernel_rfl

def c_pattern_Quote.r0 : List CI :=
  [⟨some 2, .mv (.c (.str [])), [], none⟩]
def c_pattern_Quote.r1 : List CI :=
  [⟨some 3, .alloc 171 [.ptr none, .sl none 0 0], [], none⟩]
def c_pattern_Quote.r2 : List CI :=
  [⟨some 5, .call n_strings_Builder_WriteByte [(.t 3), (.c (.int .u8 34))], [], none⟩]
def c_pattern_Quote.r3 : List CI :=
  [⟨some 6, .mv (.t 0), [], none⟩,
   ⟨some 7, .lenS (.t 6), [], none⟩,
   ⟨some 8, .mv (.c (.int .i64 0)), [], none⟩]
def c_pattern_Quote.r4 : List CI :=
  [⟨some 9, .bin .lss (.t 8) (.t 7), [], none⟩]
def c_pattern_Quote.r5 : List CI :=
  [⟨some 10, .mv (.t 8), [], none⟩,
   ⟨some 4, .mv (.t 10), [], none⟩]
def c_pattern_Quote.r6 : List CI :=
  [⟨some 11, .mv (.t 0), [], none⟩,
   ⟨some 12, .mv (.t 4), [], none⟩,
   ⟨some 13, .idxS (.t 11) (.t 12), [], none⟩,
   ⟨some 14, .call n_pattern_sign [(.t 13)], [], none⟩,
   ⟨some 15, .call n_strings_Builder_WriteString [(.t 3), (.t 14)], [], none⟩]
def c_pattern_Quote.r7 : List CI :=
  [⟨some 16, .bin .add (.t 8) (.c (.int .i64 1)), [], none⟩,
   ⟨some 8, .mv (.t 16), [], none⟩]
def c_pattern_Quote.r8 : List CI :=
  [⟨some 17, .call n_strings_Builder_WriteByte [(.t 3), (.c (.int .u8 34))], [], none⟩]
def c_pattern_Quote.r9 : List CI :=
  [⟨some 18, .call n_strings_Builder_String [(.t 3)], [], none⟩,
   ⟨some 2, .mv (.t 18), [], none⟩]
def c_pattern_Quote : CF := { nt := 19, res := [.tmp 2], body :=
  (.seq (.region false c_pattern_Quote.r0) (.seq (.region false c_pattern_Quote.r1) (.seq (.region false c_pattern_Quote.r2) (.seq (.seq (.region false c_pattern_Quote.r3) (.block 0 (.loop [0, 3, 7, 8] (.seq (.region false c_pattern_Quote.r4) (.seq (.cond (.t 9) .skip (.exit 0)) (.seq (.block 1 (.seq (.region false c_pattern_Quote.r5) (.region false c_pattern_Quote.r6))) (.region false c_pattern_Quote.r7))))))) (.seq (.region false c_pattern_Quote.r8) (.seq (.region false c_pattern_Quote.r9) .ret)))))) }
theorem k_pattern_Quote : chkF Go.Proofs.Tryz.prog n_pattern_Quote c_pattern_Quote = true := by kernel_rfl

def c_pattern_Print.r0 : List CI :=
  [⟨some 1, .box 51 (.t 0), [], none⟩,
   ⟨some 2, .mv (.c (.str [])), [], none⟩]
def c_pattern_Print.r1 : List CI :=
  [⟨some 6, .load 2 true (.t 1), [], none⟩,
   ⟨some 7, .call n_pattern_Tree [(.t 6)], [], none⟩,
   ⟨some 5, .mv (.t 7), [], none⟩,
   ⟨some 8, .ext (.t 5) 0, [], none⟩,
   ⟨some 9, .ext (.t 5) 1, [], none⟩,
   ⟨some 3, .alloc 151 [.int .i64 0, .int .u64 0, .int .u64 0, .int .u64 0, .int .u64 0, .sl none 0 0], [], none⟩,
   ⟨some 4, .alloc 32 [.int .i64 0, .int .i64 0], [], none⟩,
   ⟨none, .store 6 (.t 3) (.t 8), [], none⟩,
   ⟨none, .store 2 (.t 4) (.t 9), [], none⟩]
def c_pattern_Print.r2 : List CI :=
  [⟨some 10, .fadr 0 (.t 4), [], none⟩,
   ⟨some 11, .load 1 false (.t 10), [], none⟩,
   ⟨some 12, .bin .neq (.t 11) (.c (.int .i64 0)), [], none⟩]
def c_pattern_Print.r3 : List CI :=
  [⟨some 2, .mv (.c (.str [])), [], none⟩]
def c_pattern_Print.r4 : List CI :=
  [⟨some 13, .build [.str [], .str [], .str []] [(0, 1, (.c (.str []))), (1, 1, (.c (.str [103, 108, 111, 98, 32]))), (2, 1, (.c (.str [114, 101, 32])))], [], none⟩,
   ⟨some 14, .fadr 0 (.t 1), [], none⟩,
   ⟨some 15, .load 1 false (.t 14), [1], none⟩,
   ⟨some 16, .bin .sub (.t 15) (.c (.int .i64 1)), [2], none⟩,
   ⟨some 17, .idxA 3 1 false (.t 13) (.t 16), [0, 3], none⟩,
   ⟨some 18, .fadr 1 (.t 1), [], none⟩,
   ⟨some 19, .load 1 false (.t 18), [5], none⟩,
   ⟨some 20, .call n_pattern_Quote [(.t 19)], [6], none⟩,
   ⟨some 21, .bin .add (.t 17) (.t 20), [4, 7], none⟩,
   ⟨some 2, .mv (.t 21), [8, 7, 0, 1, 2, 3, 4, 5, 6, 7, 8], none⟩]
def c_pattern_Print : CF := { nt := 22, res := [.tmp 2], body :=
  (.seq (.region false c_pattern_Print.r0) (.seq (.seq (.region false c_pattern_Print.r1) (.seq (.region false c_pattern_Print.r2) (.cond (.t 12) (.seq (.region false c_pattern_Print.r3) .ret) .skip))) (.seq (.regionP [0, 1, 2, 3, 4, 5, 6, 7, 8, 9] [] c_pattern_Print.r4) .ret))) }
theorem k_pattern_Print : chkF Go.Proofs.Tryz.prog n_pattern_Print c_pattern_Print = true := by kernel_rfl

def c_strings_Builder_String.r0 : List CI :=
  [⟨some 2, .mv (.c (.str [])), [], none⟩]
def c_strings_Builder_String.r1 : List CI :=
  [⟨some 3, .mv (.t 0), [], none⟩,
   ⟨some 4, .nilck (.t 3), [0], none⟩,
   ⟨some 5, .fadr 1 (.t 4), [1], none⟩,
   ⟨some 6, .load 1 false (.t 5), [2], none⟩,
   ⟨some 7, .usd (.t 6), [3], none⟩,
   ⟨some 8, .mv (.t 0), [], none⟩,
   ⟨some 9, .nilck (.t 8), [5], none⟩,
   ⟨some 10, .fadr 1 (.t 9), [6], none⟩,
   ⟨some 11, .load 1 false (.t 10), [7], none⟩,
   ⟨some 12, .lenV (.t 11), [8], none⟩,
   ⟨some 13, .ustr 5 (.t 7) (.t 12), [4, 9], none⟩,
   ⟨some 2, .mv (.t 13), [10, 0, 1, 2, 3, 4, 5, 6, 7, 8, 9, 10], none⟩]
def c_strings_Builder_String : CF := { nt := 14, res := [.tmp 2], body :=
  (.seq (.region false c_strings_Builder_String.r0) (.seq (.regionP [0, 1, 2, 3, 4, 5, 6, 7, 8, 9, 10, 11] [] c_strings_Builder_String.r1) .ret)) }
theorem k_strings_Builder_String : chkF Go.Proofs.Tryz.prog n_strings_Builder_String c_strings_Builder_String = true := by kernel_rfl

def c_pattern_empty.r0 : List CI :=
  [⟨some 1, .box 151 (.t 0), [], none⟩,
   ⟨some 2, .mv (.c (.bool false)), [], none⟩]
def c_pattern_empty.r1 : List CI :=
  [⟨some 7, .fadr 0 (.t 1), [], none⟩,
   ⟨some 8, .load 1 false (.t 7), [], none⟩]
def c_pattern_empty.r2 : List CI :=
  [⟨some 10, .bin .eql (.t 8) (.c (.int .i64 1)), [], none⟩,
   ⟨some 9, .mv (.t 10), [], none⟩]
def c_pattern_empty.r3 : List CI :=
  [⟨some 11, .bin .eql (.t 8) (.c (.int .i64 5)), [], none⟩,
   ⟨some 9, .mv (.t 11), [], none⟩]
def c_pattern_empty.r4 : List CI :=
  [⟨some 12, .bin .eql (.t 8) (.c (.int .i64 7)), [], none⟩,
   ⟨some 9, .mv (.t 12), [], none⟩]
def c_pattern_empty.r5 : List CI :=
  [⟨some 2, .mv (.c (.bool true)), [], none⟩]
def c_pattern_empty.r6 : List CI :=
  [⟨some 14, .bin .eql (.t 8) (.c (.int .i64 6)), [], none⟩,
   ⟨some 13, .mv (.t 14), [], none⟩]
def c_pattern_empty.r7 : List CI :=
  [⟨some 15, .fadr 5 (.t 1), [], none⟩,
   ⟨some 16, .load 1 false (.t 15), [], none⟩,
   ⟨some 17, .iadr 6 (.t 16) (.c (.int .i64 0)), [], none⟩,
   ⟨some 18, .load 6 true (.t 17), [], none⟩,
   ⟨some 19, .call n_pattern_empty [(.t 18)], [], none⟩,
   ⟨some 2, .mv (.t 19), [], none⟩]
def c_pattern_empty.r8 : List CI :=
  [⟨some 21, .bin .eql (.t 8) (.c (.int .i64 3)), [], none⟩,
   ⟨some 20, .mv (.t 21), [], none⟩]
def c_pattern_empty.r9 : List CI :=
  [⟨some 22, .fadr 5 (.t 1), [], none⟩,
   ⟨some 23, .load 1 false (.t 22), [], none⟩,
   ⟨some 24, .lenV (.t 23), [], none⟩,
   ⟨some 25, .mv (.c (.int .i64 0)), [], none⟩]
def c_pattern_empty.r10 : List CI :=
  [⟨some 26, .bin .lss (.t 25) (.t 24), [], none⟩]
def c_pattern_empty.r11 : List CI :=
  [⟨some 27, .iadr 6 (.t 23) (.t 25), [], none⟩,
   ⟨some 28, .load 6 true (.t 27), [], none⟩,
   ⟨some 4, .alloc 151 [.int .i64 0, .int .u64 0, .int .u64 0, .int .u64 0, .int .u64 0, .sl none 0 0], [], none⟩,
   ⟨none, .store 6 (.t 4) (.t 28), [], none⟩]
def c_pattern_empty.r12 : List CI :=
  [⟨some 29, .load 6 true (.t 4), [], none⟩,
   ⟨some 30, .call n_pattern_empty [(.t 29)], [], none⟩,
   ⟨some 31, .un .not (.t 30), [], none⟩]
def c_pattern_empty.r13 : List CI :=
  [⟨some 2, .mv (.c (.bool false)), [], none⟩]
def c_pattern_empty.r14 : List CI :=
  [⟨some 32, .bin .add (.t 25) (.c (.int .i64 1)), [], none⟩,
   ⟨some 25, .mv (.t 32), [], none⟩]
def c_pattern_empty.r15 : List CI :=
  [⟨some 2, .mv (.c (.bool true)), [], none⟩]
def c_pattern_empty.r16 : List CI :=
  [⟨some 34, .bin .eql (.t 8) (.c (.int .i64 4)), [], none⟩,
   ⟨some 33, .mv (.t 34), [], none⟩]
def c_pattern_empty.r17 : List CI :=
  [⟨some 35, .fadr 5 (.t 1), [], none⟩,
   ⟨some 36, .load 1 false (.t 35), [], none⟩,
   ⟨some 37, .lenV (.t 36), [], none⟩,
   ⟨some 38, .mv (.c (.int .i64 0)), [], none⟩]
def c_pattern_empty.r18 : List CI :=
  [⟨some 39, .bin .lss (.t 38) (.t 37), [], none⟩]
def c_pattern_empty.r19 : List CI :=
  [⟨some 40, .iadr 6 (.t 36) (.t 38), [], none⟩,
   ⟨some 41, .load 6 true (.t 40), [], none⟩,
   ⟨some 6, .alloc 151 [.int .i64 0, .int .u64 0, .int .u64 0, .int .u64 0, .int .u64 0, .sl none 0 0], [], none⟩,
   ⟨none, .store 6 (.t 6) (.t 41), [], none⟩]
def c_pattern_empty.r20 : List CI :=
  [⟨some 42, .load 6 true (.t 6), [], none⟩,
   ⟨some 43, .call n_pattern_empty [(.t 42)], [], none⟩]
def c_pattern_empty.r21 : List CI :=
  [⟨some 2, .mv (.c (.bool true)), [], none⟩]
def c_pattern_empty.r22 : List CI :=
  [⟨some 44, .bin .add (.t 38) (.c (.int .i64 1)), [], none⟩,
   ⟨some 38, .mv (.t 44), [], none⟩]
def c_pattern_empty.r23 : List CI :=
  [⟨some 2, .mv (.c (.bool false)), [], none⟩]
def c_pattern_empty : CF := { nt := 45, res := [.tmp 2], body :=
  (.seq (.region false c_pattern_empty.r0) (.seqK [] (.seq (.region false c_pattern_empty.r1) (.block 0 (.seqK [1, 8, 9] (.seq (.region false c_pattern_empty.r2) (.cond (.t 9) .skip (.seq (.region false c_pattern_empty.r3) (.cond (.t 9) .skip (.region false c_pattern_empty.r4))))) (.cond (.t 9) (.seq (.region false c_pattern_empty.r5) .ret) (.seq (.region false c_pattern_empty.r6) (.cond (.t 13) (.seq (.region false c_pattern_empty.r7) .ret) (.seq (.region false c_pattern_empty.r8) (.cond (.t 20) (.seq (.seq (.region false c_pattern_empty.r9) (.block 1 (.loop [23, 24, 25] (.seq (.region false c_pattern_empty.r10) (.seq (.cond (.t 26) .skip (.exit 1)) (.seq (.block 2 (.seq (.region false c_pattern_empty.r11) (.seq (.region false c_pattern_empty.r12) (.cond (.t 31) (.seq (.region false c_pattern_empty.r13) .ret) .skip)))) (.region false c_pattern_empty.r14))))))) (.seq (.region false c_pattern_empty.r15) .ret)) (.seq (.region false c_pattern_empty.r16) (.cond (.t 33) (.seq (.region false c_pattern_empty.r17) (.block 3 (.loop [36, 37, 38] (.seq (.region false c_pattern_empty.r18) (.seq (.cond (.t 39) .skip (.exit 3)) (.seq (.block 4 (.seq (.region false c_pattern_empty.r19) (.seq (.region false c_pattern_empty.r20) (.cond (.t 43) (.seq (.region false c_pattern_empty.r21) .ret) .skip)))) (.region false c_pattern_empty.r22))))))) .skip)))))))))) (.seq (.region false c_pattern_empty.r23) .ret))) }
theorem k_pattern_empty : chkF Go.Proofs.Tryz.prog n_pattern_empty c_pattern_empty = true := by kernel_rfl

def c_pattern_Tree_1.r0 : List CI :=
  [⟨some 9, .mv (.t 3), [], none⟩]
def c_pattern_Tree_1.r1 : List CI :=
  [⟨some 10, .build [.int .i64 0, .int .u64 0, .int .u64 0, .int .u64 0, .int .u64 0, .sl none 0 0] [], [], none⟩,
   ⟨some 11, .mv (.t 2), [], none⟩,
   ⟨some 12, .build [.int .i64 0, .int .i64 0] [(0, 1, (.c (.int .i64 6))), (1, 1, (.t 11))], [], none⟩,
   ⟨none, .store 6 (.t 0) (.t 10), [], none⟩,
   ⟨none, .store 2 (.t 1) (.t 12), [], none⟩]
def c_pattern_Tree_1 : CF := { nt := 13, res := [], body :=
  (.seq (.region false [⟨some 5, .rcv, [], none⟩, ⟨some 6, .tas 201 (.int .i64 0) true (.t 5), [], none⟩, ⟨some 4, .mv (.t 6), [], none⟩, ⟨some 7, .ext (.t 4) 0, [], none⟩, ⟨some 8, .ext (.t 4) 1, [], none⟩, ⟨some 2, .mv (.t 7), [], none⟩, ⟨some 3, .mv (.t 8), [], none⟩]) (.seq (.region false c_pattern_Tree_1.r0) (.cond (.t 9) (.region false c_pattern_Tree_1.r1) .skip))) }
theorem k_pattern_Tree_1 : chkF Go.Proofs.Tryz.prog n_pattern_Tree_1 c_pattern_Tree_1 = true := by kernel_rfl

def c_pattern_glob.r0 : List CI :=
  [⟨some 2, .alloc 151 [.int .i64 0, .int .u64 0, .int .u64 0, .int .u64 0, .int .u64 0, .sl none 0 0], [], none⟩]
def c_pattern_glob.r1 : List CI :=
  [⟨some 3, .mv (.c (.sl none 0 0)), [], none⟩]
def c_pattern_glob.r2 : List CI :=
  [⟨some 4, .mv (.c (.int .i64 0)), [], none⟩]
def c_pattern_glob.r3 : List CI :=
  [⟨some 5, .mv (.t 4), [], none⟩,
   ⟨some 6, .mv (.t 0), [], none⟩,
   ⟨some 7, .lenS (.t 6), [], none⟩,
   ⟨some 8, .bin .lss (.t 5) (.t 7), [], none⟩]
def c_pattern_glob.r4 : List CI :=
  [⟨some 11, .mv (.t 0), [], none⟩,
   ⟨some 12, .mv (.t 4), [], none⟩,
   ⟨some 13, .idxS (.t 11) (.t 12), [], none⟩]
def c_pattern_glob.r5 : List CI :=
  [⟨some 15, .bin .eql (.t 13) (.c (.int .u8 42)), [], none⟩,
   ⟨some 14, .mv (.t 15), [], none⟩]
def c_pattern_glob.r6 : List CI :=
  [⟨some 17, .bin .eql (.t 13) (.c (.int .u8 63)), [], none⟩,
   ⟨some 16, .mv (.t 17), [], none⟩]
def c_pattern_glob.r7 : List CI :=
  [⟨some 19, .bin .eql (.t 13) (.c (.int .u8 92)), [], none⟩,
   ⟨some 18, .mv (.t 19), [], none⟩]
def c_pattern_glob.r8 : List CI :=
  [⟨some 20, .mv (.t 3), [], none⟩,
   ⟨some 21, .call n_pattern_every [], [], none⟩,
   ⟨some 22, .bslice 6 1 [.int .i64 0, .int .u64 0, .int .u64 0, .int .u64 0, .int .u64 0, .sl none 0 0] [(0, (.t 21))], [], none⟩,
   ⟨some 23, .build [.int .i64 0, .int .u64 0, .int .u64 0, .int .u64 0, .int .u64 0, .sl none 0 0] [(0, 1, (.c (.int .i64 5))), (5, 1, (.t 22))], [], none⟩,
   ⟨some 24, .bslice 6 1 [.int .i64 0, .int .u64 0, .int .u64 0, .int .u64 0, .int .u64 0, .sl none 0 0] [(0, (.t 23))], [], none⟩,
   ⟨some 25, .app 151 6 64 [.int .i64 0, .int .u64 0, .int .u64 0, .int .u64 0, .int .u64 0, .sl none 0 0] (.t 20) (.t 24), [], none⟩,
   ⟨some 3, .mv (.t 25), [], none⟩]
def c_pattern_glob.r9 : List CI :=
  [⟨some 26, .mv (.t 3), [], none⟩,
   ⟨some 27, .call n_pattern_every [], [], none⟩,
   ⟨some 28, .bslice 6 1 [.int .i64 0, .int .u64 0, .int .u64 0, .int .u64 0, .int .u64 0, .sl none 0 0] [(0, (.t 27))], [], none⟩,
   ⟨some 29, .app 151 6 64 [.int .i64 0, .int .u64 0, .int .u64 0, .int .u64 0, .int .u64 0, .sl none 0 0] (.t 26) (.t 28), [], none⟩,
   ⟨some 3, .mv (.t 29), [], none⟩]
def c_pattern_glob.r10 : List CI :=
  [⟨some 30, .mv (.t 4), [], none⟩,
   ⟨some 31, .bin .add (.t 30) (.c (.int .i64 1)), [], none⟩,
   ⟨some 4, .mv (.t 31), [], none⟩]
def c_pattern_glob.r11 : List CI :=
  [⟨some 32, .mv (.t 4), [], none⟩,
   ⟨some 33, .mv (.t 0), [], none⟩,
   ⟨some 34, .lenS (.t 33), [], none⟩,
   ⟨some 35, .bin .eql (.t 32) (.t 34), [], none⟩]
def c_pattern_glob.r12 : List CI :=
  [⟨some 36, .mv (.t 4), [], none⟩,
   ⟨some 37, .mkI 201 (.t 36), [], none⟩,
   ⟨none, .pan (.t 37), [], none⟩]
def c_pattern_glob.r13 : List CI :=
  [⟨some 38, .mv (.t 3), [], none⟩,
   ⟨some 39, .mv (.t 0), [], none⟩,
   ⟨some 40, .mv (.t 4), [], none⟩,
   ⟨some 41, .idxS (.t 39) (.t 40), [], none⟩,
   ⟨some 42, .call n_pattern_one [(.t 41)], [], none⟩,
   ⟨some 43, .bslice 6 1 [.int .i64 0, .int .u64 0, .int .u64 0, .int .u64 0, .int .u64 0, .sl none 0 0] [(0, (.t 42))], [], none⟩,
   ⟨some 44, .app 151 6 64 [.int .i64 0, .int .u64 0, .int .u64 0, .int .u64 0, .int .u64 0, .sl none 0 0] (.t 38) (.t 43), [], none⟩,
   ⟨some 3, .mv (.t 44), [], none⟩]
def c_pattern_glob.r14 : List CI :=
  [⟨some 9, .mv (.t 4), [], none⟩,
   ⟨some 10, .bin .add (.t 9) (.c (.int .i64 1)), [], none⟩,
   ⟨some 4, .mv (.t 10), [], none⟩]
def c_pattern_glob.r15 : List CI :=
  [⟨some 45, .mv (.t 3), [], none⟩,
   ⟨some 46, .call n_pattern_joined [(.c (.int .i64 3)), (.t 45)], [], none⟩,
   ⟨none, .store 6 (.t 2) (.t 46), [], none⟩]
def c_pattern_glob : CF := { nt := 47, res := [.cell 2 6 true], body :=
  (.seq (.region false c_pattern_glob.r0) (.seq (.region false c_pattern_glob.r1) (.seq (.seq (.region false c_pattern_glob.r2) (.block 0 (.loop [0, 2, 3, 4] (.seq (.seq (.region false c_pattern_glob.r3) (.cond (.t 8) .skip (.exit 0))) (.seqK [0, 2, 3, 4] (.block 1 (.seq (.region false c_pattern_glob.r4) (.block 2 (.seqK [0, 2, 3, 4] (.block 6 (.seq (.block 5 (.seq (.block 4 (.seq (.block 3 (.seq (.seq (.seq (.region false c_pattern_glob.r5) (.cond (.t 14) (.exit 3) .skip)) (.seq (.seq (.region false c_pattern_glob.r6) (.cond (.t 16) (.exit 4) .skip)) (.seq (.region false c_pattern_glob.r7) (.cond (.t 18) (.exit 5) .skip)))) (.exit 6))) (.seq (.region false c_pattern_glob.r8) (.exit 2)))) (.seq (.region false c_pattern_glob.r9) (.exit 2)))) (.seq (.region false c_pattern_glob.r10) (.seq (.region false c_pattern_glob.r11) (.cond (.t 35) (.region false c_pattern_glob.r12) .skip))))) (.seq (.region false c_pattern_glob.r13) (.exit 2)))))) (.region false c_pattern_glob.r14)))))) (.seq (.region false c_pattern_glob.r15) .ret)))) }
theorem k_pattern_glob : chkF Go.Proofs.Tryz.prog n_pattern_glob c_pattern_glob = true := by kernel_rfl

def c_pattern_regular_either.r0 : List CI :=
  [⟨some 2, .alloc 151 [.int .i64 0, .int .u64 0, .int .u64 0, .int .u64 0, .int .u64 0, .sl none 0 0], [], none⟩]
def c_pattern_regular_either.r1 : List CI :=
  [⟨some 6, .mv (.t 0), [], none⟩,
   ⟨some 7, .call n_pattern_regular_row [(.t 6)], [], none⟩,
   ⟨some 8, .bslice 6 1 [.int .i64 0, .int .u64 0, .int .u64 0, .int .u64 0, .int .u64 0, .sl none 0 0] [(0, (.t 7))], [], none⟩,
   ⟨some 3, .mv (.t 8), [], none⟩]
def c_pattern_regular_either.r2 : List CI :=
  [⟨some 10, .mv (.t 0), [], none⟩,
   ⟨some 11, .call n_pattern_regular_next [(.t 10)], [], none⟩,
   ⟨some 9, .mv (.t 11), [], none⟩,
   ⟨some 12, .ext (.t 9) 0, [], none⟩,
   ⟨some 13, .ext (.t 9) 1, [], none⟩,
   ⟨some 4, .mv (.t 12), [], none⟩,
   ⟨some 5, .mv (.t 13), [], none⟩]
def c_pattern_regular_either.r3 : List CI :=
  [⟨some 14, .mv (.t 5), [], none⟩,
   ⟨some 15, .un .not (.t 14), [], none⟩,
   ⟨some 16, .mv (.t 15), [], none⟩,
   ⟨some 17, .mv (.t 4), [], (some (2, false))⟩,
   ⟨some 18, .bin .neq (.t 17) (.c (.int .u8 124)), [], (some (2, false))⟩,
   ⟨some 19, .pick (.t 16) (.c (.bool true)) (.t 18), [], none⟩]
def c_pattern_regular_either.r4 : List CI :=
  [⟨some 20, .mv (.t 3), [], none⟩,
   ⟨some 21, .call n_pattern_joined [(.c (.int .i64 4)), (.t 20)], [], none⟩,
   ⟨none, .store 6 (.t 2) (.t 21), [], none⟩]
def c_pattern_regular_either.r5 : List CI :=
  [⟨some 22, .mv (.t 0), [], none⟩,
   ⟨some 23, .nilck (.t 22), [], none⟩,
   ⟨some 24, .fadr 1 (.t 23), [], none⟩,
   ⟨some 25, .load 1 false (.t 24), [], none⟩,
   ⟨some 26, .bin .add (.t 25) (.c (.int .i64 1)), [], none⟩,
   ⟨some 27, .nilck (.t 22), [], none⟩,
   ⟨some 28, .fadr 1 (.t 27), [], none⟩,
   ⟨none, .store 1 (.t 28) (.t 26), [], none⟩]
def c_pattern_regular_either.r6 : List CI :=
  [⟨some 29, .mv (.t 3), [], none⟩,
   ⟨some 30, .mv (.t 0), [], none⟩,
   ⟨some 31, .call n_pattern_regular_row [(.t 30)], [], none⟩,
   ⟨some 32, .bslice 6 1 [.int .i64 0, .int .u64 0, .int .u64 0, .int .u64 0, .int .u64 0, .sl none 0 0] [(0, (.t 31))], [], none⟩,
   ⟨some 33, .app 151 6 64 [.int .i64 0, .int .u64 0, .int .u64 0, .int .u64 0, .int .u64 0, .sl none 0 0] (.t 29) (.t 32), [], none⟩,
   ⟨some 3, .mv (.t 33), [], none⟩]
def c_pattern_regular_either : CF := { nt := 34, res := [.cell 2 6 true], body :=
  (.seq (.region false c_pattern_regular_either.r0) (.seq (.region false c_pattern_regular_either.r1) (.block 0 (.loop [0, 2, 3] (.block 1 (.seq (.seq (.region false c_pattern_regular_either.r2) (.seq (.region false c_pattern_regular_either.r3) (.cond (.t 19) (.seq (.region false c_pattern_regular_either.r4) .ret) .skip))) (.seq (.region false c_pattern_regular_either.r5) (.region false c_pattern_regular_either.r6)))))))) }
theorem k_pattern_regular_either : chkF Go.Proofs.Tryz.prog n_pattern_regular_either c_pattern_regular_either = true := by kernel_rfl

def c_pattern_regular_next.r0 : List CI :=
  [⟨some 2, .mv (.c (.int .u8 0)), [], none⟩,
   ⟨some 3, .mv (.c (.bool false)), [], none⟩]
def c_pattern_regular_next.r1 : List CI :=
  [⟨some 4, .mv (.t 0), [], none⟩,
   ⟨some 5, .nilck (.t 4), [0], none⟩,
   ⟨some 6, .fadr 1 (.t 5), [1], none⟩,
   ⟨some 7, .load 1 false (.t 6), [2], none⟩,
   ⟨some 8, .mv (.t 0), [], none⟩,
   ⟨some 9, .nilck (.t 8), [4], none⟩,
   ⟨some 10, .fadr 0 (.t 9), [5], none⟩,
   ⟨some 11, .load 1 false (.t 10), [6], none⟩,
   ⟨some 12, .lenS (.t 11), [7], none⟩,
   ⟨some 13, .bin .geq (.t 7) (.t 12), [3, 8], none⟩]
def c_pattern_regular_next.r2 : List CI :=
  [⟨some 2, .mv (.c (.int .u8 0)), [], none⟩,
   ⟨some 3, .mv (.c (.bool false)), [], none⟩]
def c_pattern_regular_next.r3 : List CI :=
  [⟨some 14, .mv (.t 0), [], none⟩,
   ⟨some 15, .nilck (.t 14), [0], none⟩,
   ⟨some 16, .fadr 0 (.t 15), [1], none⟩,
   ⟨some 17, .load 1 false (.t 16), [2], none⟩,
   ⟨some 18, .mv (.t 0), [], none⟩,
   ⟨some 19, .nilck (.t 18), [4], none⟩,
   ⟨some 20, .fadr 1 (.t 19), [5], none⟩,
   ⟨some 21, .load 1 false (.t 20), [6], none⟩,
   ⟨some 22, .idxS (.t 17) (.t 21), [3, 7], none⟩,
   ⟨some 2, .mv (.t 22), [8, 0, 1, 2, 3, 4, 5, 6, 7, 8], none⟩,
   ⟨some 3, .mv (.c (.bool true)), [9, 0, 1, 2, 3, 4, 5, 6, 7, 8, 9], none⟩]
def c_pattern_regular_next : CF := { nt := 23, res := [.tmp 2, .tmp 3], body :=
  (.seq (.region false c_pattern_regular_next.r0) (.seq (.seq (.regionP [0, 1, 2, 3, 4, 5, 6, 7, 8, 9] [] c_pattern_regular_next.r1) (.cond (.t 13) (.seq (.region false c_pattern_regular_next.r2) .ret) .skip)) (.seq (.regionP [0, 1, 2, 3, 4, 5, 6, 7, 8, 9, 10] [] c_pattern_regular_next.r3) .ret))) }
theorem k_pattern_regular_next : chkF Go.Proofs.Tryz.prog n_pattern_regular_next c_pattern_regular_next = true := by kernel_rfl

def c_pattern_one.r0 : List CI :=
  [⟨some 2, .alloc 151 [.int .i64 0, .int .u64 0, .int .u64 0, .int .u64 0, .int .u64 0, .sl none 0 0], [], none⟩]
def c_pattern_one.r1 : List CI :=
  [⟨some 3, .alloc 148 [.int .u64 0, .int .u64 0, .int .u64 0, .int .u64 0], [], none⟩]
def c_pattern_one.r2 : List CI :=
  [⟨some 4, .mv (.t 0), [], none⟩,
   ⟨some 5, .bin .quo (.t 4) (.c (.int .u8 64)), [], none⟩,
   ⟨some 6, .mv (.t 0), [], none⟩,
   ⟨some 7, .bin .rem (.t 6) (.c (.int .u8 64)), [], none⟩,
   ⟨some 8, .bin .shl (.c (.int .u64 1)) (.t 7), [], none⟩,
   ⟨some 9, .iadrA 4 1 (.t 3) (.t 5), [], none⟩,
   ⟨none, .store 1 (.t 9) (.t 8), [], none⟩]
def c_pattern_one.r3 : List CI :=
  [⟨some 10, .load 4 true (.t 3), [], none⟩,
   ⟨some 11, .build [.int .i64 0, .int .u64 0, .int .u64 0, .int .u64 0, .int .u64 0, .sl none 0 0] [(0, 1, (.c (.int .i64 2))), (1, 4, (.t 10))], [], none⟩,
   ⟨none, .store 6 (.t 2) (.t 11), [], none⟩]
def c_pattern_one : CF := { nt := 12, res := [.cell 2 6 true], body :=
  (.seq (.region false c_pattern_one.r0) (.seq (.region false c_pattern_one.r1) (.seq (.region false c_pattern_one.r2) (.seq (.region false c_pattern_one.r3) .ret)))) }
theorem k_pattern_one : chkF Go.Proofs.Tryz.prog n_pattern_one c_pattern_one = true := by kernel_rfl

def c_pattern_joined.r0 : List CI :=
  [⟨some 4, .alloc 151 [.int .i64 0, .int .u64 0, .int .u64 0, .int .u64 0, .int .u64 0, .sl none 0 0], [], none⟩]
def c_pattern_joined.r1 : List CI :=
  [⟨some 5, .mv (.t 1), [], none⟩,
   ⟨some 6, .lenV (.t 5), [], none⟩]
def c_pattern_joined.r2 : List CI :=
  [⟨some 8, .bin .eql (.t 6) (.c (.int .i64 0)), [], none⟩,
   ⟨some 7, .mv (.t 8), [], none⟩]
def c_pattern_joined.r3 : List CI :=
  [⟨some 9, .build [.int .i64 0, .int .u64 0, .int .u64 0, .int .u64 0, .int .u64 0, .sl none 0 0] [(0, 1, (.c (.int .i64 1)))], [], none⟩,
   ⟨none, .store 6 (.t 4) (.t 9), [], none⟩]
def c_pattern_joined.r4 : List CI :=
  [⟨some 11, .bin .eql (.t 6) (.c (.int .i64 1)), [], none⟩,
   ⟨some 10, .mv (.t 11), [], none⟩]
def c_pattern_joined.r5 : List CI :=
  [⟨some 12, .mv (.t 1), [], none⟩,
   ⟨some 13, .iadr 6 (.t 12) (.c (.int .i64 0)), [], none⟩,
   ⟨some 14, .load 6 true (.t 13), [], none⟩,
   ⟨none, .store 6 (.t 4) (.t 14), [], none⟩]
def c_pattern_joined.r6 : List CI :=
  [⟨some 15, .mv (.t 0), [], none⟩,
   ⟨some 16, .mv (.t 1), [], none⟩,
   ⟨some 17, .build [.int .i64 0, .int .u64 0, .int .u64 0, .int .u64 0, .int .u64 0, .sl none 0 0] [(0, 1, (.t 15)), (5, 1, (.t 16))], [], none⟩,
   ⟨none, .store 6 (.t 4) (.t 17), [], none⟩]
def c_pattern_joined : CF := { nt := 18, res := [.cell 4 6 true], body :=
  (.seq (.region false c_pattern_joined.r0) (.seq (.seq (.region false c_pattern_joined.r1) (.block 0 (.seq (.region false c_pattern_joined.r2) (.cond (.t 7) (.seq (.region false c_pattern_joined.r3) .ret) (.seq (.region false c_pattern_joined.r4) (.cond (.t 10) (.seq (.region false c_pattern_joined.r5) .ret) .skip)))))) (.seq (.region false c_pattern_joined.r6) .ret))) }
theorem k_pattern_joined : chkF Go.Proofs.Tryz.prog n_pattern_joined c_pattern_joined = true := by kernel_rfl

def c_lex_reader_run.r0 : List CI :=
  [⟨some 6, .mv (.c (.str [])), [], none⟩,
   ⟨some 7, .mv (.c (.bool false)), [], none⟩]
def c_lex_reader_run.r1 : List CI :=
  [⟨some 9, .mv (.t 0), [], none⟩,
   ⟨some 10, .nilck (.t 9), [], none⟩,
   ⟨some 11, .fadr 1 (.t 10), [], none⟩,
   ⟨some 12, .load 1 false (.t 11), [], none⟩,
   ⟨some 8, .mv (.t 12), [], none⟩]
def c_lex_reader_run.r2 : List CI :=
  [⟨some 13, .mv (.t 0), [], none⟩,
   ⟨some 14, .nilck (.t 13), [0], none⟩,
   ⟨some 15, .fadr 1 (.t 14), [1], none⟩,
   ⟨some 16, .load 1 false (.t 15), [2], none⟩,
   ⟨some 17, .mv (.t 0), [], none⟩,
   ⟨some 18, .nilck (.t 17), [4], none⟩,
   ⟨some 19, .fadr 0 (.t 18), [5], none⟩,
   ⟨some 20, .load 1 false (.t 19), [6], none⟩,
   ⟨some 21, .lenS (.t 20), [7], none⟩,
   ⟨some 22, .bin .lss (.t 16) (.t 21), [3, 8], none⟩,
   ⟨some 23, .mv (.t 22), [9], none⟩,
   ⟨some 24, .mv (.t 2), [10], (some (10, true))⟩,
   ⟨some 25, .mv (.t 0), [10], (some (10, true))⟩,
   ⟨some 26, .nilck (.t 25), [12, 10], (some (10, true))⟩,
   ⟨some 27, .fadr 0 (.t 26), [13, 10], (some (10, true))⟩,
   ⟨some 28, .load 1 false (.t 27), [14, 10], (some (10, true))⟩,
   ⟨some 29, .mv (.t 0), [10], (some (10, true))⟩,
   ⟨some 30, .nilck (.t 29), [16, 10], (some (10, true))⟩,
   ⟨some 31, .fadr 1 (.t 30), [17, 10], (some (10, true))⟩,
   ⟨some 32, .load 1 false (.t 31), [18, 10], (some (10, true))⟩,
   ⟨some 33, .idxS (.t 28) (.t 32), [15, 19, 10], (some (10, true))⟩,
   ⟨some 34, .callV (.t 24) [(.t 33)], [11, 20, 10, 10], (some (10, true))⟩,
   ⟨some 35, .pick (.t 23) (.t 34) (.c (.bool false)), [10, 21], none⟩]
def c_lex_reader_run.r3 : List CI :=
  [⟨some 36, .mv (.t 0), [], none⟩,
   ⟨some 37, .nilck (.t 36), [], none⟩,
   ⟨some 38, .fadr 1 (.t 37), [], none⟩,
   ⟨some 39, .load 1 false (.t 38), [], none⟩,
   ⟨some 40, .mv (.t 8), [], none⟩,
   ⟨some 41, .bin .sub (.t 39) (.t 40), [], none⟩,
   ⟨some 42, .mv (.t 1), [], none⟩,
   ⟨some 43, .bin .eql (.t 41) (.t 42), [], none⟩]
def c_lex_reader_run.r4 : List CI :=
  [⟨some 6, .mv (.c (.str [])), [], none⟩,
   ⟨some 7, .mv (.c (.bool false)), [], none⟩]
def c_lex_reader_run.r5 : List CI :=
  [⟨some 44, .mv (.t 0), [], none⟩,
   ⟨some 45, .nilck (.t 44), [], none⟩,
   ⟨some 46, .fadr 1 (.t 45), [], none⟩,
   ⟨some 47, .load 1 false (.t 46), [], none⟩,
   ⟨some 48, .bin .add (.t 47) (.c (.int .i64 1)), [], none⟩,
   ⟨some 49, .nilck (.t 44), [], none⟩,
   ⟨some 50, .fadr 1 (.t 49), [], none⟩,
   ⟨none, .store 1 (.t 50) (.t 48), [], none⟩]
def c_lex_reader_run.r6 : List CI :=
  [⟨some 51, .mv (.t 0), [], none⟩,
   ⟨some 52, .nilck (.t 51), [0], none⟩,
   ⟨some 53, .fadr 0 (.t 52), [1], none⟩,
   ⟨some 54, .load 1 false (.t 53), [2], none⟩,
   ⟨some 55, .mv (.t 8), [], none⟩,
   ⟨some 56, .mv (.t 0), [], none⟩,
   ⟨some 57, .nilck (.t 56), [5], none⟩,
   ⟨some 58, .fadr 1 (.t 57), [6], none⟩,
   ⟨some 59, .load 1 false (.t 58), [7], none⟩,
   ⟨some 60, .sls (.t 54) (some (.t 55)) (some (.t 59)), [3, 4, 8], none⟩,
   ⟨some 6, .mv (.t 60), [9, 0, 1, 2, 3, 4, 5, 6, 7, 8, 9], none⟩,
   ⟨some 7, .mv (.c (.bool true)), [10, 0, 1, 2, 3, 4, 5, 6, 7, 8, 9, 10], none⟩]
def c_lex_reader_run : CF := { nt := 61, res := [.tmp 6, .tmp 7], body :=
  (.seq (.region false c_lex_reader_run.r0) (.seq (.region false c_lex_reader_run.r1) (.seq (.block 0 (.loop [0, 1, 2, 8] (.seq (.seq (.regionP [0, 1, 2, 3, 4, 5, 6, 7, 8, 9, 10, 11, 12, 13, 14, 15, 16, 17, 18, 19, 20, 21, 22] [] c_lex_reader_run.r2) (.cond (.t 35) .skip (.exit 0))) (.block 1 (.seq (.seq (.region false c_lex_reader_run.r3) (.cond (.t 43) (.seq (.region false c_lex_reader_run.r4) .ret) .skip)) (.region false c_lex_reader_run.r5)))))) (.seq (.regionP [0, 1, 2, 3, 4, 5, 6, 7, 8, 9, 10, 11] [] c_lex_reader_run.r6) .ret)))) }
theorem k_lex_reader_run : chkF Go.Proofs.Tryz.prog n_lex_reader_run c_lex_reader_run = true := by kernel_rfl

def c_lex_small.r0 : List CI :=
  [⟨some 2, .mv (.c (.bool false)), [], none⟩]
def c_lex_small.r1 : List CI :=
  [⟨some 3, .mv (.t 0), [], none⟩,
   ⟨some 4, .bin .geq (.t 3) (.c (.int .u8 97)), [], none⟩,
   ⟨some 5, .mv (.t 4), [], none⟩,
   ⟨some 6, .mv (.t 0), [], (some (2, true))⟩,
   ⟨some 7, .bin .leq (.t 6) (.c (.int .u8 122)), [], (some (2, true))⟩,
   ⟨some 8, .pick (.t 5) (.t 7) (.c (.bool false)), [], none⟩,
   ⟨some 9, .mv (.t 8), [], none⟩,
   ⟨some 10, .mv (.t 0), [], (some (6, false))⟩,
   ⟨some 11, .bin .geq (.t 10) (.c (.int .u8 48)), [], (some (6, false))⟩,
   ⟨some 12, .mv (.t 11), [], (some (6, false))⟩,
   ⟨some 13, .mv (.t 0), [], (some (9, true))⟩,
   ⟨some 14, .bin .leq (.t 13) (.c (.int .u8 57)), [], (some (9, true))⟩,
   ⟨some 15, .pick (.t 12) (.t 14) (.c (.bool false)), [], (some (6, false))⟩,
   ⟨some 16, .pick (.t 9) (.c (.bool true)) (.t 15), [], none⟩,
   ⟨some 17, .mv (.t 16), [], none⟩,
   ⟨some 18, .mv (.t 0), [], (some (14, false))⟩,
   ⟨some 19, .bin .eql (.t 18) (.c (.int .u8 95)), [], (some (14, false))⟩,
   ⟨some 20, .pick (.t 17) (.c (.bool true)) (.t 19), [], none⟩,
   ⟨some 21, .mv (.t 20), [], none⟩,
   ⟨some 22, .mv (.t 0), [], (some (18, false))⟩,
   ⟨some 23, .bin .eql (.t 22) (.c (.int .u8 45)), [], (some (18, false))⟩,
   ⟨some 24, .pick (.t 21) (.c (.bool true)) (.t 23), [], none⟩,
   ⟨some 2, .mv (.t 24), [], none⟩]
def c_lex_small : CF := { nt := 25, res := [.tmp 2], body :=
  (.seq (.region false c_lex_small.r0) (.seq (.region false c_lex_small.r1) .ret)) }
theorem k_lex_small : chkF Go.Proofs.Tryz.prog n_lex_small c_lex_small = true := by kernel_rfl

def c_lex_reader_token_1.r0 : List CI :=
  [⟨some 2, .mv (.c (.bool false)), [], none⟩]
def c_lex_reader_token_1.r1 : List CI :=
  [⟨some 3, .mv (.t 0), [], none⟩,
   ⟨some 4, .bin .geq (.t 3) (.c (.int .u8 48)), [], none⟩,
   ⟨some 5, .mv (.t 4), [], none⟩,
   ⟨some 6, .mv (.t 0), [], (some (2, true))⟩,
   ⟨some 7, .bin .leq (.t 6) (.c (.int .u8 57)), [], (some (2, true))⟩,
   ⟨some 8, .pick (.t 5) (.t 7) (.c (.bool false)), [], none⟩,
   ⟨some 2, .mv (.t 8), [], none⟩]
def c_lex_reader_token_1 : CF := { nt := 9, res := [.tmp 2], body :=
  (.seq (.region false c_lex_reader_token_1.r0) (.seq (.region false c_lex_reader_token_1.r1) .ret)) }
theorem k_lex_reader_token_1 : chkF Go.Proofs.Tryz.prog n_lex_reader_token_1 c_lex_reader_token_1 = true := by kernel_rfl

def c_pattern_Quoted.r0 : List CI :=
  [⟨some 4, .alloc 9 [.str []], [], none⟩,
   ⟨some 5, .alloc 3 [.int .i64 0], [], none⟩,
   ⟨some 6, .alloc 32 [.int .i64 0, .int .i64 0], [], none⟩]
def c_pattern_Quoted.r1 : List CI :=
  [⟨some 10, .mv (.t 0), [], none⟩,
   ⟨some 11, .mv (.t 1), [], none⟩,
   ⟨some 12, .mx (.t 11) (.c (.int .i64 (-1))), [], none⟩,
   ⟨some 13, .call n_pattern_scan [(.t 10), (.c (.int .i64 0)), (.t 12)], [], none⟩,
   ⟨some 9, .mv (.t 13), [], none⟩,
   ⟨some 14, .ext (.t 9) 0, [], none⟩,
   ⟨some 15, .ext (.t 9) 1, [], none⟩,
   ⟨none, .store 1 (.t 4) (.t 14), [], none⟩,
   ⟨some 7, .mv (.t 15), [], none⟩]
def c_pattern_Quoted.r2 : List CI :=
  [⟨some 16, .load 1 false (.t 4), [], none⟩,
   ⟨some 17, .mv (.t 7), [], none⟩,
   ⟨some 18, .mv (.t 7), [], none⟩,
   ⟨some 19, .lenV (.t 18), [2], none⟩,
   ⟨some 20, .bin .sub (.t 19) (.c (.int .i64 1)), [3], none⟩,
   ⟨some 21, .iadr 1 (.t 17) (.t 20), [1, 4], none⟩,
   ⟨some 22, .load 1 false (.t 21), [5], none⟩,
   ⟨some 23, .bin .add (.t 22) (.c (.int .i64 1)), [6], none⟩,
   ⟨some 24, .build [.int .i64 0, .int .i64 0] [], [], none⟩,
   ⟨none, .store 1 (.t 4) (.t 16), [0, 0], none⟩,
   ⟨none, .store 1 (.t 5) (.t 23), [7, 9, 0, 1, 2, 3, 4, 5, 6, 7, 9], none⟩,
   ⟨none, .store 2 (.t 6) (.t 24), [8, 10, 0, 1, 2, 3, 4, 5, 6, 7, 8, 9, 10], none⟩]
def c_pattern_Quoted : CF := { nt := 25, res := [.cell 4 1 false, .cell 5 1 false, .cell 6 2 true], body :=
  (.seq (.region false c_pattern_Quoted.r0) (.seq (.region false [⟨some 8, .mkF n_pattern_Quoted_1 [] [(.t 4), (.t 5), (.t 6)], [], none⟩, ⟨none, .dfr (.t 8), [], none⟩]) (.seq (.region false c_pattern_Quoted.r1) (.seq (.regionP [0, 1, 2, 3, 4, 5, 6, 7, 8, 9, 10, 11] [] c_pattern_Quoted.r2) .ret)))) }
theorem k_pattern_Quoted : chkF Go.Proofs.Tryz.prog n_pattern_Quoted c_pattern_Quoted = true := by kernel_rfl

def c_parse_reader_is.r0 : List CI :=
  [⟨some 6, .mv (.c (.bool false)), [], none⟩]
def c_parse_reader_is.r1 : List CI :=
  [⟨some 8, .mv (.t 0), [], none⟩,
   ⟨some 9, .call n_parse_reader_next [(.t 8)], [], none⟩,
   ⟨some 7, .alloc 113 [.int .i64 0, .str [], .int .i64 0, .int .i64 0], [], none⟩,
   ⟨none, .store 4 (.t 7) (.t 9), [], none⟩]
def c_parse_reader_is.r2 : List CI :=
  [⟨some 10, .fadr 0 (.t 7), [], none⟩,
   ⟨some 11, .load 1 false (.t 10), [], none⟩,
   ⟨some 12, .mv (.t 1), [], none⟩,
   ⟨some 13, .bin .neq (.t 11) (.t 12), [], none⟩,
   ⟨some 14, .mv (.t 13), [], none⟩,
   ⟨some 15, .fadr 1 (.t 7), [], (some (4, false))⟩,
   ⟨some 16, .load 1 false (.t 15), [], (some (4, false))⟩,
   ⟨some 17, .mv (.t 2), [], (some (4, false))⟩,
   ⟨some 18, .bin .neq (.t 16) (.t 17), [], (some (4, false))⟩,
   ⟨some 19, .pick (.t 14) (.c (.bool true)) (.t 18), [], none⟩]
def c_parse_reader_is.r3 : List CI :=
  [⟨some 6, .mv (.c (.bool false)), [], none⟩]
def c_parse_reader_is.r4 : List CI :=
  [⟨some 20, .mv (.t 0), [], none⟩,
   ⟨some 21, .nilck (.t 20), [], none⟩,
   ⟨some 22, .fadr 1 (.t 21), [], none⟩,
   ⟨some 23, .load 1 false (.t 22), [], none⟩,
   ⟨some 24, .bin .add (.t 23) (.c (.int .i64 1)), [], none⟩,
   ⟨some 25, .nilck (.t 20), [], none⟩,
   ⟨some 26, .fadr 1 (.t 25), [], none⟩,
   ⟨none, .store 1 (.t 26) (.t 24), [], none⟩]
def c_parse_reader_is.r5 : List CI :=
  [⟨some 6, .mv (.c (.bool true)), [], none⟩]
def c_parse_reader_is : CF := { nt := 27, res := [.tmp 6], body :=
  (.seq (.region false c_parse_reader_is.r0) (.seq (.seq (.region false c_parse_reader_is.r1) (.seq (.region false c_parse_reader_is.r2) (.cond (.t 19) (.seq (.region false c_parse_reader_is.r3) .ret) .skip))) (.seq (.region false c_parse_reader_is.r4) (.seq (.region false c_parse_reader_is.r5) .ret)))) }
theorem k_parse_reader_is : chkF Go.Proofs.Tryz.prog n_parse_reader_is c_parse_reader_is = true := by kernel_rfl

def c_parse_reader_pattern.r0 : List CI :=
  [⟨some 2, .alloc 51 [.int .i64 0, .str []], [], none⟩]
def c_parse_reader_pattern.r1 : List CI :=
  [⟨some 7, .build [.int .i64 0, .str []] [(0, 1, (.c (.int .i64 1)))], [], none⟩,
   ⟨some 3, .alloc 51 [.int .i64 0, .str []], [], none⟩,
   ⟨none, .store 2 (.t 3) (.t 7), [], none⟩]
def c_parse_reader_pattern.r2 : List CI :=
  [⟨some 8, .mv (.t 0), [], none⟩,
   ⟨some 9, .call n_parse_reader_is [(.t 8), (.c (.int .i64 1)), (.c (.str [103, 108, 111, 98]))], [], none⟩]
def c_parse_reader_pattern.r3 : List CI :=
  [⟨some 10, .fadr 0 (.t 3), [], none⟩,
   ⟨none, .store 1 (.t 10) (.c (.int .i64 2)), [], none⟩]
def c_parse_reader_pattern.r4 : List CI :=
  [⟨some 11, .mv (.t 0), [], none⟩,
   ⟨some 12, .call n_parse_reader_is [(.t 11), (.c (.int .i64 1)), (.c (.str [114, 101]))], [], none⟩]
def c_parse_reader_pattern.r5 : List CI :=
  [⟨some 13, .fadr 0 (.t 3), [], none⟩,
   ⟨none, .store 1 (.t 13) (.c (.int .i64 3)), [], none⟩]
def c_parse_reader_pattern.r6 : List CI :=
  [⟨some 14, .mv (.t 0), [], none⟩,
   ⟨some 15, .call n_parse_reader_take [(.t 14), (.c (.int .i64 4))], [], none⟩,
   ⟨some 4, .alloc 113 [.int .i64 0, .str [], .int .i64 0, .int .i64 0], [], none⟩,
   ⟨none, .store 4 (.t 4) (.t 15), [], none⟩]
def c_parse_reader_pattern.r7 : List CI :=
  [⟨some 16, .fadr 1 (.t 4), [], none⟩,
   ⟨some 17, .load 1 false (.t 16), [], none⟩,
   ⟨some 18, .fadr 1 (.t 3), [], none⟩,
   ⟨none, .store 1 (.t 18) (.t 17), [], none⟩]
def c_parse_reader_pattern.r8 : List CI :=
  [⟨some 20, .load 2 true (.t 3), [], none⟩,
   ⟨some 21, .call n_pattern_Tree [(.t 20)], [], none⟩,
   ⟨some 19, .mv (.t 21), [], none⟩,
   ⟨some 22, .ext (.t 19) 0, [], none⟩,
   ⟨some 23, .ext (.t 19) 1, [], none⟩,
   ⟨some 5, .alloc 151 [.int .i64 0, .int .u64 0, .int .u64 0, .int .u64 0, .int .u64 0, .sl none 0 0], [], none⟩,
   ⟨some 6, .alloc 32 [.int .i64 0, .int .i64 0], [], none⟩,
   ⟨none, .store 6 (.t 5) (.t 22), [], none⟩,
   ⟨none, .store 2 (.t 6) (.t 23), [], none⟩]
def c_parse_reader_pattern.r9 : List CI :=
  [⟨some 24, .fadr 0 (.t 6), [], none⟩,
   ⟨some 25, .load 1 false (.t 24), [], none⟩,
   ⟨some 26, .bin .neq (.t 25) (.c (.int .i64 0)), [], none⟩]
def c_parse_reader_pattern.r10 : List CI :=
  [⟨some 27, .fadr 0 (.t 6), [], none⟩,
   ⟨some 28, .load 1 false (.t 27), [], none⟩,
   ⟨some 29, .fadr 3 (.t 4), [], none⟩,
   ⟨some 30, .load 1 false (.t 29), [], none⟩,
   ⟨some 31, .call n_parse_fail [(.t 28), (.t 30)], [], none⟩]
def c_parse_reader_pattern.r11 : List CI :=
  [⟨some 32, .load 2 true (.t 3), [], none⟩,
   ⟨none, .store 2 (.t 2) (.t 32), [], none⟩]
def c_parse_reader_pattern : CF := { nt := 33, res := [.cell 2 2 true], body :=
  (.seq (.region false c_parse_reader_pattern.r0) (.seq (.region false c_parse_reader_pattern.r1) (.seqK [0, 2, 3] (.seq (.region false c_parse_reader_pattern.r2) (.cond (.t 9) (.region false c_parse_reader_pattern.r3) (.seq (.region false c_parse_reader_pattern.r4) (.cond (.t 12) (.region false c_parse_reader_pattern.r5) .skip)))) (.seq (.region false c_parse_reader_pattern.r6) (.seq (.region false c_parse_reader_pattern.r7) (.seqK [2, 3] (.seq (.region false c_parse_reader_pattern.r8) (.seq (.region false c_parse_reader_pattern.r9) (.cond (.t 26) (.region false c_parse_reader_pattern.r10) .skip))) (.seq (.region false c_parse_reader_pattern.r11) .ret))))))) }
theorem k_parse_reader_pattern : chkF Go.Proofs.Tryz.prog n_parse_reader_pattern c_parse_reader_pattern = true := by kernel_rfl

def c_strings_Builder_Len.r0 : List CI :=
  [⟨some 2, .mv (.c (.int .i64 0)), [], none⟩]
def c_strings_Builder_Len.r1 : List CI :=
  [⟨some 3, .mv (.t 0), [], none⟩,
   ⟨some 4, .nilck (.t 3), [], none⟩,
   ⟨some 5, .fadr 1 (.t 4), [], none⟩,
   ⟨some 6, .load 1 false (.t 5), [], none⟩,
   ⟨some 7, .lenV (.t 6), [], none⟩,
   ⟨some 2, .mv (.t 7), [], none⟩]
def c_strings_Builder_Len : CF := { nt := 8, res := [.tmp 2], body :=
  (.seq (.region false c_strings_Builder_Len.r0) (.seq (.region false c_strings_Builder_Len.r1) .ret)) }
theorem k_strings_Builder_Len : chkF Go.Proofs.Tryz.prog n_strings_Builder_Len c_strings_Builder_Len = true := by kernel_rfl

def c_strings_Builder_WriteByte.r0 : List CI :=
  [⟨some 4, .mv (.c (.nilifc)), [], none⟩]
def c_strings_Builder_WriteByte.r1 : List CI :=
  [⟨some 5, .mv (.t 0), [], none⟩,
   ⟨some 6, .call n_strings_Builder_copyCheck [(.t 5)], [], none⟩]
def c_strings_Builder_WriteByte.r2 : List CI :=
  [⟨some 7, .mv (.t 0), [], none⟩,
   ⟨some 8, .mv (.t 0), [], none⟩,
   ⟨some 9, .nilck (.t 8), [], none⟩,
   ⟨some 10, .fadr 1 (.t 9), [], none⟩,
   ⟨some 11, .load 1 false (.t 10), [], none⟩,
   ⟨some 12, .mv (.t 1), [], none⟩,
   ⟨some 13, .bslice 1 1 [.int .u8 0] [(0, (.t 12))], [], none⟩,
   ⟨some 14, .app 5 1 1 [.int .u8 0] (.t 11) (.t 13), [], none⟩,
   ⟨some 15, .nilck (.t 7), [], none⟩,
   ⟨some 16, .fadr 1 (.t 15), [], none⟩,
   ⟨none, .store 1 (.t 16) (.t 14), [], none⟩]
def c_strings_Builder_WriteByte.r3 : List CI :=
  [⟨some 4, .mv (.c (.nilifc)), [], none⟩]
def c_strings_Builder_WriteByte : CF := { nt := 17, res := [.tmp 4], body :=
  (.seq (.region false c_strings_Builder_WriteByte.r0) (.seq (.region false c_strings_Builder_WriteByte.r1) (.seq (.region false c_strings_Builder_WriteByte.r2) (.seq (.region false c_strings_Builder_WriteByte.r3) .ret)))) }
theorem k_strings_Builder_WriteByte : chkF Go.Proofs.Tryz.prog n_strings_Builder_WriteByte c_strings_Builder_WriteByte = true := by kernel_rfl

def c_strings_Builder_WriteString.r0 : List CI :=
  [⟨some 4, .mv (.c (.int .i64 0)), [], none⟩,
   ⟨some 5, .mv (.c (.nilifc)), [], none⟩]
def c_strings_Builder_WriteString.r1 : List CI :=
  [⟨some 6, .mv (.t 0), [], none⟩,
   ⟨some 7, .call n_strings_Builder_copyCheck [(.t 6)], [], none⟩]
def c_strings_Builder_WriteString.r2 : List CI :=
  [⟨some 8, .mv (.t 0), [], none⟩,
   ⟨some 9, .mv (.t 0), [], none⟩,
   ⟨some 10, .nilck (.t 9), [], none⟩,
   ⟨some 11, .fadr 1 (.t 10), [], none⟩,
   ⟨some 12, .load 1 false (.t 11), [], none⟩,
   ⟨some 13, .mv (.t 1), [], none⟩,
   ⟨some 14, .appS 5 (.t 12) (.t 13), [], none⟩,
   ⟨some 15, .nilck (.t 8), [], none⟩,
   ⟨some 16, .fadr 1 (.t 15), [], none⟩,
   ⟨none, .store 1 (.t 16) (.t 14), [], none⟩]
def c_strings_Builder_WriteString.r3 : List CI :=
  [⟨some 17, .mv (.t 1), [], none⟩,
   ⟨some 18, .lenS (.t 17), [], none⟩,
   ⟨some 4, .mv (.t 18), [], none⟩,
   ⟨some 5, .mv (.c (.nilifc)), [], none⟩]
def c_strings_Builder_WriteString : CF := { nt := 19, res := [.tmp 4, .tmp 5], body :=
  (.seq (.region false c_strings_Builder_WriteString.r0) (.seq (.region false c_strings_Builder_WriteString.r1) (.seq (.region false c_strings_Builder_WriteString.r2) (.seq (.region false c_strings_Builder_WriteString.r3) .ret)))) }
theorem k_strings_Builder_WriteString : chkF Go.Proofs.Tryz.prog n_strings_Builder_WriteString c_strings_Builder_WriteString = true := by kernel_rfl

def c_pattern_sign.r0 : List CI :=
  [⟨some 2, .mv (.c (.str [])), [], none⟩]
def c_pattern_sign.r1 : List CI :=
  [⟨some 5, .mv (.t 0), [], none⟩,
   ⟨some 6, .call n_pattern_plain [(.t 5)], [], none⟩]
def c_pattern_sign.r2 : List CI :=
  [⟨some 7, .mv (.t 0), [], none⟩,
   ⟨some 8, .bslice 1 1 [.int .u8 0] [(0, (.t 7))], [], none⟩,
   ⟨some 9, .b2s (.t 8), [], none⟩,
   ⟨some 2, .mv (.t 9), [], none⟩]
def c_pattern_sign.r3 : List CI :=
  [⟨some 11, .mv (.t 0), [], none⟩,
   ⟨some 12, .call n_pattern_short [(.t 11)], [], none⟩,
   ⟨some 10, .mv (.t 12), [], none⟩,
   ⟨some 13, .ext (.t 10) 0, [], none⟩,
   ⟨some 14, .ext (.t 10) 1, [], none⟩,
   ⟨some 3, .mv (.t 13), [], none⟩,
   ⟨some 4, .mv (.t 14), [], none⟩]
def c_pattern_sign.r4 : List CI :=
  [⟨some 15, .mv (.t 4), [], none⟩]
def c_pattern_sign.r5 : List CI :=
  [⟨some 16, .mv (.t 3), [], none⟩,
   ⟨some 17, .bslice 1 2 [.int .u8 0] [(0, (.c (.int .u8 92))), (1, (.t 16))], [], none⟩,
   ⟨some 18, .b2s (.t 17), [], none⟩,
   ⟨some 2, .mv (.t 18), [], none⟩]
def c_pattern_sign.r6 : List CI :=
  [⟨some 19, .mv (.t 0), [], none⟩,
   ⟨some 20, .bin .shr (.t 19) (.c (.int .u64 4)), [0], none⟩,
   ⟨some 21, .idxS (.c (.str [48, 49, 50, 51, 52, 53, 54, 55, 56, 57, 97, 98, 99, 100, 101, 102])) (.t 20), [1], none⟩,
   ⟨some 22, .mv (.t 0), [], none⟩,
   ⟨some 23, .bin .and (.t 22) (.c (.int .u8 15)), [3], none⟩,
   ⟨some 24, .idxS (.c (.str [48, 49, 50, 51, 52, 53, 54, 55, 56, 57, 97, 98, 99, 100, 101, 102])) (.t 23), [4], none⟩,
   ⟨some 25, .bslice 1 4 [.int .u8 0] [(0, (.c (.int .u8 92))), (1, (.c (.int .u8 120))), (2, (.t 21)), (3, (.t 24))], [2, 5], none⟩,
   ⟨some 26, .b2s (.t 25), [6], none⟩,
   ⟨some 2, .mv (.t 26), [7, 0, 1, 2, 3, 4, 5, 6, 7], none⟩]
def c_pattern_sign : CF := { nt := 27, res := [.tmp 2], body :=
  (.seq (.region false c_pattern_sign.r0) (.seq (.seq (.region false c_pattern_sign.r1) (.cond (.t 6) (.seq (.region false c_pattern_sign.r2) .ret) .skip)) (.seq (.seq (.region false c_pattern_sign.r3) (.seq (.region false c_pattern_sign.r4) (.cond (.t 15) (.seq (.region false c_pattern_sign.r5) .ret) .skip))) (.seq (.regionP [0, 1, 2, 3, 4, 5, 6, 7, 8] [] c_pattern_sign.r6) .ret)))) }
theorem k_pattern_sign : chkF Go.Proofs.Tryz.prog n_pattern_sign c_pattern_sign = true := by kernel_rfl

def c_pattern_every.r0 : List CI :=
  [⟨some 0, .alloc 151 [.int .i64 0, .int .u64 0, .int .u64 0, .int .u64 0, .int .u64 0, .sl none 0 0], [], none⟩]
def c_pattern_every.r1 : List CI :=
  [⟨some 1, .build [.int .u64 0, .int .u64 0, .int .u64 0, .int .u64 0] [(0, 1, (.c (.int .u64 18446744073709551615))), (1, 1, (.c (.int .u64 18446744073709551615))), (2, 1, (.c (.int .u64 18446744073709551615))), (3, 1, (.c (.int .u64 18446744073709551615)))], [], none⟩,
   ⟨some 2, .build [.int .i64 0, .int .u64 0, .int .u64 0, .int .u64 0, .int .u64 0, .sl none 0 0] [(0, 1, (.c (.int .i64 2))), (1, 4, (.t 1))], [], none⟩,
   ⟨none, .store 6 (.t 0) (.t 2), [], none⟩]
def c_pattern_every : CF := { nt := 3, res := [.cell 0 6 true], body :=
  (.seq (.region false c_pattern_every.r0) (.seq (.region false c_pattern_every.r1) .ret)) }
theorem k_pattern_every : chkF Go.Proofs.Tryz.prog n_pattern_every c_pattern_every = true := by kernel_rfl

def c_pattern_regular_row.r0 : List CI :=
  [⟨some 2, .alloc 151 [.int .i64 0, .int .u64 0, .int .u64 0, .int .u64 0, .int .u64 0, .sl none 0 0], [], none⟩]
def c_pattern_regular_row.r1 : List CI :=
  [⟨some 3, .mv (.c (.sl none 0 0)), [], none⟩]
def c_pattern_regular_row.r2 : List CI :=
  [⟨some 10, .mv (.t 0), [], none⟩,
   ⟨some 11, .call n_pattern_regular_next [(.t 10)], [], none⟩,
   ⟨some 9, .mv (.t 11), [], none⟩,
   ⟨some 12, .ext (.t 9) 0, [], none⟩,
   ⟨some 13, .ext (.t 9) 1, [], none⟩,
   ⟨some 4, .mv (.t 12), [], none⟩,
   ⟨some 5, .mv (.t 13), [], none⟩]
def c_pattern_regular_row.r3 : List CI :=
  [⟨some 14, .mv (.t 5), [], none⟩,
   ⟨some 15, .un .not (.t 14), [], none⟩,
   ⟨some 16, .mv (.t 15), [], none⟩,
   ⟨some 17, .mv (.t 4), [], (some (2, false))⟩,
   ⟨some 18, .bin .eql (.t 17) (.c (.int .u8 124)), [], (some (2, false))⟩,
   ⟨some 19, .pick (.t 16) (.c (.bool true)) (.t 18), [], none⟩,
   ⟨some 20, .mv (.t 19), [], none⟩,
   ⟨some 21, .mv (.t 4), [], (some (6, false))⟩,
   ⟨some 22, .bin .eql (.t 21) (.c (.int .u8 41)), [], (some (6, false))⟩,
   ⟨some 23, .pick (.t 20) (.c (.bool true)) (.t 22), [], none⟩]
def c_pattern_regular_row.r4 : List CI :=
  [⟨some 24, .mv (.t 3), [], none⟩,
   ⟨some 25, .call n_pattern_joined [(.c (.int .i64 3)), (.t 24)], [], none⟩,
   ⟨none, .store 6 (.t 2) (.t 25), [], none⟩]
def c_pattern_regular_row.r5 : List CI :=
  [⟨some 26, .mv (.t 0), [], none⟩,
   ⟨some 27, .call n_pattern_regular_atom [(.t 26)], [], none⟩,
   ⟨some 6, .alloc 151 [.int .i64 0, .int .u64 0, .int .u64 0, .int .u64 0, .int .u64 0, .sl none 0 0], [], none⟩,
   ⟨none, .store 6 (.t 6) (.t 27), [], none⟩]
def c_pattern_regular_row.r6 : List CI :=
  [⟨some 29, .mv (.t 0), [], none⟩,
   ⟨some 30, .call n_pattern_regular_next [(.t 29)], [], none⟩,
   ⟨some 28, .mv (.t 30), [], none⟩,
   ⟨some 31, .ext (.t 28) 0, [], none⟩,
   ⟨some 32, .ext (.t 28) 1, [], none⟩,
   ⟨some 7, .mv (.t 31), [], none⟩,
   ⟨some 8, .mv (.t 32), [], none⟩]
def c_pattern_regular_row.r7 : List CI :=
  [⟨some 33, .mv (.t 7), [], none⟩]
def c_pattern_regular_row.r8 : List CI :=
  [⟨some 35, .bin .eql (.t 33) (.c (.int .u8 42)), [], none⟩,
   ⟨some 34, .mv (.t 35), [], none⟩]
def c_pattern_regular_row.r9 : List CI :=
  [⟨some 36, .load 6 true (.t 6), [], none⟩,
   ⟨some 37, .bslice 6 1 [.int .i64 0, .int .u64 0, .int .u64 0, .int .u64 0, .int .u64 0, .sl none 0 0] [(0, (.t 36))], [], none⟩,
   ⟨some 38, .build [.int .i64 0, .int .u64 0, .int .u64 0, .int .u64 0, .int .u64 0, .sl none 0 0] [(0, 1, (.c (.int .i64 5))), (5, 1, (.t 37))], [], none⟩,
   ⟨none, .store 6 (.t 6) (.t 38), [], none⟩]
def c_pattern_regular_row.r10 : List CI :=
  [⟨some 39, .mv (.t 0), [], none⟩,
   ⟨some 40, .nilck (.t 39), [], none⟩,
   ⟨some 41, .fadr 1 (.t 40), [], none⟩,
   ⟨some 42, .load 1 false (.t 41), [], none⟩,
   ⟨some 43, .bin .add (.t 42) (.c (.int .i64 1)), [], none⟩,
   ⟨some 44, .nilck (.t 39), [], none⟩,
   ⟨some 45, .fadr 1 (.t 44), [], none⟩,
   ⟨none, .store 1 (.t 45) (.t 43), [], none⟩]
def c_pattern_regular_row.r11 : List CI :=
  [⟨some 47, .bin .eql (.t 33) (.c (.int .u8 43)), [], none⟩,
   ⟨some 46, .mv (.t 47), [], none⟩]
def c_pattern_regular_row.r12 : List CI :=
  [⟨some 48, .load 6 true (.t 6), [], none⟩,
   ⟨some 49, .bslice 6 1 [.int .i64 0, .int .u64 0, .int .u64 0, .int .u64 0, .int .u64 0, .sl none 0 0] [(0, (.t 48))], [], none⟩,
   ⟨some 50, .build [.int .i64 0, .int .u64 0, .int .u64 0, .int .u64 0, .int .u64 0, .sl none 0 0] [(0, 1, (.c (.int .i64 6))), (5, 1, (.t 49))], [], none⟩,
   ⟨none, .store 6 (.t 6) (.t 50), [], none⟩]
def c_pattern_regular_row.r13 : List CI :=
  [⟨some 51, .mv (.t 0), [], none⟩,
   ⟨some 52, .nilck (.t 51), [], none⟩,
   ⟨some 53, .fadr 1 (.t 52), [], none⟩,
   ⟨some 54, .load 1 false (.t 53), [], none⟩,
   ⟨some 55, .bin .add (.t 54) (.c (.int .i64 1)), [], none⟩,
   ⟨some 56, .nilck (.t 51), [], none⟩,
   ⟨some 57, .fadr 1 (.t 56), [], none⟩,
   ⟨none, .store 1 (.t 57) (.t 55), [], none⟩]
def c_pattern_regular_row.r14 : List CI :=
  [⟨some 59, .bin .eql (.t 33) (.c (.int .u8 63)), [], none⟩,
   ⟨some 58, .mv (.t 59), [], none⟩]
def c_pattern_regular_row.r15 : List CI :=
  [⟨some 60, .load 6 true (.t 6), [], none⟩,
   ⟨some 61, .bslice 6 1 [.int .i64 0, .int .u64 0, .int .u64 0, .int .u64 0, .int .u64 0, .sl none 0 0] [(0, (.t 60))], [], none⟩,
   ⟨some 62, .build [.int .i64 0, .int .u64 0, .int .u64 0, .int .u64 0, .int .u64 0, .sl none 0 0] [(0, 1, (.c (.int .i64 7))), (5, 1, (.t 61))], [], none⟩,
   ⟨none, .store 6 (.t 6) (.t 62), [], none⟩]
def c_pattern_regular_row.r16 : List CI :=
  [⟨some 63, .mv (.t 0), [], none⟩,
   ⟨some 64, .nilck (.t 63), [], none⟩,
   ⟨some 65, .fadr 1 (.t 64), [], none⟩,
   ⟨some 66, .load 1 false (.t 65), [], none⟩,
   ⟨some 67, .bin .add (.t 66) (.c (.int .i64 1)), [], none⟩,
   ⟨some 68, .nilck (.t 63), [], none⟩,
   ⟨some 69, .fadr 1 (.t 68), [], none⟩,
   ⟨none, .store 1 (.t 69) (.t 67), [], none⟩]
def c_pattern_regular_row.r17 : List CI :=
  [⟨some 70, .mv (.t 3), [], none⟩,
   ⟨some 71, .load 6 true (.t 6), [], none⟩,
   ⟨some 72, .bslice 6 1 [.int .i64 0, .int .u64 0, .int .u64 0, .int .u64 0, .int .u64 0, .sl none 0 0] [(0, (.t 71))], [], none⟩,
   ⟨some 73, .app 151 6 64 [.int .i64 0, .int .u64 0, .int .u64 0, .int .u64 0, .int .u64 0, .sl none 0 0] (.t 70) (.t 72), [], none⟩,
   ⟨some 3, .mv (.t 73), [], none⟩]
def c_pattern_regular_row : CF := { nt := 74, res := [.cell 2 6 true], body :=
  (.seq (.region false c_pattern_regular_row.r0) (.seq (.region false c_pattern_regular_row.r1) (.block 0 (.loop [0, 2, 3] (.block 1 (.seq (.region false c_pattern_regular_row.r2) (.seq (.seq (.region false c_pattern_regular_row.r3) (.cond (.t 23) (.seq (.region false c_pattern_regular_row.r4) .ret) .skip)) (.seq (.region false c_pattern_regular_row.r5) (.seqK [0, 2, 3, 6] (.seq (.region false c_pattern_regular_row.r6) (.seq (.region false c_pattern_regular_row.r7) (.block 2 (.seq (.region false c_pattern_regular_row.r8) (.cond (.t 34) (.seq (.region false c_pattern_regular_row.r9) (.region false c_pattern_regular_row.r10)) (.seq (.region false c_pattern_regular_row.r11) (.cond (.t 46) (.seq (.region false c_pattern_regular_row.r12) (.region false c_pattern_regular_row.r13)) (.seq (.region false c_pattern_regular_row.r14) (.cond (.t 58) (.seq (.region false c_pattern_regular_row.r15) (.region false c_pattern_regular_row.r16)) .skip))))))))) (.region false c_pattern_regular_row.r17)))))))))) }
theorem k_pattern_regular_row : chkF Go.Proofs.Tryz.prog n_pattern_regular_row c_pattern_regular_row = true := by kernel_rfl

def c_pattern_Quoted_1.r0 : List CI :=
  [⟨some 6, .tas 201 (.int .i64 0) true (.t 5), [], none⟩,
   ⟨some 7, .ext (.t 6) 1, [], none⟩,
   ⟨some 8, .ext (.t 6) 0, [], none⟩]
def c_pattern_Quoted_1.r1 : List CI :=
  [⟨some 3, .mv (.t 8), [], none⟩]
def c_pattern_Quoted_1.r2 : List CI :=
  [⟨some 9, .mv (.t 3), [], none⟩,
   ⟨some 10, .build [.int .i64 0, .int .i64 0] [(0, 1, (.c (.int .i64 6))), (1, 1, (.t 9))], [], none⟩,
   ⟨none, .store 1 (.t 0) (.c (.str [])), [], none⟩,
   ⟨none, .store 1 (.t 1) (.c (.int .i64 0)), [], none⟩,
   ⟨none, .store 2 (.t 2) (.t 10), [], none⟩]
def c_pattern_Quoted_1.r3 : List CI :=
  [⟨some 11, .tas 245 (.int .i64 0) true (.t 5), [], none⟩,
   ⟨some 12, .ext (.t 11) 1, [], none⟩,
   ⟨some 13, .ext (.t 11) 0, [], none⟩]
def c_pattern_Quoted_1.r4 : List CI :=
  [⟨some 4, .mv (.t 13), [], none⟩]
def c_pattern_Quoted_1.r5 : List CI :=
  [⟨some 14, .mv (.t 4), [], none⟩,
   ⟨some 15, .build [.int .i64 0, .int .i64 0] [(0, 1, (.c (.int .i64 3))), (1, 1, (.t 14))], [], none⟩,
   ⟨none, .store 1 (.t 0) (.c (.str [])), [], none⟩,
   ⟨none, .store 1 (.t 1) (.c (.int .i64 0)), [], none⟩,
   ⟨none, .store 2 (.t 2) (.t 15), [], none⟩]
def c_pattern_Quoted_1 : CF := { nt := 16, res := [], body :=
  (.seq (.region false [⟨some 5, .rcv, [], none⟩]) (.block 0 (.seq (.region false c_pattern_Quoted_1.r0) (.cond (.t 7) (.seq (.region false c_pattern_Quoted_1.r1) (.region false c_pattern_Quoted_1.r2)) (.seq (.region false c_pattern_Quoted_1.r3) (.cond (.t 12) (.seq (.region false c_pattern_Quoted_1.r4) (.region false c_pattern_Quoted_1.r5)) .skip)))))) }
theorem k_pattern_Quoted_1 : chkF Go.Proofs.Tryz.prog n_pattern_Quoted_1 c_pattern_Quoted_1 = true := by kernel_rfl

def c_pattern_scan.r0 : List CI :=
  [⟨some 3, .box 9 (.t 0), [], none⟩,
   ⟨some 4, .box 3 (.t 1), [], none⟩,
   ⟨some 6, .mv (.c (.str [])), [], none⟩,
   ⟨some 7, .mv (.c (.sl none 0 0)), [], none⟩]
def c_pattern_scan.r1 : List CI :=
  [⟨some 15, .mkF n_pattern_scan_1 [] [(.t 4), (.t 3)], [], none⟩,
   ⟨some 8, .mv (.t 15), [], none⟩]
def c_pattern_scan.r2 : List CI :=
  [⟨some 16, .mv (.t 8), [], none⟩,
   ⟨some 17, .callV (.t 16) [(.f n_pattern_scan_2)], [], none⟩]
def c_pattern_scan.r3 : List CI :=
  [⟨some 9, .mv (.c (.sl none 0 0)), [], none⟩]
def c_pattern_scan.r4 : List CI :=
  [⟨some 10, .mv (.c (.sl none 0 0)), [], none⟩]
def c_pattern_scan.r5 : List CI :=
  [⟨some 18, .mv (.t 10), [], none⟩,
   ⟨some 19, .load 1 false (.t 4), [], none⟩,
   ⟨some 20, .bslice 1 1 [.int .i64 0] [(0, (.t 19))], [], none⟩,
   ⟨some 21, .app 3 1 8 [.int .i64 0] (.t 18) (.t 20), [], none⟩,
   ⟨some 10, .mv (.t 21), [], none⟩]
def c_pattern_scan.r6 : List CI :=
  [⟨some 22, .mv (.t 9), [], none⟩,
   ⟨some 23, .lenV (.t 22), [], none⟩,
   ⟨some 24, .mv (.t 2), [], none⟩,
   ⟨some 25, .bin .eql (.t 23) (.t 24), [], none⟩,
   ⟨some 26, .mv (.t 25), [], none⟩,
   ⟨some 27, .load 1 false (.t 4), [], (some (4, true))⟩,
   ⟨some 28, .load 1 false (.t 3), [], (some (4, true))⟩,
   ⟨some 29, .lenS (.t 28), [], (some (4, true))⟩,
   ⟨some 30, .bin .geq (.t 27) (.t 29), [], (some (4, true))⟩,
   ⟨some 31, .mv (.t 30), [], (some (4, true))⟩,
   ⟨some 32, .load 1 false (.t 3), [], (some (9, false))⟩,
   ⟨some 33, .load 1 false (.t 4), [], (some (9, false))⟩,
   ⟨some 34, .idxS (.t 32) (.t 33), [], (some (9, false))⟩,
   ⟨some 35, .bin .neq (.t 34) (.c (.int .u8 34)), [], (some (9, false))⟩,
   ⟨some 36, .pick (.t 31) (.c (.bool true)) (.t 35), [], (some (4, true))⟩,
   ⟨some 37, .pick (.t 26) (.t 36) (.c (.bool false)), [], none⟩]
def c_pattern_scan.r7 : List CI :=
  [⟨some 38, .load 1 false (.t 4), [], none⟩,
   ⟨some 39, .mkI 245 (.t 38), [], none⟩,
   ⟨none, .pan (.t 39), [], none⟩]
def c_pattern_scan.r8 : List CI :=
  [⟨some 40, .mv (.t 8), [], none⟩,
   ⟨some 41, .callV (.t 40) [(.f n_pattern_scan_3)], [], none⟩,
   ⟨some 11, .mv (.t 41), [], none⟩]
def c_pattern_scan.r9 : List CI :=
  [⟨some 42, .mv (.t 11), [], none⟩,
   ⟨some 43, .bin .eql (.t 42) (.c (.int .u8 34)), [], none⟩]
def c_pattern_scan.r10 : List CI :=
  [⟨some 44, .mv (.t 9), [], none⟩,
   ⟨some 45, .b2s (.t 44), [], none⟩,
   ⟨some 46, .mv (.t 10), [], none⟩,
   ⟨some 6, .mv (.t 45), [], none⟩,
   ⟨some 7, .mv (.t 46), [], none⟩]
def c_pattern_scan.r11 : List CI :=
  [⟨some 47, .mv (.t 11), [], none⟩,
   ⟨some 48, .bin .neq (.t 47) (.c (.int .u8 92)), [], none⟩]
def c_pattern_scan.r12 : List CI :=
  [⟨some 49, .mv (.t 9), [], none⟩,
   ⟨some 50, .mv (.t 11), [], none⟩,
   ⟨some 51, .bslice 1 1 [.int .u8 0] [(0, (.t 50))], [], none⟩,
   ⟨some 52, .app 5 1 1 [.int .u8 0] (.t 49) (.t 51), [], none⟩,
   ⟨some 9, .mv (.t 52), [], none⟩]
def c_pattern_scan.r13 : List CI :=
  [⟨some 53, .mv (.t 8), [], none⟩,
   ⟨some 54, .callV (.t 53) [(.f n_pattern_scan_4)], [], none⟩,
   ⟨some 11, .mv (.t 54), [], none⟩]
def c_pattern_scan.r14 : List CI :=
  [⟨some 55, .mv (.t 11), [], none⟩]
def c_pattern_scan.r15 : List CI :=
  [⟨some 57, .bin .eql (.t 55) (.c (.int .u8 110)), [], none⟩,
   ⟨some 56, .mv (.t 57), [], none⟩]
def c_pattern_scan.r16 : List CI :=
  [⟨some 11, .mv (.c (.int .u8 10)), [], none⟩]
def c_pattern_scan.r17 : List CI :=
  [⟨some 59, .bin .eql (.t 55) (.c (.int .u8 114)), [], none⟩,
   ⟨some 58, .mv (.t 59), [], none⟩]
def c_pattern_scan.r18 : List CI :=
  [⟨some 11, .mv (.c (.int .u8 13)), [], none⟩]
def c_pattern_scan.r19 : List CI :=
  [⟨some 61, .bin .eql (.t 55) (.c (.int .u8 116)), [], none⟩,
   ⟨some 60, .mv (.t 61), [], none⟩]
def c_pattern_scan.r20 : List CI :=
  [⟨some 11, .mv (.c (.int .u8 9)), [], none⟩]
def c_pattern_scan.r21 : List CI :=
  [⟨some 63, .bin .eql (.t 55) (.c (.int .u8 120)), [], none⟩,
   ⟨some 62, .mv (.t 63), [], none⟩]
def c_pattern_scan.r22 : List CI :=
  [⟨some 64, .mv (.t 8), [], none⟩,
   ⟨some 65, .callV (.t 64) [(.f n_pattern_scan_5)], [], none⟩,
   ⟨some 12, .mv (.t 65), [], none⟩]
def c_pattern_scan.r23 : List CI :=
  [⟨some 66, .mv (.t 12), [], none⟩,
   ⟨some 67, .call n_strings_IndexByte [(.c (.str [48, 49, 50, 51, 52, 53, 54, 55, 56, 57, 97, 98, 99, 100, 101, 102])), (.t 66)], [], none⟩,
   ⟨some 13, .alloc 3 [.int .i64 0], [], none⟩,
   ⟨none, .store 1 (.t 13) (.t 67), [], none⟩]
def c_pattern_scan.r24 : List CI :=
  [⟨some 68, .mv (.t 8), [], none⟩,
   ⟨some 69, .mkF n_pattern_scan_6 [] [(.t 13)], [], none⟩,
   ⟨some 70, .callV (.t 68) [(.t 69)], [], none⟩,
   ⟨some 14, .mv (.t 70), [], none⟩]
def c_pattern_scan.r25 : List CI :=
  [⟨some 71, .load 1 false (.t 13), [], none⟩,
   ⟨some 72, .bin .shl (.t 71) (.c (.int .u64 4)), [0], none⟩,
   ⟨some 73, .mv (.t 14), [], none⟩,
   ⟨some 74, .call n_strings_IndexByte [(.c (.str [48, 49, 50, 51, 52, 53, 54, 55, 56, 57, 97, 98, 99, 100, 101, 102])), (.t 73)], [2], none⟩,
   ⟨some 75, .bin .or (.t 72) (.t 74), [1, 3], none⟩,
   ⟨some 76, .toInt .u8 (.t 75), [4], none⟩,
   ⟨some 11, .mv (.t 76), [5, 3, 0, 1, 2, 3, 4, 5], none⟩]
def c_pattern_scan.r26 : List CI :=
  [⟨some 77, .mv (.t 9), [], none⟩,
   ⟨some 78, .mv (.t 11), [], none⟩,
   ⟨some 79, .bslice 1 1 [.int .u8 0] [(0, (.t 78))], [], none⟩,
   ⟨some 80, .app 5 1 1 [.int .u8 0] (.t 77) (.t 79), [], none⟩,
   ⟨some 9, .mv (.t 80), [], none⟩]
def c_pattern_scan : CF := { nt := 81, res := [.tmp 6, .tmp 7], body :=
  (.seq (.region false c_pattern_scan.r0) (.seq (.region false c_pattern_scan.r1) (.seq (.region false c_pattern_scan.r2) (.seq (.region false c_pattern_scan.r3) (.seq (.region false c_pattern_scan.r4) (.block 0 (.loop [2, 3, 4, 8, 9, 10] (.block 1 (.seq (.region false c_pattern_scan.r5) (.seqK [2, 3, 4, 8, 9, 10] (.seq (.region false c_pattern_scan.r6) (.cond (.t 37) (.region false c_pattern_scan.r7) .skip)) (.seq (.region false c_pattern_scan.r8) (.seq (.seq (.region false c_pattern_scan.r9) (.cond (.t 43) (.seq (.region false c_pattern_scan.r10) .ret) .skip)) (.seq (.seq (.region false c_pattern_scan.r11) (.cond (.t 48) (.seq (.region false c_pattern_scan.r12) (.exit 1)) .skip)) (.seqK [2, 3, 4, 8, 9, 10, 11] (.seq (.region false c_pattern_scan.r13) (.seq (.region false c_pattern_scan.r14) (.block 2 (.seq (.region false c_pattern_scan.r15) (.cond (.t 56) (.region false c_pattern_scan.r16) (.seq (.region false c_pattern_scan.r17) (.cond (.t 58) (.region false c_pattern_scan.r18) (.seq (.region false c_pattern_scan.r19) (.cond (.t 60) (.region false c_pattern_scan.r20) (.seq (.region false c_pattern_scan.r21) (.cond (.t 62) (.seq (.region false c_pattern_scan.r22) (.seq (.region false c_pattern_scan.r23) (.seq (.region false c_pattern_scan.r24) (.regionP [0, 1, 2, 3, 4, 5, 6] [] c_pattern_scan.r25)))) .skip))))))))))) (.region false c_pattern_scan.r26))))))))))))))) }
theorem k_pattern_scan : chkF Go.Proofs.Tryz.prog n_pattern_scan c_pattern_scan = true := by kernel_rfl

def c_strings_Builder_copyCheck.r0 : List CI :=
  [⟨some 2, .mv (.t 0), [], none⟩,
   ⟨some 3, .nilck (.t 2), [], none⟩,
   ⟨some 4, .fadr 0 (.t 3), [], none⟩,
   ⟨some 5, .load 1 false (.t 4), [], none⟩,
   ⟨some 6, .eqn false 0 (.t 5) (.c (.ptr none)), [], none⟩]
def c_strings_Builder_copyCheck.r1 : List CI :=
  [⟨some 7, .mv (.t 0), [], none⟩,
   ⟨some 8, .mv (.t 0), [], none⟩,
   ⟨some 9, .upt (.t 8), [], none⟩,
   ⟨some 10, .noe (.t 9), [], none⟩,
   ⟨some 11, .ufp [(171, 2, 0), (172, 2, 0), (173, 2, 0)] (.t 10), [], none⟩,
   ⟨some 12, .nilck (.t 7), [], none⟩,
   ⟨some 13, .fadr 0 (.t 12), [], none⟩,
   ⟨none, .store 1 (.t 13) (.t 11), [], none⟩]
def c_strings_Builder_copyCheck.r2 : List CI :=
  [⟨some 14, .mv (.t 0), [], none⟩,
   ⟨some 15, .nilck (.t 14), [], none⟩,
   ⟨some 16, .fadr 0 (.t 15), [], none⟩,
   ⟨some 17, .load 1 false (.t 16), [], none⟩,
   ⟨some 18, .mv (.t 0), [], none⟩,
   ⟨some 19, .eqn true 0 (.t 17) (.t 18), [], none⟩]
def c_strings_Builder_copyCheck : CF := { nt := 20, res := [], body :=
  (.seq (.region false c_strings_Builder_copyCheck.r0) (.cond (.t 6) (.region false c_strings_Builder_copyCheck.r1) (.seq (.region false c_strings_Builder_copyCheck.r2) (.cond (.t 19) .refuse .skip)))) }
theorem k_strings_Builder_copyCheck : chkF Go.Proofs.Tryz.prog n_strings_Builder_copyCheck c_strings_Builder_copyCheck = true := by kernel_rfl

def c_pattern_plain.r0 : List CI :=
  [⟨some 2, .mv (.c (.bool false)), [], none⟩]
def c_pattern_plain.r1 : List CI :=
  [⟨some 3, .mv (.t 0), [], none⟩,
   ⟨some 4, .bin .geq (.t 3) (.c (.int .u8 32)), [], none⟩,
   ⟨some 5, .mv (.t 4), [], none⟩,
   ⟨some 6, .mv (.t 0), [], (some (2, true))⟩,
   ⟨some 7, .bin .leq (.t 6) (.c (.int .u8 126)), [], (some (2, true))⟩,
   ⟨some 8, .pick (.t 5) (.t 7) (.c (.bool false)), [], none⟩,
   ⟨some 9, .mv (.t 8), [], none⟩,
   ⟨some 10, .mv (.t 0), [], (some (6, true))⟩,
   ⟨some 11, .bin .neq (.t 10) (.c (.int .u8 34)), [], (some (6, true))⟩,
   ⟨some 12, .pick (.t 9) (.t 11) (.c (.bool false)), [], none⟩,
   ⟨some 13, .mv (.t 12), [], none⟩,
   ⟨some 14, .mv (.t 0), [], (some (10, true))⟩,
   ⟨some 15, .bin .neq (.t 14) (.c (.int .u8 92)), [], (some (10, true))⟩,
   ⟨some 16, .pick (.t 13) (.t 15) (.c (.bool false)), [], none⟩,
   ⟨some 2, .mv (.t 16), [], none⟩]
def c_pattern_plain : CF := { nt := 17, res := [.tmp 2], body :=
  (.seq (.region false c_pattern_plain.r0) (.seq (.region false c_pattern_plain.r1) .ret)) }
theorem k_pattern_plain : chkF Go.Proofs.Tryz.prog n_pattern_plain c_pattern_plain = true := by kernel_rfl

def c_pattern_short.r0 : List CI :=
  [⟨some 2, .mv (.c (.int .u8 0)), [], none⟩,
   ⟨some 3, .mv (.c (.bool false)), [], none⟩]
def c_pattern_short.r1 : List CI :=
  [⟨some 4, .mv (.t 0), [], none⟩]
def c_pattern_short.r2 : List CI :=
  [⟨some 6, .bin .eql (.t 4) (.c (.int .u8 34)), [], none⟩,
   ⟨some 5, .mv (.t 6), [], none⟩]
def c_pattern_short.r3 : List CI :=
  [⟨some 7, .bin .eql (.t 4) (.c (.int .u8 92)), [], none⟩,
   ⟨some 5, .mv (.t 7), [], none⟩]
def c_pattern_short.r4 : List CI :=
  [⟨some 8, .mv (.t 0), [], none⟩,
   ⟨some 2, .mv (.t 8), [], none⟩,
   ⟨some 3, .mv (.c (.bool true)), [], none⟩]
def c_pattern_short.r5 : List CI :=
  [⟨some 10, .bin .eql (.t 4) (.c (.int .u8 10)), [], none⟩,
   ⟨some 9, .mv (.t 10), [], none⟩]
def c_pattern_short.r6 : List CI :=
  [⟨some 2, .mv (.c (.int .u8 110)), [], none⟩,
   ⟨some 3, .mv (.c (.bool true)), [], none⟩]
def c_pattern_short.r7 : List CI :=
  [⟨some 12, .bin .eql (.t 4) (.c (.int .u8 13)), [], none⟩,
   ⟨some 11, .mv (.t 12), [], none⟩]
def c_pattern_short.r8 : List CI :=
  [⟨some 2, .mv (.c (.int .u8 114)), [], none⟩,
   ⟨some 3, .mv (.c (.bool true)), [], none⟩]
def c_pattern_short.r9 : List CI :=
  [⟨some 14, .bin .eql (.t 4) (.c (.int .u8 9)), [], none⟩,
   ⟨some 13, .mv (.t 14), [], none⟩]
def c_pattern_short.r10 : List CI :=
  [⟨some 2, .mv (.c (.int .u8 116)), [], none⟩,
   ⟨some 3, .mv (.c (.bool true)), [], none⟩]
def c_pattern_short.r11 : List CI :=
  [⟨some 2, .mv (.c (.int .u8 0)), [], none⟩,
   ⟨some 3, .mv (.c (.bool false)), [], none⟩]
def c_pattern_short : CF := { nt := 15, res := [.tmp 2, .tmp 3], body :=
  (.seq (.region false c_pattern_short.r0) (.seq (.seq (.region false c_pattern_short.r1) (.block 0 (.seqK [0, 4, 5] (.seq (.region false c_pattern_short.r2) (.cond (.t 5) .skip (.region false c_pattern_short.r3))) (.cond (.t 5) (.seq (.region false c_pattern_short.r4) .ret) (.seq (.region false c_pattern_short.r5) (.cond (.t 9) (.seq (.region false c_pattern_short.r6) .ret) (.seq (.region false c_pattern_short.r7) (.cond (.t 11) (.seq (.region false c_pattern_short.r8) .ret) (.seq (.region false c_pattern_short.r9) (.cond (.t 13) (.seq (.region false c_pattern_short.r10) .ret) .skip)))))))))) (.seq (.region false c_pattern_short.r11) .ret))) }
theorem k_pattern_short : chkF Go.Proofs.Tryz.prog n_pattern_short c_pattern_short = true := by kernel_rfl

def c_pattern_regular_atom.r0 : List CI :=
  [⟨some 2, .alloc 151 [.int .i64 0, .int .u64 0, .int .u64 0, .int .u64 0, .int .u64 0, .sl none 0 0], [], none⟩]
def c_pattern_regular_atom.r1 : List CI :=
  [⟨some 7, .mv (.t 0), [], none⟩,
   ⟨some 8, .call n_pattern_regular_take [(.t 7)], [], none⟩,
   ⟨some 3, .mv (.t 8), [], none⟩]
def c_pattern_regular_atom.r2 : List CI :=
  [⟨some 9, .mv (.t 3), [], none⟩]
def c_pattern_regular_atom.r3 : List CI :=
  [⟨some 13, .bin .eql (.t 9) (.c (.int .u8 40)), [], none⟩,
   ⟨some 12, .mv (.t 13), [], none⟩]
def c_pattern_regular_atom.r4 : List CI :=
  [⟨some 14, .mv (.t 0), [], none⟩,
   ⟨some 15, .call n_pattern_regular_either [(.t 14)], [], none⟩,
   ⟨some 4, .alloc 151 [.int .i64 0, .int .u64 0, .int .u64 0, .int .u64 0, .int .u64 0, .sl none 0 0], [], none⟩,
   ⟨none, .store 6 (.t 4) (.t 15), [], none⟩]
def c_pattern_regular_atom.r5 : List CI :=
  [⟨some 17, .mv (.t 0), [], none⟩,
   ⟨some 18, .call n_pattern_regular_next [(.t 17)], [], none⟩,
   ⟨some 16, .mv (.t 18), [], none⟩,
   ⟨some 19, .ext (.t 16) 0, [], none⟩,
   ⟨some 20, .ext (.t 16) 1, [], none⟩,
   ⟨some 5, .mv (.t 19), [], none⟩,
   ⟨some 6, .mv (.t 20), [], none⟩]
def c_pattern_regular_atom.r6 : List CI :=
  [⟨some 21, .mv (.t 6), [], none⟩,
   ⟨some 22, .un .not (.t 21), [], none⟩,
   ⟨some 23, .mv (.t 22), [], none⟩,
   ⟨some 24, .mv (.t 5), [], (some (2, false))⟩,
   ⟨some 25, .bin .neq (.t 24) (.c (.int .u8 41)), [], (some (2, false))⟩,
   ⟨some 26, .pick (.t 23) (.c (.bool true)) (.t 25), [], none⟩]
def c_pattern_regular_atom.r7 : List CI :=
  [⟨some 27, .mv (.t 0), [], none⟩,
   ⟨some 28, .nilck (.t 27), [], none⟩,
   ⟨some 29, .fadr 1 (.t 28), [], none⟩,
   ⟨some 30, .load 1 false (.t 29), [], none⟩,
   ⟨some 31, .mkI 201 (.t 30), [], none⟩,
   ⟨none, .pan (.t 31), [], none⟩]
def c_pattern_regular_atom.r8 : List CI :=
  [⟨some 32, .mv (.t 0), [], none⟩,
   ⟨some 33, .nilck (.t 32), [], none⟩,
   ⟨some 34, .fadr 1 (.t 33), [], none⟩,
   ⟨some 35, .load 1 false (.t 34), [], none⟩,
   ⟨some 36, .bin .add (.t 35) (.c (.int .i64 1)), [], none⟩,
   ⟨some 37, .nilck (.t 32), [], none⟩,
   ⟨some 38, .fadr 1 (.t 37), [], none⟩,
   ⟨none, .store 1 (.t 38) (.t 36), [], none⟩]
def c_pattern_regular_atom.r9 : List CI :=
  [⟨some 39, .load 6 true (.t 4), [], none⟩,
   ⟨none, .store 6 (.t 2) (.t 39), [], none⟩]
def c_pattern_regular_atom.r10 : List CI :=
  [⟨some 41, .bin .eql (.t 9) (.c (.int .u8 91)), [], none⟩,
   ⟨some 40, .mv (.t 41), [], none⟩]
def c_pattern_regular_atom.r11 : List CI :=
  [⟨some 42, .mv (.t 0), [], none⟩,
   ⟨some 43, .call n_pattern_regular_class [(.t 42)], [], none⟩,
   ⟨none, .store 6 (.t 2) (.t 43), [], none⟩]
def c_pattern_regular_atom.r12 : List CI :=
  [⟨some 45, .bin .eql (.t 9) (.c (.int .u8 46)), [], none⟩,
   ⟨some 44, .mv (.t 45), [], none⟩]
def c_pattern_regular_atom.r13 : List CI :=
  [⟨some 46, .call n_pattern_every [], [], none⟩,
   ⟨none, .store 6 (.t 2) (.t 46), [], none⟩]
def c_pattern_regular_atom.r14 : List CI :=
  [⟨some 48, .bin .eql (.t 9) (.c (.int .u8 92)), [], none⟩,
   ⟨some 47, .mv (.t 48), [], none⟩]
def c_pattern_regular_atom.r15 : List CI :=
  [⟨some 49, .mv (.t 0), [], none⟩,
   ⟨some 50, .call n_pattern_regular_take [(.t 49)], [], none⟩,
   ⟨some 51, .call n_pattern_one [(.t 50)], [], none⟩,
   ⟨none, .store 6 (.t 2) (.t 51), [], none⟩]
def c_pattern_regular_atom.r16 : List CI :=
  [⟨some 53, .bin .eql (.t 9) (.c (.int .u8 42)), [], none⟩,
   ⟨some 52, .mv (.t 53), [], none⟩]
def c_pattern_regular_atom.r17 : List CI :=
  [⟨some 54, .bin .eql (.t 9) (.c (.int .u8 43)), [], none⟩,
   ⟨some 52, .mv (.t 54), [], none⟩]
def c_pattern_regular_atom.r18 : List CI :=
  [⟨some 55, .bin .eql (.t 9) (.c (.int .u8 63)), [], none⟩,
   ⟨some 52, .mv (.t 55), [], none⟩]
def c_pattern_regular_atom.r19 : List CI :=
  [⟨some 56, .bin .eql (.t 9) (.c (.int .u8 93)), [], none⟩,
   ⟨some 52, .mv (.t 56), [], none⟩]
def c_pattern_regular_atom.r20 : List CI :=
  [⟨some 57, .mv (.t 0), [], none⟩,
   ⟨some 58, .nilck (.t 57), [], none⟩,
   ⟨some 59, .fadr 1 (.t 58), [], none⟩,
   ⟨some 60, .load 1 false (.t 59), [], none⟩,
   ⟨some 61, .bin .sub (.t 60) (.c (.int .i64 1)), [], none⟩,
   ⟨some 62, .mkI 201 (.t 61), [], none⟩,
   ⟨none, .pan (.t 62), [], none⟩]
def c_pattern_regular_atom.r21 : List CI :=
  [⟨some 10, .mv (.t 3), [], none⟩,
   ⟨some 11, .call n_pattern_one [(.t 10)], [], none⟩,
   ⟨none, .store 6 (.t 2) (.t 11), [], none⟩]
def c_pattern_regular_atom : CF := { nt := 63, res := [.cell 2 6 true], body :=
  (.seq (.region false c_pattern_regular_atom.r0) (.seq (.region false c_pattern_regular_atom.r1) (.seq (.region false c_pattern_regular_atom.r2) (.block 0 (.seq (.region false c_pattern_regular_atom.r3) (.cond (.t 12) (.seq (.region false c_pattern_regular_atom.r4) (.seqK [0, 2, 4] (.seq (.region false c_pattern_regular_atom.r5) (.seq (.region false c_pattern_regular_atom.r6) (.cond (.t 26) (.region false c_pattern_regular_atom.r7) .skip))) (.seq (.region false c_pattern_regular_atom.r8) (.seq (.region false c_pattern_regular_atom.r9) .ret)))) (.seq (.region false c_pattern_regular_atom.r10) (.cond (.t 40) (.seq (.region false c_pattern_regular_atom.r11) .ret) (.seq (.region false c_pattern_regular_atom.r12) (.cond (.t 44) (.seq (.region false c_pattern_regular_atom.r13) .ret) (.seq (.region false c_pattern_regular_atom.r14) (.cond (.t 47) (.seq (.region false c_pattern_regular_atom.r15) .ret) (.seqK [0, 2, 3, 52] (.seq (.region false c_pattern_regular_atom.r16) (.cond (.t 52) .skip (.seq (.region false c_pattern_regular_atom.r17) (.cond (.t 52) .skip (.seq (.region false c_pattern_regular_atom.r18) (.cond (.t 52) .skip (.region false c_pattern_regular_atom.r19))))))) (.cond (.t 52) (.region false c_pattern_regular_atom.r20) (.seq (.region false c_pattern_regular_atom.r21) .ret))))))))))))))) }
theorem k_pattern_regular_atom : chkF Go.Proofs.Tryz.prog n_pattern_regular_atom c_pattern_regular_atom = true := by kernel_rfl

def c_pattern_scan_1.r0 : List CI :=
  [⟨some 4, .mv (.c (.int .u8 0)), [], none⟩]
def c_pattern_scan_1.r1 : List CI :=
  [⟨some 5, .load 1 false (.t 1), [], none⟩,
   ⟨some 6, .load 1 false (.t 2), [], none⟩,
   ⟨some 7, .lenS (.t 6), [], none⟩,
   ⟨some 8, .bin .geq (.t 5) (.t 7), [], none⟩,
   ⟨some 9, .mv (.t 8), [], none⟩,
   ⟨some 10, .mv (.t 0), [], (some (4, false))⟩,
   ⟨some 11, .load 1 false (.t 2), [], (some (4, false))⟩,
   ⟨some 12, .load 1 false (.t 1), [], (some (4, false))⟩,
   ⟨some 13, .idxS (.t 11) (.t 12), [], (some (4, false))⟩,
   ⟨some 14, .callV (.t 10) [(.t 13)], [], (some (4, false))⟩,
   ⟨some 15, .un .not (.t 14), [], (some (4, false))⟩,
   ⟨some 16, .pick (.t 9) (.c (.bool true)) (.t 15), [], none⟩]
def c_pattern_scan_1.r2 : List CI :=
  [⟨some 17, .load 1 false (.t 1), [], none⟩,
   ⟨some 18, .mkI 201 (.t 17), [], none⟩,
   ⟨none, .pan (.t 18), [], none⟩]
def c_pattern_scan_1.r3 : List CI :=
  [⟨some 19, .load 1 false (.t 1), [], none⟩,
   ⟨some 20, .bin .add (.t 19) (.c (.int .i64 1)), [], none⟩,
   ⟨none, .store 1 (.t 1) (.t 20), [], none⟩]
def c_pattern_scan_1.r4 : List CI :=
  [⟨some 21, .load 1 false (.t 2), [], none⟩,
   ⟨some 22, .load 1 false (.t 1), [], none⟩,
   ⟨some 23, .bin .sub (.t 22) (.c (.int .i64 1)), [], none⟩,
   ⟨some 24, .idxS (.t 21) (.t 23), [], none⟩,
   ⟨some 4, .mv (.t 24), [], none⟩]
def c_pattern_scan_1 : CF := { nt := 25, res := [.tmp 4], body :=
  (.seq (.region false c_pattern_scan_1.r0) (.seqK [1, 2] (.seq (.region false c_pattern_scan_1.r1) (.cond (.t 16) (.region false c_pattern_scan_1.r2) .skip)) (.seq (.region false c_pattern_scan_1.r3) (.seq (.region false c_pattern_scan_1.r4) .ret)))) }
theorem k_pattern_scan_1 : chkF Go.Proofs.Tryz.prog n_pattern_scan_1 c_pattern_scan_1 = true := by kernel_rfl

def c_pattern_scan_2.r0 : List CI :=
  [⟨some 2, .mv (.c (.bool false)), [], none⟩]
def c_pattern_scan_2.r1 : List CI :=
  [⟨some 3, .mv (.t 0), [], none⟩,
   ⟨some 4, .bin .eql (.t 3) (.c (.int .u8 34)), [], none⟩,
   ⟨some 2, .mv (.t 4), [], none⟩]
def c_pattern_scan_2 : CF := { nt := 5, res := [.tmp 2], body :=
  (.seq (.region false c_pattern_scan_2.r0) (.seq (.region false c_pattern_scan_2.r1) .ret)) }
theorem k_pattern_scan_2 : chkF Go.Proofs.Tryz.prog n_pattern_scan_2 c_pattern_scan_2 = true := by kernel_rfl

def c_pattern_scan_3.r0 : List CI :=
  [⟨some 2, .mv (.c (.bool false)), [], none⟩]
def c_pattern_scan_3.r1 : List CI :=
  [⟨some 3, .mv (.t 0), [], none⟩,
   ⟨some 4, .call n_pattern_plain [(.t 3)], [], none⟩,
   ⟨some 5, .mv (.t 4), [], none⟩,
   ⟨some 6, .mv (.t 0), [], (some (2, false))⟩,
   ⟨some 7, .bin .eql (.t 6) (.c (.int .u8 34)), [], (some (2, false))⟩,
   ⟨some 8, .pick (.t 5) (.c (.bool true)) (.t 7), [], none⟩,
   ⟨some 9, .mv (.t 8), [], none⟩,
   ⟨some 10, .mv (.t 0), [], (some (6, false))⟩,
   ⟨some 11, .bin .eql (.t 10) (.c (.int .u8 92)), [], (some (6, false))⟩,
   ⟨some 12, .pick (.t 9) (.c (.bool true)) (.t 11), [], none⟩,
   ⟨some 2, .mv (.t 12), [], none⟩]
def c_pattern_scan_3 : CF := { nt := 13, res := [.tmp 2], body :=
  (.seq (.region false c_pattern_scan_3.r0) (.seq (.region false c_pattern_scan_3.r1) .ret)) }
theorem k_pattern_scan_3 : chkF Go.Proofs.Tryz.prog n_pattern_scan_3 c_pattern_scan_3 = true := by kernel_rfl

def c_pattern_scan_4.r0 : List CI :=
  [⟨some 2, .mv (.c (.bool false)), [], none⟩]
def c_pattern_scan_4.r1 : List CI :=
  [⟨some 3, .mv (.t 0), [], none⟩,
   ⟨some 4, .call n_strings_IndexByte [(.c (.str [34, 92, 110, 114, 116, 120])), (.t 3)], [], none⟩,
   ⟨some 5, .bin .geq (.t 4) (.c (.int .i64 0)), [], none⟩,
   ⟨some 2, .mv (.t 5), [], none⟩]
def c_pattern_scan_4 : CF := { nt := 6, res := [.tmp 2], body :=
  (.seq (.region false c_pattern_scan_4.r0) (.seq (.region false c_pattern_scan_4.r1) .ret)) }
theorem k_pattern_scan_4 : chkF Go.Proofs.Tryz.prog n_pattern_scan_4 c_pattern_scan_4 = true := by kernel_rfl

def c_pattern_scan_5.r0 : List CI :=
  [⟨some 2, .mv (.c (.bool false)), [], none⟩]
def c_pattern_scan_5.r1 : List CI :=
  [⟨some 3, .mv (.t 0), [], none⟩,
   ⟨some 4, .bin .eql (.t 3) (.c (.int .u8 48)), [], none⟩,
   ⟨some 5, .mv (.t 4), [], none⟩,
   ⟨some 6, .mv (.t 0), [], (some (2, false))⟩,
   ⟨some 7, .bin .eql (.t 6) (.c (.int .u8 49)), [], (some (2, false))⟩,
   ⟨some 8, .pick (.t 5) (.c (.bool true)) (.t 7), [], none⟩,
   ⟨some 9, .mv (.t 8), [], none⟩,
   ⟨some 10, .mv (.t 0), [], (some (6, false))⟩,
   ⟨some 11, .bin .geq (.t 10) (.c (.int .u8 55)), [], (some (6, false))⟩,
   ⟨some 12, .mv (.t 11), [], (some (6, false))⟩,
   ⟨some 13, .mv (.t 0), [], (some (9, true))⟩,
   ⟨some 14, .bin .leq (.t 13) (.c (.int .u8 57)), [], (some (9, true))⟩,
   ⟨some 15, .pick (.t 12) (.t 14) (.c (.bool false)), [], (some (6, false))⟩,
   ⟨some 16, .pick (.t 9) (.c (.bool true)) (.t 15), [], none⟩,
   ⟨some 17, .mv (.t 16), [], none⟩,
   ⟨some 18, .mv (.t 0), [], (some (14, false))⟩,
   ⟨some 19, .bin .geq (.t 18) (.c (.int .u8 97)), [], (some (14, false))⟩,
   ⟨some 20, .mv (.t 19), [], (some (14, false))⟩,
   ⟨some 21, .mv (.t 0), [], (some (17, true))⟩,
   ⟨some 22, .bin .leq (.t 21) (.c (.int .u8 102)), [], (some (17, true))⟩,
   ⟨some 23, .pick (.t 20) (.t 22) (.c (.bool false)), [], (some (14, false))⟩,
   ⟨some 24, .pick (.t 17) (.c (.bool true)) (.t 23), [], none⟩,
   ⟨some 2, .mv (.t 24), [], none⟩]
def c_pattern_scan_5 : CF := { nt := 25, res := [.tmp 2], body :=
  (.seq (.region false c_pattern_scan_5.r0) (.seq (.region false c_pattern_scan_5.r1) .ret)) }
theorem k_pattern_scan_5 : chkF Go.Proofs.Tryz.prog n_pattern_scan_5 c_pattern_scan_5 = true := by kernel_rfl

def c_pattern_scan_6.r0 : List CI :=
  [⟨some 3, .mv (.c (.bool false)), [], none⟩]
def c_pattern_scan_6.r1 : List CI :=
  [⟨some 8, .mv (.t 0), [], none⟩,
   ⟨some 9, .call n_strings_IndexByte [(.c (.str [48, 49, 50, 51, 52, 53, 54, 55, 56, 57, 97, 98, 99, 100, 101, 102])), (.t 8)], [], none⟩,
   ⟨some 4, .mv (.t 9), [], none⟩]
def c_pattern_scan_6.r2 : List CI :=
  [⟨some 10, .mv (.t 4), [], none⟩,
   ⟨some 11, .bin .lss (.t 10) (.c (.int .i64 0)), [], none⟩]
def c_pattern_scan_6.r3 : List CI :=
  [⟨some 3, .mv (.c (.bool false)), [], none⟩]
def c_pattern_scan_6.r4 : List CI :=
  [⟨some 12, .load 1 false (.t 1), [], none⟩,
   ⟨some 13, .bin .shl (.t 12) (.c (.int .u64 4)), [], none⟩,
   ⟨some 14, .mv (.t 4), [], none⟩,
   ⟨some 15, .bin .or (.t 13) (.t 14), [], none⟩,
   ⟨some 16, .toInt .u8 (.t 15), [], none⟩,
   ⟨some 5, .mv (.t 16), [], none⟩]
def c_pattern_scan_6.r5 : List CI :=
  [⟨some 18, .mv (.t 5), [], none⟩,
   ⟨some 19, .call n_pattern_short [(.t 18)], [], none⟩,
   ⟨some 17, .mv (.t 19), [], none⟩,
   ⟨some 20, .ext (.t 17) 0, [], none⟩,
   ⟨some 21, .ext (.t 17) 1, [], none⟩,
   ⟨some 6, .mv (.t 20), [], none⟩,
   ⟨some 7, .mv (.t 21), [], none⟩]
def c_pattern_scan_6.r6 : List CI :=
  [⟨some 22, .mv (.t 5), [], none⟩,
   ⟨some 23, .call n_pattern_plain [(.t 22)], [], none⟩,
   ⟨some 24, .un .not (.t 23), [], none⟩,
   ⟨some 25, .mv (.t 24), [], none⟩,
   ⟨some 26, .mv (.t 7), [], (some (3, true))⟩,
   ⟨some 27, .un .not (.t 26), [], (some (3, true))⟩,
   ⟨some 28, .pick (.t 25) (.t 27) (.c (.bool false)), [], none⟩,
   ⟨some 3, .mv (.t 28), [], none⟩]
def c_pattern_scan_6 : CF := { nt := 29, res := [.tmp 3], body :=
  (.seq (.region false c_pattern_scan_6.r0) (.seq (.region false c_pattern_scan_6.r1) (.seq (.seq (.region false c_pattern_scan_6.r2) (.cond (.t 11) (.seq (.region false c_pattern_scan_6.r3) .ret) .skip)) (.seq (.region false c_pattern_scan_6.r4) (.seq (.region false c_pattern_scan_6.r5) (.seq (.region false c_pattern_scan_6.r6) .ret)))))) }
theorem k_pattern_scan_6 : chkF Go.Proofs.Tryz.prog n_pattern_scan_6 c_pattern_scan_6 = true := by kernel_rfl

def c_pattern_regular_take.r0 : List CI :=
  [⟨some 2, .mv (.c (.int .u8 0)), [], none⟩]
def c_pattern_regular_take.r1 : List CI :=
  [⟨some 6, .mv (.t 0), [], none⟩,
   ⟨some 7, .call n_pattern_regular_next [(.t 6)], [], none⟩,
   ⟨some 5, .mv (.t 7), [], none⟩,
   ⟨some 8, .ext (.t 5) 0, [], none⟩,
   ⟨some 9, .ext (.t 5) 1, [], none⟩,
   ⟨some 3, .mv (.t 8), [], none⟩,
   ⟨some 4, .mv (.t 9), [], none⟩]
def c_pattern_regular_take.r2 : List CI :=
  [⟨some 10, .mv (.t 4), [], none⟩,
   ⟨some 11, .un .not (.t 10), [], none⟩]
def c_pattern_regular_take.r3 : List CI :=
  [⟨some 12, .mv (.t 0), [], none⟩,
   ⟨some 13, .nilck (.t 12), [], none⟩,
   ⟨some 14, .fadr 1 (.t 13), [], none⟩,
   ⟨some 15, .load 1 false (.t 14), [], none⟩,
   ⟨some 16, .mkI 201 (.t 15), [], none⟩,
   ⟨none, .pan (.t 16), [], none⟩]
def c_pattern_regular_take.r4 : List CI :=
  [⟨some 17, .mv (.t 0), [], none⟩,
   ⟨some 18, .nilck (.t 17), [], none⟩,
   ⟨some 19, .fadr 1 (.t 18), [], none⟩,
   ⟨some 20, .load 1 false (.t 19), [], none⟩,
   ⟨some 21, .bin .add (.t 20) (.c (.int .i64 1)), [], none⟩,
   ⟨some 22, .nilck (.t 17), [], none⟩,
   ⟨some 23, .fadr 1 (.t 22), [], none⟩,
   ⟨none, .store 1 (.t 23) (.t 21), [], none⟩]
def c_pattern_regular_take.r5 : List CI :=
  [⟨some 24, .mv (.t 3), [], none⟩,
   ⟨some 2, .mv (.t 24), [], none⟩]
def c_pattern_regular_take : CF := { nt := 25, res := [.tmp 2], body :=
  (.seq (.region false c_pattern_regular_take.r0) (.seq (.region false c_pattern_regular_take.r1) (.seqK [0, 3] (.seq (.region false c_pattern_regular_take.r2) (.cond (.t 11) (.region false c_pattern_regular_take.r3) .skip)) (.seq (.region false c_pattern_regular_take.r4) (.seq (.region false c_pattern_regular_take.r5) .ret))))) }
theorem k_pattern_regular_take : chkF Go.Proofs.Tryz.prog n_pattern_regular_take c_pattern_regular_take = true := by kernel_rfl

def c_pattern_regular_class.r0 : List CI :=
  [⟨some 2, .alloc 151 [.int .i64 0, .int .u64 0, .int .u64 0, .int .u64 0, .int .u64 0, .sl none 0 0], [], none⟩]
def c_pattern_regular_class.r1 : List CI :=
  [⟨some 3, .alloc 148 [.int .u64 0, .int .u64 0, .int .u64 0, .int .u64 0], [], none⟩]
def c_pattern_regular_class.r2 : List CI :=
  [⟨some 4, .mv (.c (.bool false)), [], none⟩]
def c_pattern_regular_class.r3 : List CI :=
  [⟨some 17, .mv (.t 0), [], none⟩,
   ⟨some 18, .call n_pattern_regular_next [(.t 17)], [], none⟩,
   ⟨some 16, .mv (.t 18), [], none⟩,
   ⟨some 19, .ext (.t 16) 0, [], none⟩,
   ⟨some 20, .ext (.t 16) 1, [], none⟩,
   ⟨some 5, .mv (.t 19), [], none⟩,
   ⟨some 6, .mv (.t 20), [], none⟩]
def c_pattern_regular_class.r4 : List CI :=
  [⟨some 21, .mv (.t 5), [], none⟩,
   ⟨some 22, .bin .eql (.t 21) (.c (.int .u8 94)), [], none⟩]
def c_pattern_regular_class.r5 : List CI :=
  [⟨some 4, .mv (.c (.bool true)), [], none⟩]
def c_pattern_regular_class.r6 : List CI :=
  [⟨some 23, .mv (.t 0), [], none⟩,
   ⟨some 24, .nilck (.t 23), [], none⟩,
   ⟨some 25, .fadr 1 (.t 24), [], none⟩,
   ⟨some 26, .load 1 false (.t 25), [], none⟩,
   ⟨some 27, .bin .add (.t 26) (.c (.int .i64 1)), [], none⟩,
   ⟨some 28, .nilck (.t 23), [], none⟩,
   ⟨some 29, .fadr 1 (.t 28), [], none⟩,
   ⟨none, .store 1 (.t 29) (.t 27), [], none⟩]
def c_pattern_regular_class.r7 : List CI :=
  [⟨some 7, .mv (.c (.bool true)), [], none⟩]
def c_pattern_regular_class.r8 : List CI :=
  [⟨some 31, .mv (.t 0), [], none⟩,
   ⟨some 32, .call n_pattern_regular_next [(.t 31)], [], none⟩,
   ⟨some 30, .mv (.t 32), [], none⟩,
   ⟨some 33, .ext (.t 30) 0, [], none⟩,
   ⟨some 34, .ext (.t 30) 1, [], none⟩,
   ⟨some 8, .mv (.t 33), [], none⟩,
   ⟨some 9, .mv (.t 34), [], none⟩]
def c_pattern_regular_class.r9 : List CI :=
  [⟨some 35, .mv (.t 9), [], none⟩,
   ⟨some 36, .mv (.t 35), [], none⟩,
   ⟨some 37, .mv (.t 8), [], (some (1, true))⟩,
   ⟨some 38, .bin .eql (.t 37) (.c (.int .u8 93)), [], (some (1, true))⟩,
   ⟨some 39, .pick (.t 36) (.t 38) (.c (.bool false)), [], none⟩,
   ⟨some 40, .mv (.t 39), [], none⟩,
   ⟨some 41, .mv (.t 7), [], (some (5, true))⟩,
   ⟨some 42, .un .not (.t 41), [], (some (5, true))⟩,
   ⟨some 43, .pick (.t 40) (.t 42) (.c (.bool false)), [], none⟩]
def c_pattern_regular_class.r10 : List CI :=
  [⟨some 44, .mv (.t 0), [], none⟩,
   ⟨some 45, .nilck (.t 44), [], none⟩,
   ⟨some 46, .fadr 1 (.t 45), [], none⟩,
   ⟨some 47, .load 1 false (.t 46), [], none⟩,
   ⟨some 48, .bin .add (.t 47) (.c (.int .i64 1)), [], none⟩,
   ⟨some 49, .nilck (.t 44), [], none⟩,
   ⟨some 50, .fadr 1 (.t 49), [], none⟩,
   ⟨none, .store 1 (.t 50) (.t 48), [], none⟩]
def c_pattern_regular_class.r11 : List CI :=
  [⟨some 51, .mv (.t 0), [], none⟩,
   ⟨some 52, .call n_pattern_regular_member [(.t 51)], [], none⟩,
   ⟨some 10, .mv (.t 52), [], none⟩]
def c_pattern_regular_class.r12 : List CI :=
  [⟨some 53, .mv (.t 10), [], none⟩,
   ⟨some 11, .mv (.t 53), [], none⟩]
def c_pattern_regular_class.r13 : List CI :=
  [⟨some 55, .mv (.t 0), [], none⟩,
   ⟨some 56, .call n_pattern_regular_next [(.t 55)], [], none⟩,
   ⟨some 54, .mv (.t 56), [], none⟩,
   ⟨some 57, .ext (.t 54) 0, [], none⟩,
   ⟨some 58, .ext (.t 54) 1, [], none⟩,
   ⟨some 12, .mv (.t 57), [], none⟩,
   ⟨some 13, .mv (.t 58), [], none⟩]
def c_pattern_regular_class.r14 : List CI :=
  [⟨some 59, .mv (.t 13), [], none⟩,
   ⟨some 60, .mv (.t 59), [], none⟩,
   ⟨some 61, .mv (.t 12), [], (some (1, true))⟩,
   ⟨some 62, .bin .eql (.t 61) (.c (.int .u8 45)), [], (some (1, true))⟩,
   ⟨some 63, .pick (.t 60) (.t 62) (.c (.bool false)), [], none⟩]
def c_pattern_regular_class.r15 : List CI :=
  [⟨some 64, .mv (.t 0), [], none⟩,
   ⟨some 65, .nilck (.t 64), [], none⟩,
   ⟨some 66, .fadr 1 (.t 65), [], none⟩,
   ⟨some 67, .load 1 false (.t 66), [], none⟩,
   ⟨some 68, .bin .add (.t 67) (.c (.int .i64 1)), [], none⟩,
   ⟨some 69, .nilck (.t 64), [], none⟩,
   ⟨some 70, .fadr 1 (.t 69), [], none⟩,
   ⟨none, .store 1 (.t 70) (.t 68), [], none⟩]
def c_pattern_regular_class.r16 : List CI :=
  [⟨some 71, .mv (.t 0), [], none⟩,
   ⟨some 72, .call n_pattern_regular_member [(.t 71)], [], none⟩,
   ⟨some 11, .mv (.t 72), [], none⟩]
def c_pattern_regular_class.r17 : List CI :=
  [⟨some 73, .mv (.t 11), [], none⟩,
   ⟨some 74, .mv (.t 10), [], none⟩,
   ⟨some 75, .bin .lss (.t 73) (.t 74), [], none⟩]
def c_pattern_regular_class.r18 : List CI :=
  [⟨some 76, .mv (.t 0), [], none⟩,
   ⟨some 77, .nilck (.t 76), [], none⟩,
   ⟨some 78, .fadr 1 (.t 77), [], none⟩,
   ⟨some 79, .load 1 false (.t 78), [], none⟩,
   ⟨some 80, .bin .sub (.t 79) (.c (.int .i64 1)), [], none⟩,
   ⟨some 81, .mkI 201 (.t 80), [], none⟩,
   ⟨none, .pan (.t 81), [], none⟩]
def c_pattern_regular_class.r19 : List CI :=
  [⟨some 82, .mv (.t 10), [], none⟩,
   ⟨some 83, .toInt .i64 (.t 82), [], none⟩,
   ⟨some 14, .mv (.t 83), [], none⟩]
def c_pattern_regular_class.r20 : List CI :=
  [⟨some 84, .mv (.t 14), [], none⟩,
   ⟨some 85, .mv (.t 11), [], none⟩,
   ⟨some 86, .toInt .i64 (.t 85), [], none⟩,
   ⟨some 87, .bin .leq (.t 84) (.t 86), [], none⟩]
def c_pattern_regular_class.r21 : List CI :=
  [⟨some 90, .mv (.t 14), [], none⟩,
   ⟨some 91, .bin .quo (.t 90) (.c (.int .i64 64)), [0], none⟩,
   ⟨some 92, .iadrA 4 1 (.t 3) (.t 91), [1], none⟩,
   ⟨some 93, .load 1 false (.t 92), [2], none⟩,
   ⟨some 94, .mv (.t 14), [], none⟩,
   ⟨some 95, .bin .rem (.t 94) (.c (.int .i64 64)), [4], none⟩,
   ⟨some 96, .bin .shl (.c (.int .u64 1)) (.t 95), [5], none⟩,
   ⟨some 97, .bin .or (.t 93) (.t 96), [3, 6], none⟩,
   ⟨some 98, .iadrA 4 1 (.t 3) (.t 91), [1, 0, 1, 2, 3, 4, 5, 6, 7], none⟩,
   ⟨none, .store 1 (.t 98) (.t 97), [8, 7, 0, 1, 2, 3, 4, 5, 6, 7], none⟩]
def c_pattern_regular_class.r22 : List CI :=
  [⟨some 88, .mv (.t 14), [], none⟩,
   ⟨some 89, .bin .add (.t 88) (.c (.int .i64 1)), [], none⟩,
   ⟨some 14, .mv (.t 89), [], none⟩]
def c_pattern_regular_class.r23 : List CI :=
  [⟨some 7, .mv (.c (.bool false)), [], none⟩]
def c_pattern_regular_class.r24 : List CI :=
  [⟨some 99, .mv (.c (.int .i64 0)), [], none⟩]
def c_pattern_regular_class.r25 : List CI :=
  [⟨some 100, .bin .lss (.t 99) (.c (.int .i64 4)), [], none⟩]
def c_pattern_regular_class.r26 : List CI :=
  [⟨some 101, .mv (.t 99), [], none⟩,
   ⟨some 15, .mv (.t 101), [], none⟩]
def c_pattern_regular_class.r27 : List CI :=
  [⟨some 102, .mv (.t 4), [], none⟩]
def c_pattern_regular_class.r28 : List CI :=
  [⟨some 103, .mv (.t 15), [], none⟩,
   ⟨some 104, .mv (.t 15), [], none⟩,
   ⟨some 105, .iadrA 4 1 (.t 3) (.t 104), [], none⟩,
   ⟨some 106, .load 1 false (.t 105), [], none⟩,
   ⟨some 107, .un .xor (.t 106), [], none⟩,
   ⟨some 108, .iadrA 4 1 (.t 3) (.t 103), [], none⟩,
   ⟨none, .store 1 (.t 108) (.t 107), [], none⟩]
def c_pattern_regular_class.r29 : List CI :=
  [⟨some 109, .bin .add (.t 99) (.c (.int .i64 1)), [], none⟩,
   ⟨some 99, .mv (.t 109), [], none⟩]
def c_pattern_regular_class.r30 : List CI :=
  [⟨some 110, .load 4 true (.t 3), [], none⟩,
   ⟨some 111, .build [.int .i64 0, .int .u64 0, .int .u64 0, .int .u64 0, .int .u64 0, .sl none 0 0] [(0, 1, (.c (.int .i64 2))), (1, 4, (.t 110))], [], none⟩,
   ⟨none, .store 6 (.t 2) (.t 111), [], none⟩]
def c_pattern_regular_class : CF := { nt := 112, res := [.cell 2 6 true], body :=
  (.seq (.region false c_pattern_regular_class.r0) (.seq (.region false c_pattern_regular_class.r1) (.seq (.region false c_pattern_regular_class.r2) (.seqK [0, 2, 3, 4] (.seq (.region false c_pattern_regular_class.r3) (.seq (.region false c_pattern_regular_class.r4) (.cond (.t 22) (.seq (.region false c_pattern_regular_class.r5) (.region false c_pattern_regular_class.r6)) .skip))) (.seq (.seq (.region false c_pattern_regular_class.r7) (.block 0 (.loop [0, 2, 3, 4, 7] (.seq (.block 1 (.seq (.seq (.region false c_pattern_regular_class.r8) (.seq (.region false c_pattern_regular_class.r9) (.cond (.t 43) (.seq (.region false c_pattern_regular_class.r10) (.exit 0)) .skip))) (.seq (.region false c_pattern_regular_class.r11) (.seq (.region false c_pattern_regular_class.r12) (.seqK [0, 2, 3, 4, 10, 11] (.seq (.region false c_pattern_regular_class.r13) (.seq (.region false c_pattern_regular_class.r14) (.cond (.t 63) (.seq (.region false c_pattern_regular_class.r15) (.seq (.region false c_pattern_regular_class.r16) (.seq (.region false c_pattern_regular_class.r17) (.cond (.t 75) (.region false c_pattern_regular_class.r18) .skip)))) .skip))) (.seq (.region false c_pattern_regular_class.r19) (.block 2 (.loop [0, 2, 3, 4, 11, 14] (.seq (.seq (.region false c_pattern_regular_class.r20) (.cond (.t 87) .skip (.exit 2))) (.seq (.block 3 (.regionP [0, 1, 2, 3, 4, 5, 6, 7, 8, 9] [] c_pattern_regular_class.r21)) (.region false c_pattern_regular_class.r22))))))))))) (.region false c_pattern_regular_class.r23))))) (.seq (.seq (.region false c_pattern_regular_class.r24) (.block 4 (.loop [2, 3, 4, 99] (.seq (.region false c_pattern_regular_class.r25) (.seq (.cond (.t 100) .skip (.exit 4)) (.seqK [2, 3, 4, 99] (.block 5 (.seq (.region false c_pattern_regular_class.r26) (.seq (.region false c_pattern_regular_class.r27) (.cond (.t 102) (.region false c_pattern_regular_class.r28) .skip)))) (.region false c_pattern_regular_class.r29))))))) (.seq (.region false c_pattern_regular_class.r30) .ret))))))) }
theorem k_pattern_regular_class : chkF Go.Proofs.Tryz.prog n_pattern_regular_class c_pattern_regular_class = true := by kernel_rfl

def c_pattern_regular_member.r0 : List CI :=
  [⟨some 2, .mv (.c (.int .u8 0)), [], none⟩]
def c_pattern_regular_member.r1 : List CI :=
  [⟨some 4, .mv (.t 0), [], none⟩,
   ⟨some 5, .call n_pattern_regular_take [(.t 4)], [], none⟩,
   ⟨some 3, .mv (.t 5), [], none⟩]
def c_pattern_regular_member.r2 : List CI :=
  [⟨some 6, .mv (.t 3), [], none⟩]
def c_pattern_regular_member.r3 : List CI :=
  [⟨some 9, .bin .eql (.t 6) (.c (.int .u8 92)), [], none⟩,
   ⟨some 8, .mv (.t 9), [], none⟩]
def c_pattern_regular_member.r4 : List CI :=
  [⟨some 10, .mv (.t 0), [], none⟩,
   ⟨some 11, .call n_pattern_regular_take [(.t 10)], [], none⟩,
   ⟨some 2, .mv (.t 11), [], none⟩]
def c_pattern_regular_member.r5 : List CI :=
  [⟨some 13, .bin .eql (.t 6) (.c (.int .u8 91)), [], none⟩,
   ⟨some 12, .mv (.t 13), [], none⟩]
def c_pattern_regular_member.r6 : List CI :=
  [⟨some 14, .bin .eql (.t 6) (.c (.int .u8 93)), [], none⟩,
   ⟨some 12, .mv (.t 14), [], none⟩]
def c_pattern_regular_member.r7 : List CI :=
  [⟨some 15, .bin .eql (.t 6) (.c (.int .u8 94)), [], none⟩,
   ⟨some 12, .mv (.t 15), [], none⟩]
def c_pattern_regular_member.r8 : List CI :=
  [⟨some 16, .bin .eql (.t 6) (.c (.int .u8 45)), [], none⟩,
   ⟨some 12, .mv (.t 16), [], none⟩]
def c_pattern_regular_member.r9 : List CI :=
  [⟨some 17, .mv (.t 0), [], none⟩,
   ⟨some 18, .nilck (.t 17), [], none⟩,
   ⟨some 19, .fadr 1 (.t 18), [], none⟩,
   ⟨some 20, .load 1 false (.t 19), [], none⟩,
   ⟨some 21, .bin .sub (.t 20) (.c (.int .i64 1)), [], none⟩,
   ⟨some 22, .mkI 201 (.t 21), [], none⟩,
   ⟨none, .pan (.t 22), [], none⟩]
def c_pattern_regular_member.r10 : List CI :=
  [⟨some 7, .mv (.t 3), [], none⟩,
   ⟨some 2, .mv (.t 7), [], none⟩]
def c_pattern_regular_member : CF := { nt := 23, res := [.tmp 2], body :=
  (.seq (.region false c_pattern_regular_member.r0) (.seq (.region false c_pattern_regular_member.r1) (.seq (.region false c_pattern_regular_member.r2) (.block 0 (.seq (.region false c_pattern_regular_member.r3) (.cond (.t 8) (.seq (.region false c_pattern_regular_member.r4) .ret) (.seqK [0, 2, 3, 12] (.seq (.region false c_pattern_regular_member.r5) (.cond (.t 12) .skip (.seq (.region false c_pattern_regular_member.r6) (.cond (.t 12) .skip (.seq (.region false c_pattern_regular_member.r7) (.cond (.t 12) .skip (.region false c_pattern_regular_member.r8))))))) (.cond (.t 12) (.region false c_pattern_regular_member.r9) (.seq (.region false c_pattern_regular_member.r10) .ret))))))))) }
theorem k_pattern_regular_member : chkF Go.Proofs.Tryz.prog n_pattern_regular_member c_pattern_regular_member = true := by kernel_rfl

end Go.Ab
