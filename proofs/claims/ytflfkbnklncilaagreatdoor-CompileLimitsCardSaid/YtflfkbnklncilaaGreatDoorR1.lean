import Derived.Test.YtflfkbnklncilaaGreatDoorR0
import Derived.Test.YtflfkbnklncilaaGreatDoorProg
import Derived.KernelRfl
/-! The functions, as the abstract layer has them: each is the model's. -/
set_option maxRecDepth 100000
namespace Go.Ab
def c_law15_CompileLimits.r0 : List CI :=
  [⟨some 0, .mv (.c (.bool false)), [], none⟩]
def c_law15_CompileLimits.r1 : List CI :=
  [⟨some 10, .call n_law15_works [], [], none⟩,
   ⟨some 11, .un .not (.t 10), [], none⟩]
def c_law15_CompileLimits.r2 : List CI :=
  [⟨some 0, .mv (.c (.bool false)), [], none⟩]
def c_law15_CompileLimits.r3 : List CI :=
  [⟨some 13, .call n_compile_Of [(.c (.str [97, 58, 10, 103, 111, 116, 111, 32, 98]))], [], none⟩,
   ⟨some 12, .mv (.t 13), [], none⟩,
   ⟨some 14, .ext (.t 12) 0, [], none⟩,
   ⟨some 15, .ext (.t 12) 1, [], none⟩,
   ⟨some 1, .alloc 24 [.sl none 0 0, .int .i64 0], [], none⟩,
   ⟨some 2, .alloc 32 [.int .i64 0, .int .i64 0], [], none⟩,
   ⟨none, .store 2 (.t 1) (.t 14), [], none⟩,
   ⟨none, .store 2 (.t 2) (.t 15), [], none⟩]
def c_law15_CompileLimits.r4 : List CI :=
  [⟨some 17, .call n_compile_Of [(.c (.str [97, 58, 10, 101, 120, 105, 116, 32, 48, 10, 98, 58, 10, 103, 111, 116, 111, 32, 98]))], [], none⟩,
   ⟨some 16, .mv (.t 17), [], none⟩,
   ⟨some 18, .ext (.t 16) 0, [], none⟩,
   ⟨some 19, .ext (.t 16) 1, [], none⟩,
   ⟨some 3, .alloc 24 [.sl none 0 0, .int .i64 0], [], none⟩,
   ⟨some 4, .alloc 32 [.int .i64 0, .int .i64 0], [], none⟩,
   ⟨none, .store 2 (.t 3) (.t 18), [], none⟩,
   ⟨none, .store 2 (.t 4) (.t 19), [], none⟩]
def c_law15_CompileLimits.r5 : List CI :=
  [⟨some 21, .call n_compile_Of [(.c (.str [97, 58, 10, 101, 120, 105, 116]))], [], none⟩,
   ⟨some 20, .mv (.t 21), [], none⟩,
   ⟨some 22, .ext (.t 20) 0, [], none⟩,
   ⟨some 23, .ext (.t 20) 1, [], none⟩,
   ⟨some 5, .alloc 24 [.sl none 0 0, .int .i64 0], [], none⟩,
   ⟨some 6, .alloc 32 [.int .i64 0, .int .i64 0], [], none⟩,
   ⟨none, .store 2 (.t 5) (.t 22), [], none⟩,
   ⟨none, .store 2 (.t 6) (.t 23), [], none⟩]
def c_law15_CompileLimits.r6 : List CI :=
  [⟨some 25, .call n_compile_Of [(.c (.str [97, 58, 10, 101, 120, 112, 101, 99, 116, 32, 123, 10, 103, 108, 111, 98, 32, 34, 120, 42, 34, 32, 103, 111, 116, 111, 32, 97, 10, 116, 105, 109, 101, 111, 117, 116, 32, 55, 32, 103, 111, 116, 111, 32, 97, 10, 125]))], [], none⟩,
   ⟨some 24, .mv (.t 25), [], none⟩,
   ⟨some 26, .ext (.t 24) 0, [], none⟩,
   ⟨some 27, .ext (.t 24) 1, [], none⟩,
   ⟨some 7, .alloc 24 [.sl none 0 0, .int .i64 0], [], none⟩,
   ⟨some 8, .alloc 32 [.int .i64 0, .int .i64 0], [], none⟩,
   ⟨none, .store 2 (.t 7) (.t 26), [], none⟩,
   ⟨none, .store 2 (.t 8) (.t 27), [], none⟩]
def c_law15_CompileLimits.r7 : List CI :=
  [⟨some 28, .build [.int .i64 0, .str []] [(0, 1, (.c (.int .i64 2))), (1, 1, (.c (.str [120, 42])))], [], none⟩,
   ⟨some 29, .build [.int .i64 0, .str [], .int .i64 0] [(0, 2, (.t 28))], [], none⟩,
   ⟨some 30, .bslice 3 1 [.int .i64 0, .str [], .int .i64 0] [(0, (.t 29))], [], none⟩,
   ⟨some 31, .build [.int .i64 0, .str [], .int .i64 0, .int .i64 0, .int .i64 0, .sl none 0 0, .int .i64 0, .int .i64 0] [(0, 1, (.c (.int .i64 7))), (5, 1, (.t 30)), (6, 1, (.c (.int .i64 7)))], [], none⟩,
   ⟨some 9, .alloc 62 [.int .i64 0, .str [], .int .i64 0, .int .i64 0, .int .i64 0, .sl none 0 0, .int .i64 0, .int .i64 0], [], none⟩,
   ⟨none, .store 8 (.t 9) (.t 31), [], none⟩]
def c_law15_CompileLimits.r8 : List CI :=
  [⟨some 32, .load 2 true (.t 2), [], none⟩,
   ⟨some 33, .build [.int .i64 0, .int .i64 0] [(0, 1, (.c (.int .i64 141)))], [], none⟩,
   ⟨some 34, .eqa false [0, 0] (.t 32) (.t 33), [], none⟩,
   ⟨some 35, .mv (.t 34), [], none⟩,
   ⟨some 36, .load 2 true (.t 4), [], (some (3, true))⟩,
   ⟨some 37, .build [.int .i64 0, .int .i64 0] [(0, 1, (.c (.int .i64 144))), (1, 1, (.c (.int .i64 1)))], [], (some (3, true))⟩,
   ⟨some 38, .eqa false [0, 0] (.t 36) (.t 37), [], (some (3, true))⟩,
   ⟨some 39, .pick (.t 35) (.t 38) (.c (.bool false)), [], none⟩,
   ⟨some 40, .mv (.t 39), [], none⟩,
   ⟨some 41, .load 2 true (.t 6), [], (some (8, true))⟩,
   ⟨some 42, .build [.int .i64 0, .int .i64 0] [(0, 1, (.c (.int .i64 6))), (1, 1, (.c (.int .i64 7)))], [], (some (8, true))⟩,
   ⟨some 43, .eqa false [0, 0] (.t 41) (.t 42), [], (some (8, true))⟩,
   ⟨some 44, .pick (.t 40) (.t 43) (.c (.bool false)), [], none⟩,
   ⟨some 45, .mv (.t 44), [], none⟩,
   ⟨some 46, .load 2 true (.t 7), [], (some (13, true))⟩,
   ⟨some 47, .load 8 true (.t 9), [], (some (13, true))⟩,
   ⟨some 48, .bslice 8 1 [.int .i64 0, .str [], .int .i64 0, .int .i64 0, .int .i64 0, .sl none 0 0, .int .i64 0, .int .i64 0] [(0, (.t 47))], [], (some (13, true))⟩,
   ⟨some 49, .build [.sl none 0 0, .int .i64 0] [(0, 1, (.t 48))], [], (some (13, true))⟩,
   ⟨some 50, .call n_ref15_Same [(.t 46), (.t 49)], [], (some (13, true))⟩,
   ⟨some 51, .pick (.t 45) (.t 50) (.c (.bool false)), [], none⟩,
   ⟨some 52, .mv (.t 51), [], none⟩,
   ⟨some 53, .build [.sl none 0 0, .int .i64 0] [], [], (some (20, true))⟩,
   ⟨some 54, .call n_compile_Right [(.t 53)], [], (some (20, true))⟩,
   ⟨some 55, .un .not (.t 54), [], (some (20, true))⟩,
   ⟨some 56, .pick (.t 52) (.t 55) (.c (.bool false)), [], none⟩,
   ⟨some 57, .mv (.t 56), [], none⟩,
   ⟨some 58, .load 2 true (.t 7), [], (some (25, true))⟩,
   ⟨some 59, .call n_compile_Right [(.t 58)], [], (some (25, true))⟩,
   ⟨some 60, .pick (.t 57) (.t 59) (.c (.bool false)), [], none⟩,
   ⟨some 61, .mv (.t 60), [], none⟩,
   ⟨some 62, .build [.sl none 0 0, .int .i64 0] [], [], (some (29, true))⟩,
   ⟨some 63, .call n_compile_Text [(.t 62)], [], (some (29, true))⟩,
   ⟨some 64, .bin .eql (.t 63) (.c (.str [])), [], (some (29, true))⟩,
   ⟨some 65, .pick (.t 61) (.t 64) (.c (.bool false)), [], none⟩,
   ⟨some 0, .mv (.t 65), [], none⟩]
def c_law15_CompileLimits : CF := { nt := 66, res := [.tmp 0], body :=
  (.seq (.region false c_law15_CompileLimits.r0) (.seq (.seq (.region false c_law15_CompileLimits.r1) (.cond (.t 11) (.seq (.region false c_law15_CompileLimits.r2) .ret) .skip)) (.seq (.region false c_law15_CompileLimits.r3) (.seq (.region false c_law15_CompileLimits.r4) (.seq (.region false c_law15_CompileLimits.r5) (.seq (.region false c_law15_CompileLimits.r6) (.seq (.region false c_law15_CompileLimits.r7) (.seq (.region false c_law15_CompileLimits.r8) .ret)))))))) }
theorem k_law15_CompileLimits : chkF Go.Proofs.Tryz.prog n_law15_CompileLimits c_law15_CompileLimits = true := by kernel_rfl

def c_law15_works.r0 : List CI :=
  [⟨some 0, .mv (.c (.bool false)), [], none⟩]
def c_law15_works.r1 : List CI :=
  [⟨some 4, .call n_compile_Of [(.c (.str [116, 111, 112, 58, 10, 105, 110, 99, 32, 116, 114, 105, 101, 115, 10, 103, 111, 116, 111, 32, 101, 110, 100, 10, 101, 110, 100, 58, 10, 101, 120, 105, 116, 32, 51]))], [], none⟩,
   ⟨some 3, .mv (.t 4), [], none⟩,
   ⟨some 5, .ext (.t 3) 0, [], none⟩,
   ⟨some 6, .ext (.t 3) 1, [], none⟩,
   ⟨some 1, .alloc 24 [.sl none 0 0, .int .i64 0], [], none⟩,
   ⟨some 2, .alloc 32 [.int .i64 0, .int .i64 0], [], none⟩,
   ⟨none, .store 2 (.t 1) (.t 5), [], none⟩,
   ⟨none, .store 2 (.t 2) (.t 6), [], none⟩]
def c_law15_works.r2 : List CI :=
  [⟨some 7, .load 2 true (.t 2), [], none⟩,
   ⟨some 8, .build [.int .i64 0, .int .i64 0] [], [], none⟩,
   ⟨some 9, .eqa false [0, 0] (.t 7) (.t 8), [], none⟩,
   ⟨some 10, .mv (.t 9), [], none⟩,
   ⟨some 11, .fadr 0 (.t 1), [], (some (3, true))⟩,
   ⟨some 12, .load 1 false (.t 11), [], (some (3, true))⟩,
   ⟨some 13, .lenV (.t 12), [], (some (3, true))⟩,
   ⟨some 14, .bin .eql (.t 13) (.c (.int .i64 3)), [], (some (3, true))⟩,
   ⟨some 15, .pick (.t 10) (.t 14) (.c (.bool false)), [], none⟩,
   ⟨some 16, .mv (.t 15), [], none⟩,
   ⟨some 17, .fadr 1 (.t 1), [], (some (9, true))⟩,
   ⟨some 18, .load 1 false (.t 17), [], (some (9, true))⟩,
   ⟨some 19, .bin .eql (.t 18) (.c (.int .i64 1)), [], (some (9, true))⟩,
   ⟨some 20, .pick (.t 16) (.t 19) (.c (.bool false)), [], none⟩,
   ⟨some 21, .mv (.t 20), [], none⟩,
   ⟨some 22, .fadr 0 (.t 1), [], (some (14, true))⟩,
   ⟨some 23, .load 1 false (.t 22), [], (some (14, true))⟩,
   ⟨some 24, .iadr 8 (.t 23) (.c (.int .i64 1)), [], (some (14, true))⟩,
   ⟨some 25, .fadr 4 (.t 24), [], (some (14, true))⟩,
   ⟨some 26, .load 1 false (.t 25), [], (some (14, true))⟩,
   ⟨some 27, .bin .eql (.t 26) (.c (.int .i64 2)), [], (some (14, true))⟩,
   ⟨some 28, .pick (.t 21) (.t 27) (.c (.bool false)), [], none⟩,
   ⟨some 29, .mv (.t 28), [], none⟩,
   ⟨some 30, .fadr 0 (.t 1), [], (some (22, true))⟩,
   ⟨some 31, .load 1 false (.t 30), [], (some (22, true))⟩,
   ⟨some 32, .iadr 8 (.t 31) (.c (.int .i64 2)), [], (some (22, true))⟩,
   ⟨some 33, .fadr 3 (.t 32), [], (some (22, true))⟩,
   ⟨some 34, .load 1 false (.t 33), [], (some (22, true))⟩,
   ⟨some 35, .bin .eql (.t 34) (.c (.int .i64 3)), [], (some (22, true))⟩,
   ⟨some 36, .pick (.t 29) (.t 35) (.c (.bool false)), [], none⟩,
   ⟨some 37, .mv (.t 36), [], none⟩,
   ⟨some 38, .load 2 true (.t 1), [], (some (30, true))⟩,
   ⟨some 39, .call n_compile_Right [(.t 38)], [], (some (30, true))⟩,
   ⟨some 40, .pick (.t 37) (.t 39) (.c (.bool false)), [], none⟩,
   ⟨some 41, .mv (.t 40), [], none⟩,
   ⟨some 42, .load 2 true (.t 1), [], (some (34, true))⟩,
   ⟨some 43, .call n_compile_Text [(.t 42)], [], (some (34, true))⟩,
   ⟨some 44, .bin .eql (.t 43) (.c (.str [97, 58, 10, 105, 110, 99, 32, 97, 10, 103, 111, 116, 111, 32, 98, 10, 98, 58, 10, 101, 120, 105, 116, 32, 51])), [], (some (34, true))⟩,
   ⟨some 45, .pick (.t 41) (.t 44) (.c (.bool false)), [], none⟩,
   ⟨some 0, .mv (.t 45), [], none⟩]
def c_law15_works : CF := { nt := 46, res := [.tmp 0], body :=
  (.seq (.region false c_law15_works.r0) (.seq (.region false c_law15_works.r1) (.seq (.region false c_law15_works.r2) .ret))) }
theorem k_law15_works : chkF Go.Proofs.Tryz.prog n_law15_works c_law15_works = true := by kernel_rfl

def c_compile_Text.r0 : List CI :=
  [⟨some 1, .box 24 (.t 0), [], none⟩,
   ⟨some 2, .mv (.c (.str [])), [], none⟩]
def c_compile_Text.r1 : List CI :=
  [⟨some 15, .load 2 true (.t 1), [], none⟩,
   ⟨some 16, .call n_compile_Right [(.t 15)], [], none⟩,
   ⟨some 17, .un .not (.t 16), [], none⟩]
def c_compile_Text.r2 : List CI :=
  [⟨some 2, .mv (.c (.str [])), [], none⟩]
def c_compile_Text.r3 : List CI :=
  [⟨some 19, .load 2 true (.t 1), [], none⟩,
   ⟨some 20, .call n_compile_heads [(.t 19)], [], none⟩,
   ⟨some 18, .mv (.t 20), [], none⟩,
   ⟨some 21, .ext (.t 18) 0, [], none⟩,
   ⟨some 22, .ext (.t 18) 1, [], none⟩,
   ⟨some 3, .alloc 95 [.map none], [], none⟩,
   ⟨none, .store 1 (.t 3) (.t 21), [], none⟩,
   ⟨some 4, .mv (.t 22), [], none⟩]
def c_compile_Text.r4 : List CI :=
  [⟨some 23, .mkF n_compile_Text_1 [] [(.t 3)], [], none⟩,
   ⟨some 5, .mv (.t 23), [], none⟩]
def c_compile_Text.r5 : List CI :=
  [⟨some 6, .alloc 38 [.sl none 0 0], [], none⟩]
def c_compile_Text.r6 : List CI :=
  [⟨some 24, .fadr 0 (.t 1), [], none⟩,
   ⟨some 25, .load 1 false (.t 24), [], none⟩,
   ⟨some 26, .lenV (.t 25), [], none⟩,
   ⟨some 27, .mv (.c (.int .i64 0)), [], none⟩]
def c_compile_Text.r7 : List CI :=
  [⟨some 28, .bin .lss (.t 27) (.t 26), [], none⟩]
def c_compile_Text.r8 : List CI :=
  [⟨some 29, .mv (.t 27), [], none⟩,
   ⟨some 30, .iadr 8 (.t 25) (.t 27), [], none⟩,
   ⟨some 31, .load 8 true (.t 30), [], none⟩,
   ⟨some 8, .alloc 62 [.int .i64 0, .str [], .int .i64 0, .int .i64 0, .int .i64 0, .sl none 0 0, .int .i64 0, .int .i64 0], [], none⟩,
   ⟨some 7, .mv (.t 29), [], none⟩,
   ⟨none, .store 8 (.t 8) (.t 31), [], none⟩]
def c_compile_Text.r9 : List CI :=
  [⟨some 33, .load 1 false (.t 3), [], none⟩,
   ⟨some 34, .mv (.t 7), [], none⟩,
   ⟨some 35, .look 0 (.int .i64 0) true (.t 33) (.t 34), [], none⟩,
   ⟨some 32, .mv (.t 35), [], none⟩,
   ⟨some 36, .ext (.t 32) 0, [], none⟩,
   ⟨some 37, .ext (.t 32) 1, [], none⟩,
   ⟨some 9, .mv (.t 36), [], none⟩,
   ⟨some 10, .mv (.t 37), [], none⟩]
def c_compile_Text.r10 : List CI :=
  [⟨some 38, .mv (.t 10), [], none⟩]
def c_compile_Text.r11 : List CI :=
  [⟨some 39, .fadr 0 (.t 6), [], none⟩,
   ⟨some 40, .load 1 false (.t 39), [0], none⟩,
   ⟨some 41, .mv (.t 5), [], none⟩,
   ⟨some 42, .mv (.t 7), [], none⟩,
   ⟨some 43, .callV (.t 41) [(.t 42)], [2, 3], none⟩,
   ⟨some 44, .build [.str [], .sl none 0 0] [(0, 1, (.t 43))], [4], none⟩,
   ⟨some 45, .bslice 2 1 [.str [], .sl none 0 0] [(0, (.t 44))], [5], none⟩,
   ⟨some 46, .app 45 2 40 [.str [], .sl none 0 0] (.t 40) (.t 45), [1, 6, 4], none⟩,
   ⟨some 47, .fadr 0 (.t 6), [0, 1, 2, 3, 4, 5, 6, 7], none⟩,
   ⟨none, .store 1 (.t 47) (.t 46), [8, 7, 7, 0, 1, 2, 3, 4, 5, 6, 7], none⟩]
def c_compile_Text.r12 : List CI :=
  [⟨some 48, .fadr 0 (.t 8), [], none⟩,
   ⟨some 49, .load 1 false (.t 48), [], none⟩,
   ⟨some 50, .fadr 1 (.t 8), [], none⟩,
   ⟨some 51, .load 1 false (.t 50), [], none⟩,
   ⟨some 52, .fadr 3 (.t 8), [], none⟩,
   ⟨some 53, .load 1 false (.t 52), [], none⟩,
   ⟨some 54, .fadr 6 (.t 8), [], none⟩,
   ⟨some 55, .load 1 false (.t 54), [], none⟩,
   ⟨some 56, .build [.int .i64 0, .str [], .str [], .int .i64 0, .str [], .sl none 0 0, .int .i64 0, .str []] [(0, 1, (.t 49)), (1, 1, (.t 51)), (3, 1, (.t 53)), (6, 1, (.t 55))], [], none⟩,
   ⟨some 11, .alloc 49 [.int .i64 0, .str [], .str [], .int .i64 0, .str [], .sl none 0 0, .int .i64 0, .str []], [], none⟩,
   ⟨none, .store 8 (.t 11) (.t 56), [], none⟩]
def c_compile_Text.r13 : List CI :=
  [⟨some 57, .fadr 0 (.t 8), [], none⟩,
   ⟨some 58, .load 1 false (.t 57), [], none⟩]
def c_compile_Text.r14 : List CI :=
  [⟨some 60, .bin .eql (.t 58) (.c (.int .i64 2)), [], none⟩,
   ⟨some 59, .mv (.t 60), [], none⟩]
def c_compile_Text.r15 : List CI :=
  [⟨some 61, .bin .eql (.t 58) (.c (.int .i64 3)), [], none⟩,
   ⟨some 59, .mv (.t 61), [], none⟩]
def c_compile_Text.r16 : List CI :=
  [⟨some 62, .bin .eql (.t 58) (.c (.int .i64 4)), [], none⟩,
   ⟨some 59, .mv (.t 62), [], none⟩]
def c_compile_Text.r17 : List CI :=
  [⟨some 63, .fadr 2 (.t 8), [], none⟩,
   ⟨some 64, .load 1 false (.t 63), [], none⟩,
   ⟨some 65, .call n_compile_letter [(.t 64)], [], none⟩,
   ⟨some 66, .fadr 2 (.t 11), [], none⟩,
   ⟨none, .store 1 (.t 66) (.t 65), [], none⟩]
def c_compile_Text.r18 : List CI :=
  [⟨some 67, .fadr 0 (.t 8), [], none⟩,
   ⟨some 68, .load 1 false (.t 67), [], none⟩]
def c_compile_Text.r19 : List CI :=
  [⟨some 70, .bin .eql (.t 68) (.c (.int .i64 4)), [], none⟩,
   ⟨some 69, .mv (.t 70), [], none⟩]
def c_compile_Text.r20 : List CI :=
  [⟨some 71, .bin .eql (.t 68) (.c (.int .i64 5)), [], none⟩,
   ⟨some 69, .mv (.t 71), [], none⟩]
def c_compile_Text.r21 : List CI :=
  [⟨some 72, .mv (.t 5), [], none⟩,
   ⟨some 73, .fadr 4 (.t 8), [], none⟩,
   ⟨some 74, .load 1 false (.t 73), [], none⟩,
   ⟨some 75, .callV (.t 72) [(.t 74)], [], none⟩,
   ⟨some 76, .fadr 4 (.t 11), [], none⟩,
   ⟨none, .store 1 (.t 76) (.t 75), [], none⟩]
def c_compile_Text.r22 : List CI :=
  [⟨some 78, .bin .eql (.t 68) (.c (.int .i64 7)), [], none⟩,
   ⟨some 77, .mv (.t 78), [], none⟩]
def c_compile_Text.r23 : List CI :=
  [⟨some 79, .fadr 5 (.t 8), [], none⟩,
   ⟨some 80, .load 1 false (.t 79), [], none⟩,
   ⟨some 81, .lenV (.t 80), [], none⟩,
   ⟨some 82, .mv (.c (.int .i64 0)), [], none⟩]
def c_compile_Text.r24 : List CI :=
  [⟨some 83, .bin .lss (.t 82) (.t 81), [], none⟩]
def c_compile_Text.r25 : List CI :=
  [⟨some 84, .iadr 3 (.t 80) (.t 82), [], none⟩,
   ⟨some 85, .load 3 true (.t 84), [], none⟩,
   ⟨some 13, .alloc 64 [.int .i64 0, .str [], .int .i64 0], [], none⟩,
   ⟨none, .store 3 (.t 13) (.t 85), [], none⟩]
def c_compile_Text.r26 : List CI :=
  [⟨some 86, .fadr 5 (.t 11), [], none⟩,
   ⟨some 87, .load 1 false (.t 86), [0], none⟩,
   ⟨some 88, .fadr 0 (.t 13), [], none⟩,
   ⟨some 89, .load 2 true (.t 88), [2], none⟩,
   ⟨some 90, .mv (.t 5), [], none⟩,
   ⟨some 91, .fadr 2 (.t 13), [], none⟩,
   ⟨some 92, .load 1 false (.t 91), [5], none⟩,
   ⟨some 93, .callV (.t 90) [(.t 92)], [4, 6], none⟩,
   ⟨some 94, .build [.int .i64 0, .str [], .str []] [(0, 2, (.t 89)), (2, 1, (.t 93))], [3, 7], none⟩,
   ⟨some 95, .bslice 3 1 [.int .i64 0, .str [], .str []] [(0, (.t 94))], [8], none⟩,
   ⟨some 96, .app 53 3 40 [.int .i64 0, .str [], .str []] (.t 87) (.t 95), [1, 9, 7], none⟩,
   ⟨some 97, .fadr 5 (.t 11), [0, 1, 2, 3, 4, 5, 6, 7, 8, 9, 10], none⟩,
   ⟨none, .store 1 (.t 97) (.t 96), [11, 10, 10, 0, 1, 2, 3, 4, 5, 6, 7, 8, 9, 10], none⟩]
def c_compile_Text.r27 : List CI :=
  [⟨some 98, .bin .add (.t 82) (.c (.int .i64 1)), [], none⟩,
   ⟨some 82, .mv (.t 98), [], none⟩]
def c_compile_Text.r28 : List CI :=
  [⟨some 99, .fadr 7 (.t 8), [], none⟩,
   ⟨some 100, .load 1 false (.t 99), [], none⟩,
   ⟨some 101, .bin .neq (.t 100) (.c (.int .i64 (-1))), [], none⟩]
def c_compile_Text.r29 : List CI :=
  [⟨some 102, .mv (.t 5), [], none⟩,
   ⟨some 103, .fadr 7 (.t 8), [], none⟩,
   ⟨some 104, .load 1 false (.t 103), [], none⟩,
   ⟨some 105, .callV (.t 102) [(.t 104)], [], none⟩,
   ⟨some 106, .fadr 7 (.t 11), [], none⟩,
   ⟨none, .store 1 (.t 106) (.t 105), [], none⟩]
def c_compile_Text.r30 : List CI :=
  [⟨some 107, .fadr 0 (.t 6), [], none⟩,
   ⟨some 108, .load 1 false (.t 107), [], none⟩,
   ⟨some 109, .fadr 0 (.t 6), [], none⟩,
   ⟨some 110, .load 1 false (.t 109), [], none⟩,
   ⟨some 111, .lenV (.t 110), [], none⟩,
   ⟨some 112, .bin .sub (.t 111) (.c (.int .i64 1)), [], none⟩,
   ⟨some 113, .iadr 2 (.t 108) (.t 112), [], none⟩,
   ⟨some 14, .mv (.t 113), [], none⟩]
def c_compile_Text.r31 : List CI :=
  [⟨some 114, .mv (.t 14), [], none⟩,
   ⟨some 115, .mv (.t 14), [], none⟩,
   ⟨some 116, .nilck (.t 115), [1], none⟩,
   ⟨some 117, .fadr 1 (.t 116), [2], none⟩,
   ⟨some 118, .load 1 false (.t 117), [3], none⟩,
   ⟨some 119, .load 8 true (.t 11), [], none⟩,
   ⟨some 120, .bslice 8 1 [.int .i64 0, .str [], .str [], .int .i64 0, .str [], .sl none 0 0, .int .i64 0, .str []] [(0, (.t 119))], [5], none⟩,
   ⟨some 121, .app 49 8 112 [.int .i64 0, .str [], .str [], .int .i64 0, .str [], .sl none 0 0, .int .i64 0, .str []] (.t 118) (.t 120), [4, 6], none⟩,
   ⟨some 122, .nilck (.t 114), [0, 0, 1, 2, 3, 4, 5, 6, 7], none⟩,
   ⟨some 123, .fadr 1 (.t 122), [8, 0, 1, 2, 3, 4, 5, 6, 7], none⟩,
   ⟨none, .store 1 (.t 123) (.t 121), [9, 7, 7, 0, 1, 2, 3, 4, 5, 6, 7], none⟩]
def c_compile_Text.r32 : List CI :=
  [⟨some 124, .bin .add (.t 27) (.c (.int .i64 1)), [], none⟩,
   ⟨some 27, .mv (.t 124), [], none⟩]
def c_compile_Text.r33 : List CI :=
  [⟨some 125, .load 1 true (.t 6), [], none⟩,
   ⟨some 126, .call n_parse_Print [(.t 125)], [], none⟩,
   ⟨some 2, .mv (.t 126), [], none⟩]
def c_compile_Text : CF := { nt := 127, res := [.tmp 2], body :=
  (.seq (.region false c_compile_Text.r0) (.seq (.seq (.region false c_compile_Text.r1) (.cond (.t 17) (.seq (.region false c_compile_Text.r2) .ret) .skip)) (.seq (.region false c_compile_Text.r3) (.seq (.region false c_compile_Text.r4) (.seq (.region false c_compile_Text.r5) (.seq (.seq (.region false c_compile_Text.r6) (.block 0 (.loop [3, 5, 6, 25, 26, 27] (.seq (.region false c_compile_Text.r7) (.seq (.cond (.t 28) .skip (.exit 0)) (.seq (.block 1 (.seq (.region false c_compile_Text.r8) (.seqK [3, 5, 6, 8, 25, 26, 27] (.seq (.region false c_compile_Text.r9) (.seq (.region false c_compile_Text.r10) (.cond (.t 38) (.regionP [0, 1, 2, 3, 4, 5, 6, 7, 8, 9] [] c_compile_Text.r11) .skip))) (.seq (.region false c_compile_Text.r12) (.seqK [3, 5, 6, 8, 11, 25, 26, 27] (.seq (.region false c_compile_Text.r13) (.block 2 (.seqK [3, 5, 6, 8, 11, 25, 26, 27, 59] (.seq (.region false c_compile_Text.r14) (.cond (.t 59) .skip (.seq (.region false c_compile_Text.r15) (.cond (.t 59) .skip (.region false c_compile_Text.r16))))) (.cond (.t 59) (.region false c_compile_Text.r17) .skip)))) (.seqK [3, 5, 6, 11, 25, 26, 27] (.seq (.region false c_compile_Text.r18) (.block 3 (.seqK [3, 5, 6, 8, 11, 25, 26, 27, 68, 69] (.seq (.region false c_compile_Text.r19) (.cond (.t 69) .skip (.region false c_compile_Text.r20))) (.cond (.t 69) (.region false c_compile_Text.r21) (.seq (.region false c_compile_Text.r22) (.cond (.t 77) (.seq (.seq (.region false c_compile_Text.r23) (.block 4 (.loop [3, 5, 6, 8, 11, 25, 26, 27, 80, 81, 82] (.seq (.region false c_compile_Text.r24) (.seq (.cond (.t 83) .skip (.exit 4)) (.seq (.block 5 (.seq (.region false c_compile_Text.r25) (.regionP [0, 1, 2, 3, 4, 5, 6, 7, 8, 9, 10, 11, 12] [] c_compile_Text.r26))) (.region false c_compile_Text.r27))))))) (.seq (.region false c_compile_Text.r28) (.cond (.t 101) (.region false c_compile_Text.r29) .skip))) .skip)))))) (.seq (.region false c_compile_Text.r30) (.regionP [0, 1, 2, 3, 4, 5, 6, 7, 8, 9, 10] [] c_compile_Text.r31)))))))) (.region false c_compile_Text.r32))))))) (.seq (.region false c_compile_Text.r33) .ret))))))) }
theorem k_compile_Text : chkF Go.Proofs.Tryz.prog n_compile_Text c_compile_Text = true := by kernel_rfl

def c_ref15_Same.r0 : List CI :=
  [⟨some 2, .box 24 (.t 0), [], none⟩,
   ⟨some 3, .box 24 (.t 1), [], none⟩,
   ⟨some 4, .mv (.c (.bool false)), [], none⟩]
def c_ref15_Same.r1 : List CI :=
  [⟨some 9, .fadr 1 (.t 2), [], none⟩,
   ⟨some 10, .load 1 false (.t 9), [], none⟩,
   ⟨some 11, .fadr 1 (.t 3), [], none⟩,
   ⟨some 12, .load 1 false (.t 11), [], none⟩,
   ⟨some 13, .bin .neq (.t 10) (.t 12), [], none⟩,
   ⟨some 14, .mv (.t 13), [], none⟩,
   ⟨some 15, .fadr 0 (.t 2), [], (some (5, false))⟩,
   ⟨some 16, .load 1 false (.t 15), [], (some (5, false))⟩,
   ⟨some 17, .lenV (.t 16), [], (some (5, false))⟩,
   ⟨some 18, .fadr 0 (.t 3), [], (some (5, false))⟩,
   ⟨some 19, .load 1 false (.t 18), [], (some (5, false))⟩,
   ⟨some 20, .lenV (.t 19), [], (some (5, false))⟩,
   ⟨some 21, .bin .neq (.t 17) (.t 20), [], (some (5, false))⟩,
   ⟨some 22, .pick (.t 14) (.c (.bool true)) (.t 21), [], none⟩]
def c_ref15_Same.r2 : List CI :=
  [⟨some 4, .mv (.c (.bool false)), [], none⟩]
def c_ref15_Same.r3 : List CI :=
  [⟨some 5, .mv (.c (.int .i64 0)), [], none⟩]
def c_ref15_Same.r4 : List CI :=
  [⟨some 23, .mv (.t 5), [], none⟩,
   ⟨some 24, .fadr 0 (.t 2), [], none⟩,
   ⟨some 25, .load 1 false (.t 24), [], none⟩,
   ⟨some 26, .lenV (.t 25), [], none⟩,
   ⟨some 27, .bin .lss (.t 23) (.t 26), [], none⟩]
def c_ref15_Same.r5 : List CI :=
  [⟨some 30, .fadr 0 (.t 2), [], none⟩,
   ⟨some 31, .load 1 false (.t 30), [0], none⟩,
   ⟨some 32, .mv (.t 5), [], none⟩,
   ⟨some 33, .iadr 8 (.t 31) (.t 32), [1, 2], none⟩,
   ⟨some 34, .load 8 true (.t 33), [3], none⟩,
   ⟨some 35, .fadr 0 (.t 3), [], none⟩,
   ⟨some 36, .load 1 false (.t 35), [5], none⟩,
   ⟨some 37, .mv (.t 5), [], none⟩,
   ⟨some 38, .iadr 8 (.t 36) (.t 37), [6, 7], none⟩,
   ⟨some 39, .load 8 true (.t 38), [8], none⟩,
   ⟨some 6, .alloc 62 [.int .i64 0, .str [], .int .i64 0, .int .i64 0, .int .i64 0, .sl none 0 0, .int .i64 0, .int .i64 0], [], none⟩,
   ⟨some 7, .alloc 62 [.int .i64 0, .str [], .int .i64 0, .int .i64 0, .int .i64 0, .sl none 0 0, .int .i64 0, .int .i64 0], [], none⟩,
   ⟨none, .store 8 (.t 6) (.t 34), [10, 4, 0, 1, 2, 3, 4, 10, 11], none⟩,
   ⟨none, .store 8 (.t 7) (.t 39), [11, 9, 12, 0, 1, 2, 3, 4, 5, 6, 7, 8, 9, 10, 11, 12], none⟩]
def c_ref15_Same.r6 : List CI :=
  [⟨some 40, .fadr 0 (.t 6), [], none⟩,
   ⟨some 41, .load 1 false (.t 40), [], none⟩,
   ⟨some 42, .fadr 0 (.t 7), [], none⟩,
   ⟨some 43, .load 1 false (.t 42), [], none⟩,
   ⟨some 44, .bin .neq (.t 41) (.t 43), [], none⟩,
   ⟨some 45, .mv (.t 44), [], none⟩,
   ⟨some 46, .fadr 1 (.t 6), [], (some (5, false))⟩,
   ⟨some 47, .load 1 false (.t 46), [], (some (5, false))⟩,
   ⟨some 48, .fadr 1 (.t 7), [], (some (5, false))⟩,
   ⟨some 49, .load 1 false (.t 48), [], (some (5, false))⟩,
   ⟨some 50, .bin .neq (.t 47) (.t 49), [], (some (5, false))⟩,
   ⟨some 51, .pick (.t 45) (.c (.bool true)) (.t 50), [], none⟩,
   ⟨some 52, .mv (.t 51), [], none⟩,
   ⟨some 53, .fadr 2 (.t 6), [], (some (12, false))⟩,
   ⟨some 54, .load 1 false (.t 53), [], (some (12, false))⟩,
   ⟨some 55, .fadr 2 (.t 7), [], (some (12, false))⟩,
   ⟨some 56, .load 1 false (.t 55), [], (some (12, false))⟩,
   ⟨some 57, .bin .neq (.t 54) (.t 56), [], (some (12, false))⟩,
   ⟨some 58, .pick (.t 52) (.c (.bool true)) (.t 57), [], none⟩,
   ⟨some 59, .mv (.t 58), [], none⟩,
   ⟨some 60, .fadr 3 (.t 6), [], (some (19, false))⟩,
   ⟨some 61, .load 1 false (.t 60), [], (some (19, false))⟩,
   ⟨some 62, .fadr 3 (.t 7), [], (some (19, false))⟩,
   ⟨some 63, .load 1 false (.t 62), [], (some (19, false))⟩,
   ⟨some 64, .bin .neq (.t 61) (.t 63), [], (some (19, false))⟩,
   ⟨some 65, .pick (.t 59) (.c (.bool true)) (.t 64), [], none⟩,
   ⟨some 66, .mv (.t 65), [], none⟩,
   ⟨some 67, .fadr 4 (.t 6), [], (some (26, false))⟩,
   ⟨some 68, .load 1 false (.t 67), [], (some (26, false))⟩,
   ⟨some 69, .fadr 4 (.t 7), [], (some (26, false))⟩,
   ⟨some 70, .load 1 false (.t 69), [], (some (26, false))⟩,
   ⟨some 71, .bin .neq (.t 68) (.t 70), [], (some (26, false))⟩,
   ⟨some 72, .pick (.t 66) (.c (.bool true)) (.t 71), [], none⟩,
   ⟨some 73, .mv (.t 72), [], none⟩,
   ⟨some 74, .fadr 6 (.t 6), [], (some (33, false))⟩,
   ⟨some 75, .load 1 false (.t 74), [], (some (33, false))⟩,
   ⟨some 76, .fadr 6 (.t 7), [], (some (33, false))⟩,
   ⟨some 77, .load 1 false (.t 76), [], (some (33, false))⟩,
   ⟨some 78, .bin .neq (.t 75) (.t 77), [], (some (33, false))⟩,
   ⟨some 79, .pick (.t 73) (.c (.bool true)) (.t 78), [], none⟩,
   ⟨some 80, .mv (.t 79), [], none⟩,
   ⟨some 81, .fadr 7 (.t 6), [], (some (40, false))⟩,
   ⟨some 82, .load 1 false (.t 81), [], (some (40, false))⟩,
   ⟨some 83, .fadr 7 (.t 7), [], (some (40, false))⟩,
   ⟨some 84, .load 1 false (.t 83), [], (some (40, false))⟩,
   ⟨some 85, .bin .neq (.t 82) (.t 84), [], (some (40, false))⟩,
   ⟨some 86, .pick (.t 80) (.c (.bool true)) (.t 85), [], none⟩,
   ⟨some 87, .mv (.t 86), [], none⟩,
   ⟨some 88, .fadr 5 (.t 6), [], (some (47, false))⟩,
   ⟨some 89, .load 1 false (.t 88), [], (some (47, false))⟩,
   ⟨some 90, .lenV (.t 89), [], (some (47, false))⟩,
   ⟨some 91, .fadr 5 (.t 7), [], (some (47, false))⟩,
   ⟨some 92, .load 1 false (.t 91), [], (some (47, false))⟩,
   ⟨some 93, .lenV (.t 92), [], (some (47, false))⟩,
   ⟨some 94, .bin .neq (.t 90) (.t 93), [], (some (47, false))⟩,
   ⟨some 95, .pick (.t 87) (.c (.bool true)) (.t 94), [], none⟩]
def c_ref15_Same.r7 : List CI :=
  [⟨some 4, .mv (.c (.bool false)), [], none⟩]
def c_ref15_Same.r8 : List CI :=
  [⟨some 8, .mv (.c (.int .i64 0)), [], none⟩]
def c_ref15_Same.r9 : List CI :=
  [⟨some 96, .mv (.t 8), [], none⟩,
   ⟨some 97, .fadr 5 (.t 6), [], none⟩,
   ⟨some 98, .load 1 false (.t 97), [], none⟩,
   ⟨some 99, .lenV (.t 98), [], none⟩,
   ⟨some 100, .bin .lss (.t 96) (.t 99), [], none⟩]
def c_ref15_Same.r10 : List CI :=
  [⟨some 103, .fadr 5 (.t 6), [], none⟩,
   ⟨some 104, .load 1 false (.t 103), [0], none⟩,
   ⟨some 105, .mv (.t 8), [], none⟩,
   ⟨some 106, .iadr 3 (.t 104) (.t 105), [1, 2], none⟩,
   ⟨some 107, .load 3 true (.t 106), [3], none⟩,
   ⟨some 108, .fadr 5 (.t 7), [], none⟩,
   ⟨some 109, .load 1 false (.t 108), [5], none⟩,
   ⟨some 110, .mv (.t 8), [], none⟩,
   ⟨some 111, .iadr 3 (.t 109) (.t 110), [6, 7], none⟩,
   ⟨some 112, .load 3 true (.t 111), [8], none⟩,
   ⟨some 113, .eqa true [0, 1, 0] (.t 107) (.t 112), [4, 9], none⟩]
def c_ref15_Same.r11 : List CI :=
  [⟨some 4, .mv (.c (.bool false)), [], none⟩]
def c_ref15_Same.r12 : List CI :=
  [⟨some 101, .mv (.t 8), [], none⟩,
   ⟨some 102, .bin .add (.t 101) (.c (.int .i64 1)), [], none⟩,
   ⟨some 8, .mv (.t 102), [], none⟩]
def c_ref15_Same.r13 : List CI :=
  [⟨some 28, .mv (.t 5), [], none⟩,
   ⟨some 29, .bin .add (.t 28) (.c (.int .i64 1)), [], none⟩,
   ⟨some 5, .mv (.t 29), [], none⟩]
def c_ref15_Same.r14 : List CI :=
  [⟨some 4, .mv (.c (.bool true)), [], none⟩]
def c_ref15_Same : CF := { nt := 114, res := [.tmp 4], body :=
  (.seq (.region false c_ref15_Same.r0) (.seq (.seq (.region false c_ref15_Same.r1) (.cond (.t 22) (.seq (.region false c_ref15_Same.r2) .ret) .skip)) (.seq (.seq (.region false c_ref15_Same.r3) (.block 0 (.loop [2, 3, 5] (.seq (.seq (.region false c_ref15_Same.r4) (.cond (.t 27) .skip (.exit 0))) (.seq (.block 1 (.seq (.regionP [0, 1, 2, 3, 4, 5, 6, 7, 8, 9, 10, 11, 12, 13] [11] c_ref15_Same.r5) (.seq (.seq (.region false c_ref15_Same.r6) (.cond (.t 95) (.seq (.region false c_ref15_Same.r7) .ret) .skip)) (.seq (.region false c_ref15_Same.r8) (.block 2 (.loop [2, 3, 5, 6, 7, 8] (.seq (.seq (.region false c_ref15_Same.r9) (.cond (.t 100) .skip (.exit 2))) (.seq (.block 3 (.seq (.regionP [0, 1, 2, 3, 4, 5, 6, 7, 8, 9, 10] [] c_ref15_Same.r10) (.cond (.t 113) (.seq (.region false c_ref15_Same.r11) .ret) .skip))) (.region false c_ref15_Same.r12))))))))) (.region false c_ref15_Same.r13)))))) (.seq (.region false c_ref15_Same.r14) .ret)))) }
theorem k_ref15_Same : chkF Go.Proofs.Tryz.prog n_ref15_Same c_ref15_Same = true := by kernel_rfl

def c_compile_Of.r0 : List CI :=
  [⟨some 2, .alloc 24 [.sl none 0 0, .int .i64 0], [], none⟩,
   ⟨some 3, .alloc 32 [.int .i64 0, .int .i64 0], [], none⟩]
def c_compile_Of.r1 : List CI :=
  [⟨some 21, .mv (.t 0), [], none⟩,
   ⟨some 22, .call n_parse_Program [(.t 21)], [], none⟩,
   ⟨some 20, .mv (.t 22), [], none⟩,
   ⟨some 23, .ext (.t 20) 0, [], none⟩,
   ⟨some 24, .ext (.t 20) 1, [], none⟩,
   ⟨some 4, .alloc 38 [.sl none 0 0], [], none⟩,
   ⟨some 5, .alloc 32 [.int .i64 0, .int .i64 0], [], none⟩,
   ⟨none, .store 1 (.t 4) (.t 23), [], none⟩,
   ⟨none, .store 2 (.t 5) (.t 24), [], none⟩]
def c_compile_Of.r2 : List CI :=
  [⟨some 25, .fadr 0 (.t 5), [], none⟩,
   ⟨some 26, .load 1 false (.t 25), [], none⟩,
   ⟨some 27, .bin .neq (.t 26) (.c (.int .i64 0)), [], none⟩]
def c_compile_Of.r3 : List CI :=
  [⟨some 28, .build [.sl none 0 0, .int .i64 0] [], [], none⟩,
   ⟨some 29, .load 2 true (.t 5), [], none⟩,
   ⟨none, .store 2 (.t 2) (.t 28), [0, 0], none⟩,
   ⟨none, .store 2 (.t 3) (.t 29), [1, 2, 0, 1, 2], none⟩]
def c_compile_Of.r4 : List CI :=
  [⟨some 30, .load 1 true (.t 4), [], none⟩,
   ⟨some 31, .call n_check_Check [(.t 30)], [], none⟩,
   ⟨some 6, .alloc 57 [.int .i64 0, .int .i64 0, .int .i64 0, .int .i64 0], [], none⟩,
   ⟨none, .store 4 (.t 6) (.t 31), [], none⟩]
def c_compile_Of.r5 : List CI :=
  [⟨some 32, .fadr 0 (.t 6), [], none⟩,
   ⟨some 33, .load 1 false (.t 32), [], none⟩,
   ⟨some 34, .bin .neq (.t 33) (.c (.int .i64 0)), [], none⟩]
def c_compile_Of.r6 : List CI :=
  [⟨some 35, .build [.sl none 0 0, .int .i64 0] [], [], none⟩,
   ⟨some 36, .fadr 0 (.t 6), [], none⟩,
   ⟨some 37, .load 1 false (.t 36), [1], none⟩,
   ⟨some 38, .fadr 1 (.t 6), [], none⟩,
   ⟨some 39, .load 1 false (.t 38), [3], none⟩,
   ⟨some 40, .build [.int .i64 0, .int .i64 0] [(0, 1, (.t 37)), (1, 1, (.t 39))], [2, 4], none⟩,
   ⟨none, .store 2 (.t 2) (.t 35), [0, 0], none⟩,
   ⟨none, .store 2 (.t 3) (.t 40), [5, 6, 0, 1, 2, 3, 4, 5, 6], none⟩]
def c_compile_Of.r7 : List CI :=
  [⟨some 41, .load 1 true (.t 4), [], none⟩,
   ⟨some 42, .call n_check_Counters [(.t 41)], [], none⟩,
   ⟨some 7, .mv (.t 42), [], none⟩]
def c_compile_Of.r8 : List CI :=
  [⟨some 43, .mkM, [], none⟩,
   ⟨some 8, .mv (.t 43), [], none⟩]
def c_compile_Of.r9 : List CI :=
  [⟨some 9, .mv (.c (.int .i64 0)), [], none⟩]
def c_compile_Of.r10 : List CI :=
  [⟨some 44, .fadr 0 (.t 4), [], none⟩,
   ⟨some 45, .load 1 false (.t 44), [], none⟩,
   ⟨some 46, .lenV (.t 45), [], none⟩,
   ⟨some 47, .mv (.c (.int .i64 0)), [], none⟩]
def c_compile_Of.r11 : List CI :=
  [⟨some 48, .bin .lss (.t 47) (.t 46), [], none⟩]
def c_compile_Of.r12 : List CI :=
  [⟨some 49, .iadr 2 (.t 45) (.t 47), [], none⟩,
   ⟨some 50, .load 2 true (.t 49), [], none⟩,
   ⟨some 11, .alloc 45 [.str [], .sl none 0 0], [], none⟩,
   ⟨none, .store 2 (.t 11) (.t 50), [], none⟩]
def c_compile_Of.r13 : List CI :=
  [⟨some 51, .mv (.t 8), [], none⟩,
   ⟨some 52, .fadr 0 (.t 11), [], none⟩,
   ⟨some 53, .load 1 false (.t 52), [], none⟩,
   ⟨some 54, .mv (.t 9), [], none⟩,
   ⟨none, .mset 1 (.t 51) (.t 53) (.t 54), [], none⟩]
def c_compile_Of.r14 : List CI :=
  [⟨some 55, .mv (.t 9), [], none⟩,
   ⟨some 56, .fadr 1 (.t 11), [], none⟩,
   ⟨some 57, .load 1 false (.t 56), [], none⟩,
   ⟨some 58, .lenV (.t 57), [], none⟩,
   ⟨some 59, .bin .add (.t 55) (.t 58), [], none⟩,
   ⟨some 9, .mv (.t 59), [], none⟩]
def c_compile_Of.r15 : List CI :=
  [⟨some 60, .bin .add (.t 47) (.c (.int .i64 1)), [], none⟩,
   ⟨some 47, .mv (.t 60), [], none⟩]
def c_compile_Of.r16 : List CI :=
  [⟨some 61, .mv (.t 7), [], none⟩,
   ⟨some 62, .lenV (.t 61), [], none⟩,
   ⟨some 63, .build [.sl none 0 0, .int .i64 0] [(1, 1, (.t 62))], [], none⟩,
   ⟨some 12, .alloc 24 [.sl none 0 0, .int .i64 0], [], none⟩,
   ⟨none, .store 2 (.t 12) (.t 63), [], none⟩]
def c_compile_Of.r17 : List CI :=
  [⟨some 64, .fadr 0 (.t 4), [], none⟩,
   ⟨some 65, .load 1 false (.t 64), [], none⟩,
   ⟨some 66, .lenV (.t 65), [], none⟩,
   ⟨some 67, .mv (.c (.int .i64 0)), [], none⟩]
def c_compile_Of.r18 : List CI :=
  [⟨some 68, .bin .lss (.t 67) (.t 66), [], none⟩]
def c_compile_Of.r19 : List CI :=
  [⟨some 69, .iadr 2 (.t 65) (.t 67), [], none⟩,
   ⟨some 70, .load 2 true (.t 69), [], none⟩,
   ⟨some 14, .alloc 45 [.str [], .sl none 0 0], [], none⟩,
   ⟨none, .store 2 (.t 14) (.t 70), [], none⟩]
def c_compile_Of.r20 : List CI :=
  [⟨some 71, .fadr 1 (.t 14), [], none⟩,
   ⟨some 72, .load 1 false (.t 71), [], none⟩,
   ⟨some 73, .lenV (.t 72), [], none⟩,
   ⟨some 74, .mv (.c (.int .i64 0)), [], none⟩]
def c_compile_Of.r21 : List CI :=
  [⟨some 75, .bin .lss (.t 74) (.t 73), [], none⟩]
def c_compile_Of.r22 : List CI :=
  [⟨some 76, .iadr 8 (.t 72) (.t 74), [], none⟩,
   ⟨some 77, .load 8 true (.t 76), [], none⟩,
   ⟨some 16, .alloc 49 [.int .i64 0, .str [], .str [], .int .i64 0, .str [], .sl none 0 0, .int .i64 0, .str []], [], none⟩,
   ⟨none, .store 8 (.t 16) (.t 77), [], none⟩]
def c_compile_Of.r23 : List CI :=
  [⟨some 78, .fadr 0 (.t 16), [], none⟩,
   ⟨some 79, .load 1 false (.t 78), [], none⟩,
   ⟨some 80, .fadr 1 (.t 16), [], none⟩,
   ⟨some 81, .load 1 false (.t 80), [], none⟩,
   ⟨some 82, .fadr 3 (.t 16), [], none⟩,
   ⟨some 83, .load 1 false (.t 82), [], none⟩,
   ⟨some 84, .mv (.t 8), [], none⟩,
   ⟨some 85, .fadr 4 (.t 16), [], none⟩,
   ⟨some 86, .load 1 false (.t 85), [], none⟩,
   ⟨some 87, .look 1 (.int .i64 0) false (.t 84) (.t 86), [], none⟩,
   ⟨some 88, .fadr 6 (.t 16), [], none⟩,
   ⟨some 89, .load 1 false (.t 88), [], none⟩,
   ⟨some 90, .build [.int .i64 0, .str [], .int .i64 0, .int .i64 0, .int .i64 0, .sl none 0 0, .int .i64 0, .int .i64 0] [(0, 1, (.t 79)), (1, 1, (.t 81)), (3, 1, (.t 83)), (4, 1, (.t 87)), (6, 1, (.t 89)), (7, 1, (.c (.int .i64 (-1))))], [], none⟩,
   ⟨some 17, .alloc 62 [.int .i64 0, .str [], .int .i64 0, .int .i64 0, .int .i64 0, .sl none 0 0, .int .i64 0, .int .i64 0], [], none⟩,
   ⟨none, .store 8 (.t 17) (.t 90), [], none⟩]
def c_compile_Of.r24 : List CI :=
  [⟨some 91, .fadr 2 (.t 16), [], none⟩,
   ⟨some 92, .load 1 false (.t 91), [], none⟩,
   ⟨some 93, .bin .neq (.t 92) (.c (.str [])), [], none⟩]
def c_compile_Of.r25 : List CI :=
  [⟨some 94, .mv (.t 7), [], none⟩,
   ⟨some 95, .fadr 2 (.t 16), [], none⟩,
   ⟨some 96, .load 1 false (.t 95), [], none⟩,
   ⟨some 97, .call n_slices_Index_string_string [(.t 94), (.t 96)], [], none⟩,
   ⟨some 98, .fadr 2 (.t 17), [], none⟩,
   ⟨none, .store 1 (.t 98) (.t 97), [], none⟩]
def c_compile_Of.r26 : List CI :=
  [⟨some 99, .fadr 5 (.t 16), [], none⟩,
   ⟨some 100, .load 1 false (.t 99), [], none⟩,
   ⟨some 101, .lenV (.t 100), [], none⟩,
   ⟨some 102, .mv (.c (.int .i64 0)), [], none⟩]
def c_compile_Of.r27 : List CI :=
  [⟨some 103, .bin .lss (.t 102) (.t 101), [], none⟩]
def c_compile_Of.r28 : List CI :=
  [⟨some 104, .iadr 3 (.t 100) (.t 102), [], none⟩,
   ⟨some 105, .load 3 true (.t 104), [], none⟩,
   ⟨some 19, .alloc 53 [.int .i64 0, .str [], .str []], [], none⟩,
   ⟨none, .store 3 (.t 19) (.t 105), [], none⟩]
def c_compile_Of.r29 : List CI :=
  [⟨some 106, .fadr 5 (.t 17), [], none⟩,
   ⟨some 107, .load 1 false (.t 106), [], none⟩,
   ⟨some 108, .fadr 0 (.t 19), [], none⟩,
   ⟨some 109, .load 2 true (.t 108), [], none⟩,
   ⟨some 110, .mv (.t 8), [], none⟩,
   ⟨some 111, .fadr 2 (.t 19), [], none⟩,
   ⟨some 112, .load 1 false (.t 111), [], none⟩,
   ⟨some 113, .look 1 (.int .i64 0) false (.t 110) (.t 112), [], none⟩,
   ⟨some 114, .build [.int .i64 0, .str [], .int .i64 0] [(0, 2, (.t 109)), (2, 1, (.t 113))], [], none⟩,
   ⟨some 115, .bslice 3 1 [.int .i64 0, .str [], .int .i64 0] [(0, (.t 114))], [], none⟩,
   ⟨some 116, .app 64 3 32 [.int .i64 0, .str [], .int .i64 0] (.t 107) (.t 115), [], none⟩,
   ⟨some 117, .fadr 5 (.t 17), [], none⟩,
   ⟨none, .store 1 (.t 117) (.t 116), [], none⟩]
def c_compile_Of.r30 : List CI :=
  [⟨some 118, .bin .add (.t 102) (.c (.int .i64 1)), [], none⟩,
   ⟨some 102, .mv (.t 118), [], none⟩]
def c_compile_Of.r31 : List CI :=
  [⟨some 119, .fadr 7 (.t 16), [], none⟩,
   ⟨some 120, .load 1 false (.t 119), [], none⟩,
   ⟨some 121, .bin .neq (.t 120) (.c (.str [])), [], none⟩]
def c_compile_Of.r32 : List CI :=
  [⟨some 122, .mv (.t 8), [], none⟩,
   ⟨some 123, .fadr 7 (.t 16), [], none⟩,
   ⟨some 124, .load 1 false (.t 123), [], none⟩,
   ⟨some 125, .look 1 (.int .i64 0) false (.t 122) (.t 124), [], none⟩,
   ⟨some 126, .fadr 7 (.t 17), [], none⟩,
   ⟨none, .store 1 (.t 126) (.t 125), [], none⟩]
def c_compile_Of.r33 : List CI :=
  [⟨some 127, .fadr 0 (.t 12), [], none⟩,
   ⟨some 128, .load 1 false (.t 127), [], none⟩,
   ⟨some 129, .load 8 true (.t 17), [], none⟩,
   ⟨some 130, .bslice 8 1 [.int .i64 0, .str [], .int .i64 0, .int .i64 0, .int .i64 0, .sl none 0 0, .int .i64 0, .int .i64 0] [(0, (.t 129))], [], none⟩,
   ⟨some 131, .app 62 8 88 [.int .i64 0, .str [], .int .i64 0, .int .i64 0, .int .i64 0, .sl none 0 0, .int .i64 0, .int .i64 0] (.t 128) (.t 130), [], none⟩,
   ⟨some 132, .fadr 0 (.t 12), [], none⟩,
   ⟨none, .store 1 (.t 132) (.t 131), [], none⟩]
def c_compile_Of.r34 : List CI :=
  [⟨some 133, .bin .add (.t 74) (.c (.int .i64 1)), [], none⟩,
   ⟨some 74, .mv (.t 133), [], none⟩]
def c_compile_Of.r35 : List CI :=
  [⟨some 134, .bin .add (.t 67) (.c (.int .i64 1)), [], none⟩,
   ⟨some 67, .mv (.t 134), [], none⟩]
def c_compile_Of.r36 : List CI :=
  [⟨some 135, .load 2 true (.t 12), [], none⟩,
   ⟨some 136, .build [.int .i64 0, .int .i64 0] [], [], none⟩,
   ⟨none, .store 2 (.t 2) (.t 135), [], none⟩,
   ⟨none, .store 2 (.t 3) (.t 136), [], none⟩]
def c_compile_Of : CF := { nt := 137, res := [.cell 2 2 true, .cell 3 2 true], body :=
  (.seq (.region false c_compile_Of.r0) (.seq (.region false c_compile_Of.r1) (.seq (.seq (.region false c_compile_Of.r2) (.cond (.t 27) (.seq (.regionP [0, 1, 2, 3] [] c_compile_Of.r3) .ret) .skip)) (.seq (.seq (.region false c_compile_Of.r4) (.seq (.region false c_compile_Of.r5) (.cond (.t 34) (.seq (.regionP [0, 1, 2, 3, 4, 5, 6, 7] [] c_compile_Of.r6) .ret) .skip))) (.seq (.region false c_compile_Of.r7) (.seq (.region false c_compile_Of.r8) (.seq (.region false c_compile_Of.r9) (.seq (.seq (.region false c_compile_Of.r10) (.block 0 (.loop [2, 3, 4, 7, 8, 9, 45, 46, 47] (.seq (.region false c_compile_Of.r11) (.seq (.cond (.t 48) .skip (.exit 0)) (.seq (.block 1 (.seq (.region false c_compile_Of.r12) (.seq (.region false c_compile_Of.r13) (.region false c_compile_Of.r14)))) (.region false c_compile_Of.r15))))))) (.seq (.region false c_compile_Of.r16) (.seq (.seq (.region false c_compile_Of.r17) (.block 2 (.loop [2, 3, 7, 8, 12, 65, 66, 67] (.seq (.region false c_compile_Of.r18) (.seq (.cond (.t 68) .skip (.exit 2)) (.seq (.block 3 (.seq (.region false c_compile_Of.r19) (.seq (.region false c_compile_Of.r20) (.block 4 (.loop [2, 3, 7, 8, 12, 65, 66, 67, 72, 73, 74] (.seq (.region false c_compile_Of.r21) (.seq (.cond (.t 75) .skip (.exit 4)) (.seq (.block 5 (.seq (.region false c_compile_Of.r22) (.seq (.region false c_compile_Of.r23) (.seqK [2, 3, 7, 8, 12, 16, 17, 65, 66, 67, 72, 73, 74] (.seq (.region false c_compile_Of.r24) (.cond (.t 93) (.region false c_compile_Of.r25) .skip)) (.seq (.seq (.region false c_compile_Of.r26) (.block 6 (.loop [2, 3, 7, 8, 12, 16, 17, 65, 66, 67, 72, 73, 74, 100, 101, 102] (.seq (.region false c_compile_Of.r27) (.seq (.cond (.t 103) .skip (.exit 6)) (.seq (.block 7 (.seq (.region false c_compile_Of.r28) (.region false c_compile_Of.r29))) (.region false c_compile_Of.r30))))))) (.seqK [2, 3, 7, 8, 12, 17, 65, 66, 67, 72, 73, 74] (.seq (.region false c_compile_Of.r31) (.cond (.t 121) (.region false c_compile_Of.r32) .skip)) (.region false c_compile_Of.r33))))))) (.region false c_compile_Of.r34))))))))) (.region false c_compile_Of.r35))))))) (.seq (.region false c_compile_Of.r36) .ret))))))))))) }
theorem k_compile_Of : chkF Go.Proofs.Tryz.prog n_compile_Of c_compile_Of = true := by kernel_rfl

def c_compile_Right.r0 : List CI :=
  [⟨some 1, .box 24 (.t 0), [], none⟩,
   ⟨some 2, .mv (.c (.bool false)), [], none⟩]
def c_compile_Right.r1 : List CI :=
  [⟨some 16, .load 2 true (.t 1), [], none⟩,
   ⟨some 17, .call n_compile_heads [(.t 16)], [], none⟩,
   ⟨some 15, .mv (.t 17), [], none⟩,
   ⟨some 18, .ext (.t 15) 0, [], none⟩,
   ⟨some 19, .ext (.t 15) 1, [], none⟩,
   ⟨some 3, .mv (.t 18), [], none⟩,
   ⟨some 4, .mv (.t 19), [], none⟩]
def c_compile_Right.r2 : List CI :=
  [⟨some 20, .mv (.t 4), [], none⟩,
   ⟨some 21, .un .not (.t 20), [], none⟩,
   ⟨some 22, .mv (.t 21), [], none⟩,
   ⟨some 23, .fadr 1 (.t 1), [], (some (2, false))⟩,
   ⟨some 24, .load 1 false (.t 23), [], (some (2, false))⟩,
   ⟨some 25, .bin .gtr (.t 24) (.c (.int .i64 8)), [], (some (2, false))⟩,
   ⟨some 26, .pick (.t 22) (.c (.bool true)) (.t 25), [], none⟩]
def c_compile_Right.r3 : List CI :=
  [⟨some 2, .mv (.c (.bool false)), [], none⟩]
def c_compile_Right.r4 : List CI :=
  [⟨some 5, .mv (.c (.int .i64 0)), [], none⟩]
def c_compile_Right.r5 : List CI :=
  [⟨some 27, .fadr 0 (.t 1), [], none⟩,
   ⟨some 28, .load 1 false (.t 27), [], none⟩,
   ⟨some 29, .lenV (.t 28), [], none⟩,
   ⟨some 30, .mv (.c (.int .i64 0)), [], none⟩]
def c_compile_Right.r6 : List CI :=
  [⟨some 31, .bin .lss (.t 30) (.t 29), [], none⟩]
def c_compile_Right.r7 : List CI :=
  [⟨some 32, .iadr 8 (.t 28) (.t 30), [], none⟩,
   ⟨some 33, .load 8 true (.t 32), [], none⟩,
   ⟨some 7, .alloc 62 [.int .i64 0, .str [], .int .i64 0, .int .i64 0, .int .i64 0, .sl none 0 0, .int .i64 0, .int .i64 0], [], none⟩,
   ⟨none, .store 8 (.t 7) (.t 33), [], none⟩]
def c_compile_Right.r8 : List CI :=
  [⟨some 34, .bslice 1 0 [.int .i64 0] [], [], none⟩,
   ⟨some 8, .mv (.t 34), [], none⟩]
def c_compile_Right.r9 : List CI :=
  [⟨some 35, .fadr 0 (.t 7), [], none⟩,
   ⟨some 36, .load 1 false (.t 35), [], none⟩]
def c_compile_Right.r10 : List CI :=
  [⟨some 38, .bin .eql (.t 36) (.c (.int .i64 2)), [], none⟩,
   ⟨some 37, .mv (.t 38), [], none⟩]
def c_compile_Right.r11 : List CI :=
  [⟨some 39, .bin .eql (.t 36) (.c (.int .i64 3)), [], none⟩,
   ⟨some 37, .mv (.t 39), [], none⟩]
def c_compile_Right.r12 : List CI :=
  [⟨some 40, .bin .eql (.t 36) (.c (.int .i64 4)), [], none⟩,
   ⟨some 37, .mv (.t 40), [], none⟩]
def c_compile_Right.r13 : List CI :=
  [⟨some 41, .fadr 2 (.t 7), [], none⟩,
   ⟨some 42, .load 1 false (.t 41), [], none⟩,
   ⟨some 43, .bin .lss (.t 42) (.c (.int .i64 0)), [], none⟩,
   ⟨some 44, .mv (.t 43), [], none⟩,
   ⟨some 45, .fadr 2 (.t 7), [], (some (3, false))⟩,
   ⟨some 46, .load 1 false (.t 45), [], (some (3, false))⟩,
   ⟨some 47, .mv (.t 5), [], (some (3, false))⟩,
   ⟨some 48, .bin .gtr (.t 46) (.t 47), [], (some (3, false))⟩,
   ⟨some 49, .pick (.t 44) (.c (.bool true)) (.t 48), [], none⟩]
def c_compile_Right.r14 : List CI :=
  [⟨some 2, .mv (.c (.bool false)), [], none⟩]
def c_compile_Right.r15 : List CI :=
  [⟨some 50, .mv (.t 5), [], none⟩,
   ⟨some 51, .fadr 2 (.t 7), [], none⟩,
   ⟨some 52, .load 1 false (.t 51), [], none⟩,
   ⟨some 53, .bin .add (.t 52) (.c (.int .i64 1)), [], none⟩,
   ⟨some 54, .mx (.t 50) (.t 53), [], none⟩,
   ⟨some 5, .mv (.t 54), [], none⟩]
def c_compile_Right.r16 : List CI :=
  [⟨some 55, .fadr 0 (.t 7), [], none⟩,
   ⟨some 56, .load 1 false (.t 55), [], none⟩,
   ⟨some 57, .bin .eql (.t 56) (.c (.int .i64 4)), [], none⟩,
   ⟨some 58, .mv (.t 57), [], none⟩,
   ⟨some 59, .fadr 0 (.t 7), [], (some (3, false))⟩,
   ⟨some 60, .load 1 false (.t 59), [], (some (3, false))⟩,
   ⟨some 61, .bin .eql (.t 60) (.c (.int .i64 5)), [], (some (3, false))⟩,
   ⟨some 62, .pick (.t 58) (.c (.bool true)) (.t 61), [], none⟩]
def c_compile_Right.r17 : List CI :=
  [⟨some 63, .mv (.t 8), [], none⟩,
   ⟨some 64, .fadr 4 (.t 7), [], none⟩,
   ⟨some 65, .load 1 false (.t 64), [], none⟩,
   ⟨some 66, .bslice 1 1 [.int .i64 0] [(0, (.t 65))], [], none⟩,
   ⟨some 67, .app 3 1 8 [.int .i64 0] (.t 63) (.t 66), [], none⟩,
   ⟨some 8, .mv (.t 67), [], none⟩]
def c_compile_Right.r18 : List CI :=
  [⟨some 68, .fadr 5 (.t 7), [], none⟩,
   ⟨some 69, .load 1 false (.t 68), [], none⟩,
   ⟨some 70, .lenV (.t 69), [], none⟩,
   ⟨some 71, .mv (.c (.int .i64 0)), [], none⟩]
def c_compile_Right.r19 : List CI :=
  [⟨some 72, .bin .lss (.t 71) (.t 70), [], none⟩]
def c_compile_Right.r20 : List CI :=
  [⟨some 73, .iadr 3 (.t 69) (.t 71), [], none⟩,
   ⟨some 74, .load 3 true (.t 73), [], none⟩,
   ⟨some 10, .alloc 64 [.int .i64 0, .str [], .int .i64 0], [], none⟩,
   ⟨none, .store 3 (.t 10) (.t 74), [], none⟩]
def c_compile_Right.r21 : List CI :=
  [⟨some 75, .mv (.t 8), [], none⟩,
   ⟨some 76, .fadr 2 (.t 10), [], none⟩,
   ⟨some 77, .load 1 false (.t 76), [], none⟩,
   ⟨some 78, .bslice 1 1 [.int .i64 0] [(0, (.t 77))], [], none⟩,
   ⟨some 79, .app 3 1 8 [.int .i64 0] (.t 75) (.t 78), [], none⟩,
   ⟨some 8, .mv (.t 79), [], none⟩]
def c_compile_Right.r22 : List CI :=
  [⟨some 80, .bin .add (.t 71) (.c (.int .i64 1)), [], none⟩,
   ⟨some 71, .mv (.t 80), [], none⟩]
def c_compile_Right.r23 : List CI :=
  [⟨some 81, .fadr 7 (.t 7), [], none⟩,
   ⟨some 82, .load 1 false (.t 81), [], none⟩,
   ⟨some 83, .bin .neq (.t 82) (.c (.int .i64 (-1))), [], none⟩]
def c_compile_Right.r24 : List CI :=
  [⟨some 84, .mv (.t 8), [], none⟩,
   ⟨some 85, .fadr 7 (.t 7), [], none⟩,
   ⟨some 86, .load 1 false (.t 85), [], none⟩,
   ⟨some 87, .bslice 1 1 [.int .i64 0] [(0, (.t 86))], [], none⟩,
   ⟨some 88, .app 3 1 8 [.int .i64 0] (.t 84) (.t 87), [], none⟩,
   ⟨some 8, .mv (.t 88), [], none⟩]
def c_compile_Right.r25 : List CI :=
  [⟨some 89, .mv (.t 8), [], none⟩,
   ⟨some 90, .lenV (.t 89), [], none⟩,
   ⟨some 91, .mv (.c (.int .i64 0)), [], none⟩]
def c_compile_Right.r26 : List CI :=
  [⟨some 92, .bin .lss (.t 91) (.t 90), [], none⟩]
def c_compile_Right.r27 : List CI :=
  [⟨some 93, .iadr 1 (.t 89) (.t 91), [], none⟩,
   ⟨some 94, .load 1 false (.t 93), [], none⟩,
   ⟨some 12, .mv (.t 94), [], none⟩]
def c_compile_Right.r28 : List CI :=
  [⟨some 96, .mv (.t 3), [], none⟩,
   ⟨some 97, .mv (.t 12), [], none⟩,
   ⟨some 98, .look 0 (.int .i64 0) true (.t 96) (.t 97), [], none⟩,
   ⟨some 95, .mv (.t 98), [], none⟩,
   ⟨some 99, .ext (.t 95) 0, [], none⟩,
   ⟨some 100, .ext (.t 95) 1, [], none⟩,
   ⟨some 13, .mv (.t 99), [], none⟩,
   ⟨some 14, .mv (.t 100), [], none⟩]
def c_compile_Right.r29 : List CI :=
  [⟨some 101, .mv (.t 14), [], none⟩,
   ⟨some 102, .un .not (.t 101), [], none⟩]
def c_compile_Right.r30 : List CI :=
  [⟨some 2, .mv (.c (.bool false)), [], none⟩]
def c_compile_Right.r31 : List CI :=
  [⟨some 103, .bin .add (.t 91) (.c (.int .i64 1)), [], none⟩,
   ⟨some 91, .mv (.t 103), [], none⟩]
def c_compile_Right.r32 : List CI :=
  [⟨some 104, .load 8 true (.t 7), [], none⟩,
   ⟨some 105, .call n_compile_fits [(.t 104)], [], none⟩,
   ⟨some 106, .un .not (.t 105), [], none⟩]
def c_compile_Right.r33 : List CI :=
  [⟨some 2, .mv (.c (.bool false)), [], none⟩]
def c_compile_Right.r34 : List CI :=
  [⟨some 107, .bin .add (.t 30) (.c (.int .i64 1)), [], none⟩,
   ⟨some 30, .mv (.t 107), [], none⟩]
def c_compile_Right.r35 : List CI :=
  [⟨some 108, .mv (.t 5), [], none⟩,
   ⟨some 109, .fadr 1 (.t 1), [], none⟩,
   ⟨some 110, .load 1 false (.t 109), [], none⟩,
   ⟨some 111, .bin .eql (.t 108) (.t 110), [], none⟩,
   ⟨some 112, .mv (.t 111), [], none⟩,
   ⟨some 113, .load 2 true (.t 1), [], (some (4, true))⟩,
   ⟨some 114, .call n_compile_round [(.t 113)], [], (some (4, true))⟩,
   ⟨some 115, .un .not (.t 114), [], (some (4, true))⟩,
   ⟨some 116, .pick (.t 112) (.t 115) (.c (.bool false)), [], none⟩,
   ⟨some 2, .mv (.t 116), [], none⟩]
def c_compile_Right : CF := { nt := 117, res := [.tmp 2], body :=
  (.seq (.region false c_compile_Right.r0) (.seq (.region false c_compile_Right.r1) (.seq (.seq (.region false c_compile_Right.r2) (.cond (.t 26) (.seq (.region false c_compile_Right.r3) .ret) .skip)) (.seq (.region false c_compile_Right.r4) (.seq (.seq (.region false c_compile_Right.r5) (.block 0 (.loop [1, 3, 5, 28, 29, 30] (.seq (.region false c_compile_Right.r6) (.seq (.cond (.t 31) .skip (.exit 0)) (.seq (.block 1 (.seq (.region false c_compile_Right.r7) (.seq (.region false c_compile_Right.r8) (.seqK [1, 3, 5, 7, 8, 28, 29, 30] (.seq (.region false c_compile_Right.r9) (.block 2 (.seqK [1, 3, 5, 7, 8, 28, 29, 30, 37] (.seq (.region false c_compile_Right.r10) (.cond (.t 37) .skip (.seq (.region false c_compile_Right.r11) (.cond (.t 37) .skip (.region false c_compile_Right.r12))))) (.cond (.t 37) (.seq (.seq (.region false c_compile_Right.r13) (.cond (.t 49) (.seq (.region false c_compile_Right.r14) .ret) .skip)) (.region false c_compile_Right.r15)) .skip)))) (.seqK [1, 3, 5, 7, 8, 28, 29, 30] (.seq (.region false c_compile_Right.r16) (.cond (.t 62) (.region false c_compile_Right.r17) .skip)) (.seq (.seq (.region false c_compile_Right.r18) (.block 3 (.loop [1, 3, 5, 7, 8, 28, 29, 30, 69, 70, 71] (.seq (.region false c_compile_Right.r19) (.seq (.cond (.t 72) .skip (.exit 3)) (.seq (.block 4 (.seq (.region false c_compile_Right.r20) (.region false c_compile_Right.r21))) (.region false c_compile_Right.r22))))))) (.seqK [1, 3, 5, 7, 8, 28, 29, 30] (.seq (.region false c_compile_Right.r23) (.cond (.t 83) (.region false c_compile_Right.r24) .skip)) (.seq (.seq (.region false c_compile_Right.r25) (.block 5 (.loop [1, 3, 5, 7, 28, 29, 30, 89, 90, 91] (.seq (.region false c_compile_Right.r26) (.seq (.cond (.t 92) .skip (.exit 5)) (.seq (.block 6 (.seq (.region false c_compile_Right.r27) (.seq (.region false c_compile_Right.r28) (.seq (.region false c_compile_Right.r29) (.cond (.t 102) (.seq (.region false c_compile_Right.r30) .ret) .skip))))) (.region false c_compile_Right.r31))))))) (.seq (.region false c_compile_Right.r32) (.cond (.t 106) (.seq (.region false c_compile_Right.r33) .ret) .skip)))))))))) (.region false c_compile_Right.r34))))))) (.seq (.region false c_compile_Right.r35) .ret)))))) }
theorem k_compile_Right : chkF Go.Proofs.Tryz.prog n_compile_Right c_compile_Right = true := by kernel_rfl

def c_parse_Program.r0 : List CI :=
  [⟨some 2, .alloc 38 [.sl none 0 0], [], none⟩,
   ⟨some 3, .alloc 32 [.int .i64 0, .int .i64 0], [], none⟩]
def c_parse_Program.r1 : List CI :=
  [⟨some 12, .mv (.t 0), [], none⟩,
   ⟨some 13, .call n_lex_Lex [(.t 12)], [], none⟩,
   ⟨some 11, .mv (.t 13), [], none⟩,
   ⟨some 14, .ext (.t 11) 0, [], none⟩,
   ⟨some 15, .ext (.t 11) 1, [], none⟩,
   ⟨some 5, .alloc 32 [.int .i64 0, .int .i64 0], [], none⟩,
   ⟨some 4, .mv (.t 14), [], none⟩,
   ⟨none, .store 2 (.t 5) (.t 15), [], none⟩]
def c_parse_Program.r2 : List CI :=
  [⟨some 16, .fadr 0 (.t 5), [], none⟩,
   ⟨some 17, .load 1 false (.t 16), [], none⟩,
   ⟨some 18, .bin .neq (.t 17) (.c (.int .i64 0)), [], none⟩]
def c_parse_Program.r3 : List CI :=
  [⟨some 19, .build [.sl none 0 0] [], [], none⟩,
   ⟨some 20, .load 2 true (.t 5), [], none⟩,
   ⟨none, .store 1 (.t 2) (.t 19), [0, 0], none⟩,
   ⟨none, .store 2 (.t 3) (.t 20), [1, 2, 0, 1, 2], none⟩]
def c_parse_Program.r4 : List CI :=
  [⟨some 22, .mv (.t 4), [], none⟩,
   ⟨some 23, .mv (.t 0), [], none⟩,
   ⟨some 24, .lenS (.t 23), [], none⟩,
   ⟨some 25, .build [.sl none 0 0, .int .i64 0, .int .i64 0, .int .i64 0] [(0, 1, (.t 22)), (2, 1, (.t 24))], [], none⟩,
   ⟨some 26, .box 111 (.t 25), [], none⟩,
   ⟨some 6, .mv (.t 26), [], none⟩]
def c_parse_Program.r5 : List CI :=
  [⟨some 27, .mv (.t 6), [], none⟩,
   ⟨some 28, .nilck (.t 27), [], none⟩,
   ⟨some 29, .fadr 1 (.t 28), [], none⟩,
   ⟨some 30, .load 1 false (.t 29), [], none⟩,
   ⟨some 31, .mv (.t 4), [], none⟩,
   ⟨some 32, .lenV (.t 31), [], none⟩,
   ⟨some 33, .bin .lss (.t 30) (.t 32), [], none⟩,
   ⟨some 34, .mv (.t 33), [], none⟩,
   ⟨some 35, .fadr 0 (.t 2), [], (some (7, false))⟩,
   ⟨some 36, .load 1 false (.t 35), [], (some (7, false))⟩,
   ⟨some 37, .lenV (.t 36), [], (some (7, false))⟩,
   ⟨some 38, .bin .eql (.t 37) (.c (.int .i64 0)), [], (some (7, false))⟩,
   ⟨some 39, .pick (.t 34) (.c (.bool true)) (.t 38), [], none⟩]
def c_parse_Program.r6 : List CI :=
  [⟨some 40, .mv (.t 6), [], none⟩,
   ⟨some 41, .call n_parse_reader_next [(.t 40)], [], none⟩,
   ⟨some 7, .alloc 113 [.int .i64 0, .str [], .int .i64 0, .int .i64 0], [], none⟩,
   ⟨none, .store 4 (.t 7) (.t 41), [], none⟩]
def c_parse_Program.r7 : List CI :=
  [⟨some 42, .mv (.t 6), [], none⟩,
   ⟨some 43, .call n_parse_reader_name [(.t 42), (.c (.int .i64 2))], [], none⟩,
   ⟨some 44, .build [.str [], .sl none 0 0] [(0, 1, (.t 43))], [], none⟩,
   ⟨some 8, .alloc 45 [.str [], .sl none 0 0], [], none⟩,
   ⟨none, .store 2 (.t 8) (.t 44), [], none⟩]
def c_parse_Program.r8 : List CI :=
  [⟨some 45, .fadr 0 (.t 2), [], none⟩,
   ⟨some 46, .load 1 false (.t 45), [], none⟩,
   ⟨some 47, .lenV (.t 46), [], none⟩,
   ⟨some 48, .bin .eql (.t 47) (.c (.int .i64 32)), [], none⟩]
def c_parse_Program.r9 : List CI :=
  [⟨some 49, .fadr 3 (.t 7), [], none⟩,
   ⟨some 50, .load 1 false (.t 49), [], none⟩,
   ⟨some 51, .call n_parse_fail [(.c (.int .i64 8)), (.t 50)], [], none⟩]
def c_parse_Program.r10 : List CI :=
  [⟨some 52, .mv (.t 6), [], none⟩,
   ⟨some 53, .call n_parse_reader_take [(.t 52), (.c (.int .i64 6))], [], none⟩]
def c_parse_Program.r11 : List CI :=
  [⟨some 9, .mv (.c (.bool false)), [], none⟩]
def c_parse_Program.r12 : List CI :=
  [⟨some 54, .mv (.t 9), [], none⟩,
   ⟨some 55, .un .not (.t 54), [], none⟩]
def c_parse_Program.r13 : List CI :=
  [⟨some 10, .alloc 49 [.int .i64 0, .str [], .str [], .int .i64 0, .str [], .sl none 0 0, .int .i64 0, .str []], [], none⟩]
def c_parse_Program.r14 : List CI :=
  [⟨some 57, .mv (.t 6), [], none⟩,
   ⟨some 58, .call n_parse_reader_line [(.t 57)], [], none⟩,
   ⟨some 56, .mv (.t 58), [], none⟩,
   ⟨some 59, .ext (.t 56) 0, [], none⟩,
   ⟨some 60, .ext (.t 56) 1, [], none⟩,
   ⟨none, .store 8 (.t 10) (.t 59), [], none⟩,
   ⟨some 9, .mv (.t 60), [], none⟩]
def c_parse_Program.r15 : List CI :=
  [⟨some 61, .fadr 1 (.t 8), [], none⟩,
   ⟨some 62, .load 1 false (.t 61), [], none⟩,
   ⟨some 63, .load 8 true (.t 10), [], none⟩,
   ⟨some 64, .bslice 8 1 [.int .i64 0, .str [], .str [], .int .i64 0, .str [], .sl none 0 0, .int .i64 0, .str []] [(0, (.t 63))], [], none⟩,
   ⟨some 65, .app 49 8 112 [.int .i64 0, .str [], .str [], .int .i64 0, .str [], .sl none 0 0, .int .i64 0, .str []] (.t 62) (.t 64), [], none⟩,
   ⟨some 66, .fadr 1 (.t 8), [], none⟩,
   ⟨none, .store 1 (.t 66) (.t 65), [], none⟩]
def c_parse_Program.r16 : List CI :=
  [⟨some 67, .fadr 0 (.t 2), [], none⟩,
   ⟨some 68, .load 1 false (.t 67), [], none⟩,
   ⟨some 69, .load 2 true (.t 8), [], none⟩,
   ⟨some 70, .bslice 2 1 [.str [], .sl none 0 0] [(0, (.t 69))], [], none⟩,
   ⟨some 71, .app 45 2 40 [.str [], .sl none 0 0] (.t 68) (.t 70), [], none⟩,
   ⟨some 72, .fadr 0 (.t 2), [], none⟩,
   ⟨none, .store 1 (.t 72) (.t 71), [], none⟩]
def c_parse_Program.r17 : List CI :=
  [⟨some 73, .load 1 true (.t 2), [], none⟩,
   ⟨some 74, .build [.int .i64 0, .int .i64 0] [], [], none⟩,
   ⟨none, .store 1 (.t 2) (.t 73), [], none⟩,
   ⟨none, .store 2 (.t 3) (.t 74), [], none⟩]
def c_parse_Program : CF := { nt := 75, res := [.cell 2 1 true, .cell 3 2 true], body :=
  (.seq (.region false c_parse_Program.r0) (.seq (.region false c_parse_Program.r1) (.seq (.seq (.region false c_parse_Program.r2) (.cond (.t 18) (.seq (.regionP [0, 1, 2, 3] [] c_parse_Program.r3) .ret) .skip)) (.seq (.region false [⟨some 21, .mkF n_parse_Program_1 [] [(.t 2), (.t 3)], [], none⟩, ⟨none, .dfr (.t 21), [], none⟩]) (.seq (.region false c_parse_Program.r4) (.seq (.block 0 (.loop [2, 3, 4, 6] (.seq (.seq (.region false c_parse_Program.r5) (.cond (.t 39) .skip (.exit 0))) (.block 1 (.seq (.region false c_parse_Program.r6) (.seq (.region false c_parse_Program.r7) (.seqK [2, 3, 4, 6, 8] (.seq (.region false c_parse_Program.r8) (.cond (.t 48) (.region false c_parse_Program.r9) .skip)) (.seq (.region false c_parse_Program.r10) (.seq (.seq (.region false c_parse_Program.r11) (.block 2 (.loop [2, 3, 4, 6, 8, 9] (.seq (.seq (.region false c_parse_Program.r12) (.cond (.t 55) .skip (.exit 2))) (.block 3 (.seq (.region false c_parse_Program.r13) (.seq (.region false c_parse_Program.r14) (.region false c_parse_Program.r15)))))))) (.region false c_parse_Program.r16)))))))))) (.seq (.region false c_parse_Program.r17) .ret))))))) }
theorem k_parse_Program : chkF Go.Proofs.Tryz.prog n_parse_Program c_parse_Program = true := by kernel_rfl

def c_parse_Print.r0 : List CI :=
  [⟨some 1, .box 38 (.t 0), [], none⟩,
   ⟨some 2, .mv (.c (.str [])), [], none⟩]
def c_parse_Print.r1 : List CI :=
  [⟨some 3, .load 1 true (.t 1), [], none⟩,
   ⟨some 4, .call n_parse_May [(.t 3)], [], none⟩,
   ⟨some 5, .un .not (.t 4), [], none⟩]
def c_parse_Print.r2 : List CI :=
  [⟨some 2, .mv (.c (.str [])), [], none⟩]
def c_parse_Print.r3 : List CI :=
  [⟨some 6, .load 1 true (.t 1), [], none⟩,
   ⟨some 7, .call n_parse_text [(.t 6)], [], none⟩,
   ⟨some 2, .mv (.t 7), [], none⟩]
def c_parse_Print : CF := { nt := 8, res := [.tmp 2], body :=
  (.seq (.region false c_parse_Print.r0) (.seq (.seq (.region false c_parse_Print.r1) (.cond (.t 5) (.seq (.region false c_parse_Print.r2) .ret) .skip)) (.seq (.region false c_parse_Print.r3) .ret))) }
theorem k_parse_Print : chkF Go.Proofs.Tryz.prog n_parse_Print c_parse_Print = true := by kernel_rfl

def c_check_Check.r0 : List CI :=
  [⟨some 1, .box 38 (.t 0), [], none⟩,
   ⟨some 2, .alloc 57 [.int .i64 0, .int .i64 0, .int .i64 0, .int .i64 0], [], none⟩]
def c_check_Check.r1 : List CI :=
  [⟨some 19, .load 1 true (.t 1), [], none⟩,
   ⟨some 20, .call n_parse_May [(.t 19)], [], none⟩,
   ⟨some 21, .un .not (.t 20), [], none⟩]
def c_check_Check.r2 : List CI :=
  [⟨some 22, .build [.int .i64 0, .int .i64 0, .int .i64 0, .int .i64 0] [(0, 1, (.c (.int .i64 2))), (1, 1, (.c (.int .i64 (-1)))), (2, 1, (.c (.int .i64 (-1)))), (3, 1, (.c (.int .i64 (-1))))], [], none⟩,
   ⟨none, .store 4 (.t 2) (.t 22), [], none⟩]
def c_check_Check.r3 : List CI :=
  [⟨some 23, .load 1 true (.t 1), [], none⟩,
   ⟨some 24, .call n_check_places [(.t 23)], [], none⟩,
   ⟨some 3, .mv (.t 24), [], none⟩]
def c_check_Check.r4 : List CI :=
  [⟨some 25, .mkM, [], none⟩,
   ⟨some 4, .mv (.t 25), [], none⟩]
def c_check_Check.r5 : List CI :=
  [⟨some 26, .fadr 0 (.t 1), [], none⟩,
   ⟨some 27, .load 1 false (.t 26), [], none⟩,
   ⟨some 28, .lenV (.t 27), [], none⟩,
   ⟨some 29, .mv (.c (.int .i64 0)), [], none⟩]
def c_check_Check.r6 : List CI :=
  [⟨some 30, .bin .lss (.t 29) (.t 28), [], none⟩]
def c_check_Check.r7 : List CI :=
  [⟨some 31, .mv (.t 29), [], none⟩,
   ⟨some 32, .iadr 2 (.t 27) (.t 29), [], none⟩,
   ⟨some 33, .load 2 true (.t 32), [], none⟩,
   ⟨some 6, .alloc 45 [.str [], .sl none 0 0], [], none⟩,
   ⟨some 5, .mv (.t 31), [], none⟩,
   ⟨none, .store 2 (.t 6) (.t 33), [], none⟩]
def c_check_Check.r8 : List CI :=
  [⟨some 34, .mv (.t 3), [], none⟩,
   ⟨some 35, .fadr 0 (.t 6), [], none⟩,
   ⟨some 36, .load 1 false (.t 35), [], none⟩,
   ⟨some 37, .look 1 (.int .i64 0) false (.t 34) (.t 36), [], none⟩,
   ⟨some 38, .mv (.t 5), [], none⟩,
   ⟨some 39, .bin .neq (.t 37) (.t 38), [], none⟩]
def c_check_Check.r9 : List CI :=
  [⟨some 40, .mv (.t 5), [], none⟩,
   ⟨some 41, .build [.int .i64 0, .int .i64 0, .int .i64 0, .int .i64 0] [(0, 1, (.c (.int .i64 140))), (1, 1, (.t 40)), (2, 1, (.c (.int .i64 (-1)))), (3, 1, (.c (.int .i64 (-1))))], [], none⟩,
   ⟨none, .store 4 (.t 2) (.t 41), [], none⟩]
def c_check_Check.r10 : List CI :=
  [⟨some 42, .fadr 1 (.t 6), [], none⟩,
   ⟨some 43, .load 1 false (.t 42), [], none⟩,
   ⟨some 44, .lenV (.t 43), [], none⟩,
   ⟨some 45, .mv (.c (.int .i64 0)), [], none⟩]
def c_check_Check.r11 : List CI :=
  [⟨some 46, .bin .lss (.t 45) (.t 44), [], none⟩]
def c_check_Check.r12 : List CI :=
  [⟨some 47, .mv (.t 45), [], none⟩,
   ⟨some 48, .iadr 8 (.t 43) (.t 45), [], none⟩,
   ⟨some 49, .load 8 true (.t 48), [], none⟩,
   ⟨some 8, .alloc 49 [.int .i64 0, .str [], .str [], .int .i64 0, .str [], .sl none 0 0, .int .i64 0, .str []], [], none⟩,
   ⟨some 7, .mv (.t 47), [], none⟩,
   ⟨none, .store 8 (.t 8) (.t 49), [], none⟩]
def c_check_Check.r13 : List CI :=
  [⟨some 50, .fadr 2 (.t 8), [], none⟩,
   ⟨some 51, .load 1 false (.t 50), [], none⟩,
   ⟨some 52, .bin .neq (.t 51) (.c (.str [])), [], none⟩]
def c_check_Check.r14 : List CI :=
  [⟨some 53, .mv (.t 4), [], none⟩,
   ⟨some 54, .fadr 2 (.t 8), [], none⟩,
   ⟨some 55, .load 1 false (.t 54), [], none⟩,
   ⟨none, .mset 1 (.t 53) (.t 55) (.c (.bool true)), [], none⟩]
def c_check_Check.r15 : List CI :=
  [⟨some 56, .mv (.t 4), [], none⟩,
   ⟨some 57, .lenM (.t 56), [], none⟩,
   ⟨some 58, .bin .gtr (.t 57) (.c (.int .i64 8)), [], none⟩]
def c_check_Check.r16 : List CI :=
  [⟨some 59, .mv (.t 5), [], none⟩,
   ⟨some 60, .mv (.t 7), [], none⟩,
   ⟨some 61, .build [.int .i64 0, .int .i64 0, .int .i64 0, .int .i64 0] [(0, 1, (.c (.int .i64 142))), (1, 1, (.t 59)), (2, 1, (.t 60)), (3, 1, (.c (.int .i64 (-1))))], [], none⟩,
   ⟨none, .store 4 (.t 2) (.t 61), [], none⟩]
def c_check_Check.r17 : List CI :=
  [⟨some 62, .fadr 5 (.t 8), [], none⟩,
   ⟨some 63, .load 1 false (.t 62), [], none⟩,
   ⟨some 64, .lenV (.t 63), [], none⟩,
   ⟨some 65, .mv (.c (.int .i64 0)), [], none⟩]
def c_check_Check.r18 : List CI :=
  [⟨some 66, .bin .lss (.t 65) (.t 64), [], none⟩]
def c_check_Check.r19 : List CI :=
  [⟨some 67, .mv (.t 65), [], none⟩,
   ⟨some 68, .iadr 3 (.t 63) (.t 65), [], none⟩,
   ⟨some 69, .load 3 true (.t 68), [], none⟩,
   ⟨some 10, .alloc 53 [.int .i64 0, .str [], .str []], [], none⟩,
   ⟨some 9, .mv (.t 67), [], none⟩,
   ⟨none, .store 3 (.t 10) (.t 69), [], none⟩]
def c_check_Check.r20 : List CI :=
  [⟨some 70, .fadr 0 (.t 10), [], none⟩,
   ⟨some 71, .load 2 true (.t 70), [], none⟩,
   ⟨some 72, .call n_pattern_Empty [(.t 71)], [], none⟩]
def c_check_Check.r21 : List CI :=
  [⟨some 73, .mv (.t 5), [], none⟩,
   ⟨some 74, .mv (.t 7), [], none⟩,
   ⟨some 75, .mv (.t 9), [], none⟩,
   ⟨some 76, .build [.int .i64 0, .int .i64 0, .int .i64 0, .int .i64 0] [(0, 1, (.c (.int .i64 143))), (1, 1, (.t 73)), (2, 1, (.t 74)), (3, 1, (.t 75))], [], none⟩,
   ⟨none, .store 4 (.t 2) (.t 76), [], none⟩]
def c_check_Check.r22 : List CI :=
  [⟨some 78, .mv (.t 3), [], none⟩,
   ⟨some 79, .fadr 2 (.t 10), [], none⟩,
   ⟨some 80, .load 1 false (.t 79), [], none⟩,
   ⟨some 81, .look 1 (.int .i64 0) true (.t 78) (.t 80), [], none⟩,
   ⟨some 77, .mv (.t 81), [], none⟩,
   ⟨some 82, .ext (.t 77) 0, [], none⟩,
   ⟨some 83, .ext (.t 77) 1, [], none⟩,
   ⟨some 11, .mv (.t 82), [], none⟩,
   ⟨some 12, .mv (.t 83), [], none⟩]
def c_check_Check.r23 : List CI :=
  [⟨some 84, .mv (.t 12), [], none⟩,
   ⟨some 85, .un .not (.t 84), [], none⟩]
def c_check_Check.r24 : List CI :=
  [⟨some 86, .mv (.t 5), [], none⟩,
   ⟨some 87, .mv (.t 7), [], none⟩,
   ⟨some 88, .mv (.t 9), [], none⟩,
   ⟨some 89, .build [.int .i64 0, .int .i64 0, .int .i64 0, .int .i64 0] [(0, 1, (.c (.int .i64 141))), (1, 1, (.t 86)), (2, 1, (.t 87)), (3, 1, (.t 88))], [], none⟩,
   ⟨none, .store 4 (.t 2) (.t 89), [], none⟩]
def c_check_Check.r25 : List CI :=
  [⟨some 90, .bin .add (.t 65) (.c (.int .i64 1)), [], none⟩,
   ⟨some 65, .mv (.t 90), [], none⟩]
def c_check_Check.r26 : List CI :=
  [⟨some 91, .fadr 4 (.t 8), [], none⟩,
   ⟨some 92, .load 1 false (.t 91), [], none⟩,
   ⟨some 93, .fadr 7 (.t 8), [], none⟩,
   ⟨some 94, .load 1 false (.t 93), [], none⟩,
   ⟨some 95, .build [.str [], .str []] [(0, 1, (.t 92)), (1, 1, (.t 94))], [], none⟩,
   ⟨some 96, .mv (.c (.int .i64 0)), [], none⟩]
def c_check_Check.r27 : List CI :=
  [⟨some 97, .bin .lss (.t 96) (.c (.int .i64 2)), [], none⟩]
def c_check_Check.r28 : List CI :=
  [⟨some 98, .idxA 2 1 false (.t 95) (.t 96), [], none⟩,
   ⟨some 14, .mv (.t 98), [], none⟩]
def c_check_Check.r29 : List CI :=
  [⟨some 100, .mv (.t 3), [], none⟩,
   ⟨some 101, .mv (.t 14), [], none⟩,
   ⟨some 102, .look 1 (.int .i64 0) true (.t 100) (.t 101), [], none⟩,
   ⟨some 99, .mv (.t 102), [], none⟩,
   ⟨some 103, .ext (.t 99) 0, [], none⟩,
   ⟨some 104, .ext (.t 99) 1, [], none⟩,
   ⟨some 15, .mv (.t 103), [], none⟩,
   ⟨some 16, .mv (.t 104), [], none⟩]
def c_check_Check.r30 : List CI :=
  [⟨some 105, .mv (.t 16), [], none⟩,
   ⟨some 106, .un .not (.t 105), [], none⟩,
   ⟨some 107, .mv (.t 106), [], none⟩,
   ⟨some 108, .mv (.t 14), [], (some (2, true))⟩,
   ⟨some 109, .bin .neq (.t 108) (.c (.str [])), [], (some (2, true))⟩,
   ⟨some 110, .pick (.t 107) (.t 109) (.c (.bool false)), [], none⟩]
def c_check_Check.r31 : List CI :=
  [⟨some 111, .mv (.t 5), [], none⟩,
   ⟨some 112, .mv (.t 7), [], none⟩,
   ⟨some 113, .build [.int .i64 0, .int .i64 0, .int .i64 0, .int .i64 0] [(0, 1, (.c (.int .i64 141))), (1, 1, (.t 111)), (2, 1, (.t 112)), (3, 1, (.c (.int .i64 (-1))))], [], none⟩,
   ⟨none, .store 4 (.t 2) (.t 113), [], none⟩]
def c_check_Check.r32 : List CI :=
  [⟨some 114, .bin .add (.t 96) (.c (.int .i64 1)), [], none⟩,
   ⟨some 96, .mv (.t 114), [], none⟩]
def c_check_Check.r33 : List CI :=
  [⟨some 115, .bin .add (.t 45) (.c (.int .i64 1)), [], none⟩,
   ⟨some 45, .mv (.t 115), [], none⟩]
def c_check_Check.r34 : List CI :=
  [⟨some 116, .bin .add (.t 29) (.c (.int .i64 1)), [], none⟩,
   ⟨some 29, .mv (.t 116), [], none⟩]
def c_check_Check.r35 : List CI :=
  [⟨some 118, .load 1 true (.t 1), [], none⟩,
   ⟨some 119, .call n_check_Round [(.t 118)], [], none⟩,
   ⟨some 117, .mv (.t 119), [], none⟩,
   ⟨some 120, .ext (.t 117) 0, [], none⟩,
   ⟨some 121, .ext (.t 117) 1, [], none⟩,
   ⟨some 17, .mv (.t 120), [], none⟩,
   ⟨some 18, .mv (.t 121), [], none⟩]
def c_check_Check.r36 : List CI :=
  [⟨some 122, .mv (.t 18), [], none⟩]
def c_check_Check.r37 : List CI :=
  [⟨some 123, .mv (.t 17), [], none⟩,
   ⟨some 124, .build [.int .i64 0, .int .i64 0, .int .i64 0, .int .i64 0] [(0, 1, (.c (.int .i64 144))), (1, 1, (.t 123)), (2, 1, (.c (.int .i64 (-1)))), (3, 1, (.c (.int .i64 (-1))))], [], none⟩,
   ⟨none, .store 4 (.t 2) (.t 124), [], none⟩]
def c_check_Check.r38 : List CI :=
  [⟨some 125, .build [.int .i64 0, .int .i64 0, .int .i64 0, .int .i64 0] [], [], none⟩,
   ⟨none, .store 4 (.t 2) (.t 125), [], none⟩]
def c_check_Check : CF := { nt := 126, res := [.cell 2 4 true], body :=
  (.seq (.region false c_check_Check.r0) (.seq (.seq (.region false c_check_Check.r1) (.cond (.t 21) (.seq (.region false c_check_Check.r2) .ret) .skip)) (.seq (.region false c_check_Check.r3) (.seq (.region false c_check_Check.r4) (.seq (.seq (.region false c_check_Check.r5) (.block 0 (.loop [1, 2, 3, 4, 27, 28, 29] (.seq (.region false c_check_Check.r6) (.seq (.cond (.t 30) .skip (.exit 0)) (.seq (.block 1 (.seq (.region false c_check_Check.r7) (.seq (.seq (.region false c_check_Check.r8) (.cond (.t 39) (.seq (.region false c_check_Check.r9) .ret) .skip)) (.seq (.region false c_check_Check.r10) (.block 2 (.loop [1, 2, 3, 4, 5, 27, 28, 29, 43, 44, 45] (.seq (.region false c_check_Check.r11) (.seq (.cond (.t 46) .skip (.exit 2)) (.seq (.block 3 (.seq (.region false c_check_Check.r12) (.seqK [1, 2, 3, 4, 5, 7, 8, 27, 28, 29, 43, 44, 45] (.seq (.region false c_check_Check.r13) (.cond (.t 52) (.region false c_check_Check.r14) .skip)) (.seq (.seq (.region false c_check_Check.r15) (.cond (.t 58) (.seq (.region false c_check_Check.r16) .ret) .skip)) (.seq (.seq (.region false c_check_Check.r17) (.block 4 (.loop [1, 2, 3, 4, 5, 7, 8, 27, 28, 29, 43, 44, 45, 63, 64, 65] (.seq (.region false c_check_Check.r18) (.seq (.cond (.t 66) .skip (.exit 4)) (.seq (.block 5 (.seq (.region false c_check_Check.r19) (.seq (.seq (.region false c_check_Check.r20) (.cond (.t 72) (.seq (.region false c_check_Check.r21) .ret) .skip)) (.seq (.region false c_check_Check.r22) (.seq (.region false c_check_Check.r23) (.cond (.t 85) (.seq (.region false c_check_Check.r24) .ret) .skip)))))) (.region false c_check_Check.r25))))))) (.seq (.region false c_check_Check.r26) (.block 6 (.loop [1, 2, 3, 4, 5, 7, 27, 28, 29, 43, 44, 45, 95, 96] (.seq (.region false c_check_Check.r27) (.seq (.cond (.t 97) .skip (.exit 6)) (.seq (.block 7 (.seq (.region false c_check_Check.r28) (.seq (.region false c_check_Check.r29) (.seq (.region false c_check_Check.r30) (.cond (.t 110) (.seq (.region false c_check_Check.r31) .ret) .skip))))) (.region false c_check_Check.r32)))))))))))) (.region false c_check_Check.r33)))))))))) (.region false c_check_Check.r34))))))) (.seq (.seq (.region false c_check_Check.r35) (.seq (.region false c_check_Check.r36) (.cond (.t 122) (.seq (.region false c_check_Check.r37) .ret) .skip))) (.seq (.region false c_check_Check.r38) .ret))))))) }
theorem k_check_Check : chkF Go.Proofs.Tryz.prog n_check_Check c_check_Check = true := by kernel_rfl

def c_check_Counters.r0 : List CI :=
  [⟨some 1, .box 38 (.t 0), [], none⟩,
   ⟨some 2, .mv (.c (.sl none 0 0)), [], none⟩]
def c_check_Counters.r1 : List CI :=
  [⟨some 3, .mv (.c (.sl none 0 0)), [], none⟩]
def c_check_Counters.r2 : List CI :=
  [⟨some 8, .load 1 true (.t 1), [], none⟩,
   ⟨some 9, .call n_parse_May [(.t 8)], [], none⟩,
   ⟨some 10, .un .not (.t 9), [], none⟩]
def c_check_Counters.r3 : List CI :=
  [⟨some 2, .mv (.c (.sl none 0 0)), [], none⟩]
def c_check_Counters.r4 : List CI :=
  [⟨some 11, .fadr 0 (.t 1), [], none⟩,
   ⟨some 12, .load 1 false (.t 11), [], none⟩,
   ⟨some 13, .lenV (.t 12), [], none⟩,
   ⟨some 14, .mv (.c (.int .i64 0)), [], none⟩]
def c_check_Counters.r5 : List CI :=
  [⟨some 15, .bin .lss (.t 14) (.t 13), [], none⟩]
def c_check_Counters.r6 : List CI :=
  [⟨some 16, .iadr 2 (.t 12) (.t 14), [], none⟩,
   ⟨some 17, .load 2 true (.t 16), [], none⟩,
   ⟨some 5, .alloc 45 [.str [], .sl none 0 0], [], none⟩,
   ⟨none, .store 2 (.t 5) (.t 17), [], none⟩]
def c_check_Counters.r7 : List CI :=
  [⟨some 18, .fadr 1 (.t 5), [], none⟩,
   ⟨some 19, .load 1 false (.t 18), [], none⟩,
   ⟨some 20, .lenV (.t 19), [], none⟩,
   ⟨some 21, .mv (.c (.int .i64 0)), [], none⟩]
def c_check_Counters.r8 : List CI :=
  [⟨some 22, .bin .lss (.t 21) (.t 20), [], none⟩]
def c_check_Counters.r9 : List CI :=
  [⟨some 23, .iadr 8 (.t 19) (.t 21), [], none⟩,
   ⟨some 24, .load 8 true (.t 23), [], none⟩,
   ⟨some 7, .alloc 49 [.int .i64 0, .str [], .str [], .int .i64 0, .str [], .sl none 0 0, .int .i64 0, .str []], [], none⟩,
   ⟨none, .store 8 (.t 7) (.t 24), [], none⟩]
def c_check_Counters.r10 : List CI :=
  [⟨some 25, .fadr 2 (.t 7), [], none⟩,
   ⟨some 26, .load 1 false (.t 25), [], none⟩,
   ⟨some 27, .bin .neq (.t 26) (.c (.str [])), [], none⟩,
   ⟨some 28, .mv (.t 27), [], none⟩,
   ⟨some 29, .mv (.t 3), [], (some (3, true))⟩,
   ⟨some 30, .fadr 2 (.t 7), [], (some (3, true))⟩,
   ⟨some 31, .load 1 false (.t 30), [], (some (3, true))⟩,
   ⟨some 32, .call n_slices_Contains_string_string [(.t 29), (.t 31)], [], (some (3, true))⟩,
   ⟨some 33, .un .not (.t 32), [], (some (3, true))⟩,
   ⟨some 34, .pick (.t 28) (.t 33) (.c (.bool false)), [], none⟩]
def c_check_Counters.r11 : List CI :=
  [⟨some 35, .mv (.t 3), [], none⟩,
   ⟨some 36, .fadr 2 (.t 7), [], none⟩,
   ⟨some 37, .load 1 false (.t 36), [], none⟩,
   ⟨some 38, .bslice 1 1 [.str []] [(0, (.t 37))], [], none⟩,
   ⟨some 39, .app 9 1 16 [.str []] (.t 35) (.t 38), [], none⟩,
   ⟨some 3, .mv (.t 39), [], none⟩]
def c_check_Counters.r12 : List CI :=
  [⟨some 40, .bin .add (.t 21) (.c (.int .i64 1)), [], none⟩,
   ⟨some 21, .mv (.t 40), [], none⟩]
def c_check_Counters.r13 : List CI :=
  [⟨some 41, .bin .add (.t 14) (.c (.int .i64 1)), [], none⟩,
   ⟨some 14, .mv (.t 41), [], none⟩]
def c_check_Counters.r14 : List CI :=
  [⟨some 42, .mv (.t 3), [], none⟩,
   ⟨some 2, .mv (.t 42), [], none⟩]
def c_check_Counters : CF := { nt := 43, res := [.tmp 2], body :=
  (.seq (.region false c_check_Counters.r0) (.seq (.region false c_check_Counters.r1) (.seq (.seq (.region false c_check_Counters.r2) (.cond (.t 10) (.seq (.region false c_check_Counters.r3) .ret) .skip)) (.seq (.seq (.region false c_check_Counters.r4) (.block 0 (.loop [3, 12, 13, 14] (.seq (.region false c_check_Counters.r5) (.seq (.cond (.t 15) .skip (.exit 0)) (.seq (.block 1 (.seq (.region false c_check_Counters.r6) (.seq (.region false c_check_Counters.r7) (.block 2 (.loop [3, 12, 13, 14, 19, 20, 21] (.seq (.region false c_check_Counters.r8) (.seq (.cond (.t 22) .skip (.exit 2)) (.seqK [3, 12, 13, 14, 19, 20, 21] (.block 3 (.seq (.region false c_check_Counters.r9) (.seq (.region false c_check_Counters.r10) (.cond (.t 34) (.region false c_check_Counters.r11) .skip)))) (.region false c_check_Counters.r12))))))))) (.region false c_check_Counters.r13))))))) (.seq (.region false c_check_Counters.r14) .ret))))) }
theorem k_check_Counters : chkF Go.Proofs.Tryz.prog n_check_Counters c_check_Counters = true := by kernel_rfl

def c_compile_heads.r0 : List CI :=
  [⟨some 1, .box 24 (.t 0), [], none⟩,
   ⟨some 2, .mv (.c (.map none)), [], none⟩,
   ⟨some 3, .mv (.c (.bool false)), [], none⟩]
def c_compile_heads.r1 : List CI :=
  [⟨some 8, .mkM, [], none⟩,
   ⟨some 4, .mv (.t 8), [], none⟩]
def c_compile_heads.r2 : List CI :=
  [⟨some 5, .mv (.c (.bool true)), [], none⟩]
def c_compile_heads.r3 : List CI :=
  [⟨some 9, .fadr 0 (.t 1), [], none⟩,
   ⟨some 10, .load 1 false (.t 9), [], none⟩,
   ⟨some 11, .lenV (.t 10), [], none⟩,
   ⟨some 12, .mv (.c (.int .i64 0)), [], none⟩]
def c_compile_heads.r4 : List CI :=
  [⟨some 13, .bin .lss (.t 12) (.t 11), [], none⟩]
def c_compile_heads.r5 : List CI :=
  [⟨some 14, .mv (.t 12), [], none⟩,
   ⟨some 15, .iadr 8 (.t 10) (.t 12), [], none⟩,
   ⟨some 16, .load 8 true (.t 15), [], none⟩,
   ⟨some 7, .alloc 62 [.int .i64 0, .str [], .int .i64 0, .int .i64 0, .int .i64 0, .sl none 0 0, .int .i64 0, .int .i64 0], [], none⟩,
   ⟨some 6, .mv (.t 14), [], none⟩,
   ⟨none, .store 8 (.t 7) (.t 16), [], none⟩]
def c_compile_heads.r6 : List CI :=
  [⟨some 17, .mv (.t 5), [], none⟩]
def c_compile_heads.r7 : List CI :=
  [⟨some 18, .mv (.t 4), [], none⟩,
   ⟨some 19, .mv (.t 6), [], none⟩,
   ⟨some 20, .mv (.t 4), [], none⟩,
   ⟨some 21, .lenM (.t 20), [], none⟩,
   ⟨none, .mset 0 (.t 18) (.t 19) (.t 21), [], none⟩]
def c_compile_heads.r8 : List CI :=
  [⟨some 22, .fadr 0 (.t 7), [], none⟩,
   ⟨some 23, .load 1 false (.t 22), [], none⟩,
   ⟨some 24, .bin .geq (.t 23) (.c (.int .i64 5)), [], none⟩,
   ⟨some 5, .mv (.t 24), [], none⟩]
def c_compile_heads.r9 : List CI :=
  [⟨some 25, .bin .add (.t 12) (.c (.int .i64 1)), [], none⟩,
   ⟨some 12, .mv (.t 25), [], none⟩]
def c_compile_heads.r10 : List CI :=
  [⟨some 26, .mv (.t 4), [], none⟩,
   ⟨some 27, .mv (.t 5), [], none⟩,
   ⟨some 28, .mv (.t 27), [1], none⟩,
   ⟨some 29, .mv (.t 4), [2], (some (2, true))⟩,
   ⟨some 30, .lenM (.t 29), [3, 2, 2], (some (2, true))⟩,
   ⟨some 31, .bin .gtr (.t 30) (.c (.int .i64 0)), [4, 2], (some (2, true))⟩,
   ⟨some 32, .pick (.t 28) (.t 31) (.c (.bool false)), [2, 5], none⟩,
   ⟨some 33, .mv (.t 32), [6, 4], none⟩,
   ⟨some 34, .mv (.t 4), [7], (some (7, true))⟩,
   ⟨some 35, .lenM (.t 34), [8, 7, 7], (some (7, true))⟩,
   ⟨some 36, .bin .leq (.t 35) (.c (.int .i64 32)), [9, 7], (some (7, true))⟩,
   ⟨some 37, .pick (.t 33) (.t 36) (.c (.bool false)), [7, 10], none⟩,
   ⟨some 38, .mv (.t 37), [11, 9], none⟩,
   ⟨some 39, .fadr 0 (.t 1), [12], (some (12, true))⟩,
   ⟨some 40, .load 1 false (.t 39), [13, 12], (some (12, true))⟩,
   ⟨some 41, .lenV (.t 40), [14, 12], (some (12, true))⟩,
   ⟨some 42, .bin .leq (.t 41) (.c (.int .i64 128)), [15, 12], (some (12, true))⟩,
   ⟨some 43, .pick (.t 38) (.t 42) (.c (.bool false)), [12, 16], none⟩,
   ⟨some 2, .mv (.t 26), [0, 12, 0], none⟩,
   ⟨some 3, .mv (.t 43), [17, 18, 0, 1, 2, 3, 4, 5, 6, 7, 8, 9, 10, 11, 12, 13, 14, 15, 16, 17, 18], none⟩]
def c_compile_heads : CF := { nt := 44, res := [.tmp 2, .tmp 3], body :=
  (.seq (.region false c_compile_heads.r0) (.seq (.region false c_compile_heads.r1) (.seq (.region false c_compile_heads.r2) (.seq (.seq (.region false c_compile_heads.r3) (.block 0 (.loop [1, 4, 5, 10, 11, 12] (.seq (.region false c_compile_heads.r4) (.seq (.cond (.t 13) .skip (.exit 0)) (.seq (.block 1 (.seq (.region false c_compile_heads.r5) (.seqK [1, 4, 7, 10, 11, 12] (.seq (.region false c_compile_heads.r6) (.cond (.t 17) (.region false c_compile_heads.r7) .skip)) (.region false c_compile_heads.r8)))) (.region false c_compile_heads.r9))))))) (.seq (.regionP [0, 1, 2, 3, 4, 5, 6, 7, 8, 9, 10, 11, 12, 13, 14, 15, 16, 17, 18, 19] [] c_compile_heads.r10) .ret))))) }
theorem k_compile_heads : chkF Go.Proofs.Tryz.prog n_compile_heads c_compile_heads = true := by kernel_rfl

def c_compile_Text_1.r0 : List CI :=
  [⟨some 3, .mv (.c (.str [])), [], none⟩]
def c_compile_Text_1.r1 : List CI :=
  [⟨some 4, .load 1 false (.t 1), [], none⟩,
   ⟨some 5, .mv (.t 0), [], none⟩,
   ⟨some 6, .look 0 (.int .i64 0) false (.t 4) (.t 5), [], none⟩,
   ⟨some 7, .call n_compile_letter [(.t 6)], [], none⟩,
   ⟨some 3, .mv (.t 7), [], none⟩]
def c_compile_Text_1 : CF := { nt := 8, res := [.tmp 3], body :=
  (.seq (.region false c_compile_Text_1.r0) (.seq (.region false c_compile_Text_1.r1) .ret)) }
theorem k_compile_Text_1 : chkF Go.Proofs.Tryz.prog n_compile_Text_1 c_compile_Text_1 = true := by kernel_rfl

def c_compile_letter.r0 : List CI :=
  [⟨some 2, .mv (.c (.str [])), [], none⟩]
def c_compile_letter.r1 : List CI :=
  [⟨some 3, .mv (.t 0), [], none⟩,
   ⟨some 4, .bin .geq (.t 3) (.c (.int .i64 26)), [], none⟩]
def c_compile_letter.r2 : List CI :=
  [⟨some 5, .mv (.t 0), [], none⟩,
   ⟨some 6, .bin .sub (.t 5) (.c (.int .i64 26)), [], none⟩,
   ⟨some 7, .call n_compile_letter [(.t 6)], [], none⟩,
   ⟨some 8, .bin .add (.c (.str [98])) (.t 7), [], none⟩,
   ⟨some 2, .mv (.t 8), [], none⟩]
def c_compile_letter.r3 : List CI :=
  [⟨some 9, .mv (.t 0), [], none⟩,
   ⟨some 10, .bin .add (.c (.int .i64 97)) (.t 9), [], none⟩,
   ⟨some 11, .toInt .u8 (.t 10), [], none⟩,
   ⟨some 12, .bslice 1 1 [.int .u8 0] [(0, (.t 11))], [], none⟩,
   ⟨some 13, .b2s (.t 12), [], none⟩,
   ⟨some 2, .mv (.t 13), [], none⟩]
def c_compile_letter : CF := { nt := 14, res := [.tmp 2], body :=
  (.seq (.region false c_compile_letter.r0) (.seq (.seq (.region false c_compile_letter.r1) (.cond (.t 4) (.seq (.region false c_compile_letter.r2) .ret) .skip)) (.seq (.region false c_compile_letter.r3) .ret))) }
theorem k_compile_letter : chkF Go.Proofs.Tryz.prog n_compile_letter c_compile_letter = true := by kernel_rfl

def c_slices_Index_string_string.r0 : List CI :=
  [⟨some 4, .mv (.c (.int .i64 0)), [], none⟩]
def c_slices_Index_string_string.r1 : List CI :=
  [⟨some 6, .mv (.t 0), [], none⟩,
   ⟨some 7, .lenV (.t 6), [], none⟩,
   ⟨some 8, .mv (.c (.int .i64 0)), [], none⟩]
def c_slices_Index_string_string.r2 : List CI :=
  [⟨some 9, .bin .lss (.t 8) (.t 7), [], none⟩]
def c_slices_Index_string_string.r3 : List CI :=
  [⟨some 10, .mv (.t 8), [], none⟩,
   ⟨some 5, .mv (.t 10), [], none⟩]
def c_slices_Index_string_string.r4 : List CI :=
  [⟨some 11, .mv (.t 1), [], none⟩,
   ⟨some 12, .mv (.t 0), [], none⟩,
   ⟨some 13, .mv (.t 5), [], none⟩,
   ⟨some 14, .iadr 1 (.t 12) (.t 13), [], none⟩,
   ⟨some 15, .load 1 false (.t 14), [], none⟩,
   ⟨some 16, .bin .eql (.t 11) (.t 15), [], none⟩]
def c_slices_Index_string_string.r5 : List CI :=
  [⟨some 17, .mv (.t 5), [], none⟩,
   ⟨some 4, .mv (.t 17), [], none⟩]
def c_slices_Index_string_string.r6 : List CI :=
  [⟨some 18, .bin .add (.t 8) (.c (.int .i64 1)), [], none⟩,
   ⟨some 8, .mv (.t 18), [], none⟩]
def c_slices_Index_string_string.r7 : List CI :=
  [⟨some 4, .mv (.c (.int .i64 (-1))), [], none⟩]
def c_slices_Index_string_string : CF := { nt := 19, res := [.tmp 4], body :=
  (.seq (.region false c_slices_Index_string_string.r0) (.seq (.seq (.region false c_slices_Index_string_string.r1) (.block 0 (.loop [0, 1, 7, 8] (.seq (.region false c_slices_Index_string_string.r2) (.seq (.cond (.t 9) .skip (.exit 0)) (.seq (.block 1 (.seq (.region false c_slices_Index_string_string.r3) (.seq (.region false c_slices_Index_string_string.r4) (.cond (.t 16) (.seq (.region false c_slices_Index_string_string.r5) .ret) .skip)))) (.region false c_slices_Index_string_string.r6))))))) (.seq (.region false c_slices_Index_string_string.r7) .ret))) }
theorem k_slices_Index_string_string : chkF Go.Proofs.Tryz.prog n_slices_Index_string_string c_slices_Index_string_string = true := by kernel_rfl

def c_compile_fits.r0 : List CI :=
  [⟨some 1, .box 62 (.t 0), [], none⟩,
   ⟨some 2, .mv (.c (.bool false)), [], none⟩]
def c_compile_fits.r1 : List CI :=
  [⟨some 8, .load 8 true (.t 1), [], none⟩,
   ⟨some 9, .call n_compile_bare [(.t 8)], [], none⟩,
   ⟨some 3, .alloc 62 [.int .i64 0, .str [], .int .i64 0, .int .i64 0, .int .i64 0, .sl none 0 0, .int .i64 0, .int .i64 0], [], none⟩,
   ⟨none, .store 8 (.t 3) (.t 9), [], none⟩]
def c_compile_fits.r2 : List CI :=
  [⟨some 10, .fadr 1 (.t 1), [], none⟩,
   ⟨some 11, .load 1 false (.t 10), [], none⟩,
   ⟨some 12, .fadr 1 (.t 3), [], none⟩,
   ⟨some 13, .load 1 false (.t 12), [], none⟩,
   ⟨some 14, .bin .neq (.t 11) (.t 13), [], none⟩,
   ⟨some 15, .mv (.t 14), [], none⟩,
   ⟨some 16, .fadr 2 (.t 1), [], (some (5, false))⟩,
   ⟨some 17, .load 1 false (.t 16), [], (some (5, false))⟩,
   ⟨some 18, .fadr 2 (.t 3), [], (some (5, false))⟩,
   ⟨some 19, .load 1 false (.t 18), [], (some (5, false))⟩,
   ⟨some 20, .bin .neq (.t 17) (.t 19), [], (some (5, false))⟩,
   ⟨some 21, .pick (.t 15) (.c (.bool true)) (.t 20), [], none⟩,
   ⟨some 22, .mv (.t 21), [], none⟩,
   ⟨some 23, .fadr 3 (.t 1), [], (some (12, false))⟩,
   ⟨some 24, .load 1 false (.t 23), [], (some (12, false))⟩,
   ⟨some 25, .fadr 3 (.t 3), [], (some (12, false))⟩,
   ⟨some 26, .load 1 false (.t 25), [], (some (12, false))⟩,
   ⟨some 27, .bin .neq (.t 24) (.t 26), [], (some (12, false))⟩,
   ⟨some 28, .pick (.t 22) (.c (.bool true)) (.t 27), [], none⟩,
   ⟨some 29, .mv (.t 28), [], none⟩,
   ⟨some 30, .fadr 4 (.t 1), [], (some (19, false))⟩,
   ⟨some 31, .load 1 false (.t 30), [], (some (19, false))⟩,
   ⟨some 32, .fadr 4 (.t 3), [], (some (19, false))⟩,
   ⟨some 33, .load 1 false (.t 32), [], (some (19, false))⟩,
   ⟨some 34, .bin .neq (.t 31) (.t 33), [], (some (19, false))⟩,
   ⟨some 35, .pick (.t 29) (.c (.bool true)) (.t 34), [], none⟩,
   ⟨some 36, .mv (.t 35), [], none⟩,
   ⟨some 37, .fadr 6 (.t 1), [], (some (26, false))⟩,
   ⟨some 38, .load 1 false (.t 37), [], (some (26, false))⟩,
   ⟨some 39, .fadr 6 (.t 3), [], (some (26, false))⟩,
   ⟨some 40, .load 1 false (.t 39), [], (some (26, false))⟩,
   ⟨some 41, .bin .neq (.t 38) (.t 40), [], (some (26, false))⟩,
   ⟨some 42, .pick (.t 36) (.c (.bool true)) (.t 41), [], none⟩,
   ⟨some 43, .mv (.t 42), [], none⟩,
   ⟨some 44, .fadr 7 (.t 1), [], (some (33, false))⟩,
   ⟨some 45, .load 1 false (.t 44), [], (some (33, false))⟩,
   ⟨some 46, .fadr 7 (.t 3), [], (some (33, false))⟩,
   ⟨some 47, .load 1 false (.t 46), [], (some (33, false))⟩,
   ⟨some 48, .bin .neq (.t 45) (.t 47), [], (some (33, false))⟩,
   ⟨some 49, .pick (.t 43) (.c (.bool true)) (.t 48), [], none⟩,
   ⟨some 50, .mv (.t 49), [], none⟩,
   ⟨some 51, .fadr 5 (.t 1), [], (some (40, false))⟩,
   ⟨some 52, .load 1 false (.t 51), [], (some (40, false))⟩,
   ⟨some 53, .lenV (.t 52), [], (some (40, false))⟩,
   ⟨some 54, .fadr 5 (.t 3), [], (some (40, false))⟩,
   ⟨some 55, .load 1 false (.t 54), [], (some (40, false))⟩,
   ⟨some 56, .lenV (.t 55), [], (some (40, false))⟩,
   ⟨some 57, .bin .neq (.t 53) (.t 56), [], (some (40, false))⟩,
   ⟨some 58, .pick (.t 50) (.c (.bool true)) (.t 57), [], none⟩]
def c_compile_fits.r3 : List CI :=
  [⟨some 2, .mv (.c (.bool false)), [], none⟩]
def c_compile_fits.r4 : List CI :=
  [⟨some 59, .fadr 0 (.t 1), [], none⟩,
   ⟨some 60, .load 1 false (.t 59), [], none⟩]
def c_compile_fits.r5 : List CI :=
  [⟨some 62, .bin .eql (.t 60) (.c (.int .i64 1)), [], none⟩,
   ⟨some 61, .mv (.t 62), [], none⟩]
def c_compile_fits.r6 : List CI :=
  [⟨some 63, .fadr 1 (.t 1), [], none⟩,
   ⟨some 64, .load 1 false (.t 63), [], none⟩,
   ⟨some 65, .lenS (.t 64), [], none⟩,
   ⟨some 66, .bin .leq (.t 65) (.c (.int .i64 64)), [], none⟩,
   ⟨some 2, .mv (.t 66), [], none⟩]
def c_compile_fits.r7 : List CI :=
  [⟨some 68, .bin .eql (.t 60) (.c (.int .i64 2)), [], none⟩,
   ⟨some 67, .mv (.t 68), [], none⟩]
def c_compile_fits.r8 : List CI :=
  [⟨some 69, .bin .eql (.t 60) (.c (.int .i64 4)), [], none⟩,
   ⟨some 67, .mv (.t 69), [], none⟩]
def c_compile_fits.r9 : List CI :=
  [⟨some 70, .fadr 3 (.t 1), [], none⟩,
   ⟨some 71, .load 1 false (.t 70), [], none⟩,
   ⟨some 72, .bin .geq (.t 71) (.c (.int .i64 0)), [], none⟩,
   ⟨some 73, .mv (.t 72), [], none⟩,
   ⟨some 74, .fadr 3 (.t 1), [], (some (3, true))⟩,
   ⟨some 75, .load 1 false (.t 74), [], (some (3, true))⟩,
   ⟨some 76, .bin .leq (.t 75) (.c (.int .i64 255)), [], (some (3, true))⟩,
   ⟨some 77, .pick (.t 73) (.t 76) (.c (.bool false)), [], none⟩,
   ⟨some 2, .mv (.t 77), [], none⟩]
def c_compile_fits.r10 : List CI :=
  [⟨some 79, .bin .eql (.t 60) (.c (.int .i64 3)), [], none⟩,
   ⟨some 78, .mv (.t 79), [], none⟩]
def c_compile_fits.r11 : List CI :=
  [⟨some 80, .bin .eql (.t 60) (.c (.int .i64 5)), [], none⟩,
   ⟨some 78, .mv (.t 80), [], none⟩]
def c_compile_fits.r12 : List CI :=
  [⟨some 2, .mv (.c (.bool true)), [], none⟩]
def c_compile_fits.r13 : List CI :=
  [⟨some 82, .bin .eql (.t 60) (.c (.int .i64 6)), [], none⟩,
   ⟨some 81, .mv (.t 82), [], none⟩]
def c_compile_fits.r14 : List CI :=
  [⟨some 83, .fadr 3 (.t 1), [], none⟩,
   ⟨some 84, .load 1 false (.t 83), [], none⟩,
   ⟨some 85, .bin .geq (.t 84) (.c (.int .i64 0)), [], none⟩,
   ⟨some 86, .mv (.t 85), [], none⟩,
   ⟨some 87, .fadr 3 (.t 1), [], (some (3, true))⟩,
   ⟨some 88, .load 1 false (.t 87), [], (some (3, true))⟩,
   ⟨some 89, .bin .leq (.t 88) (.c (.int .i64 255)), [], (some (3, true))⟩,
   ⟨some 90, .pick (.t 86) (.t 89) (.c (.bool false)), [], none⟩,
   ⟨some 2, .mv (.t 90), [], none⟩]
def c_compile_fits.r15 : List CI :=
  [⟨some 92, .bin .eql (.t 60) (.c (.int .i64 7)), [], none⟩,
   ⟨some 91, .mv (.t 92), [], none⟩]
def c_compile_fits.r16 : List CI :=
  [⟨some 93, .fadr 5 (.t 1), [], none⟩,
   ⟨some 94, .load 1 false (.t 93), [], none⟩,
   ⟨some 95, .lenV (.t 94), [], none⟩,
   ⟨some 96, .mv (.c (.int .i64 0)), [], none⟩]
def c_compile_fits.r17 : List CI :=
  [⟨some 97, .bin .lss (.t 96) (.t 95), [], none⟩]
def c_compile_fits.r18 : List CI :=
  [⟨some 98, .iadr 3 (.t 94) (.t 96), [], none⟩,
   ⟨some 99, .load 3 true (.t 98), [], none⟩,
   ⟨some 5, .alloc 64 [.int .i64 0, .str [], .int .i64 0], [], none⟩,
   ⟨none, .store 3 (.t 5) (.t 99), [], none⟩]
def c_compile_fits.r19 : List CI :=
  [⟨some 101, .fadr 0 (.t 5), [], none⟩,
   ⟨some 102, .load 2 true (.t 101), [], none⟩,
   ⟨some 103, .call n_pattern_Tree [(.t 102)], [], none⟩,
   ⟨some 100, .mv (.t 103), [], none⟩,
   ⟨some 104, .ext (.t 100) 0, [], none⟩,
   ⟨some 105, .ext (.t 100) 1, [], none⟩,
   ⟨some 6, .alloc 151 [.int .i64 0, .int .u64 0, .int .u64 0, .int .u64 0, .int .u64 0, .sl none 0 0], [], none⟩,
   ⟨some 7, .alloc 32 [.int .i64 0, .int .i64 0], [], none⟩,
   ⟨none, .store 6 (.t 6) (.t 104), [], none⟩,
   ⟨none, .store 2 (.t 7) (.t 105), [], none⟩]
def c_compile_fits.r20 : List CI :=
  [⟨some 106, .fadr 0 (.t 7), [], none⟩,
   ⟨some 107, .load 1 false (.t 106), [], none⟩,
   ⟨some 108, .bin .neq (.t 107) (.c (.int .i64 0)), [], none⟩,
   ⟨some 109, .mv (.t 108), [], none⟩,
   ⟨some 110, .fadr 0 (.t 5), [], (some (3, false))⟩,
   ⟨some 111, .load 2 true (.t 110), [], (some (3, false))⟩,
   ⟨some 112, .call n_pattern_Empty [(.t 111)], [], (some (3, false))⟩,
   ⟨some 113, .pick (.t 109) (.c (.bool true)) (.t 112), [], none⟩]
def c_compile_fits.r21 : List CI :=
  [⟨some 2, .mv (.c (.bool false)), [], none⟩]
def c_compile_fits.r22 : List CI :=
  [⟨some 114, .bin .add (.t 96) (.c (.int .i64 1)), [], none⟩,
   ⟨some 96, .mv (.t 114), [], none⟩]
def c_compile_fits.r23 : List CI :=
  [⟨some 115, .fadr 7 (.t 1), [], none⟩,
   ⟨some 116, .load 1 false (.t 115), [], none⟩,
   ⟨some 117, .bin .eql (.t 116) (.c (.int .i64 (-1))), [], none⟩]
def c_compile_fits.r24 : List CI :=
  [⟨some 118, .fadr 5 (.t 1), [], none⟩,
   ⟨some 119, .load 1 false (.t 118), [], none⟩,
   ⟨some 120, .lenV (.t 119), [], none⟩,
   ⟨some 121, .bin .geq (.t 120) (.c (.int .i64 1)), [], none⟩,
   ⟨some 122, .mv (.t 121), [], none⟩,
   ⟨some 123, .fadr 5 (.t 1), [], (some (4, true))⟩,
   ⟨some 124, .load 1 false (.t 123), [], (some (4, true))⟩,
   ⟨some 125, .lenV (.t 124), [], (some (4, true))⟩,
   ⟨some 126, .bin .leq (.t 125) (.c (.int .i64 8)), [], (some (4, true))⟩,
   ⟨some 127, .pick (.t 122) (.t 126) (.c (.bool false)), [], none⟩,
   ⟨some 128, .mv (.t 127), [], none⟩,
   ⟨some 129, .fadr 6 (.t 1), [], (some (10, true))⟩,
   ⟨some 130, .load 1 false (.t 129), [], (some (10, true))⟩,
   ⟨some 131, .bin .eql (.t 130) (.c (.int .i64 0)), [], (some (10, true))⟩,
   ⟨some 132, .pick (.t 128) (.t 131) (.c (.bool false)), [], none⟩,
   ⟨some 2, .mv (.t 132), [], none⟩]
def c_compile_fits.r25 : List CI :=
  [⟨some 133, .fadr 5 (.t 1), [], none⟩,
   ⟨some 134, .load 1 false (.t 133), [], none⟩,
   ⟨some 135, .lenV (.t 134), [], none⟩,
   ⟨some 136, .bin .leq (.t 135) (.c (.int .i64 8)), [], none⟩,
   ⟨some 137, .mv (.t 136), [], none⟩,
   ⟨some 138, .fadr 6 (.t 1), [], (some (4, true))⟩,
   ⟨some 139, .load 1 false (.t 138), [], (some (4, true))⟩,
   ⟨some 140, .bin .geq (.t 139) (.c (.int .i64 1)), [], (some (4, true))⟩,
   ⟨some 141, .pick (.t 137) (.t 140) (.c (.bool false)), [], none⟩,
   ⟨some 142, .mv (.t 141), [], none⟩,
   ⟨some 143, .fadr 6 (.t 1), [], (some (9, true))⟩,
   ⟨some 144, .load 1 false (.t 143), [], (some (9, true))⟩,
   ⟨some 145, .bin .leq (.t 144) (.c (.int .i64 1000)), [], (some (9, true))⟩,
   ⟨some 146, .pick (.t 142) (.t 145) (.c (.bool false)), [], none⟩,
   ⟨some 2, .mv (.t 146), [], none⟩]
def c_compile_fits.r26 : List CI :=
  [⟨some 2, .mv (.c (.bool false)), [], none⟩]
def c_compile_fits : CF := { nt := 147, res := [.tmp 2], body :=
  (.seq (.region false c_compile_fits.r0) (.seq (.region false c_compile_fits.r1) (.seq (.seq (.region false c_compile_fits.r2) (.cond (.t 58) (.seq (.region false c_compile_fits.r3) .ret) .skip)) (.seq (.seq (.region false c_compile_fits.r4) (.block 0 (.seq (.region false c_compile_fits.r5) (.cond (.t 61) (.seq (.region false c_compile_fits.r6) .ret) (.seqK [1, 60, 67] (.seq (.region false c_compile_fits.r7) (.cond (.t 67) .skip (.region false c_compile_fits.r8))) (.cond (.t 67) (.seq (.region false c_compile_fits.r9) .ret) (.seqK [1, 60, 78] (.seq (.region false c_compile_fits.r10) (.cond (.t 78) .skip (.region false c_compile_fits.r11))) (.cond (.t 78) (.seq (.region false c_compile_fits.r12) .ret) (.seq (.region false c_compile_fits.r13) (.cond (.t 81) (.seq (.region false c_compile_fits.r14) .ret) (.seq (.region false c_compile_fits.r15) (.cond (.t 91) (.seq (.seq (.region false c_compile_fits.r16) (.block 1 (.loop [1, 94, 95, 96] (.seq (.region false c_compile_fits.r17) (.seq (.cond (.t 97) .skip (.exit 1)) (.seq (.block 2 (.seq (.region false c_compile_fits.r18) (.seq (.region false c_compile_fits.r19) (.seq (.region false c_compile_fits.r20) (.cond (.t 113) (.seq (.region false c_compile_fits.r21) .ret) .skip))))) (.region false c_compile_fits.r22))))))) (.seq (.seq (.region false c_compile_fits.r23) (.cond (.t 117) (.seq (.region false c_compile_fits.r24) .ret) .skip)) (.seq (.region false c_compile_fits.r25) .ret))) .skip)))))))))))) (.seq (.region false c_compile_fits.r26) .ret))))) }
theorem k_compile_fits : chkF Go.Proofs.Tryz.prog n_compile_fits c_compile_fits = true := by kernel_rfl

def c_compile_round.r0 : List CI :=
  [⟨some 1, .box 24 (.t 0), [], none⟩,
   ⟨some 2, .mv (.c (.bool false)), [], none⟩]
def c_compile_round.r1 : List CI :=
  [⟨some 6, .fadr 0 (.t 1), [], none⟩,
   ⟨some 7, .load 1 false (.t 6), [], none⟩,
   ⟨some 8, .lenV (.t 7), [], none⟩,
   ⟨some 9, .mkS 1 8 [.int .i64 0] (.t 8) (.t 8), [], none⟩,
   ⟨some 3, .alloc 68 [.sl none 0 0], [], none⟩,
   ⟨none, .store 1 (.t 3) (.t 9), [], none⟩]
def c_compile_round.r2 : List CI :=
  [⟨some 4, .alloc 154 [.nilfn], [], none⟩]
def c_compile_round.r3 : List CI :=
  [⟨some 10, .mkF n_compile_round_1 [] [(.t 3), (.t 1), (.t 4)], [], none⟩,
   ⟨none, .store 1 (.t 4) (.t 10), [], none⟩]
def c_compile_round.r4 : List CI :=
  [⟨some 11, .fadr 0 (.t 1), [], none⟩,
   ⟨some 12, .load 1 false (.t 11), [], none⟩,
   ⟨some 13, .lenV (.t 12), [], none⟩,
   ⟨some 14, .mv (.c (.int .i64 0)), [], none⟩]
def c_compile_round.r5 : List CI :=
  [⟨some 15, .bin .lss (.t 14) (.t 13), [], none⟩]
def c_compile_round.r6 : List CI :=
  [⟨some 16, .mv (.t 14), [], none⟩,
   ⟨some 5, .mv (.t 16), [], none⟩]
def c_compile_round.r7 : List CI :=
  [⟨some 17, .load 1 false (.t 4), [], none⟩,
   ⟨some 18, .mv (.t 5), [], none⟩,
   ⟨some 19, .callV (.t 17) [(.t 18)], [], none⟩]
def c_compile_round.r8 : List CI :=
  [⟨some 2, .mv (.c (.bool true)), [], none⟩]
def c_compile_round.r9 : List CI :=
  [⟨some 20, .bin .add (.t 14) (.c (.int .i64 1)), [], none⟩,
   ⟨some 14, .mv (.t 20), [], none⟩]
def c_compile_round.r10 : List CI :=
  [⟨some 2, .mv (.c (.bool false)), [], none⟩]
def c_compile_round : CF := { nt := 21, res := [.tmp 2], body :=
  (.seq (.region false c_compile_round.r0) (.seq (.region false c_compile_round.r1) (.seq (.region false c_compile_round.r2) (.seq (.region false c_compile_round.r3) (.seq (.seq (.region false c_compile_round.r4) (.block 0 (.loop [4, 13, 14] (.seq (.region false c_compile_round.r5) (.seq (.cond (.t 15) .skip (.exit 0)) (.seq (.block 1 (.seq (.region false c_compile_round.r6) (.seq (.region false c_compile_round.r7) (.cond (.t 19) (.seq (.region false c_compile_round.r8) .ret) .skip)))) (.region false c_compile_round.r9))))))) (.seq (.region false c_compile_round.r10) .ret)))))) }
theorem k_compile_round : chkF Go.Proofs.Tryz.prog n_compile_round c_compile_round = true := by kernel_rfl

def c_lex_Lex.r0 : List CI :=
  [⟨some 2, .mv (.c (.sl none 0 0)), [], none⟩,
   ⟨some 3, .alloc 32 [.int .i64 0, .int .i64 0], [], none⟩]
def c_lex_Lex.r1 : List CI :=
  [⟨some 10, .mv (.t 0), [], none⟩,
   ⟨some 11, .lenS (.t 10), [], none⟩,
   ⟨some 12, .bin .gtr (.t 11) (.c (.int .i64 2048)), [], none⟩]
def c_lex_Lex.r2 : List CI :=
  [⟨some 13, .build [.int .i64 0, .int .i64 0] [(0, 1, (.c (.int .i64 3))), (1, 1, (.c (.int .i64 2048)))], [], none⟩,
   ⟨some 2, .mv (.c (.sl none 0 0)), [], none⟩,
   ⟨none, .store 2 (.t 3) (.t 13), [], none⟩]
def c_lex_Lex.r3 : List CI :=
  [⟨some 14, .mv (.t 0), [], none⟩,
   ⟨some 15, .build [.str [], .int .i64 0, .sl none 0 0, .int .i64 0, .int .i64 0] [(0, 1, (.t 14))], [], none⟩,
   ⟨some 16, .box 157 (.t 15), [], none⟩,
   ⟨some 4, .mv (.t 16), [], none⟩]
def c_lex_Lex.r4 : List CI :=
  [⟨some 5, .mv (.c (.bool false)), [], none⟩]
def c_lex_Lex.r5 : List CI :=
  [⟨some 17, .mv (.t 4), [], none⟩,
   ⟨some 18, .call n_lex_reader_peek [(.t 17)], [], none⟩,
   ⟨some 6, .mv (.t 18), [], none⟩]
def c_lex_Lex.r6 : List CI :=
  [⟨some 19, .mv (.t 6), [], none⟩]
def c_lex_Lex.r7 : List CI :=
  [⟨some 21, .bin .eql (.t 19) (.c (.int .u8 32)), [], none⟩,
   ⟨some 20, .mv (.t 21), [], none⟩]
def c_lex_Lex.r8 : List CI :=
  [⟨some 22, .bin .eql (.t 19) (.c (.int .u8 9)), [], none⟩,
   ⟨some 20, .mv (.t 22), [], none⟩]
def c_lex_Lex.r9 : List CI :=
  [⟨some 23, .mv (.t 4), [], none⟩,
   ⟨some 24, .nilck (.t 23), [], none⟩,
   ⟨some 25, .fadr 1 (.t 24), [], none⟩,
   ⟨some 26, .load 1 false (.t 25), [], none⟩,
   ⟨some 27, .bin .add (.t 26) (.c (.int .i64 1)), [], none⟩,
   ⟨some 28, .nilck (.t 23), [], none⟩,
   ⟨some 29, .fadr 1 (.t 28), [], none⟩,
   ⟨none, .store 1 (.t 29) (.t 27), [], none⟩]
def c_lex_Lex.r10 : List CI :=
  [⟨some 31, .bin .eql (.t 19) (.c (.int .u8 35)), [], none⟩,
   ⟨some 30, .mv (.t 31), [], none⟩]
def c_lex_Lex.r11 : List CI :=
  [⟨some 32, .mv (.t 0), [], none⟩,
   ⟨some 33, .mv (.t 4), [], none⟩,
   ⟨some 34, .nilck (.t 33), [], none⟩,
   ⟨some 35, .fadr 1 (.t 34), [], none⟩,
   ⟨some 36, .load 1 false (.t 35), [], none⟩,
   ⟨some 37, .sls (.t 32) (some (.t 36)) none, [], none⟩,
   ⟨some 38, .call n_strings_IndexByte [(.t 37), (.c (.int .u8 10))], [], none⟩,
   ⟨some 7, .mv (.t 38), [], none⟩]
def c_lex_Lex.r12 : List CI :=
  [⟨some 39, .mv (.t 7), [], none⟩,
   ⟨some 40, .bin .geq (.t 39) (.c (.int .i64 0)), [], none⟩]
def c_lex_Lex.r13 : List CI :=
  [⟨some 41, .mv (.t 4), [], none⟩,
   ⟨some 42, .nilck (.t 41), [], none⟩,
   ⟨some 43, .fadr 1 (.t 42), [], none⟩,
   ⟨some 44, .load 1 false (.t 43), [], none⟩,
   ⟨some 45, .mv (.t 7), [], none⟩,
   ⟨some 46, .bin .add (.t 44) (.t 45), [], none⟩,
   ⟨some 47, .nilck (.t 41), [], none⟩,
   ⟨some 48, .fadr 1 (.t 47), [], none⟩,
   ⟨none, .store 1 (.t 48) (.t 46), [], none⟩]
def c_lex_Lex.r14 : List CI :=
  [⟨some 49, .mv (.t 4), [], none⟩,
   ⟨some 50, .mv (.t 0), [], none⟩,
   ⟨some 51, .lenS (.t 50), [], none⟩,
   ⟨some 52, .nilck (.t 49), [], none⟩,
   ⟨some 53, .fadr 1 (.t 52), [], none⟩,
   ⟨none, .store 1 (.t 53) (.t 51), [], none⟩]
def c_lex_Lex.r15 : List CI :=
  [⟨some 55, .bin .eql (.t 19) (.c (.int .u8 10)), [], none⟩,
   ⟨some 54, .mv (.t 55), [], none⟩]
def c_lex_Lex.r16 : List CI :=
  [⟨some 56, .mv (.t 5), [], none⟩]
def c_lex_Lex.r17 : List CI :=
  [⟨some 57, .mv (.t 4), [], none⟩,
   ⟨some 58, .mv (.t 4), [], none⟩,
   ⟨some 59, .nilck (.t 58), [1], none⟩,
   ⟨some 60, .fadr 2 (.t 59), [2], none⟩,
   ⟨some 61, .load 1 false (.t 60), [3], none⟩,
   ⟨some 62, .mv (.t 4), [], none⟩,
   ⟨some 63, .nilck (.t 62), [5], none⟩,
   ⟨some 64, .fadr 1 (.t 63), [6], none⟩,
   ⟨some 65, .load 1 false (.t 64), [7], none⟩,
   ⟨some 66, .build [.int .i64 0, .str [], .int .i64 0, .int .i64 0] [(0, 1, (.c (.int .i64 6))), (3, 1, (.t 65))], [8], none⟩,
   ⟨some 67, .bslice 4 1 [.int .i64 0, .str [], .int .i64 0, .int .i64 0] [(0, (.t 66))], [9], none⟩,
   ⟨some 68, .app 113 4 40 [.int .i64 0, .str [], .int .i64 0, .int .i64 0] (.t 61) (.t 67), [4, 10], none⟩,
   ⟨some 69, .nilck (.t 57), [0, 0, 1, 2, 3, 4, 5, 6, 7, 8, 9, 10, 11], none⟩,
   ⟨some 70, .fadr 2 (.t 69), [12, 0, 1, 2, 3, 4, 5, 6, 7, 8, 9, 10, 11], none⟩,
   ⟨none, .store 1 (.t 70) (.t 68), [13, 11, 11, 0, 1, 2, 3, 4, 5, 6, 7, 8, 9, 10, 11], none⟩]
def c_lex_Lex.r18 : List CI :=
  [⟨some 71, .mv (.t 4), [], none⟩,
   ⟨some 72, .nilck (.t 71), [], none⟩,
   ⟨some 73, .fadr 1 (.t 72), [], none⟩,
   ⟨some 74, .load 1 false (.t 73), [], none⟩,
   ⟨some 75, .mv (.t 0), [], none⟩,
   ⟨some 76, .lenS (.t 75), [], none⟩,
   ⟨some 77, .bin .eql (.t 74) (.t 76), [], none⟩]
def c_lex_Lex.r19 : List CI :=
  [⟨some 78, .mv (.t 4), [], none⟩,
   ⟨some 79, .nilck (.t 78), [], none⟩,
   ⟨some 80, .fadr 2 (.t 79), [], none⟩,
   ⟨some 81, .load 1 false (.t 80), [], none⟩,
   ⟨some 82, .build [.int .i64 0, .int .i64 0] [], [], none⟩,
   ⟨some 2, .mv (.t 81), [], none⟩,
   ⟨none, .store 2 (.t 3) (.t 82), [], none⟩]
def c_lex_Lex.r20 : List CI :=
  [⟨some 5, .mv (.c (.bool false)), [], none⟩]
def c_lex_Lex.r21 : List CI :=
  [⟨some 83, .mv (.t 4), [], none⟩,
   ⟨some 84, .nilck (.t 83), [], none⟩,
   ⟨some 85, .fadr 1 (.t 84), [], none⟩,
   ⟨some 86, .load 1 false (.t 85), [], none⟩,
   ⟨some 87, .bin .add (.t 86) (.c (.int .i64 1)), [], none⟩,
   ⟨some 88, .nilck (.t 83), [], none⟩,
   ⟨some 89, .fadr 1 (.t 88), [], none⟩,
   ⟨none, .store 1 (.t 89) (.t 87), [], none⟩]
def c_lex_Lex.r22 : List CI :=
  [⟨some 91, .mv (.t 4), [], none⟩,
   ⟨some 92, .call n_lex_reader_token [(.t 91)], [], none⟩,
   ⟨some 90, .mv (.t 92), [], none⟩,
   ⟨some 93, .ext (.t 90) 0, [], none⟩,
   ⟨some 94, .ext (.t 90) 1, [], none⟩,
   ⟨some 8, .alloc 113 [.int .i64 0, .str [], .int .i64 0, .int .i64 0], [], none⟩,
   ⟨none, .store 4 (.t 8) (.t 93), [], none⟩,
   ⟨some 9, .mv (.t 94), [], none⟩]
def c_lex_Lex.r23 : List CI :=
  [⟨some 95, .mv (.t 9), [], none⟩,
   ⟨some 96, .bin .neq (.t 95) (.c (.int .i64 0)), [], none⟩]
def c_lex_Lex.r24 : List CI :=
  [⟨some 97, .mv (.t 9), [], none⟩,
   ⟨some 98, .mv (.t 4), [], none⟩,
   ⟨some 99, .nilck (.t 98), [1], none⟩,
   ⟨some 100, .fadr 1 (.t 99), [2], none⟩,
   ⟨some 101, .load 1 false (.t 100), [3], none⟩,
   ⟨some 102, .build [.int .i64 0, .int .i64 0] [(0, 1, (.t 97)), (1, 1, (.t 101))], [0, 4], none⟩,
   ⟨some 2, .mv (.c (.sl none 0 0)), [], none⟩,
   ⟨none, .store 2 (.t 3) (.t 102), [5, 6, 0, 1, 2, 3, 4, 5, 6], none⟩]
def c_lex_Lex.r25 : List CI :=
  [⟨some 103, .mv (.t 4), [], none⟩,
   ⟨some 104, .mv (.t 4), [], none⟩,
   ⟨some 105, .nilck (.t 104), [1], none⟩,
   ⟨some 106, .fadr 2 (.t 105), [2], none⟩,
   ⟨some 107, .load 1 false (.t 106), [3], none⟩,
   ⟨some 108, .load 4 true (.t 8), [], none⟩,
   ⟨some 109, .bslice 4 1 [.int .i64 0, .str [], .int .i64 0, .int .i64 0] [(0, (.t 108))], [5], none⟩,
   ⟨some 110, .app 113 4 40 [.int .i64 0, .str [], .int .i64 0, .int .i64 0] (.t 107) (.t 109), [4, 6], none⟩,
   ⟨some 111, .nilck (.t 103), [0, 0, 1, 2, 3, 4, 5, 6, 7], none⟩,
   ⟨some 112, .fadr 2 (.t 111), [8, 0, 1, 2, 3, 4, 5, 6, 7], none⟩,
   ⟨none, .store 1 (.t 112) (.t 110), [9, 7, 7, 0, 1, 2, 3, 4, 5, 6, 7], none⟩]
def c_lex_Lex.r26 : List CI :=
  [⟨some 5, .mv (.c (.bool true)), [], none⟩]
def c_lex_Lex : CF := { nt := 113, res := [.tmp 2, .cell 3 2 true], body :=
  (.seq (.region false c_lex_Lex.r0) (.seq (.seq (.region false c_lex_Lex.r1) (.cond (.t 12) (.seq (.region false c_lex_Lex.r2) .ret) .skip)) (.seq (.region false c_lex_Lex.r3) (.seq (.region false c_lex_Lex.r4) (.block 0 (.loop [0, 3, 4, 5] (.block 1 (.seq (.seq (.region false c_lex_Lex.r5) (.seq (.region false c_lex_Lex.r6) (.block 2 (.seqK [0, 3, 4, 5, 19, 20] (.seq (.region false c_lex_Lex.r7) (.cond (.t 20) .skip (.region false c_lex_Lex.r8))) (.cond (.t 20) (.seq (.region false c_lex_Lex.r9) (.exit 1)) (.seq (.region false c_lex_Lex.r10) (.cond (.t 30) (.seqK [0, 3, 4, 5] (.seq (.region false c_lex_Lex.r11) (.seq (.region false c_lex_Lex.r12) (.cond (.t 40) (.region false c_lex_Lex.r13) (.region false c_lex_Lex.r14)))) (.exit 1)) (.seq (.region false c_lex_Lex.r15) (.cond (.t 54) (.seqK [0, 3, 4] (.seq (.region false c_lex_Lex.r16) (.cond (.t 56) (.regionP [0, 1, 2, 3, 4, 5, 6, 7, 8, 9, 10, 11, 12, 13, 14] [] c_lex_Lex.r17) .skip)) (.seq (.seq (.region false c_lex_Lex.r18) (.cond (.t 77) (.seq (.region false c_lex_Lex.r19) .ret) .skip)) (.seq (.region false c_lex_Lex.r20) (.seq (.region false c_lex_Lex.r21) (.exit 1))))) .skip))))))))) (.seq (.region false c_lex_Lex.r22) (.seq (.seq (.region false c_lex_Lex.r23) (.cond (.t 96) (.seq (.regionP [0, 1, 2, 3, 4, 5, 6, 7] [] c_lex_Lex.r24) .ret) .skip)) (.seq (.regionP [0, 1, 2, 3, 4, 5, 6, 7, 8, 9, 10] [] c_lex_Lex.r25) (.region false c_lex_Lex.r26)))))))))))) }
theorem k_lex_Lex : chkF Go.Proofs.Tryz.prog n_lex_Lex c_lex_Lex = true := by kernel_rfl

def c_parse_Program_1.r0 : List CI :=
  [⟨some 9, .mv (.t 3), [], none⟩]
def c_parse_Program_1.r1 : List CI :=
  [⟨some 10, .build [.sl none 0 0] [], [], none⟩,
   ⟨some 11, .load 2 true (.t 2), [], none⟩,
   ⟨none, .store 1 (.t 0) (.t 10), [0, 0], none⟩,
   ⟨none, .store 2 (.t 1) (.t 11), [1, 2, 0, 1, 2], none⟩]
def c_parse_Program_1 : CF := { nt := 12, res := [], body :=
  (.seq (.region false [⟨some 5, .rcv, [], none⟩, ⟨some 6, .tas 107 (.agg [.int .i64 0, .int .i64 0]) true (.t 5), [], none⟩, ⟨some 4, .mv (.t 6), [], none⟩, ⟨some 7, .ext (.t 4) 0, [], none⟩, ⟨some 8, .ext (.t 4) 1, [], none⟩, ⟨some 2, .alloc 107 [.int .i64 0, .int .i64 0], [], none⟩, ⟨none, .store 2 (.t 2) (.t 7), [], none⟩, ⟨some 3, .mv (.t 8), [], none⟩]) (.seq (.region false c_parse_Program_1.r0) (.cond (.t 9) (.regionP [0, 1, 2, 3] [] c_parse_Program_1.r1) .skip))) }
theorem k_parse_Program_1 : chkF Go.Proofs.Tryz.prog n_parse_Program_1 c_parse_Program_1 = true := by kernel_rfl

def c_parse_reader_next.r0 : List CI :=
  [⟨some 2, .alloc 113 [.int .i64 0, .str [], .int .i64 0, .int .i64 0], [], none⟩]
def c_parse_reader_next.r1 : List CI :=
  [⟨some 3, .mv (.t 0), [], none⟩,
   ⟨some 4, .nilck (.t 3), [0], none⟩,
   ⟨some 5, .fadr 1 (.t 4), [1], none⟩,
   ⟨some 6, .load 1 false (.t 5), [2], none⟩,
   ⟨some 7, .mv (.t 0), [], none⟩,
   ⟨some 8, .nilck (.t 7), [4], none⟩,
   ⟨some 9, .fadr 0 (.t 8), [5], none⟩,
   ⟨some 10, .load 1 false (.t 9), [6], none⟩,
   ⟨some 11, .lenV (.t 10), [7], none⟩,
   ⟨some 12, .bin .lss (.t 6) (.t 11), [3, 8], none⟩]
def c_parse_reader_next.r2 : List CI :=
  [⟨some 13, .mv (.t 0), [], none⟩,
   ⟨some 14, .nilck (.t 13), [0], none⟩,
   ⟨some 15, .fadr 0 (.t 14), [1], none⟩,
   ⟨some 16, .load 1 false (.t 15), [2], none⟩,
   ⟨some 17, .mv (.t 0), [], none⟩,
   ⟨some 18, .nilck (.t 17), [4], none⟩,
   ⟨some 19, .fadr 1 (.t 18), [5], none⟩,
   ⟨some 20, .load 1 false (.t 19), [6], none⟩,
   ⟨some 21, .iadr 4 (.t 16) (.t 20), [3, 7], none⟩,
   ⟨some 22, .load 4 true (.t 21), [8], none⟩,
   ⟨none, .store 4 (.t 2) (.t 22), [9, 0, 1, 2, 3, 4, 5, 6, 7, 8, 9], none⟩]
def c_parse_reader_next.r3 : List CI :=
  [⟨some 23, .mv (.t 0), [], none⟩,
   ⟨some 24, .nilck (.t 23), [], none⟩,
   ⟨some 25, .fadr 2 (.t 24), [], none⟩,
   ⟨some 26, .load 1 false (.t 25), [], none⟩,
   ⟨some 27, .build [.int .i64 0, .str [], .int .i64 0, .int .i64 0] [(3, 1, (.t 26))], [], none⟩,
   ⟨none, .store 4 (.t 2) (.t 27), [], none⟩]
def c_parse_reader_next : CF := { nt := 28, res := [.cell 2 4 true], body :=
  (.seq (.region false c_parse_reader_next.r0) (.seq (.seq (.regionP [0, 1, 2, 3, 4, 5, 6, 7, 8, 9] [] c_parse_reader_next.r1) (.cond (.t 12) (.seq (.regionP [0, 1, 2, 3, 4, 5, 6, 7, 8, 9, 10] [] c_parse_reader_next.r2) .ret) .skip)) (.seq (.region false c_parse_reader_next.r3) .ret))) }
theorem k_parse_reader_next : chkF Go.Proofs.Tryz.prog n_parse_reader_next c_parse_reader_next = true := by kernel_rfl

def c_parse_reader_name.r0 : List CI :=
  [⟨some 4, .mv (.c (.str [])), [], none⟩]
def c_parse_reader_name.r1 : List CI :=
  [⟨some 6, .mv (.t 0), [], none⟩,
   ⟨some 7, .mv (.t 1), [], none⟩,
   ⟨some 8, .call n_parse_reader_take [(.t 6), (.t 7)], [], none⟩,
   ⟨some 5, .alloc 113 [.int .i64 0, .str [], .int .i64 0, .int .i64 0], [], none⟩,
   ⟨none, .store 4 (.t 5) (.t 8), [], none⟩]
def c_parse_reader_name.r2 : List CI :=
  [⟨some 9, .fadr 1 (.t 5), [], none⟩,
   ⟨some 10, .load 1 false (.t 9), [], none⟩,
   ⟨some 11, .call n_lex_Name [(.t 10)], [], none⟩,
   ⟨some 12, .un .not (.t 11), [], none⟩]
def c_parse_reader_name.r3 : List CI :=
  [⟨some 13, .fadr 3 (.t 5), [], none⟩,
   ⟨some 14, .load 1 false (.t 13), [], none⟩,
   ⟨some 15, .call n_parse_fail [(.c (.int .i64 6)), (.t 14)], [], none⟩]
def c_parse_reader_name.r4 : List CI :=
  [⟨some 16, .fadr 1 (.t 5), [], none⟩,
   ⟨some 17, .load 1 false (.t 16), [], none⟩,
   ⟨some 4, .mv (.t 17), [], none⟩]
def c_parse_reader_name : CF := { nt := 18, res := [.tmp 4], body :=
  (.seq (.region false c_parse_reader_name.r0) (.seq (.region false c_parse_reader_name.r1) (.seqK [5] (.seq (.region false c_parse_reader_name.r2) (.cond (.t 12) (.region false c_parse_reader_name.r3) .skip)) (.seq (.region false c_parse_reader_name.r4) .ret)))) }
theorem k_parse_reader_name : chkF Go.Proofs.Tryz.prog n_parse_reader_name c_parse_reader_name = true := by kernel_rfl

def c_parse_fail.r0 : List CI :=
  [⟨some 4, .mv (.t 0), [], none⟩,
   ⟨some 5, .mv (.t 1), [], none⟩,
   ⟨some 6, .build [.int .i64 0, .int .i64 0] [(0, 1, (.t 4)), (1, 1, (.t 5))], [], none⟩,
   ⟨some 7, .mkI 107 (.t 6), [], none⟩,
   ⟨none, .pan (.t 7), [], none⟩]
def c_parse_fail : CF := { nt := 8, res := [], body :=
  (.region false c_parse_fail.r0) }
theorem k_parse_fail : chkF Go.Proofs.Tryz.prog n_parse_fail c_parse_fail = true := by kernel_rfl

def c_parse_reader_take.r0 : List CI :=
  [⟨some 4, .alloc 113 [.int .i64 0, .str [], .int .i64 0, .int .i64 0], [], none⟩]
def c_parse_reader_take.r1 : List CI :=
  [⟨some 6, .mv (.t 0), [], none⟩,
   ⟨some 7, .call n_parse_reader_next [(.t 6)], [], none⟩,
   ⟨some 5, .alloc 113 [.int .i64 0, .str [], .int .i64 0, .int .i64 0], [], none⟩,
   ⟨none, .store 4 (.t 5) (.t 7), [], none⟩]
def c_parse_reader_take.r2 : List CI :=
  [⟨some 8, .fadr 0 (.t 5), [], none⟩,
   ⟨some 9, .load 1 false (.t 8), [], none⟩,
   ⟨some 10, .mv (.t 1), [], none⟩,
   ⟨some 11, .bin .neq (.t 9) (.t 10), [], none⟩]
def c_parse_reader_take.r3 : List CI :=
  [⟨some 12, .fadr 3 (.t 5), [], none⟩,
   ⟨some 13, .load 1 false (.t 12), [], none⟩,
   ⟨some 14, .call n_parse_fail [(.c (.int .i64 6)), (.t 13)], [], none⟩]
def c_parse_reader_take.r4 : List CI :=
  [⟨some 15, .mv (.t 0), [], none⟩,
   ⟨some 16, .nilck (.t 15), [], none⟩,
   ⟨some 17, .fadr 1 (.t 16), [], none⟩,
   ⟨some 18, .load 1 false (.t 17), [], none⟩,
   ⟨some 19, .bin .add (.t 18) (.c (.int .i64 1)), [], none⟩,
   ⟨some 20, .nilck (.t 15), [], none⟩,
   ⟨some 21, .fadr 1 (.t 20), [], none⟩,
   ⟨none, .store 1 (.t 21) (.t 19), [], none⟩]
def c_parse_reader_take.r5 : List CI :=
  [⟨some 22, .load 4 true (.t 5), [], none⟩,
   ⟨none, .store 4 (.t 4) (.t 22), [], none⟩]
def c_parse_reader_take : CF := { nt := 23, res := [.cell 4 4 true], body :=
  (.seq (.region false c_parse_reader_take.r0) (.seq (.region false c_parse_reader_take.r1) (.seqK [0, 4, 5] (.seq (.region false c_parse_reader_take.r2) (.cond (.t 11) (.region false c_parse_reader_take.r3) .skip)) (.seq (.region false c_parse_reader_take.r4) (.seq (.region false c_parse_reader_take.r5) .ret))))) }
theorem k_parse_reader_take : chkF Go.Proofs.Tryz.prog n_parse_reader_take c_parse_reader_take = true := by kernel_rfl

def c_parse_reader_line.r0 : List CI :=
  [⟨some 2, .alloc 49 [.int .i64 0, .str [], .str [], .int .i64 0, .str [], .sl none 0 0, .int .i64 0, .str []], [], none⟩,
   ⟨some 3, .mv (.c (.bool false)), [], none⟩]
def c_parse_reader_line.r1 : List CI :=
  [⟨some 9, .build [.str [], .str [], .str [], .str [], .str [], .str [], .str [], .str []] [(0, 1, (.c (.str []))), (1, 1, (.c (.str [115, 101, 110, 100]))), (2, 1, (.c (.str [115, 101, 116]))), (3, 1, (.c (.str [105, 110, 99]))), (4, 1, (.c (.str [105, 102]))), (5, 1, (.c (.str [103, 111, 116, 111]))), (6, 1, (.c (.str [101, 120, 105, 116]))), (7, 1, (.c (.str [101, 120, 112, 101, 99, 116])))], [], none⟩,
   ⟨some 4, .alloc 162 [.str [], .str [], .str [], .str [], .str [], .str [], .str [], .str []], [], none⟩,
   ⟨none, .store 8 (.t 4) (.t 9), [], none⟩]
def c_parse_reader_line.r2 : List CI :=
  [⟨some 10, .build [.int .i64 0, .str [], .str [], .int .i64 0, .str [], .sl none 0 0, .int .i64 0, .str []] [], [], none⟩,
   ⟨some 5, .alloc 49 [.int .i64 0, .str [], .str [], .int .i64 0, .str [], .sl none 0 0, .int .i64 0, .str []], [], none⟩,
   ⟨none, .store 8 (.t 5) (.t 10), [], none⟩]
def c_parse_reader_line.r3 : List CI :=
  [⟨some 11, .mv (.t 0), [], none⟩,
   ⟨some 12, .call n_parse_reader_next [(.t 11)], [], none⟩,
   ⟨some 6, .alloc 113 [.int .i64 0, .str [], .int .i64 0, .int .i64 0], [], none⟩,
   ⟨none, .store 4 (.t 6) (.t 12), [], none⟩]
def c_parse_reader_line.r4 : List CI :=
  [⟨some 13, .load 8 true (.t 4), [], none⟩,
   ⟨some 14, .mv (.c (.int .i64 0)), [], none⟩]
def c_parse_reader_line.r5 : List CI :=
  [⟨some 15, .bin .lss (.t 14) (.c (.int .i64 8)), [], none⟩]
def c_parse_reader_line.r6 : List CI :=
  [⟨some 16, .mv (.t 14), [], none⟩,
   ⟨some 17, .idxA 8 1 false (.t 13) (.t 14), [], none⟩,
   ⟨some 7, .mv (.t 16), [], none⟩,
   ⟨some 8, .mv (.t 17), [], none⟩]
def c_parse_reader_line.r7 : List CI :=
  [⟨some 18, .mv (.t 7), [], none⟩,
   ⟨some 19, .bin .gtr (.t 18) (.c (.int .i64 0)), [], none⟩,
   ⟨some 20, .mv (.t 19), [], none⟩,
   ⟨some 21, .fadr 0 (.t 6), [], (some (2, true))⟩,
   ⟨some 22, .load 1 false (.t 21), [], (some (2, true))⟩,
   ⟨some 23, .bin .eql (.t 22) (.c (.int .i64 1)), [], (some (2, true))⟩,
   ⟨some 24, .pick (.t 20) (.t 23) (.c (.bool false)), [], none⟩,
   ⟨some 25, .mv (.t 24), [], none⟩,
   ⟨some 26, .fadr 1 (.t 6), [], (some (7, true))⟩,
   ⟨some 27, .load 1 false (.t 26), [], (some (7, true))⟩,
   ⟨some 28, .mv (.t 8), [], (some (7, true))⟩,
   ⟨some 29, .bin .eql (.t 27) (.t 28), [], (some (7, true))⟩,
   ⟨some 30, .pick (.t 25) (.t 29) (.c (.bool false)), [], none⟩]
def c_parse_reader_line.r8 : List CI :=
  [⟨some 31, .mv (.t 7), [], none⟩,
   ⟨some 32, .fadr 0 (.t 5), [], none⟩,
   ⟨none, .store 1 (.t 32) (.t 31), [], none⟩]
def c_parse_reader_line.r9 : List CI :=
  [⟨some 33, .bin .add (.t 14) (.c (.int .i64 1)), [], none⟩,
   ⟨some 14, .mv (.t 33), [], none⟩]
def c_parse_reader_line.r10 : List CI :=
  [⟨some 34, .fadr 0 (.t 5), [], none⟩,
   ⟨some 35, .load 1 false (.t 34), [], none⟩,
   ⟨some 36, .bin .eql (.t 35) (.c (.int .i64 0)), [], none⟩]
def c_parse_reader_line.r11 : List CI :=
  [⟨some 37, .fadr 3 (.t 6), [], none⟩,
   ⟨some 38, .load 1 false (.t 37), [], none⟩,
   ⟨some 39, .call n_parse_fail [(.c (.int .i64 6)), (.t 38)], [], none⟩]
def c_parse_reader_line.r12 : List CI :=
  [⟨some 40, .mv (.t 0), [], none⟩,
   ⟨some 41, .nilck (.t 40), [], none⟩,
   ⟨some 42, .fadr 3 (.t 41), [], none⟩,
   ⟨some 43, .load 1 false (.t 42), [], none⟩,
   ⟨some 44, .bin .add (.t 43) (.c (.int .i64 1)), [], none⟩,
   ⟨some 45, .nilck (.t 40), [], none⟩,
   ⟨some 46, .fadr 3 (.t 45), [], none⟩,
   ⟨none, .store 1 (.t 46) (.t 44), [], none⟩]
def c_parse_reader_line.r13 : List CI :=
  [⟨some 47, .mv (.t 0), [], none⟩,
   ⟨some 48, .nilck (.t 47), [], none⟩,
   ⟨some 49, .fadr 3 (.t 48), [], none⟩,
   ⟨some 50, .load 1 false (.t 49), [], none⟩,
   ⟨some 51, .bin .gtr (.t 50) (.c (.int .i64 128)), [], none⟩]
def c_parse_reader_line.r14 : List CI :=
  [⟨some 52, .fadr 3 (.t 6), [], none⟩,
   ⟨some 53, .load 1 false (.t 52), [], none⟩,
   ⟨some 54, .call n_parse_fail [(.c (.int .i64 8)), (.t 53)], [], none⟩]
def c_parse_reader_line.r15 : List CI :=
  [⟨some 55, .mv (.t 0), [], none⟩,
   ⟨some 56, .nilck (.t 55), [], none⟩,
   ⟨some 57, .fadr 1 (.t 56), [], none⟩,
   ⟨some 58, .load 1 false (.t 57), [], none⟩,
   ⟨some 59, .bin .add (.t 58) (.c (.int .i64 1)), [], none⟩,
   ⟨some 60, .nilck (.t 55), [], none⟩,
   ⟨some 61, .fadr 1 (.t 60), [], none⟩,
   ⟨none, .store 1 (.t 61) (.t 59), [], none⟩]
def c_parse_reader_line.r16 : List CI :=
  [⟨some 62, .fadr 0 (.t 5), [], none⟩,
   ⟨some 63, .load 1 false (.t 62), [], none⟩]
def c_parse_reader_line.r17 : List CI :=
  [⟨some 67, .bin .eql (.t 63) (.c (.int .i64 1)), [], none⟩,
   ⟨some 66, .mv (.t 67), [], none⟩]
def c_parse_reader_line.r18 : List CI :=
  [⟨some 68, .mv (.t 0), [], none⟩,
   ⟨some 69, .call n_parse_reader_take [(.t 68), (.c (.int .i64 4))], [], none⟩,
   ⟨some 70, .fld 1 1 false (.t 69), [], none⟩,
   ⟨some 71, .fadr 1 (.t 5), [], none⟩,
   ⟨none, .store 1 (.t 71) (.t 70), [], none⟩]
def c_parse_reader_line.r19 : List CI :=
  [⟨some 73, .bin .eql (.t 63) (.c (.int .i64 2)), [], none⟩,
   ⟨some 72, .mv (.t 73), [], none⟩]
def c_parse_reader_line.r20 : List CI :=
  [⟨some 74, .mv (.t 0), [], none⟩,
   ⟨some 75, .call n_parse_reader_name [(.t 74), (.c (.int .i64 1))], [], none⟩,
   ⟨some 76, .fadr 2 (.t 5), [], none⟩,
   ⟨none, .store 1 (.t 76) (.t 75), [], none⟩]
def c_parse_reader_line.r21 : List CI :=
  [⟨some 77, .mv (.t 0), [], none⟩,
   ⟨some 78, .call n_parse_reader_number [(.t 77), (.c (.int .i64 0)), (.c (.int .i64 255))], [], none⟩,
   ⟨some 79, .fadr 3 (.t 5), [], none⟩,
   ⟨none, .store 1 (.t 79) (.t 78), [], none⟩]
def c_parse_reader_line.r22 : List CI :=
  [⟨some 81, .bin .eql (.t 63) (.c (.int .i64 3)), [], none⟩,
   ⟨some 80, .mv (.t 81), [], none⟩]
def c_parse_reader_line.r23 : List CI :=
  [⟨some 82, .mv (.t 0), [], none⟩,
   ⟨some 83, .call n_parse_reader_name [(.t 82), (.c (.int .i64 1))], [], none⟩,
   ⟨some 84, .fadr 2 (.t 5), [], none⟩,
   ⟨none, .store 1 (.t 84) (.t 83), [], none⟩]
def c_parse_reader_line.r24 : List CI :=
  [⟨some 86, .bin .eql (.t 63) (.c (.int .i64 4)), [], none⟩,
   ⟨some 85, .mv (.t 86), [], none⟩]
def c_parse_reader_line.r25 : List CI :=
  [⟨some 87, .mv (.t 0), [], none⟩,
   ⟨some 88, .call n_parse_reader_name [(.t 87), (.c (.int .i64 1))], [], none⟩,
   ⟨some 89, .fadr 2 (.t 5), [], none⟩,
   ⟨none, .store 1 (.t 89) (.t 88), [], none⟩]
def c_parse_reader_line.r26 : List CI :=
  [⟨some 90, .mv (.t 0), [], none⟩,
   ⟨some 91, .call n_parse_reader_must [(.t 90), (.c (.int .i64 5)), (.c (.str [60]))], [], none⟩]
def c_parse_reader_line.r27 : List CI :=
  [⟨some 92, .mv (.t 0), [], none⟩,
   ⟨some 93, .call n_parse_reader_number [(.t 92), (.c (.int .i64 0)), (.c (.int .i64 255))], [], none⟩,
   ⟨some 94, .fadr 3 (.t 5), [], none⟩,
   ⟨none, .store 1 (.t 94) (.t 93), [], none⟩]
def c_parse_reader_line.r28 : List CI :=
  [⟨some 95, .mv (.t 0), [], none⟩,
   ⟨some 96, .call n_parse_reader_leads [(.t 95)], [], none⟩,
   ⟨some 97, .fadr 4 (.t 5), [], none⟩,
   ⟨none, .store 1 (.t 97) (.t 96), [], none⟩]
def c_parse_reader_line.r29 : List CI :=
  [⟨some 99, .bin .eql (.t 63) (.c (.int .i64 5)), [], none⟩,
   ⟨some 98, .mv (.t 99), [], none⟩]
def c_parse_reader_line.r30 : List CI :=
  [⟨some 100, .mv (.t 0), [], none⟩,
   ⟨some 101, .call n_parse_reader_name [(.t 100), (.c (.int .i64 1))], [], none⟩,
   ⟨some 102, .fadr 4 (.t 5), [], none⟩,
   ⟨none, .store 1 (.t 102) (.t 101), [], none⟩]
def c_parse_reader_line.r31 : List CI :=
  [⟨some 104, .bin .eql (.t 63) (.c (.int .i64 6)), [], none⟩,
   ⟨some 103, .mv (.t 104), [], none⟩]
def c_parse_reader_line.r32 : List CI :=
  [⟨some 105, .mv (.t 0), [], none⟩,
   ⟨some 106, .call n_parse_reader_number [(.t 105), (.c (.int .i64 0)), (.c (.int .i64 255))], [], none⟩,
   ⟨some 107, .fadr 3 (.t 5), [], none⟩,
   ⟨none, .store 1 (.t 107) (.t 106), [], none⟩]
def c_parse_reader_line.r33 : List CI :=
  [⟨some 64, .mv (.t 0), [], none⟩,
   ⟨some 65, .call n_parse_reader_arms [(.t 64), (.t 5)], [], none⟩]
def c_parse_reader_line.r34 : List CI :=
  [⟨some 108, .mv (.t 0), [], none⟩,
   ⟨some 109, .call n_parse_reader_take [(.t 108), (.c (.int .i64 6))], [], none⟩]
def c_parse_reader_line.r35 : List CI :=
  [⟨some 110, .load 8 true (.t 5), [], none⟩,
   ⟨some 111, .fadr 0 (.t 5), [], none⟩,
   ⟨some 112, .load 1 false (.t 111), [1], none⟩,
   ⟨some 113, .bin .geq (.t 112) (.c (.int .i64 5)), [2], none⟩,
   ⟨none, .store 8 (.t 2) (.t 110), [0, 0], none⟩,
   ⟨some 3, .mv (.t 113), [3, 4, 0, 1, 2, 3, 4], none⟩]
def c_parse_reader_line : CF := { nt := 114, res := [.cell 2 8 true, .tmp 3], body :=
  (.seq (.region false c_parse_reader_line.r0) (.seq (.region false c_parse_reader_line.r1) (.seq (.region false c_parse_reader_line.r2) (.seq (.region false c_parse_reader_line.r3) (.seq (.seq (.region false c_parse_reader_line.r4) (.block 0 (.loop [0, 2, 5, 6, 13, 14] (.seq (.region false c_parse_reader_line.r5) (.seq (.cond (.t 15) .skip (.exit 0)) (.seqK [0, 2, 5, 6, 13, 14] (.block 1 (.seq (.region false c_parse_reader_line.r6) (.seq (.region false c_parse_reader_line.r7) (.cond (.t 30) (.region false c_parse_reader_line.r8) .skip)))) (.region false c_parse_reader_line.r9))))))) (.seqK [0, 2, 5, 6] (.seq (.region false c_parse_reader_line.r10) (.cond (.t 36) (.region false c_parse_reader_line.r11) .skip)) (.seqK [0, 2, 5] (.seq (.region false c_parse_reader_line.r12) (.seq (.region false c_parse_reader_line.r13) (.cond (.t 51) (.region false c_parse_reader_line.r14) .skip))) (.seq (.region false c_parse_reader_line.r15) (.seqK [0, 2, 5] (.seq (.region false c_parse_reader_line.r16) (.block 2 (.seq (.region false c_parse_reader_line.r17) (.cond (.t 66) (.region false c_parse_reader_line.r18) (.seq (.region false c_parse_reader_line.r19) (.cond (.t 72) (.seq (.region false c_parse_reader_line.r20) (.region false c_parse_reader_line.r21)) (.seq (.region false c_parse_reader_line.r22) (.cond (.t 80) (.region false c_parse_reader_line.r23) (.seq (.region false c_parse_reader_line.r24) (.cond (.t 85) (.seq (.region false c_parse_reader_line.r25) (.seq (.region false c_parse_reader_line.r26) (.seq (.region false c_parse_reader_line.r27) (.region false c_parse_reader_line.r28)))) (.seq (.region false c_parse_reader_line.r29) (.cond (.t 98) (.region false c_parse_reader_line.r30) (.seq (.region false c_parse_reader_line.r31) (.cond (.t 103) (.region false c_parse_reader_line.r32) (.region false c_parse_reader_line.r33))))))))))))))) (.seq (.region false c_parse_reader_line.r34) (.seq (.regionP [0, 1, 2, 3, 4, 5] [] c_parse_reader_line.r35) .ret))))))))))) }
theorem k_parse_reader_line : chkF Go.Proofs.Tryz.prog n_parse_reader_line c_parse_reader_line = true := by kernel_rfl

def c_parse_May.r0 : List CI :=
  [⟨some 1, .box 38 (.t 0), [], none⟩,
   ⟨some 2, .mv (.c (.bool false)), [], none⟩]
def c_parse_May.r1 : List CI :=
  [⟨some 9, .load 1 true (.t 1), [], none⟩,
   ⟨some 10, .call n_parse_few [(.t 9)], [], none⟩,
   ⟨some 11, .un .not (.t 10), [], none⟩]
def c_parse_May.r2 : List CI :=
  [⟨some 2, .mv (.c (.bool false)), [], none⟩]
def c_parse_May.r3 : List CI :=
  [⟨some 13, .load 1 true (.t 1), [], none⟩,
   ⟨some 14, .call n_parse_text [(.t 13)], [], none⟩,
   ⟨some 15, .call n_parse_Program [(.t 14)], [], none⟩,
   ⟨some 12, .mv (.t 15), [], none⟩,
   ⟨some 16, .ext (.t 12) 0, [], none⟩,
   ⟨some 17, .ext (.t 12) 1, [], none⟩,
   ⟨some 3, .alloc 38 [.sl none 0 0], [], none⟩,
   ⟨some 4, .alloc 32 [.int .i64 0, .int .i64 0], [], none⟩,
   ⟨none, .store 1 (.t 3) (.t 16), [], none⟩,
   ⟨none, .store 2 (.t 4) (.t 17), [], none⟩]
def c_parse_May.r4 : List CI :=
  [⟨some 18, .fadr 0 (.t 4), [], none⟩,
   ⟨some 19, .load 1 false (.t 18), [], none⟩,
   ⟨some 20, .bin .neq (.t 19) (.c (.int .i64 0)), [], none⟩,
   ⟨some 21, .mv (.t 20), [], none⟩,
   ⟨some 22, .fadr 0 (.t 3), [], (some (3, false))⟩,
   ⟨some 23, .load 1 false (.t 22), [], (some (3, false))⟩,
   ⟨some 24, .lenV (.t 23), [], (some (3, false))⟩,
   ⟨some 25, .fadr 0 (.t 1), [], (some (3, false))⟩,
   ⟨some 26, .load 1 false (.t 25), [], (some (3, false))⟩,
   ⟨some 27, .lenV (.t 26), [], (some (3, false))⟩,
   ⟨some 28, .bin .neq (.t 24) (.t 27), [], (some (3, false))⟩,
   ⟨some 29, .pick (.t 21) (.c (.bool true)) (.t 28), [], none⟩]
def c_parse_May.r5 : List CI :=
  [⟨some 2, .mv (.c (.bool false)), [], none⟩]
def c_parse_May.r6 : List CI :=
  [⟨some 30, .fadr 0 (.t 1), [], none⟩,
   ⟨some 31, .load 1 false (.t 30), [], none⟩,
   ⟨some 32, .lenV (.t 31), [], none⟩,
   ⟨some 33, .mv (.c (.int .i64 0)), [], none⟩]
def c_parse_May.r7 : List CI :=
  [⟨some 34, .bin .lss (.t 33) (.t 32), [], none⟩]
def c_parse_May.r8 : List CI :=
  [⟨some 35, .mv (.t 33), [], none⟩,
   ⟨some 36, .iadr 2 (.t 31) (.t 33), [], none⟩,
   ⟨some 37, .load 2 true (.t 36), [], none⟩,
   ⟨some 6, .alloc 45 [.str [], .sl none 0 0], [], none⟩,
   ⟨some 5, .mv (.t 35), [], none⟩,
   ⟨none, .store 2 (.t 6) (.t 37), [], none⟩]
def c_parse_May.r9 : List CI :=
  [⟨some 38, .fadr 0 (.t 6), [], none⟩,
   ⟨some 39, .load 1 false (.t 38), [0], none⟩,
   ⟨some 40, .fadr 0 (.t 3), [], none⟩,
   ⟨some 41, .load 1 false (.t 40), [2], none⟩,
   ⟨some 42, .mv (.t 5), [], none⟩,
   ⟨some 43, .iadr 2 (.t 41) (.t 42), [3, 4], none⟩,
   ⟨some 44, .fadr 0 (.t 43), [5], none⟩,
   ⟨some 45, .load 1 false (.t 44), [6], none⟩,
   ⟨some 46, .bin .neq (.t 39) (.t 45), [1, 7], none⟩,
   ⟨some 47, .mv (.t 46), [8], none⟩,
   ⟨some 48, .fadr 1 (.t 6), [9], (some (9, false))⟩,
   ⟨some 49, .load 1 false (.t 48), [10, 9], (some (9, false))⟩,
   ⟨some 50, .lenV (.t 49), [11, 9], (some (9, false))⟩,
   ⟨some 51, .fadr 0 (.t 3), [9], (some (9, false))⟩,
   ⟨some 52, .load 1 false (.t 51), [13, 9], (some (9, false))⟩,
   ⟨some 53, .mv (.t 5), [9], (some (9, false))⟩,
   ⟨some 54, .iadr 2 (.t 52) (.t 53), [14, 15, 9], (some (9, false))⟩,
   ⟨some 55, .fadr 1 (.t 54), [16, 9], (some (9, false))⟩,
   ⟨some 56, .load 1 false (.t 55), [17, 9], (some (9, false))⟩,
   ⟨some 57, .lenV (.t 56), [18, 9], (some (9, false))⟩,
   ⟨some 58, .bin .neq (.t 50) (.t 57), [12, 19, 9], (some (9, false))⟩,
   ⟨some 59, .pick (.t 47) (.c (.bool true)) (.t 58), [9, 20], none⟩]
def c_parse_May.r10 : List CI :=
  [⟨some 2, .mv (.c (.bool false)), [], none⟩]
def c_parse_May.r11 : List CI :=
  [⟨some 60, .fadr 1 (.t 6), [], none⟩,
   ⟨some 61, .load 1 false (.t 60), [], none⟩,
   ⟨some 62, .lenV (.t 61), [], none⟩,
   ⟨some 63, .mv (.c (.int .i64 0)), [], none⟩]
def c_parse_May.r12 : List CI :=
  [⟨some 64, .bin .lss (.t 63) (.t 62), [], none⟩]
def c_parse_May.r13 : List CI :=
  [⟨some 65, .mv (.t 63), [], none⟩,
   ⟨some 66, .iadr 8 (.t 61) (.t 63), [], none⟩,
   ⟨some 67, .load 8 true (.t 66), [], none⟩,
   ⟨some 8, .alloc 49 [.int .i64 0, .str [], .str [], .int .i64 0, .str [], .sl none 0 0, .int .i64 0, .str []], [], none⟩,
   ⟨some 7, .mv (.t 65), [], none⟩,
   ⟨none, .store 8 (.t 8) (.t 67), [], none⟩]
def c_parse_May.r14 : List CI :=
  [⟨some 68, .load 8 true (.t 8), [], none⟩,
   ⟨some 69, .fadr 0 (.t 3), [], none⟩,
   ⟨some 70, .load 1 false (.t 69), [1], none⟩,
   ⟨some 71, .mv (.t 5), [], none⟩,
   ⟨some 72, .iadr 2 (.t 70) (.t 71), [2, 3], none⟩,
   ⟨some 73, .fadr 1 (.t 72), [4], none⟩,
   ⟨some 74, .load 1 false (.t 73), [5], none⟩,
   ⟨some 75, .mv (.t 7), [], none⟩,
   ⟨some 76, .iadr 8 (.t 74) (.t 75), [6, 7], none⟩,
   ⟨some 77, .load 8 true (.t 76), [8], none⟩,
   ⟨some 78, .call n_parse_same [(.t 68), (.t 77)], [0, 9], none⟩,
   ⟨some 79, .un .not (.t 78), [10], none⟩]
def c_parse_May.r15 : List CI :=
  [⟨some 2, .mv (.c (.bool false)), [], none⟩]
def c_parse_May.r16 : List CI :=
  [⟨some 80, .bin .add (.t 63) (.c (.int .i64 1)), [], none⟩,
   ⟨some 63, .mv (.t 80), [], none⟩]
def c_parse_May.r17 : List CI :=
  [⟨some 81, .bin .add (.t 33) (.c (.int .i64 1)), [], none⟩,
   ⟨some 33, .mv (.t 81), [], none⟩]
def c_parse_May.r18 : List CI :=
  [⟨some 2, .mv (.c (.bool true)), [], none⟩]
def c_parse_May : CF := { nt := 82, res := [.tmp 2], body :=
  (.seq (.region false c_parse_May.r0) (.seq (.seq (.region false c_parse_May.r1) (.cond (.t 11) (.seq (.region false c_parse_May.r2) .ret) .skip)) (.seq (.region false c_parse_May.r3) (.seq (.seq (.region false c_parse_May.r4) (.cond (.t 29) (.seq (.region false c_parse_May.r5) .ret) .skip)) (.seq (.seq (.region false c_parse_May.r6) (.block 0 (.loop [3, 31, 32, 33] (.seq (.region false c_parse_May.r7) (.seq (.cond (.t 34) .skip (.exit 0)) (.seq (.block 1 (.seq (.region false c_parse_May.r8) (.seq (.seq (.regionP [0, 1, 2, 3, 4, 5, 6, 7, 8, 9, 10, 11, 12, 13, 14, 15, 16, 17, 18, 19, 20, 21] [] c_parse_May.r9) (.cond (.t 59) (.seq (.region false c_parse_May.r10) .ret) .skip)) (.seq (.region false c_parse_May.r11) (.block 2 (.loop [3, 5, 31, 32, 33, 61, 62, 63] (.seq (.region false c_parse_May.r12) (.seq (.cond (.t 64) .skip (.exit 2)) (.seq (.block 3 (.seq (.region false c_parse_May.r13) (.seq (.regionP [0, 1, 2, 3, 4, 5, 6, 7, 8, 9, 10, 11] [] c_parse_May.r14) (.cond (.t 79) (.seq (.region false c_parse_May.r15) .ret) .skip)))) (.region false c_parse_May.r16)))))))))) (.region false c_parse_May.r17))))))) (.seq (.region false c_parse_May.r18) .ret)))))) }
theorem k_parse_May : chkF Go.Proofs.Tryz.prog n_parse_May c_parse_May = true := by kernel_rfl

def c_parse_text.r0 : List CI :=
  [⟨some 1, .box 38 (.t 0), [], none⟩,
   ⟨some 2, .mv (.c (.str [])), [], none⟩]
def c_parse_text.r1 : List CI :=
  [⟨some 10, .build [.ptr none, .sl none 0 0] [], [], none⟩,
   ⟨some 11, .box 173 (.t 10), [], none⟩,
   ⟨some 3, .mv (.t 11), [], none⟩]
def c_parse_text.r2 : List CI :=
  [⟨some 12, .fadr 0 (.t 1), [], none⟩,
   ⟨some 13, .load 1 false (.t 12), [], none⟩,
   ⟨some 14, .lenV (.t 13), [], none⟩,
   ⟨some 15, .mv (.c (.int .i64 0)), [], none⟩]
def c_parse_text.r3 : List CI :=
  [⟨some 16, .bin .lss (.t 15) (.t 14), [], none⟩]
def c_parse_text.r4 : List CI :=
  [⟨some 17, .iadr 2 (.t 13) (.t 15), [], none⟩,
   ⟨some 18, .load 2 true (.t 17), [], none⟩,
   ⟨some 5, .alloc 45 [.str [], .sl none 0 0], [], none⟩,
   ⟨none, .store 2 (.t 5) (.t 18), [], none⟩]
def c_parse_text.r5 : List CI :=
  [⟨some 19, .mv (.t 3), [], none⟩,
   ⟨some 20, .fadr 0 (.t 5), [], none⟩,
   ⟨some 21, .load 1 false (.t 20), [], none⟩,
   ⟨some 22, .bin .add (.t 21) (.c (.str [58])), [], none⟩,
   ⟨some 23, .bslice 1 1 [.str []] [(0, (.t 22))], [], none⟩,
   ⟨some 24, .call n_parse_writer_row [(.t 19), (.t 23)], [], none⟩]
def c_parse_text.r6 : List CI :=
  [⟨some 25, .fadr 1 (.t 5), [], none⟩,
   ⟨some 26, .load 1 false (.t 25), [], none⟩,
   ⟨some 27, .lenV (.t 26), [], none⟩,
   ⟨some 28, .mv (.c (.int .i64 0)), [], none⟩]
def c_parse_text.r7 : List CI :=
  [⟨some 29, .bin .lss (.t 28) (.t 27), [], none⟩]
def c_parse_text.r8 : List CI :=
  [⟨some 30, .iadr 8 (.t 26) (.t 28), [], none⟩,
   ⟨some 31, .load 8 true (.t 30), [], none⟩,
   ⟨some 7, .alloc 49 [.int .i64 0, .str [], .str [], .int .i64 0, .str [], .sl none 0 0, .int .i64 0, .str []], [], none⟩,
   ⟨none, .store 8 (.t 7) (.t 31), [], none⟩]
def c_parse_text.r9 : List CI :=
  [⟨some 32, .fadr 0 (.t 7), [], none⟩,
   ⟨some 33, .load 1 false (.t 32), [], none⟩]
def c_parse_text.r10 : List CI :=
  [⟨some 35, .bin .eql (.t 33) (.c (.int .i64 1)), [], none⟩,
   ⟨some 34, .mv (.t 35), [], none⟩]
def c_parse_text.r11 : List CI :=
  [⟨some 36, .mv (.t 3), [], none⟩,
   ⟨some 37, .fadr 1 (.t 7), [], none⟩,
   ⟨some 38, .load 1 false (.t 37), [], none⟩,
   ⟨some 39, .call n_pattern_Quote [(.t 38)], [], none⟩,
   ⟨some 40, .bslice 1 2 [.str []] [(0, (.c (.str [115, 101, 110, 100]))), (1, (.t 39))], [], none⟩,
   ⟨some 41, .call n_parse_writer_row [(.t 36), (.t 40)], [], none⟩]
def c_parse_text.r12 : List CI :=
  [⟨some 43, .bin .eql (.t 33) (.c (.int .i64 2)), [], none⟩,
   ⟨some 42, .mv (.t 43), [], none⟩]
def c_parse_text.r13 : List CI :=
  [⟨some 44, .mv (.t 3), [], none⟩,
   ⟨some 45, .fadr 2 (.t 7), [], none⟩,
   ⟨some 46, .load 1 false (.t 45), [1], none⟩,
   ⟨some 47, .fadr 3 (.t 7), [], none⟩,
   ⟨some 48, .load 1 false (.t 47), [3], none⟩,
   ⟨some 49, .call n_strconv_Itoa [(.t 48)], [4], none⟩,
   ⟨some 50, .bslice 1 3 [.str []] [(0, (.c (.str [115, 101, 116]))), (1, (.t 46)), (2, (.t 49))], [2, 5], none⟩,
   ⟨some 51, .call n_parse_writer_row [(.t 44), (.t 50)], [0, 6, 5], none⟩]
def c_parse_text.r14 : List CI :=
  [⟨some 53, .bin .eql (.t 33) (.c (.int .i64 3)), [], none⟩,
   ⟨some 52, .mv (.t 53), [], none⟩]
def c_parse_text.r15 : List CI :=
  [⟨some 54, .mv (.t 3), [], none⟩,
   ⟨some 55, .fadr 2 (.t 7), [], none⟩,
   ⟨some 56, .load 1 false (.t 55), [], none⟩,
   ⟨some 57, .bslice 1 2 [.str []] [(0, (.c (.str [105, 110, 99]))), (1, (.t 56))], [], none⟩,
   ⟨some 58, .call n_parse_writer_row [(.t 54), (.t 57)], [], none⟩]
def c_parse_text.r16 : List CI :=
  [⟨some 60, .bin .eql (.t 33) (.c (.int .i64 4)), [], none⟩,
   ⟨some 59, .mv (.t 60), [], none⟩]
def c_parse_text.r17 : List CI :=
  [⟨some 61, .mv (.t 3), [], none⟩,
   ⟨some 62, .fadr 2 (.t 7), [], none⟩,
   ⟨some 63, .load 1 false (.t 62), [1], none⟩,
   ⟨some 64, .fadr 3 (.t 7), [], none⟩,
   ⟨some 65, .load 1 false (.t 64), [3], none⟩,
   ⟨some 66, .call n_strconv_Itoa [(.t 65)], [4], none⟩,
   ⟨some 67, .fadr 4 (.t 7), [], none⟩,
   ⟨some 68, .load 1 false (.t 67), [6], none⟩,
   ⟨some 69, .bslice 1 6 [.str []] [(0, (.c (.str [105, 102]))), (1, (.t 63)), (2, (.c (.str [60]))), (3, (.t 66)), (4, (.c (.str [103, 111, 116, 111]))), (5, (.t 68))], [2, 5, 7], none⟩,
   ⟨some 70, .call n_parse_writer_row [(.t 61), (.t 69)], [0, 8, 5], none⟩]
def c_parse_text.r18 : List CI :=
  [⟨some 72, .bin .eql (.t 33) (.c (.int .i64 5)), [], none⟩,
   ⟨some 71, .mv (.t 72), [], none⟩]
def c_parse_text.r19 : List CI :=
  [⟨some 73, .mv (.t 3), [], none⟩,
   ⟨some 74, .fadr 4 (.t 7), [], none⟩,
   ⟨some 75, .load 1 false (.t 74), [], none⟩,
   ⟨some 76, .bslice 1 2 [.str []] [(0, (.c (.str [103, 111, 116, 111]))), (1, (.t 75))], [], none⟩,
   ⟨some 77, .call n_parse_writer_row [(.t 73), (.t 76)], [], none⟩]
def c_parse_text.r20 : List CI :=
  [⟨some 79, .bin .eql (.t 33) (.c (.int .i64 6)), [], none⟩,
   ⟨some 78, .mv (.t 79), [], none⟩]
def c_parse_text.r21 : List CI :=
  [⟨some 80, .mv (.t 3), [], none⟩,
   ⟨some 81, .fadr 3 (.t 7), [], none⟩,
   ⟨some 82, .load 1 false (.t 81), [], none⟩,
   ⟨some 83, .call n_strconv_Itoa [(.t 82)], [], none⟩,
   ⟨some 84, .bslice 1 2 [.str []] [(0, (.c (.str [101, 120, 105, 116]))), (1, (.t 83))], [], none⟩,
   ⟨some 85, .call n_parse_writer_row [(.t 80), (.t 84)], [], none⟩]
def c_parse_text.r22 : List CI :=
  [⟨some 87, .bin .eql (.t 33) (.c (.int .i64 7)), [], none⟩,
   ⟨some 86, .mv (.t 87), [], none⟩]
def c_parse_text.r23 : List CI :=
  [⟨some 88, .mv (.t 3), [], none⟩,
   ⟨some 89, .bslice 1 2 [.str []] [(0, (.c (.str [101, 120, 112, 101, 99, 116]))), (1, (.c (.str [123])))], [], none⟩,
   ⟨some 90, .call n_parse_writer_row [(.t 88), (.t 89)], [], none⟩]
def c_parse_text.r24 : List CI :=
  [⟨some 91, .fadr 5 (.t 7), [], none⟩,
   ⟨some 92, .load 1 false (.t 91), [], none⟩,
   ⟨some 93, .lenV (.t 92), [], none⟩,
   ⟨some 94, .mv (.c (.int .i64 0)), [], none⟩]
def c_parse_text.r25 : List CI :=
  [⟨some 95, .bin .lss (.t 94) (.t 93), [], none⟩]
def c_parse_text.r26 : List CI :=
  [⟨some 96, .iadr 3 (.t 92) (.t 94), [], none⟩,
   ⟨some 97, .load 3 true (.t 96), [], none⟩,
   ⟨some 9, .alloc 53 [.int .i64 0, .str [], .str []], [], none⟩,
   ⟨none, .store 3 (.t 9) (.t 97), [], none⟩]
def c_parse_text.r27 : List CI :=
  [⟨some 98, .mv (.t 3), [], none⟩,
   ⟨some 99, .fadr 0 (.t 9), [], none⟩,
   ⟨some 100, .load 2 true (.t 99), [1], none⟩,
   ⟨some 101, .call n_pattern_Print [(.t 100)], [2], none⟩,
   ⟨some 102, .fadr 2 (.t 9), [], none⟩,
   ⟨some 103, .load 1 false (.t 102), [4], none⟩,
   ⟨some 104, .bslice 1 3 [.str []] [(0, (.t 101)), (1, (.c (.str [103, 111, 116, 111]))), (2, (.t 103))], [3, 5], none⟩,
   ⟨some 105, .call n_parse_writer_row [(.t 98), (.t 104)], [0, 6, 3], none⟩]
def c_parse_text.r28 : List CI :=
  [⟨some 106, .bin .add (.t 94) (.c (.int .i64 1)), [], none⟩,
   ⟨some 94, .mv (.t 106), [], none⟩]
def c_parse_text.r29 : List CI :=
  [⟨some 107, .fadr 7 (.t 7), [], none⟩,
   ⟨some 108, .load 1 false (.t 107), [], none⟩,
   ⟨some 109, .bin .neq (.t 108) (.c (.str [])), [], none⟩]
def c_parse_text.r30 : List CI :=
  [⟨some 110, .mv (.t 3), [], none⟩,
   ⟨some 111, .fadr 6 (.t 7), [], none⟩,
   ⟨some 112, .load 1 false (.t 111), [1], none⟩,
   ⟨some 113, .call n_strconv_Itoa [(.t 112)], [2], none⟩,
   ⟨some 114, .fadr 7 (.t 7), [], none⟩,
   ⟨some 115, .load 1 false (.t 114), [4], none⟩,
   ⟨some 116, .bslice 1 4 [.str []] [(0, (.c (.str [116, 105, 109, 101, 111, 117, 116]))), (1, (.t 113)), (2, (.c (.str [103, 111, 116, 111]))), (3, (.t 115))], [3, 5], none⟩,
   ⟨some 117, .call n_parse_writer_row [(.t 110), (.t 116)], [0, 6, 3], none⟩]
def c_parse_text.r31 : List CI :=
  [⟨some 118, .mv (.t 3), [], none⟩,
   ⟨some 119, .bslice 1 1 [.str []] [(0, (.c (.str [125])))], [], none⟩,
   ⟨some 120, .call n_parse_writer_row [(.t 118), (.t 119)], [], none⟩]
def c_parse_text.r32 : List CI :=
  [⟨some 121, .bin .add (.t 28) (.c (.int .i64 1)), [], none⟩,
   ⟨some 28, .mv (.t 121), [], none⟩]
def c_parse_text.r33 : List CI :=
  [⟨some 122, .bin .add (.t 15) (.c (.int .i64 1)), [], none⟩,
   ⟨some 15, .mv (.t 122), [], none⟩]
def c_parse_text.r34 : List CI :=
  [⟨some 123, .mv (.t 3), [], none⟩,
   ⟨some 124, .nilck (.t 123), [], none⟩,
   ⟨some 125, .fadr 0 (.t 124), [], none⟩,
   ⟨some 126, .call n_strings_Builder_String [(.t 125)], [], none⟩,
   ⟨some 2, .mv (.t 126), [], none⟩]
def c_parse_text : CF := { nt := 127, res := [.tmp 2], body :=
  (.seq (.region false c_parse_text.r0) (.seq (.region false c_parse_text.r1) (.seq (.seq (.region false c_parse_text.r2) (.block 0 (.loop [3, 13, 14, 15] (.seq (.region false c_parse_text.r3) (.seq (.cond (.t 16) .skip (.exit 0)) (.seq (.block 1 (.seq (.region false c_parse_text.r4) (.seq (.region false c_parse_text.r5) (.seq (.region false c_parse_text.r6) (.block 2 (.loop [3, 13, 14, 15, 26, 27, 28] (.seq (.region false c_parse_text.r7) (.seq (.cond (.t 29) .skip (.exit 2)) (.seqK [3, 13, 14, 15, 26, 27, 28] (.block 3 (.seq (.region false c_parse_text.r8) (.seq (.region false c_parse_text.r9) (.block 4 (.seq (.region false c_parse_text.r10) (.cond (.t 34) (.region false c_parse_text.r11) (.seq (.region false c_parse_text.r12) (.cond (.t 42) (.regionP [0, 1, 2, 3, 4, 5, 6, 7] [] c_parse_text.r13) (.seq (.region false c_parse_text.r14) (.cond (.t 52) (.region false c_parse_text.r15) (.seq (.region false c_parse_text.r16) (.cond (.t 59) (.regionP [0, 1, 2, 3, 4, 6, 7, 5, 8, 9] [] c_parse_text.r17) (.seq (.region false c_parse_text.r18) (.cond (.t 71) (.region false c_parse_text.r19) (.seq (.region false c_parse_text.r20) (.cond (.t 78) (.region false c_parse_text.r21) (.seq (.region false c_parse_text.r22) (.cond (.t 86) (.seq (.region false c_parse_text.r23) (.seq (.seq (.region false c_parse_text.r24) (.block 5 (.loop [3, 7, 13, 14, 15, 26, 27, 28, 92, 93, 94] (.seq (.region false c_parse_text.r25) (.seq (.cond (.t 95) .skip (.exit 5)) (.seq (.block 6 (.seq (.region false c_parse_text.r26) (.regionP [0, 1, 2, 4, 5, 3, 6, 7] [] c_parse_text.r27))) (.region false c_parse_text.r28))))))) (.seqK [3, 13, 14, 15, 26, 27, 28] (.seq (.region false c_parse_text.r29) (.cond (.t 109) (.regionP [0, 1, 2, 4, 5, 3, 6, 7] [] c_parse_text.r30) .skip)) (.region false c_parse_text.r31)))) .skip)))))))))))))))))) (.region false c_parse_text.r32)))))))))) (.region false c_parse_text.r33))))))) (.seq (.region false c_parse_text.r34) .ret)))) }
theorem k_parse_text : chkF Go.Proofs.Tryz.prog n_parse_text c_parse_text = true := by kernel_rfl

def c_check_places.r0 : List CI :=
  [⟨some 1, .box 38 (.t 0), [], none⟩,
   ⟨some 2, .mv (.c (.map none)), [], none⟩]
def c_check_places.r1 : List CI :=
  [⟨some 8, .mkM, [], none⟩,
   ⟨some 3, .mv (.t 8), [], none⟩]
def c_check_places.r2 : List CI :=
  [⟨some 9, .fadr 0 (.t 1), [], none⟩,
   ⟨some 10, .load 1 false (.t 9), [], none⟩,
   ⟨some 11, .lenV (.t 10), [], none⟩,
   ⟨some 12, .mv (.c (.int .i64 0)), [], none⟩]
def c_check_places.r3 : List CI :=
  [⟨some 13, .bin .lss (.t 12) (.t 11), [], none⟩]
def c_check_places.r4 : List CI :=
  [⟨some 14, .mv (.t 12), [], none⟩,
   ⟨some 15, .iadr 2 (.t 10) (.t 12), [], none⟩,
   ⟨some 16, .load 2 true (.t 15), [], none⟩,
   ⟨some 5, .alloc 45 [.str [], .sl none 0 0], [], none⟩,
   ⟨some 4, .mv (.t 14), [], none⟩,
   ⟨none, .store 2 (.t 5) (.t 16), [], none⟩]
def c_check_places.r5 : List CI :=
  [⟨some 18, .mv (.t 3), [], none⟩,
   ⟨some 19, .fadr 0 (.t 5), [], none⟩,
   ⟨some 20, .load 1 false (.t 19), [], none⟩,
   ⟨some 21, .look 1 (.int .i64 0) true (.t 18) (.t 20), [], none⟩,
   ⟨some 17, .mv (.t 21), [], none⟩,
   ⟨some 22, .ext (.t 17) 0, [], none⟩,
   ⟨some 23, .ext (.t 17) 1, [], none⟩,
   ⟨some 6, .mv (.t 22), [], none⟩,
   ⟨some 7, .mv (.t 23), [], none⟩]
def c_check_places.r6 : List CI :=
  [⟨some 24, .mv (.t 7), [], none⟩,
   ⟨some 25, .un .not (.t 24), [], none⟩]
def c_check_places.r7 : List CI :=
  [⟨some 26, .mv (.t 3), [], none⟩,
   ⟨some 27, .fadr 0 (.t 5), [], none⟩,
   ⟨some 28, .load 1 false (.t 27), [], none⟩,
   ⟨some 29, .mv (.t 4), [], none⟩,
   ⟨none, .mset 1 (.t 26) (.t 28) (.t 29), [], none⟩]
def c_check_places.r8 : List CI :=
  [⟨some 30, .bin .add (.t 12) (.c (.int .i64 1)), [], none⟩,
   ⟨some 12, .mv (.t 30), [], none⟩]
def c_check_places.r9 : List CI :=
  [⟨some 31, .mv (.t 3), [], none⟩,
   ⟨some 2, .mv (.t 31), [], none⟩]
def c_check_places : CF := { nt := 32, res := [.tmp 2], body :=
  (.seq (.region false c_check_places.r0) (.seq (.region false c_check_places.r1) (.seq (.seq (.region false c_check_places.r2) (.block 0 (.loop [3, 10, 11, 12] (.seq (.region false c_check_places.r3) (.seq (.cond (.t 13) .skip (.exit 0)) (.seqK [3, 10, 11, 12] (.block 1 (.seq (.region false c_check_places.r4) (.seq (.region false c_check_places.r5) (.seq (.region false c_check_places.r6) (.cond (.t 25) (.region false c_check_places.r7) .skip))))) (.region false c_check_places.r8))))))) (.seq (.region false c_check_places.r9) .ret)))) }
theorem k_check_places : chkF Go.Proofs.Tryz.prog n_check_places c_check_places = true := by kernel_rfl

def c_pattern_Empty.r0 : List CI :=
  [⟨some 1, .box 51 (.t 0), [], none⟩,
   ⟨some 2, .mv (.c (.bool false)), [], none⟩]
def c_pattern_Empty.r1 : List CI :=
  [⟨some 6, .load 2 true (.t 1), [], none⟩,
   ⟨some 7, .call n_pattern_Tree [(.t 6)], [], none⟩,
   ⟨some 5, .mv (.t 7), [], none⟩,
   ⟨some 8, .ext (.t 5) 0, [], none⟩,
   ⟨some 9, .ext (.t 5) 1, [], none⟩,
   ⟨some 3, .alloc 151 [.int .i64 0, .int .u64 0, .int .u64 0, .int .u64 0, .int .u64 0, .sl none 0 0], [], none⟩,
   ⟨some 4, .alloc 32 [.int .i64 0, .int .i64 0], [], none⟩,
   ⟨none, .store 6 (.t 3) (.t 8), [], none⟩,
   ⟨none, .store 2 (.t 4) (.t 9), [], none⟩]
def c_pattern_Empty.r2 : List CI :=
  [⟨some 10, .fadr 0 (.t 4), [], none⟩,
   ⟨some 11, .load 1 false (.t 10), [], none⟩,
   ⟨some 12, .bin .eql (.t 11) (.c (.int .i64 0)), [], none⟩,
   ⟨some 13, .mv (.t 12), [], none⟩,
   ⟨some 14, .load 6 true (.t 3), [], (some (3, true))⟩,
   ⟨some 15, .call n_pattern_empty [(.t 14)], [], (some (3, true))⟩,
   ⟨some 16, .pick (.t 13) (.t 15) (.c (.bool false)), [], none⟩,
   ⟨some 2, .mv (.t 16), [], none⟩]
def c_pattern_Empty : CF := { nt := 17, res := [.tmp 2], body :=
  (.seq (.region false c_pattern_Empty.r0) (.seq (.region false c_pattern_Empty.r1) (.seq (.region false c_pattern_Empty.r2) .ret))) }
theorem k_pattern_Empty : chkF Go.Proofs.Tryz.prog n_pattern_Empty c_pattern_Empty = true := by kernel_rfl

def c_check_Round.r0 : List CI :=
  [⟨some 1, .box 38 (.t 0), [], none⟩,
   ⟨some 2, .mv (.c (.int .i64 0)), [], none⟩,
   ⟨some 3, .mv (.c (.bool false)), [], none⟩]
def c_check_Round.r1 : List CI :=
  [⟨some 13, .load 1 true (.t 1), [], none⟩,
   ⟨some 14, .call n_parse_May [(.t 13)], [], none⟩,
   ⟨some 15, .un .not (.t 14), [], none⟩]
def c_check_Round.r2 : List CI :=
  [⟨some 2, .mv (.c (.int .i64 0)), [], none⟩,
   ⟨some 3, .mv (.c (.bool false)), [], none⟩]
def c_check_Round.r3 : List CI :=
  [⟨some 16, .load 1 true (.t 1), [], none⟩,
   ⟨some 17, .call n_check_places [(.t 16)], [], none⟩,
   ⟨some 4, .mv (.t 17), [], none⟩]
def c_check_Round.r4 : List CI :=
  [⟨some 18, .fadr 0 (.t 1), [], none⟩,
   ⟨some 19, .load 1 false (.t 18), [], none⟩,
   ⟨some 20, .lenV (.t 19), [], none⟩,
   ⟨some 21, .mv (.c (.int .i64 0)), [], none⟩]
def c_check_Round.r5 : List CI :=
  [⟨some 22, .bin .lss (.t 21) (.t 20), [], none⟩]
def c_check_Round.r6 : List CI :=
  [⟨some 23, .mv (.t 21), [], none⟩,
   ⟨some 5, .mv (.t 23), [], none⟩]
def c_check_Round.r7 : List CI :=
  [⟨some 24, .fadr 0 (.t 1), [], none⟩,
   ⟨some 25, .load 1 false (.t 24), [], none⟩,
   ⟨some 26, .lenV (.t 25), [], none⟩,
   ⟨some 27, .mkS 1 1 [.bool false] (.t 26) (.t 26), [], none⟩,
   ⟨some 6, .mv (.t 27), [], none⟩]
def c_check_Round.r8 : List CI :=
  [⟨some 28, .mv (.t 5), [], none⟩,
   ⟨some 29, .bslice 1 1 [.int .i64 0] [(0, (.t 28))], [], none⟩,
   ⟨some 7, .mv (.t 29), [], none⟩]
def c_check_Round.r9 : List CI :=
  [⟨some 30, .mv (.t 7), [], none⟩,
   ⟨some 31, .lenV (.t 30), [], none⟩,
   ⟨some 32, .bin .eql (.t 31) (.c (.int .i64 0)), [], none⟩]
def c_check_Round.r10 : List CI :=
  [⟨some 33, .mv (.t 7), [], none⟩,
   ⟨some 34, .mv (.t 7), [], none⟩,
   ⟨some 35, .lenV (.t 34), [], none⟩,
   ⟨some 36, .bin .sub (.t 35) (.c (.int .i64 1)), [], none⟩,
   ⟨some 37, .iadr 1 (.t 33) (.t 36), [], none⟩,
   ⟨some 38, .load 1 false (.t 37), [], none⟩,
   ⟨some 8, .mv (.t 38), [], none⟩]
def c_check_Round.r11 : List CI :=
  [⟨some 39, .mv (.t 7), [], none⟩,
   ⟨some 40, .mv (.t 7), [], none⟩,
   ⟨some 41, .lenV (.t 40), [], none⟩,
   ⟨some 42, .bin .sub (.t 41) (.c (.int .i64 1)), [], none⟩,
   ⟨some 43, .slv 1 (.t 39) none (some (.t 42)) none, [], none⟩,
   ⟨some 7, .mv (.t 43), [], none⟩]
def c_check_Round.r12 : List CI :=
  [⟨some 44, .fadr 0 (.t 1), [], none⟩,
   ⟨some 45, .load 1 false (.t 44), [], none⟩,
   ⟨some 46, .mv (.t 8), [], none⟩,
   ⟨some 47, .iadr 2 (.t 45) (.t 46), [], none⟩,
   ⟨some 48, .fadr 1 (.t 47), [], none⟩,
   ⟨some 49, .load 1 false (.t 48), [], none⟩,
   ⟨some 50, .lenV (.t 49), [], none⟩,
   ⟨some 51, .mv (.c (.int .i64 0)), [], none⟩]
def c_check_Round.r13 : List CI :=
  [⟨some 52, .bin .lss (.t 51) (.t 50), [], none⟩]
def c_check_Round.r14 : List CI :=
  [⟨some 53, .iadr 8 (.t 49) (.t 51), [], none⟩,
   ⟨some 54, .load 8 true (.t 53), [], none⟩,
   ⟨some 10, .alloc 49 [.int .i64 0, .str [], .str [], .int .i64 0, .str [], .sl none 0 0, .int .i64 0, .str []], [], none⟩,
   ⟨none, .store 8 (.t 10) (.t 54), [], none⟩]
def c_check_Round.r15 : List CI :=
  [⟨some 56, .mv (.t 4), [], none⟩,
   ⟨some 57, .fadr 4 (.t 10), [], none⟩,
   ⟨some 58, .load 1 false (.t 57), [], none⟩,
   ⟨some 59, .look 1 (.int .i64 0) true (.t 56) (.t 58), [], none⟩,
   ⟨some 55, .mv (.t 59), [], none⟩,
   ⟨some 60, .ext (.t 55) 0, [], none⟩,
   ⟨some 61, .ext (.t 55) 1, [], none⟩,
   ⟨some 11, .mv (.t 60), [], none⟩,
   ⟨some 12, .mv (.t 61), [], none⟩]
def c_check_Round.r16 : List CI :=
  [⟨some 63, .fadr 0 (.t 10), [], none⟩,
   ⟨some 64, .load 1 false (.t 63), [], none⟩,
   ⟨some 65, .bin .neq (.t 64) (.c (.int .i64 4)), [], none⟩,
   ⟨some 66, .mv (.t 65), [], none⟩,
   ⟨some 67, .fadr 0 (.t 10), [], (some (3, true))⟩,
   ⟨some 68, .load 1 false (.t 67), [], (some (3, true))⟩,
   ⟨some 69, .bin .neq (.t 68) (.c (.int .i64 5)), [], (some (3, true))⟩,
   ⟨some 70, .pick (.t 66) (.t 69) (.c (.bool false)), [], none⟩,
   ⟨some 62, .mv (.t 70), [], none⟩]
def c_check_Round.r17 : List CI :=
  [⟨some 71, .mv (.t 12), [], none⟩,
   ⟨some 72, .un .not (.t 71), [], none⟩,
   ⟨some 62, .mv (.t 72), [], none⟩]
def c_check_Round.r18 : List CI :=
  [⟨some 74, .mv (.t 11), [], none⟩,
   ⟨some 75, .mv (.t 5), [], none⟩,
   ⟨some 76, .bin .eql (.t 74) (.t 75), [], none⟩,
   ⟨some 73, .mv (.t 76), [], none⟩]
def c_check_Round.r19 : List CI :=
  [⟨some 77, .mv (.t 5), [], none⟩,
   ⟨some 2, .mv (.t 77), [], none⟩,
   ⟨some 3, .mv (.c (.bool true)), [], none⟩]
def c_check_Round.r20 : List CI :=
  [⟨some 79, .mv (.t 6), [], none⟩,
   ⟨some 80, .mv (.t 11), [], none⟩,
   ⟨some 81, .iadr 1 (.t 79) (.t 80), [], none⟩,
   ⟨some 82, .load 1 false (.t 81), [], none⟩,
   ⟨some 83, .un .not (.t 82), [], none⟩,
   ⟨some 78, .mv (.t 83), [], none⟩]
def c_check_Round.r21 : List CI :=
  [⟨some 84, .mv (.t 6), [], none⟩,
   ⟨some 85, .mv (.t 11), [], none⟩,
   ⟨some 86, .iadr 1 (.t 84) (.t 85), [], none⟩,
   ⟨none, .store 1 (.t 86) (.c (.bool true)), [], none⟩]
def c_check_Round.r22 : List CI :=
  [⟨some 87, .mv (.t 7), [], none⟩,
   ⟨some 88, .mv (.t 11), [], none⟩,
   ⟨some 89, .bslice 1 1 [.int .i64 0] [(0, (.t 88))], [], none⟩,
   ⟨some 90, .app 3 1 8 [.int .i64 0] (.t 87) (.t 89), [], none⟩,
   ⟨some 7, .mv (.t 90), [], none⟩]
def c_check_Round.r23 : List CI :=
  [⟨some 91, .bin .add (.t 51) (.c (.int .i64 1)), [], none⟩,
   ⟨some 51, .mv (.t 91), [], none⟩]
def c_check_Round.r24 : List CI :=
  [⟨some 30, .mv (.t 7), [], none⟩,
   ⟨some 31, .lenV (.t 30), [], none⟩,
   ⟨some 32, .bin .eql (.t 31) (.c (.int .i64 0)), [], none⟩]
def c_check_Round.r25 : List CI :=
  [⟨some 33, .mv (.t 7), [], none⟩,
   ⟨some 34, .mv (.t 7), [], none⟩,
   ⟨some 35, .lenV (.t 34), [], none⟩,
   ⟨some 36, .bin .sub (.t 35) (.c (.int .i64 1)), [], none⟩,
   ⟨some 37, .iadr 1 (.t 33) (.t 36), [], none⟩,
   ⟨some 38, .load 1 false (.t 37), [], none⟩,
   ⟨some 8, .mv (.t 38), [], none⟩]
def c_check_Round.r26 : List CI :=
  [⟨some 39, .mv (.t 7), [], none⟩,
   ⟨some 40, .mv (.t 7), [], none⟩,
   ⟨some 41, .lenV (.t 40), [], none⟩,
   ⟨some 42, .bin .sub (.t 41) (.c (.int .i64 1)), [], none⟩,
   ⟨some 43, .slv 1 (.t 39) none (some (.t 42)) none, [], none⟩,
   ⟨some 7, .mv (.t 43), [], none⟩]
def c_check_Round.r27 : List CI :=
  [⟨some 44, .fadr 0 (.t 1), [], none⟩,
   ⟨some 45, .load 1 false (.t 44), [], none⟩,
   ⟨some 46, .mv (.t 8), [], none⟩,
   ⟨some 47, .iadr 2 (.t 45) (.t 46), [], none⟩,
   ⟨some 48, .fadr 1 (.t 47), [], none⟩,
   ⟨some 49, .load 1 false (.t 48), [], none⟩,
   ⟨some 50, .lenV (.t 49), [], none⟩,
   ⟨some 51, .mv (.c (.int .i64 0)), [], none⟩]
def c_check_Round.r28 : List CI :=
  [⟨some 52, .bin .lss (.t 51) (.t 50), [], none⟩]
def c_check_Round.r29 : List CI :=
  [⟨some 53, .iadr 8 (.t 49) (.t 51), [], none⟩,
   ⟨some 54, .load 8 true (.t 53), [], none⟩,
   ⟨some 10, .alloc 49 [.int .i64 0, .str [], .str [], .int .i64 0, .str [], .sl none 0 0, .int .i64 0, .str []], [], none⟩,
   ⟨none, .store 8 (.t 10) (.t 54), [], none⟩]
def c_check_Round.r30 : List CI :=
  [⟨some 56, .mv (.t 4), [], none⟩,
   ⟨some 57, .fadr 4 (.t 10), [], none⟩,
   ⟨some 58, .load 1 false (.t 57), [], none⟩,
   ⟨some 59, .look 1 (.int .i64 0) true (.t 56) (.t 58), [], none⟩,
   ⟨some 55, .mv (.t 59), [], none⟩,
   ⟨some 60, .ext (.t 55) 0, [], none⟩,
   ⟨some 61, .ext (.t 55) 1, [], none⟩,
   ⟨some 11, .mv (.t 60), [], none⟩,
   ⟨some 12, .mv (.t 61), [], none⟩]
def c_check_Round.r31 : List CI :=
  [⟨some 63, .fadr 0 (.t 10), [], none⟩,
   ⟨some 64, .load 1 false (.t 63), [], none⟩,
   ⟨some 65, .bin .neq (.t 64) (.c (.int .i64 4)), [], none⟩,
   ⟨some 66, .mv (.t 65), [], none⟩,
   ⟨some 67, .fadr 0 (.t 10), [], (some (3, true))⟩,
   ⟨some 68, .load 1 false (.t 67), [], (some (3, true))⟩,
   ⟨some 69, .bin .neq (.t 68) (.c (.int .i64 5)), [], (some (3, true))⟩,
   ⟨some 70, .pick (.t 66) (.t 69) (.c (.bool false)), [], none⟩,
   ⟨some 62, .mv (.t 70), [], none⟩]
def c_check_Round.r32 : List CI :=
  [⟨some 71, .mv (.t 12), [], none⟩,
   ⟨some 72, .un .not (.t 71), [], none⟩,
   ⟨some 62, .mv (.t 72), [], none⟩]
def c_check_Round.r33 : List CI :=
  [⟨some 74, .mv (.t 11), [], none⟩,
   ⟨some 75, .mv (.t 5), [], none⟩,
   ⟨some 76, .bin .eql (.t 74) (.t 75), [], none⟩,
   ⟨some 73, .mv (.t 76), [], none⟩]
def c_check_Round.r34 : List CI :=
  [⟨some 77, .mv (.t 5), [], none⟩,
   ⟨some 2, .mv (.t 77), [], none⟩,
   ⟨some 3, .mv (.c (.bool true)), [], none⟩]
def c_check_Round.r35 : List CI :=
  [⟨some 79, .mv (.t 6), [], none⟩,
   ⟨some 80, .mv (.t 11), [], none⟩,
   ⟨some 81, .iadr 1 (.t 79) (.t 80), [], none⟩,
   ⟨some 82, .load 1 false (.t 81), [], none⟩,
   ⟨some 83, .un .not (.t 82), [], none⟩,
   ⟨some 78, .mv (.t 83), [], none⟩]
def c_check_Round.r36 : List CI :=
  [⟨some 84, .mv (.t 6), [], none⟩,
   ⟨some 85, .mv (.t 11), [], none⟩,
   ⟨some 86, .iadr 1 (.t 84) (.t 85), [], none⟩,
   ⟨none, .store 1 (.t 86) (.c (.bool true)), [], none⟩]
def c_check_Round.r37 : List CI :=
  [⟨some 87, .mv (.t 7), [], none⟩,
   ⟨some 88, .mv (.t 11), [], none⟩,
   ⟨some 89, .bslice 1 1 [.int .i64 0] [(0, (.t 88))], [], none⟩,
   ⟨some 90, .app 3 1 8 [.int .i64 0] (.t 87) (.t 89), [], none⟩,
   ⟨some 7, .mv (.t 90), [], none⟩]
def c_check_Round.r38 : List CI :=
  [⟨some 91, .bin .add (.t 51) (.c (.int .i64 1)), [], none⟩,
   ⟨some 51, .mv (.t 91), [], none⟩]
def c_check_Round.r39 : List CI :=
  [⟨some 92, .bin .add (.t 21) (.c (.int .i64 1)), [], none⟩,
   ⟨some 21, .mv (.t 92), [], none⟩]
def c_check_Round.r40 : List CI :=
  [⟨some 2, .mv (.c (.int .i64 0)), [], none⟩,
   ⟨some 3, .mv (.c (.bool false)), [], none⟩]
def c_check_Round : CF := { nt := 93, res := [.tmp 2, .tmp 3], body :=
  (.seq (.region false c_check_Round.r0) (.seq (.seq (.region false c_check_Round.r1) (.cond (.t 15) (.seq (.region false c_check_Round.r2) .ret) .skip)) (.seq (.region false c_check_Round.r3) (.seq (.seq (.region false c_check_Round.r4) (.block 0 (.loop [1, 4, 20, 21] (.seq (.region false c_check_Round.r5) (.seq (.cond (.t 22) .skip (.exit 0)) (.seq (.block 1 (.seq (.region false c_check_Round.r6) (.scopeJ [1, 4, 5, 6, 7, 20, 21] 0 (.seq (.region false c_check_Round.r7) (.seq (.region false c_check_Round.r8) (.seq (.label 0) (.seq (.seq (.region false c_check_Round.r9) (.cond (.t 32) (.exit 1) .skip)) (.seq (.region false c_check_Round.r10) (.seq (.region false c_check_Round.r11) (.seq (.seq (.region false c_check_Round.r12) (.block 2 (.loop [1, 4, 5, 6, 7, 20, 21, 49, 50, 51] (.seq (.region false c_check_Round.r13) (.seq (.cond (.t 52) .skip (.exit 2)) (.seqK [1, 4, 5, 6, 7, 20, 21, 49, 50, 51] (.block 3 (.seq (.region false c_check_Round.r14) (.seq (.region false c_check_Round.r15) (.block 4 (.seqK [1, 4, 5, 6, 7, 11, 20, 21, 49, 50, 51, 62] (.seq (.region false c_check_Round.r16) (.cond (.t 62) .skip (.region false c_check_Round.r17))) (.cond (.t 62) .skip (.seq (.region false c_check_Round.r18) (.cond (.t 73) (.seq (.region false c_check_Round.r19) .ret) (.seq (.region false c_check_Round.r20) (.cond (.t 78) (.seq (.region false c_check_Round.r21) (.region false c_check_Round.r22)) .skip)))))))))) (.region false c_check_Round.r23))))))) (.goto 0)))))))) (.seq .skip (.seq (.seq (.region false c_check_Round.r24) (.cond (.t 32) (.exit 1) .skip)) (.seq (.region false c_check_Round.r25) (.seq (.region false c_check_Round.r26) (.seq (.seq (.region false c_check_Round.r27) (.block 2 (.loop [1, 4, 5, 6, 7, 20, 21, 49, 50, 51] (.seq (.region false c_check_Round.r28) (.seq (.cond (.t 52) .skip (.exit 2)) (.seqK [1, 4, 5, 6, 7, 20, 21, 49, 50, 51] (.block 3 (.seq (.region false c_check_Round.r29) (.seq (.region false c_check_Round.r30) (.block 4 (.seqK [1, 4, 5, 6, 7, 11, 20, 21, 49, 50, 51, 62] (.seq (.region false c_check_Round.r31) (.cond (.t 62) .skip (.region false c_check_Round.r32))) (.cond (.t 62) .skip (.seq (.region false c_check_Round.r33) (.cond (.t 73) (.seq (.region false c_check_Round.r34) .ret) (.seq (.region false c_check_Round.r35) (.cond (.t 78) (.seq (.region false c_check_Round.r36) (.region false c_check_Round.r37)) .skip)))))))))) (.region false c_check_Round.r38))))))) (.goto 0))))))))) (.region false c_check_Round.r39))))))) (.seq (.region false c_check_Round.r40) .ret))))) }
theorem k_check_Round : chkF Go.Proofs.Tryz.prog n_check_Round c_check_Round = true := by kernel_rfl

def c_slices_Contains_string_string.r0 : List CI :=
  [⟨some 4, .mv (.c (.bool false)), [], none⟩]
def c_slices_Contains_string_string.r1 : List CI :=
  [⟨some 5, .mv (.t 0), [], none⟩,
   ⟨some 6, .mv (.t 1), [], none⟩,
   ⟨some 7, .call n_slices_Index_string_string [(.t 5), (.t 6)], [], none⟩,
   ⟨some 8, .bin .geq (.t 7) (.c (.int .i64 0)), [], none⟩,
   ⟨some 4, .mv (.t 8), [], none⟩]
def c_slices_Contains_string_string : CF := { nt := 9, res := [.tmp 4], body :=
  (.seq (.region false c_slices_Contains_string_string.r0) (.seq (.region false c_slices_Contains_string_string.r1) .ret)) }
theorem k_slices_Contains_string_string : chkF Go.Proofs.Tryz.prog n_slices_Contains_string_string c_slices_Contains_string_string = true := by kernel_rfl

def c_compile_bare.r0 : List CI :=
  [⟨some 1, .box 62 (.t 0), [], none⟩,
   ⟨some 2, .alloc 62 [.int .i64 0, .str [], .int .i64 0, .int .i64 0, .int .i64 0, .sl none 0 0, .int .i64 0, .int .i64 0], [], none⟩]
def c_compile_bare.r1 : List CI :=
  [⟨some 4, .fadr 0 (.t 1), [], none⟩,
   ⟨some 5, .load 1 false (.t 4), [], none⟩,
   ⟨some 6, .build [.int .i64 0, .str [], .int .i64 0, .int .i64 0, .int .i64 0, .sl none 0 0, .int .i64 0, .int .i64 0] [(0, 1, (.t 5)), (7, 1, (.c (.int .i64 (-1))))], [], none⟩,
   ⟨some 3, .alloc 62 [.int .i64 0, .str [], .int .i64 0, .int .i64 0, .int .i64 0, .sl none 0 0, .int .i64 0, .int .i64 0], [], none⟩,
   ⟨none, .store 8 (.t 3) (.t 6), [], none⟩]
def c_compile_bare.r2 : List CI :=
  [⟨some 7, .fadr 0 (.t 1), [], none⟩,
   ⟨some 8, .load 1 false (.t 7), [], none⟩]
def c_compile_bare.r3 : List CI :=
  [⟨some 10, .bin .eql (.t 8) (.c (.int .i64 1)), [], none⟩,
   ⟨some 9, .mv (.t 10), [], none⟩]
def c_compile_bare.r4 : List CI :=
  [⟨some 12, .bin .eql (.t 8) (.c (.int .i64 4)), [], none⟩,
   ⟨some 11, .mv (.t 12), [], none⟩]
def c_compile_bare.r5 : List CI :=
  [⟨some 14, .bin .eql (.t 8) (.c (.int .i64 2)), [], none⟩,
   ⟨some 13, .mv (.t 14), [], none⟩]
def c_compile_bare.r6 : List CI :=
  [⟨some 16, .bin .eql (.t 8) (.c (.int .i64 3)), [], none⟩,
   ⟨some 15, .mv (.t 16), [], none⟩]
def c_compile_bare.r7 : List CI :=
  [⟨some 18, .bin .eql (.t 8) (.c (.int .i64 5)), [], none⟩,
   ⟨some 17, .mv (.t 18), [], none⟩]
def c_compile_bare.r8 : List CI :=
  [⟨some 20, .bin .eql (.t 8) (.c (.int .i64 6)), [], none⟩,
   ⟨some 19, .mv (.t 20), [], none⟩]
def c_compile_bare.r9 : List CI :=
  [⟨some 22, .bin .eql (.t 8) (.c (.int .i64 7)), [], none⟩,
   ⟨some 21, .mv (.t 22), [], none⟩]
def c_compile_bare.r10 : List CI :=
  [⟨some 23, .fadr 1 (.t 1), [], none⟩,
   ⟨some 24, .load 1 false (.t 23), [], none⟩,
   ⟨some 25, .fadr 1 (.t 3), [], none⟩,
   ⟨none, .store 1 (.t 25) (.t 24), [], none⟩]
def c_compile_bare.r11 : List CI :=
  [⟨some 26, .fadr 4 (.t 1), [], none⟩,
   ⟨some 27, .load 1 false (.t 26), [], none⟩,
   ⟨some 28, .fadr 4 (.t 3), [], none⟩,
   ⟨none, .store 1 (.t 28) (.t 27), [], none⟩]
def c_compile_bare.r12 : List CI :=
  [⟨some 29, .fadr 3 (.t 1), [], none⟩,
   ⟨some 30, .load 1 false (.t 29), [], none⟩,
   ⟨some 31, .fadr 3 (.t 3), [], none⟩,
   ⟨none, .store 1 (.t 31) (.t 30), [], none⟩]
def c_compile_bare.r13 : List CI :=
  [⟨some 32, .fadr 2 (.t 1), [], none⟩,
   ⟨some 33, .load 1 false (.t 32), [], none⟩,
   ⟨some 34, .fadr 2 (.t 3), [], none⟩,
   ⟨none, .store 1 (.t 34) (.t 33), [], none⟩]
def c_compile_bare.r14 : List CI :=
  [⟨some 35, .fadr 4 (.t 1), [], none⟩,
   ⟨some 36, .load 1 false (.t 35), [], none⟩,
   ⟨some 37, .fadr 4 (.t 3), [], none⟩,
   ⟨none, .store 1 (.t 37) (.t 36), [], none⟩]
def c_compile_bare.r15 : List CI :=
  [⟨some 38, .fadr 3 (.t 1), [], none⟩,
   ⟨some 39, .load 1 false (.t 38), [], none⟩,
   ⟨some 40, .fadr 3 (.t 3), [], none⟩,
   ⟨none, .store 1 (.t 40) (.t 39), [], none⟩]
def c_compile_bare.r16 : List CI :=
  [⟨some 41, .fadr 5 (.t 1), [], none⟩,
   ⟨some 42, .load 1 false (.t 41), [0], none⟩,
   ⟨some 43, .fadr 6 (.t 1), [], none⟩,
   ⟨some 44, .load 1 false (.t 43), [2], none⟩,
   ⟨some 45, .fadr 7 (.t 1), [], none⟩,
   ⟨some 46, .load 1 false (.t 45), [4], none⟩,
   ⟨some 47, .fadr 5 (.t 3), [0, 1], none⟩,
   ⟨none, .store 1 (.t 47) (.t 42), [6, 1, 0, 1], none⟩,
   ⟨some 48, .fadr 6 (.t 3), [0, 1, 2, 3, 6, 7], none⟩,
   ⟨none, .store 1 (.t 48) (.t 44), [8, 3, 7, 0, 1, 2, 3, 6, 7], none⟩,
   ⟨some 49, .fadr 7 (.t 3), [0, 1, 2, 3, 4, 5, 6, 7, 8, 9], none⟩,
   ⟨none, .store 1 (.t 49) (.t 46), [10, 5, 9, 0, 1, 2, 3, 4, 5, 6, 7, 8, 9], none⟩]
def c_compile_bare.r17 : List CI :=
  [⟨some 50, .load 8 true (.t 3), [], none⟩,
   ⟨none, .store 8 (.t 2) (.t 50), [], none⟩]
def c_compile_bare : CF := { nt := 51, res := [.cell 2 8 true], body :=
  (.seq (.region false c_compile_bare.r0) (.seq (.region false c_compile_bare.r1) (.seqK [2, 3] (.seq (.region false c_compile_bare.r2) (.block 0 (.seq (.block 7 (.seq (.block 6 (.seq (.block 5 (.seqK [1, 2, 3] (.block 4 (.seqK [1, 2, 3] (.block 3 (.seq (.block 2 (.seq (.block 1 (.seq (.seq (.seq (.region false c_compile_bare.r3) (.cond (.t 9) (.exit 1) .skip)) (.seq (.seq (.region false c_compile_bare.r4) (.cond (.t 11) (.exit 2) .skip)) (.seq (.seq (.region false c_compile_bare.r5) (.cond (.t 13) (.exit 3) .skip)) (.seq (.seq (.region false c_compile_bare.r6) (.cond (.t 15) (.exit 4) .skip)) (.seq (.seq (.region false c_compile_bare.r7) (.cond (.t 17) (.exit 5) .skip)) (.seq (.seq (.region false c_compile_bare.r8) (.cond (.t 19) (.exit 6) .skip)) (.seq (.region false c_compile_bare.r9) (.cond (.t 21) (.exit 7) .skip)))))))) (.exit 0))) (.seq (.region false c_compile_bare.r10) (.exit 0)))) (.region false c_compile_bare.r11))) (.region false c_compile_bare.r12))) (.seq (.region false c_compile_bare.r13) (.exit 0)))) (.seq (.region false c_compile_bare.r14) (.exit 0)))) (.seq (.region false c_compile_bare.r15) (.exit 0)))) (.seq (.regionP [0, 1, 2, 3, 4, 5, 6, 7, 8, 9, 10, 11] [] c_compile_bare.r16) (.exit 0))))) (.seq (.region false c_compile_bare.r17) .ret)))) }
theorem k_compile_bare : chkF Go.Proofs.Tryz.prog n_compile_bare c_compile_bare = true := by kernel_rfl

def c_pattern_Tree.r0 : List CI :=
  [⟨some 1, .box 51 (.t 0), [], none⟩,
   ⟨some 2, .alloc 151 [.int .i64 0, .int .u64 0, .int .u64 0, .int .u64 0, .int .u64 0, .sl none 0 0], [], none⟩,
   ⟨some 3, .alloc 32 [.int .i64 0, .int .i64 0], [], none⟩]
def c_pattern_Tree.r1 : List CI :=
  [⟨some 10, .fadr 0 (.t 1), [], none⟩,
   ⟨some 11, .load 1 false (.t 10), [], none⟩,
   ⟨some 12, .bin .lss (.t 11) (.c (.int .i64 1)), [], none⟩,
   ⟨some 13, .mv (.t 12), [], none⟩,
   ⟨some 14, .fadr 0 (.t 1), [], (some (3, false))⟩,
   ⟨some 15, .load 1 false (.t 14), [], (some (3, false))⟩,
   ⟨some 16, .bin .gtr (.t 15) (.c (.int .i64 3)), [], (some (3, false))⟩,
   ⟨some 17, .pick (.t 13) (.c (.bool true)) (.t 16), [], none⟩]
def c_pattern_Tree.r2 : List CI :=
  [⟨some 18, .build [.int .i64 0, .int .u64 0, .int .u64 0, .int .u64 0, .int .u64 0, .sl none 0 0] [], [], none⟩,
   ⟨some 19, .build [.int .i64 0, .int .i64 0] [(0, 1, (.c (.int .i64 2)))], [], none⟩,
   ⟨none, .store 6 (.t 2) (.t 18), [], none⟩,
   ⟨none, .store 2 (.t 3) (.t 19), [], none⟩]
def c_pattern_Tree.r3 : List CI :=
  [⟨some 20, .fadr 1 (.t 1), [], none⟩,
   ⟨some 21, .load 1 false (.t 20), [], none⟩,
   ⟨some 22, .lenS (.t 21), [], none⟩,
   ⟨some 23, .bin .gtr (.t 22) (.c (.int .i64 64)), [], none⟩]
def c_pattern_Tree.r4 : List CI :=
  [⟨some 24, .build [.int .i64 0, .int .u64 0, .int .u64 0, .int .u64 0, .int .u64 0, .sl none 0 0] [], [], none⟩,
   ⟨some 25, .build [.int .i64 0, .int .i64 0] [(0, 1, (.c (.int .i64 3))), (1, 1, (.c (.int .i64 64)))], [], none⟩,
   ⟨none, .store 6 (.t 2) (.t 24), [], none⟩,
   ⟨none, .store 2 (.t 3) (.t 25), [], none⟩]
def c_pattern_Tree.r5 : List CI :=
  [⟨some 26, .fadr 0 (.t 1), [], none⟩,
   ⟨some 27, .load 1 false (.t 26), [], none⟩]
def c_pattern_Tree.r6 : List CI :=
  [⟨some 29, .bin .eql (.t 27) (.c (.int .i64 2)), [], none⟩,
   ⟨some 28, .mv (.t 29), [], none⟩]
def c_pattern_Tree.r7 : List CI :=
  [⟨some 30, .fadr 1 (.t 1), [], none⟩,
   ⟨some 31, .load 1 false (.t 30), [], none⟩,
   ⟨some 32, .call n_pattern_glob [(.t 31)], [], none⟩,
   ⟨some 33, .build [.int .i64 0, .int .i64 0] [], [], none⟩,
   ⟨none, .store 6 (.t 2) (.t 32), [], none⟩,
   ⟨none, .store 2 (.t 3) (.t 33), [], none⟩]
def c_pattern_Tree.r8 : List CI :=
  [⟨some 35, .bin .eql (.t 27) (.c (.int .i64 3)), [], none⟩,
   ⟨some 34, .mv (.t 35), [], none⟩]
def c_pattern_Tree.r9 : List CI :=
  [⟨some 36, .fadr 1 (.t 1), [], none⟩,
   ⟨some 37, .load 1 false (.t 36), [], none⟩,
   ⟨some 38, .build [.str [], .int .i64 0] [(0, 1, (.t 37))], [], none⟩,
   ⟨some 39, .box 206 (.t 38), [], none⟩,
   ⟨some 4, .mv (.t 39), [], none⟩]
def c_pattern_Tree.r10 : List CI :=
  [⟨some 40, .mv (.t 4), [], none⟩,
   ⟨some 41, .call n_pattern_regular_either [(.t 40)], [], none⟩,
   ⟨none, .store 6 (.t 2) (.t 41), [], none⟩]
def c_pattern_Tree.r11 : List CI :=
  [⟨some 43, .mv (.t 4), [], none⟩,
   ⟨some 44, .call n_pattern_regular_next [(.t 43)], [], none⟩,
   ⟨some 42, .mv (.t 44), [], none⟩,
   ⟨some 45, .ext (.t 42) 0, [], none⟩,
   ⟨some 46, .ext (.t 42) 1, [], none⟩,
   ⟨some 5, .mv (.t 45), [], none⟩,
   ⟨some 6, .mv (.t 46), [], none⟩]
def c_pattern_Tree.r12 : List CI :=
  [⟨some 47, .mv (.t 6), [], none⟩]
def c_pattern_Tree.r13 : List CI :=
  [⟨some 48, .mv (.t 4), [], none⟩,
   ⟨some 49, .nilck (.t 48), [], none⟩,
   ⟨some 50, .fadr 1 (.t 49), [], none⟩,
   ⟨some 51, .load 1 false (.t 50), [], none⟩,
   ⟨some 52, .mkI 201 (.t 51), [], none⟩,
   ⟨none, .pan (.t 52), [], none⟩]
def c_pattern_Tree.r14 : List CI :=
  [⟨some 53, .load 6 true (.t 2), [], none⟩,
   ⟨some 54, .build [.int .i64 0, .int .i64 0] [], [], none⟩,
   ⟨none, .store 6 (.t 2) (.t 53), [], none⟩,
   ⟨none, .store 2 (.t 3) (.t 54), [], none⟩]
def c_pattern_Tree.r15 : List CI :=
  [⟨some 7, .mv (.c (.sl none 0 0)), [], none⟩]
def c_pattern_Tree.r16 : List CI :=
  [⟨some 55, .fadr 1 (.t 1), [], none⟩,
   ⟨some 56, .load 1 false (.t 55), [], none⟩,
   ⟨some 57, .lenS (.t 56), [], none⟩,
   ⟨some 58, .mv (.c (.int .i64 0)), [], none⟩]
def c_pattern_Tree.r17 : List CI :=
  [⟨some 59, .bin .lss (.t 58) (.t 57), [], none⟩]
def c_pattern_Tree.r18 : List CI :=
  [⟨some 60, .mv (.t 58), [], none⟩,
   ⟨some 8, .mv (.t 60), [], none⟩]
def c_pattern_Tree.r19 : List CI :=
  [⟨some 61, .mv (.t 7), [], none⟩,
   ⟨some 62, .fadr 1 (.t 1), [], none⟩,
   ⟨some 63, .load 1 false (.t 62), [], none⟩,
   ⟨some 64, .mv (.t 8), [], none⟩,
   ⟨some 65, .idxS (.t 63) (.t 64), [], none⟩,
   ⟨some 66, .call n_pattern_one [(.t 65)], [], none⟩,
   ⟨some 67, .bslice 6 1 [.int .i64 0, .int .u64 0, .int .u64 0, .int .u64 0, .int .u64 0, .sl none 0 0] [(0, (.t 66))], [], none⟩,
   ⟨some 68, .app 151 6 64 [.int .i64 0, .int .u64 0, .int .u64 0, .int .u64 0, .int .u64 0, .sl none 0 0] (.t 61) (.t 67), [], none⟩,
   ⟨some 7, .mv (.t 68), [], none⟩]
def c_pattern_Tree.r20 : List CI :=
  [⟨some 69, .bin .add (.t 58) (.c (.int .i64 1)), [], none⟩,
   ⟨some 58, .mv (.t 69), [], none⟩]
def c_pattern_Tree.r21 : List CI :=
  [⟨some 70, .mv (.t 7), [], none⟩,
   ⟨some 71, .call n_pattern_joined [(.c (.int .i64 3)), (.t 70)], [], none⟩,
   ⟨some 72, .build [.int .i64 0, .int .i64 0] [], [], none⟩,
   ⟨none, .store 6 (.t 2) (.t 71), [], none⟩,
   ⟨none, .store 2 (.t 3) (.t 72), [], none⟩]
def c_pattern_Tree : CF := { nt := 73, res := [.cell 2 6 true, .cell 3 2 true], body :=
  (.seq (.region false c_pattern_Tree.r0) (.seq (.region false [⟨some 9, .mkF n_pattern_Tree_1 [] [(.t 2), (.t 3)], [], none⟩, ⟨none, .dfr (.t 9), [], none⟩]) (.seq (.seq (.region false c_pattern_Tree.r1) (.cond (.t 17) (.seq (.region false c_pattern_Tree.r2) .ret) .skip)) (.seq (.seq (.region false c_pattern_Tree.r3) (.cond (.t 23) (.seq (.region false c_pattern_Tree.r4) .ret) .skip)) (.seq (.seq (.region false c_pattern_Tree.r5) (.block 0 (.seq (.region false c_pattern_Tree.r6) (.cond (.t 28) (.seq (.region false c_pattern_Tree.r7) .ret) (.seq (.region false c_pattern_Tree.r8) (.cond (.t 34) (.seq (.region false c_pattern_Tree.r9) (.seq (.region false c_pattern_Tree.r10) (.seqK [2, 3] (.seq (.region false c_pattern_Tree.r11) (.seq (.region false c_pattern_Tree.r12) (.cond (.t 47) (.region false c_pattern_Tree.r13) .skip))) (.seq (.region false c_pattern_Tree.r14) .ret)))) .skip)))))) (.seq (.region false c_pattern_Tree.r15) (.seq (.seq (.region false c_pattern_Tree.r16) (.block 1 (.loop [1, 2, 3, 7, 57, 58] (.seq (.region false c_pattern_Tree.r17) (.seq (.cond (.t 59) .skip (.exit 1)) (.seq (.block 2 (.seq (.region false c_pattern_Tree.r18) (.region false c_pattern_Tree.r19))) (.region false c_pattern_Tree.r20))))))) (.seq (.region false c_pattern_Tree.r21) .ret)))))))) }
theorem k_pattern_Tree : chkF Go.Proofs.Tryz.prog n_pattern_Tree c_pattern_Tree = true := by kernel_rfl

def c_compile_round_1.r0 : List CI :=
  [⟨some 5, .mv (.c (.bool false)), [], none⟩]
def c_compile_round_1.r1 : List CI :=
  [⟨some 7, .load 1 false (.t 1), [], none⟩,
   ⟨some 8, .mv (.t 0), [], none⟩,
   ⟨some 9, .iadr 1 (.t 7) (.t 8), [], none⟩,
   ⟨some 10, .load 1 false (.t 9), [], none⟩,
   ⟨some 11, .bin .gtr (.t 10) (.c (.int .i64 0)), [], none⟩]
def c_compile_round_1.r2 : List CI :=
  [⟨some 12, .load 1 false (.t 1), [], none⟩,
   ⟨some 13, .mv (.t 0), [], none⟩,
   ⟨some 14, .iadr 1 (.t 12) (.t 13), [], none⟩,
   ⟨some 15, .load 1 false (.t 14), [], none⟩,
   ⟨some 16, .bin .eql (.t 15) (.c (.int .i64 1)), [], none⟩,
   ⟨some 5, .mv (.t 16), [], none⟩]
def c_compile_round_1.r3 : List CI :=
  [⟨some 17, .load 1 false (.t 1), [], none⟩,
   ⟨some 18, .mv (.t 0), [], none⟩,
   ⟨some 19, .iadr 1 (.t 17) (.t 18), [], none⟩,
   ⟨none, .store 1 (.t 19) (.c (.int .i64 1)), [], none⟩]
def c_compile_round_1.r4 : List CI :=
  [⟨some 20, .fadr 0 (.t 2), [], none⟩,
   ⟨some 21, .load 1 false (.t 20), [], none⟩,
   ⟨some 22, .mv (.t 0), [], none⟩,
   ⟨some 23, .iadr 8 (.t 21) (.t 22), [], none⟩,
   ⟨some 24, .load 8 true (.t 23), [], none⟩,
   ⟨some 6, .alloc 62 [.int .i64 0, .str [], .int .i64 0, .int .i64 0, .int .i64 0, .sl none 0 0, .int .i64 0, .int .i64 0], [], none⟩,
   ⟨none, .store 8 (.t 6) (.t 24), [], none⟩]
def c_compile_round_1.r5 : List CI :=
  [⟨some 25, .fadr 0 (.t 6), [], none⟩,
   ⟨some 26, .load 1 false (.t 25), [], none⟩,
   ⟨some 27, .bin .eql (.t 26) (.c (.int .i64 4)), [], none⟩,
   ⟨some 28, .mv (.t 27), [], none⟩,
   ⟨some 29, .fadr 0 (.t 6), [], (some (3, false))⟩,
   ⟨some 30, .load 1 false (.t 29), [], (some (3, false))⟩,
   ⟨some 31, .bin .eql (.t 30) (.c (.int .i64 5)), [], (some (3, false))⟩,
   ⟨some 32, .pick (.t 28) (.c (.bool true)) (.t 31), [], none⟩]
def c_compile_round_1.r6 : List CI :=
  [⟨some 33, .load 1 false (.t 3), [], none⟩,
   ⟨some 34, .fadr 4 (.t 6), [], none⟩,
   ⟨some 35, .load 1 false (.t 34), [], none⟩,
   ⟨some 36, .callV (.t 33) [(.t 35)], [], none⟩]
def c_compile_round_1.r7 : List CI :=
  [⟨some 5, .mv (.c (.bool true)), [], none⟩]
def c_compile_round_1.r8 : List CI :=
  [⟨some 37, .fadr 0 (.t 6), [], none⟩,
   ⟨some 38, .load 1 false (.t 37), [], none⟩,
   ⟨some 39, .bin .lss (.t 38) (.c (.int .i64 5)), [], none⟩,
   ⟨some 40, .mv (.t 39), [], none⟩,
   ⟨some 41, .load 1 false (.t 3), [], (some (3, true))⟩,
   ⟨some 42, .mv (.t 0), [], (some (3, true))⟩,
   ⟨some 43, .bin .add (.t 42) (.c (.int .i64 1)), [], (some (3, true))⟩,
   ⟨some 44, .callV (.t 41) [(.t 43)], [], (some (3, true))⟩,
   ⟨some 45, .pick (.t 40) (.t 44) (.c (.bool false)), [], none⟩]
def c_compile_round_1.r9 : List CI :=
  [⟨some 5, .mv (.c (.bool true)), [], none⟩]
def c_compile_round_1.r10 : List CI :=
  [⟨some 46, .load 1 false (.t 1), [], none⟩,
   ⟨some 47, .mv (.t 0), [], none⟩,
   ⟨some 48, .iadr 1 (.t 46) (.t 47), [], none⟩,
   ⟨none, .store 1 (.t 48) (.c (.int .i64 2)), [], none⟩]
def c_compile_round_1.r11 : List CI :=
  [⟨some 5, .mv (.c (.bool false)), [], none⟩]
def c_compile_round_1 : CF := { nt := 49, res := [.tmp 5], body :=
  (.seq (.region false c_compile_round_1.r0) (.seq (.seq (.region false c_compile_round_1.r1) (.cond (.t 11) (.seq (.region false c_compile_round_1.r2) .ret) .skip)) (.seq (.region false c_compile_round_1.r3) (.seq (.region false c_compile_round_1.r4) (.seqK [0, 1, 3, 6] (.seq (.region false c_compile_round_1.r5) (.cond (.t 32) (.seq (.region false c_compile_round_1.r6) (.cond (.t 36) (.seq (.region false c_compile_round_1.r7) .ret) .skip)) .skip)) (.seq (.seq (.region false c_compile_round_1.r8) (.cond (.t 45) (.seq (.region false c_compile_round_1.r9) .ret) .skip)) (.seq (.region false c_compile_round_1.r10) (.seq (.region false c_compile_round_1.r11) .ret)))))))) }
theorem k_compile_round_1 : chkF Go.Proofs.Tryz.prog n_compile_round_1 c_compile_round_1 = true := by kernel_rfl

def c_lex_reader_peek.r0 : List CI :=
  [⟨some 2, .mv (.c (.int .u8 0)), [], none⟩]
def c_lex_reader_peek.r1 : List CI :=
  [⟨some 3, .mv (.t 0), [], none⟩,
   ⟨some 4, .nilck (.t 3), [0], none⟩,
   ⟨some 5, .fadr 1 (.t 4), [1], none⟩,
   ⟨some 6, .load 1 false (.t 5), [2], none⟩,
   ⟨some 7, .mv (.t 0), [], none⟩,
   ⟨some 8, .nilck (.t 7), [4], none⟩,
   ⟨some 9, .fadr 0 (.t 8), [5], none⟩,
   ⟨some 10, .load 1 false (.t 9), [6], none⟩,
   ⟨some 11, .lenS (.t 10), [7], none⟩,
   ⟨some 12, .bin .lss (.t 6) (.t 11), [3, 8], none⟩]
def c_lex_reader_peek.r2 : List CI :=
  [⟨some 13, .mv (.t 0), [], none⟩,
   ⟨some 14, .nilck (.t 13), [0], none⟩,
   ⟨some 15, .fadr 0 (.t 14), [1], none⟩,
   ⟨some 16, .load 1 false (.t 15), [2], none⟩,
   ⟨some 17, .mv (.t 0), [], none⟩,
   ⟨some 18, .nilck (.t 17), [4], none⟩,
   ⟨some 19, .fadr 1 (.t 18), [5], none⟩,
   ⟨some 20, .load 1 false (.t 19), [6], none⟩,
   ⟨some 21, .idxS (.t 16) (.t 20), [3, 7], none⟩,
   ⟨some 2, .mv (.t 21), [8, 0, 1, 2, 3, 4, 5, 6, 7, 8], none⟩]
def c_lex_reader_peek.r3 : List CI :=
  [⟨some 2, .mv (.c (.int .u8 10)), [], none⟩]
def c_lex_reader_peek : CF := { nt := 22, res := [.tmp 2], body :=
  (.seq (.region false c_lex_reader_peek.r0) (.seq (.seq (.regionP [0, 1, 2, 3, 4, 5, 6, 7, 8, 9] [] c_lex_reader_peek.r1) (.cond (.t 12) (.seq (.regionP [0, 1, 2, 3, 4, 5, 6, 7, 8, 9] [] c_lex_reader_peek.r2) .ret) .skip)) (.seq (.region false c_lex_reader_peek.r3) .ret))) }
theorem k_lex_reader_peek : chkF Go.Proofs.Tryz.prog n_lex_reader_peek c_lex_reader_peek = true := by kernel_rfl

def c_lex_reader_token.r0 : List CI :=
  [⟨some 2, .alloc 113 [.int .i64 0, .str [], .int .i64 0, .int .i64 0], [], none⟩,
   ⟨some 3, .mv (.c (.int .i64 0)), [], none⟩]
def c_lex_reader_token.r1 : List CI :=
  [⟨some 13, .mv (.t 0), [], none⟩,
   ⟨some 14, .nilck (.t 13), [], none⟩,
   ⟨some 15, .fadr 1 (.t 14), [], none⟩,
   ⟨some 16, .load 1 false (.t 15), [], none⟩,
   ⟨some 17, .build [.int .i64 0, .str [], .int .i64 0, .int .i64 0] [(3, 1, (.t 16))], [], none⟩,
   ⟨some 4, .alloc 113 [.int .i64 0, .str [], .int .i64 0, .int .i64 0], [], none⟩,
   ⟨none, .store 4 (.t 4) (.t 17), [], none⟩]
def c_lex_reader_token.r2 : List CI :=
  [⟨some 5, .mv (.c (.bool true)), [], none⟩]
def c_lex_reader_token.r3 : List CI :=
  [⟨some 18, .mv (.t 0), [], none⟩,
   ⟨some 19, .call n_lex_reader_peek [(.t 18)], [], none⟩,
   ⟨some 6, .mv (.t 19), [], none⟩]
def c_lex_reader_token.r4 : List CI :=
  [⟨some 22, .mv (.t 6), [], none⟩,
   ⟨some 23, .bin .geq (.t 22) (.c (.int .u8 97)), [], none⟩,
   ⟨some 24, .mv (.t 23), [], none⟩,
   ⟨some 25, .mv (.t 6), [], (some (2, true))⟩,
   ⟨some 26, .bin .leq (.t 25) (.c (.int .u8 122)), [], (some (2, true))⟩,
   ⟨some 27, .pick (.t 24) (.t 26) (.c (.bool false)), [], none⟩,
   ⟨some 21, .mv (.t 27), [], none⟩]
def c_lex_reader_token.r5 : List CI :=
  [⟨some 28, .fadr 0 (.t 4), [], none⟩,
   ⟨none, .store 1 (.t 28) (.c (.int .i64 1)), [], none⟩]
def c_lex_reader_token.r6 : List CI :=
  [⟨some 30, .mv (.t 0), [], none⟩,
   ⟨some 31, .call n_lex_reader_run [(.t 30), (.c (.int .i64 16)), (.f n_lex_small)], [], none⟩,
   ⟨some 29, .mv (.t 31), [], none⟩,
   ⟨some 32, .ext (.t 29) 0, [], none⟩,
   ⟨some 33, .ext (.t 29) 1, [], none⟩,
   ⟨some 34, .fadr 1 (.t 4), [], none⟩,
   ⟨none, .store 1 (.t 34) (.t 32), [], none⟩,
   ⟨some 5, .mv (.t 33), [], none⟩]
def c_lex_reader_token.r7 : List CI :=
  [⟨some 35, .mv (.t 5), [], none⟩,
   ⟨some 36, .un .not (.t 35), [], none⟩]
def c_lex_reader_token.r8 : List CI :=
  [⟨some 37, .load 4 true (.t 4), [], none⟩,
   ⟨none, .store 4 (.t 2) (.t 37), [], none⟩,
   ⟨some 3, .mv (.c (.int .i64 3)), [], none⟩]
def c_lex_reader_token.r9 : List CI :=
  [⟨some 38, .mv (.t 0), [], none⟩,
   ⟨some 39, .call n_lex_reader_peek [(.t 38)], [], none⟩,
   ⟨some 40, .bin .eql (.t 39) (.c (.int .u8 58)), [], none⟩]
def c_lex_reader_token.r10 : List CI :=
  [⟨some 41, .fadr 0 (.t 4), [], none⟩,
   ⟨none, .store 1 (.t 41) (.c (.int .i64 2)), [], none⟩]
def c_lex_reader_token.r11 : List CI :=
  [⟨some 42, .mv (.t 0), [], none⟩,
   ⟨some 43, .nilck (.t 42), [], none⟩,
   ⟨some 44, .fadr 1 (.t 43), [], none⟩,
   ⟨some 45, .load 1 false (.t 44), [], none⟩,
   ⟨some 46, .bin .add (.t 45) (.c (.int .i64 1)), [], none⟩,
   ⟨some 47, .nilck (.t 42), [], none⟩,
   ⟨some 48, .fadr 1 (.t 47), [], none⟩,
   ⟨none, .store 1 (.t 48) (.t 46), [], none⟩]
def c_lex_reader_token.r12 : List CI :=
  [⟨some 50, .mv (.t 6), [], none⟩,
   ⟨some 51, .bin .eql (.t 50) (.c (.int .u8 48)), [], none⟩,
   ⟨some 49, .mv (.t 51), [], none⟩]
def c_lex_reader_token.r13 : List CI :=
  [⟨some 52, .fadr 0 (.t 4), [], none⟩,
   ⟨none, .store 1 (.t 52) (.c (.int .i64 3)), [], none⟩]
def c_lex_reader_token.r14 : List CI :=
  [⟨some 53, .mv (.t 0), [], none⟩,
   ⟨some 54, .nilck (.t 53), [], none⟩,
   ⟨some 55, .fadr 1 (.t 54), [], none⟩,
   ⟨some 56, .load 1 false (.t 55), [], none⟩,
   ⟨some 57, .bin .add (.t 56) (.c (.int .i64 1)), [], none⟩,
   ⟨some 58, .nilck (.t 53), [], none⟩,
   ⟨some 59, .fadr 1 (.t 58), [], none⟩,
   ⟨none, .store 1 (.t 59) (.t 57), [], none⟩]
def c_lex_reader_token.r15 : List CI :=
  [⟨some 61, .mv (.t 6), [], none⟩,
   ⟨some 62, .bin .geq (.t 61) (.c (.int .u8 49)), [], none⟩,
   ⟨some 63, .mv (.t 62), [], none⟩,
   ⟨some 64, .mv (.t 6), [], (some (2, true))⟩,
   ⟨some 65, .bin .leq (.t 64) (.c (.int .u8 57)), [], (some (2, true))⟩,
   ⟨some 66, .pick (.t 63) (.t 65) (.c (.bool false)), [], none⟩,
   ⟨some 60, .mv (.t 66), [], none⟩]
def c_lex_reader_token.r16 : List CI :=
  [⟨some 67, .fadr 0 (.t 4), [], none⟩,
   ⟨none, .store 1 (.t 67) (.c (.int .i64 3)), [], none⟩]
def c_lex_reader_token.r17 : List CI :=
  [⟨some 7, .mv (.c (.str [])), [], none⟩]
def c_lex_reader_token.r18 : List CI :=
  [⟨some 69, .mv (.t 0), [], none⟩,
   ⟨some 70, .call n_lex_reader_run [(.t 69), (.c (.int .i64 4)), (.f n_lex_reader_token_1)], [], none⟩,
   ⟨some 68, .mv (.t 70), [], none⟩,
   ⟨some 71, .ext (.t 68) 0, [], none⟩,
   ⟨some 72, .ext (.t 68) 1, [], none⟩,
   ⟨some 7, .mv (.t 71), [], none⟩,
   ⟨some 5, .mv (.t 72), [], none⟩]
def c_lex_reader_token.r19 : List CI :=
  [⟨some 73, .mv (.t 5), [], none⟩,
   ⟨some 74, .un .not (.t 73), [], none⟩]
def c_lex_reader_token.r20 : List CI :=
  [⟨some 75, .load 4 true (.t 4), [], none⟩,
   ⟨none, .store 4 (.t 2) (.t 75), [], none⟩,
   ⟨some 3, .mv (.c (.int .i64 3)), [], none⟩]
def c_lex_reader_token.r21 : List CI :=
  [⟨some 76, .mv (.t 7), [], none⟩,
   ⟨some 77, .lenS (.t 76), [], none⟩,
   ⟨some 78, .mv (.c (.int .i64 0)), [], none⟩]
def c_lex_reader_token.r22 : List CI :=
  [⟨some 79, .bin .lss (.t 78) (.t 77), [], none⟩]
def c_lex_reader_token.r23 : List CI :=
  [⟨some 80, .mv (.t 78), [], none⟩,
   ⟨some 8, .mv (.t 80), [], none⟩]
def c_lex_reader_token.r24 : List CI :=
  [⟨some 81, .fadr 2 (.t 4), [], none⟩,
   ⟨some 82, .load 1 false (.t 81), [0], none⟩,
   ⟨some 83, .bin .mul (.c (.int .i64 10)) (.t 82), [1], none⟩,
   ⟨some 84, .mv (.t 7), [], none⟩,
   ⟨some 85, .mv (.t 8), [], none⟩,
   ⟨some 86, .idxS (.t 84) (.t 85), [3, 4], none⟩,
   ⟨some 87, .bin .sub (.t 86) (.c (.int .u8 48)), [5], none⟩,
   ⟨some 88, .toInt .i64 (.t 87), [6], none⟩,
   ⟨some 89, .bin .add (.t 83) (.t 88), [2, 7], none⟩,
   ⟨some 90, .fadr 2 (.t 4), [0, 1, 2, 3, 4, 5, 6, 7, 8], none⟩,
   ⟨none, .store 1 (.t 90) (.t 89), [9, 8, 0, 1, 2, 3, 4, 5, 6, 7, 8], none⟩]
def c_lex_reader_token.r25 : List CI :=
  [⟨some 91, .bin .add (.t 78) (.c (.int .i64 1)), [], none⟩,
   ⟨some 78, .mv (.t 91), [], none⟩]
def c_lex_reader_token.r26 : List CI :=
  [⟨some 93, .mv (.t 6), [], none⟩,
   ⟨some 94, .bin .eql (.t 93) (.c (.int .u8 34)), [], none⟩,
   ⟨some 92, .mv (.t 94), [], none⟩]
def c_lex_reader_token.r27 : List CI :=
  [⟨some 96, .mv (.t 0), [], none⟩,
   ⟨some 97, .nilck (.t 96), [0], none⟩,
   ⟨some 98, .fadr 0 (.t 97), [1], none⟩,
   ⟨some 99, .load 1 false (.t 98), [2], none⟩,
   ⟨some 100, .mv (.t 0), [], none⟩,
   ⟨some 101, .nilck (.t 100), [4], none⟩,
   ⟨some 102, .fadr 1 (.t 101), [5], none⟩,
   ⟨some 103, .load 1 false (.t 102), [6], none⟩,
   ⟨some 104, .sls (.t 99) (some (.t 103)) none, [3, 7], none⟩,
   ⟨some 105, .call n_pattern_Quoted [(.t 104), (.c (.int .i64 64))], [8], none⟩,
   ⟨some 95, .mv (.t 105), [9], none⟩,
   ⟨some 106, .ext (.t 95) 0, [10], none⟩,
   ⟨some 107, .ext (.t 95) 1, [10], none⟩,
   ⟨some 108, .ext (.t 95) 2, [10], none⟩,
   ⟨some 11, .alloc 32 [.int .i64 0, .int .i64 0], [], none⟩,
   ⟨some 9, .mv (.t 106), [11, 9, 0, 1, 2, 3, 4, 5, 6, 7, 8, 9, 10, 11, 14], none⟩,
   ⟨some 10, .mv (.t 107), [12, 15, 0, 1, 2, 3, 4, 5, 6, 7, 8, 9, 10, 11, 12, 14, 15], none⟩,
   ⟨none, .store 2 (.t 11) (.t 108), [14, 13, 16, 0, 1, 2, 3, 4, 5, 6, 7, 8, 9, 10, 11, 12, 13, 14, 15, 16], none⟩]
def c_lex_reader_token.r28 : List CI :=
  [⟨some 109, .fadr 0 (.t 11), [], none⟩,
   ⟨some 110, .load 1 false (.t 109), [], none⟩,
   ⟨some 111, .bin .neq (.t 110) (.c (.int .i64 0)), [], none⟩]
def c_lex_reader_token.r29 : List CI :=
  [⟨some 112, .mv (.t 0), [], none⟩,
   ⟨some 113, .nilck (.t 112), [0], none⟩,
   ⟨some 114, .fadr 1 (.t 113), [1], none⟩,
   ⟨some 115, .load 1 false (.t 114), [2], none⟩,
   ⟨some 116, .fadr 1 (.t 11), [], none⟩,
   ⟨some 117, .load 1 false (.t 116), [4], none⟩,
   ⟨some 118, .bin .add (.t 115) (.t 117), [3, 5], none⟩,
   ⟨some 119, .nilck (.t 112), [0, 0, 1, 2, 3, 4, 5, 6], none⟩,
   ⟨some 120, .fadr 1 (.t 119), [7, 0, 1, 2, 3, 4, 5, 6], none⟩,
   ⟨none, .store 1 (.t 120) (.t 118), [8, 6, 0, 1, 2, 3, 4, 5, 6], none⟩]
def c_lex_reader_token.r30 : List CI :=
  [⟨some 121, .load 4 true (.t 4), [], none⟩,
   ⟨some 122, .fadr 0 (.t 11), [], none⟩,
   ⟨some 123, .load 1 false (.t 122), [1], none⟩,
   ⟨none, .store 4 (.t 2) (.t 121), [0, 0], none⟩,
   ⟨some 3, .mv (.t 123), [2, 3, 0, 1, 2, 3], none⟩]
def c_lex_reader_token.r31 : List CI :=
  [⟨some 124, .mv (.t 9), [], none⟩,
   ⟨some 125, .fadr 0 (.t 4), [], none⟩,
   ⟨none, .store 1 (.t 125) (.c (.int .i64 4)), [], none⟩,
   ⟨some 126, .fadr 1 (.t 4), [], none⟩,
   ⟨none, .store 1 (.t 126) (.t 124), [], none⟩]
def c_lex_reader_token.r32 : List CI :=
  [⟨some 127, .mv (.t 0), [], none⟩,
   ⟨some 128, .nilck (.t 127), [], none⟩,
   ⟨some 129, .fadr 1 (.t 128), [], none⟩,
   ⟨some 130, .load 1 false (.t 129), [], none⟩,
   ⟨some 131, .mv (.t 10), [], none⟩,
   ⟨some 132, .bin .add (.t 130) (.t 131), [], none⟩,
   ⟨some 133, .nilck (.t 127), [], none⟩,
   ⟨some 134, .fadr 1 (.t 133), [], none⟩,
   ⟨none, .store 1 (.t 134) (.t 132), [], none⟩]
def c_lex_reader_token.r33 : List CI :=
  [⟨some 136, .mv (.t 6), [], none⟩,
   ⟨some 137, .bin .eql (.t 136) (.c (.int .u8 60)), [], none⟩,
   ⟨some 138, .mv (.t 137), [], none⟩,
   ⟨some 139, .mv (.t 6), [], (some (2, false))⟩,
   ⟨some 140, .bin .eql (.t 139) (.c (.int .u8 123)), [], (some (2, false))⟩,
   ⟨some 141, .pick (.t 138) (.c (.bool true)) (.t 140), [], none⟩,
   ⟨some 142, .mv (.t 141), [], none⟩,
   ⟨some 143, .mv (.t 6), [], (some (6, false))⟩,
   ⟨some 144, .bin .eql (.t 143) (.c (.int .u8 125)), [], (some (6, false))⟩,
   ⟨some 145, .pick (.t 142) (.c (.bool true)) (.t 144), [], none⟩,
   ⟨some 135, .mv (.t 145), [], none⟩]
def c_lex_reader_token.r34 : List CI :=
  [⟨some 146, .mv (.t 6), [], none⟩,
   ⟨some 147, .bslice 1 1 [.int .u8 0] [(0, (.t 146))], [0], none⟩,
   ⟨some 148, .b2s (.t 147), [1], none⟩,
   ⟨some 149, .fadr 0 (.t 4), [], none⟩,
   ⟨none, .store 1 (.t 149) (.c (.int .i64 5)), [3], none⟩,
   ⟨some 150, .fadr 1 (.t 4), [0, 1, 2, 3, 4], none⟩,
   ⟨none, .store 1 (.t 150) (.t 148), [5, 2, 4, 0, 1, 2, 3, 4], none⟩]
def c_lex_reader_token.r35 : List CI :=
  [⟨some 151, .mv (.t 0), [], none⟩,
   ⟨some 152, .nilck (.t 151), [], none⟩,
   ⟨some 153, .fadr 1 (.t 152), [], none⟩,
   ⟨some 154, .load 1 false (.t 153), [], none⟩,
   ⟨some 155, .bin .add (.t 154) (.c (.int .i64 1)), [], none⟩,
   ⟨some 156, .nilck (.t 151), [], none⟩,
   ⟨some 157, .fadr 1 (.t 156), [], none⟩,
   ⟨none, .store 1 (.t 157) (.t 155), [], none⟩]
def c_lex_reader_token.r36 : List CI :=
  [⟨some 20, .load 4 true (.t 4), [], none⟩,
   ⟨none, .store 4 (.t 2) (.t 20), [], none⟩,
   ⟨some 3, .mv (.c (.int .i64 6)), [], none⟩]
def c_lex_reader_token.r37 : List CI :=
  [⟨some 158, .mv (.t 0), [], none⟩,
   ⟨some 159, .call n_lex_reader_peek [(.t 158)], [], none⟩,
   ⟨some 12, .mv (.t 159), [], none⟩]
def c_lex_reader_token.r38 : List CI :=
  [⟨some 160, .mv (.t 12), [], none⟩,
   ⟨some 161, .bin .neq (.t 160) (.c (.int .u8 32)), [], none⟩,
   ⟨some 162, .mv (.t 161), [], none⟩,
   ⟨some 163, .mv (.t 12), [], (some (2, true))⟩,
   ⟨some 164, .bin .neq (.t 163) (.c (.int .u8 9)), [], (some (2, true))⟩,
   ⟨some 165, .pick (.t 162) (.t 164) (.c (.bool false)), [], none⟩,
   ⟨some 166, .mv (.t 165), [], none⟩,
   ⟨some 167, .mv (.t 12), [], (some (6, true))⟩,
   ⟨some 168, .bin .neq (.t 167) (.c (.int .u8 10)), [], (some (6, true))⟩,
   ⟨some 169, .pick (.t 166) (.t 168) (.c (.bool false)), [], none⟩]
def c_lex_reader_token.r39 : List CI :=
  [⟨some 170, .load 4 true (.t 4), [], none⟩,
   ⟨none, .store 4 (.t 2) (.t 170), [], none⟩,
   ⟨some 3, .mv (.c (.int .i64 6)), [], none⟩]
def c_lex_reader_token.r40 : List CI :=
  [⟨some 171, .load 4 true (.t 4), [], none⟩,
   ⟨none, .store 4 (.t 2) (.t 171), [], none⟩,
   ⟨some 3, .mv (.c (.int .i64 0)), [], none⟩]
def c_lex_reader_token : CF := { nt := 172, res := [.cell 2 4 true, .tmp 3], body :=
  (.seq (.region false c_lex_reader_token.r0) (.seq (.region false c_lex_reader_token.r1) (.seq (.region false c_lex_reader_token.r2) (.seqK [0, 2, 4] (.seq (.region false c_lex_reader_token.r3) (.block 0 (.seq (.region false c_lex_reader_token.r4) (.cond (.t 21) (.seq (.region false c_lex_reader_token.r5) (.seq (.seq (.region false c_lex_reader_token.r6) (.seq (.region false c_lex_reader_token.r7) (.cond (.t 36) (.seq (.region false c_lex_reader_token.r8) .ret) .skip))) (.seq (.region false c_lex_reader_token.r9) (.cond (.t 40) (.seq (.region false c_lex_reader_token.r10) (.region false c_lex_reader_token.r11)) .skip)))) (.seq (.region false c_lex_reader_token.r12) (.cond (.t 49) (.seq (.region false c_lex_reader_token.r13) (.region false c_lex_reader_token.r14)) (.seq (.region false c_lex_reader_token.r15) (.cond (.t 60) (.seq (.region false c_lex_reader_token.r16) (.seq (.region false c_lex_reader_token.r17) (.seq (.seq (.region false c_lex_reader_token.r18) (.seq (.region false c_lex_reader_token.r19) (.cond (.t 74) (.seq (.region false c_lex_reader_token.r20) .ret) .skip))) (.seq (.region false c_lex_reader_token.r21) (.block 1 (.loop [0, 2, 4, 7, 77, 78] (.seq (.region false c_lex_reader_token.r22) (.seq (.cond (.t 79) .skip (.exit 1)) (.seq (.block 2 (.seq (.region false c_lex_reader_token.r23) (.regionP [0, 1, 2, 3, 4, 5, 6, 7, 8, 9, 10] [] c_lex_reader_token.r24))) (.region false c_lex_reader_token.r25)))))))))) (.seq (.region false c_lex_reader_token.r26) (.cond (.t 92) (.seq (.regionP [0, 1, 2, 3, 4, 5, 6, 7, 8, 9, 10, 11, 12, 13, 14, 15, 16, 17] [14] c_lex_reader_token.r27) (.seq (.seq (.region false c_lex_reader_token.r28) (.cond (.t 111) (.seq (.regionP [0, 1, 2, 3, 4, 5, 6, 7, 8, 9] [] c_lex_reader_token.r29) (.seq (.regionP [0, 1, 2, 3, 4] [] c_lex_reader_token.r30) .ret)) .skip)) (.seq (.region false c_lex_reader_token.r31) (.region false c_lex_reader_token.r32)))) (.seq (.region false c_lex_reader_token.r33) (.cond (.t 135) (.seq (.regionP [0, 3, 4, 1, 2, 5, 6] [1, 2] c_lex_reader_token.r34) (.region false c_lex_reader_token.r35)) (.seq (.region false c_lex_reader_token.r36) .ret))))))))))))) (.seq (.seq (.region false c_lex_reader_token.r37) (.seq (.region false c_lex_reader_token.r38) (.cond (.t 169) (.seq (.region false c_lex_reader_token.r39) .ret) .skip))) (.seq (.region false c_lex_reader_token.r40) .ret)))))) }
theorem k_lex_reader_token : chkF Go.Proofs.Tryz.prog n_lex_reader_token c_lex_reader_token = true := by kernel_rfl

def c_lex_Name.r0 : List CI :=
  [⟨some 2, .mv (.c (.bool false)), [], none⟩]
def c_lex_Name.r1 : List CI :=
  [⟨some 4, .mv (.t 0), [], none⟩,
   ⟨some 5, .bin .eql (.t 4) (.c (.str [])), [], none⟩,
   ⟨some 6, .mv (.t 5), [], none⟩,
   ⟨some 7, .mv (.t 0), [], (some (2, false))⟩,
   ⟨some 8, .lenS (.t 7), [], (some (2, false))⟩,
   ⟨some 9, .bin .gtr (.t 8) (.c (.int .i64 16)), [], (some (2, false))⟩,
   ⟨some 10, .pick (.t 6) (.c (.bool true)) (.t 9), [], none⟩,
   ⟨some 11, .mv (.t 10), [], none⟩,
   ⟨some 12, .mv (.t 0), [], (some (7, false))⟩,
   ⟨some 13, .idxS (.t 12) (.c (.int .i64 0)), [], (some (7, false))⟩,
   ⟨some 14, .bin .lss (.t 13) (.c (.int .u8 97)), [], (some (7, false))⟩,
   ⟨some 15, .pick (.t 11) (.c (.bool true)) (.t 14), [], none⟩,
   ⟨some 16, .mv (.t 15), [], none⟩,
   ⟨some 17, .mv (.t 0), [], (some (12, false))⟩,
   ⟨some 18, .idxS (.t 17) (.c (.int .i64 0)), [], (some (12, false))⟩,
   ⟨some 19, .bin .gtr (.t 18) (.c (.int .u8 122)), [], (some (12, false))⟩,
   ⟨some 20, .pick (.t 16) (.c (.bool true)) (.t 19), [], none⟩,
   ⟨some 21, .mv (.t 20), [], none⟩,
   ⟨some 22, .mv (.t 0), [], (some (17, false))⟩,
   ⟨some 23, .bin .add (.c (.str [32])) (.t 22), [], (some (17, false))⟩,
   ⟨some 24, .bin .add (.t 23) (.c (.str [32])), [], (some (17, false))⟩,
   ⟨some 25, .call n_strings_Contains [(.c (.str [32, 115, 101, 110, 100, 32, 115, 101, 116, 32, 105, 110, 99, 32, 105, 102, 32, 103, 111, 116, 111, 32, 101, 120, 105, 116, 32, 101, 120, 112, 101, 99, 116, 32, 116, 105, 109, 101, 111, 117, 116, 32, 103, 108, 111, 98, 32, 114, 101, 32])), (.t 24)], [], (some (17, false))⟩,
   ⟨some 26, .pick (.t 21) (.c (.bool true)) (.t 25), [], none⟩]
def c_lex_Name.r2 : List CI :=
  [⟨some 2, .mv (.c (.bool false)), [], none⟩]
def c_lex_Name.r3 : List CI :=
  [⟨some 27, .mv (.t 0), [], none⟩,
   ⟨some 28, .lenS (.t 27), [], none⟩,
   ⟨some 29, .mv (.c (.int .i64 0)), [], none⟩]
def c_lex_Name.r4 : List CI :=
  [⟨some 30, .bin .lss (.t 29) (.t 28), [], none⟩]
def c_lex_Name.r5 : List CI :=
  [⟨some 31, .mv (.t 29), [], none⟩,
   ⟨some 3, .mv (.t 31), [], none⟩]
def c_lex_Name.r6 : List CI :=
  [⟨some 32, .mv (.t 0), [], none⟩,
   ⟨some 33, .mv (.t 3), [], none⟩,
   ⟨some 34, .idxS (.t 32) (.t 33), [], none⟩,
   ⟨some 35, .call n_lex_small [(.t 34)], [], none⟩,
   ⟨some 36, .un .not (.t 35), [], none⟩]
def c_lex_Name.r7 : List CI :=
  [⟨some 2, .mv (.c (.bool false)), [], none⟩]
def c_lex_Name.r8 : List CI :=
  [⟨some 37, .bin .add (.t 29) (.c (.int .i64 1)), [], none⟩,
   ⟨some 29, .mv (.t 37), [], none⟩]
def c_lex_Name.r9 : List CI :=
  [⟨some 2, .mv (.c (.bool true)), [], none⟩]
def c_lex_Name : CF := { nt := 38, res := [.tmp 2], body :=
  (.seq (.region false c_lex_Name.r0) (.seq (.seq (.region false c_lex_Name.r1) (.cond (.t 26) (.seq (.region false c_lex_Name.r2) .ret) .skip)) (.seq (.seq (.region false c_lex_Name.r3) (.block 0 (.loop [0, 28, 29] (.seq (.region false c_lex_Name.r4) (.seq (.cond (.t 30) .skip (.exit 0)) (.seq (.block 1 (.seq (.region false c_lex_Name.r5) (.seq (.region false c_lex_Name.r6) (.cond (.t 36) (.seq (.region false c_lex_Name.r7) .ret) .skip)))) (.region false c_lex_Name.r8))))))) (.seq (.region false c_lex_Name.r9) .ret)))) }
theorem k_lex_Name : chkF Go.Proofs.Tryz.prog n_lex_Name c_lex_Name = true := by kernel_rfl

end Go.Ab
