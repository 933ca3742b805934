/- Part 2 of what the law's proof rests on: FnA, FnSz, FnTo, FnEq, FnMark, FnHeld, FnEnv, FnPutS, FnCopy, FnPut, FnF, FnOk1, FnOk2, FnOk3, FnOk4. Conditions: none. -/
import Derived.Test.YtnnejoalamkkpaaPart1
import Derived.Test.YtnnejoalamkkpaaProg
set_option linter.unusedVariables false
set_option linter.unusedSimpArgs false
/- The functions that FnExactPutFor reaches, translated. -/
namespace Go.Proofs.Ytnnejoalamkkpaa
open Go Go.AI Go.Proofs
/-- loop.example/g00396/laws.szCore -/
def f9 : AFun := ⟨[0, 1], 0,
 .seq (.region [⟨.boxV 2 24 5 (.var 0), (.var 2), none, []⟩, ⟨.mov (.cst (.one (.int .i64 0))), (.var 3), none, []⟩])
 (.seq (.region [⟨.mov (.var 1), .loc, none, []⟩, ⟨.fieldAddr 2 (.var 2), .loc, none, []⟩, ⟨.load none (.loc 1), .loc, none, []⟩, ⟨.len true (.loc 2), .loc, none, []⟩, ⟨.bin .sub .num (.loc 0) (.loc 3), .loc, none, []⟩, ⟨.mov (.loc 4), (.var 1), none, []⟩])
 (.seq (.seq (.region [⟨.mov (.var 1), .loc, none, []⟩, ⟨.bin .lss .num (.loc 0) (.cst (.one (.int .i64 0))), (.var 4), none, []⟩])
 (.cond (.var 4) (.seq (.region [⟨.mov (.cst (.one (.int .i64 (-1)))), (.var 3), none, []⟩])
 (.ret))
 (.skip)))
 (.seq (.region [⟨.mov (.var 1), .loc, none, []⟩, ⟨.fieldAddr 3 (.var 2), .loc, none, []⟩, ⟨.load none (.loc 1), .loc, none, []⟩, ⟨.len true (.loc 2), .loc, none, []⟩, ⟨.bin .sub .num (.loc 0) (.loc 3), .loc, none, []⟩, ⟨.mov (.loc 4), (.var 1), none, []⟩])
 (.seq (.seq (.region [⟨.mov (.var 1), .loc, none, []⟩, ⟨.bin .lss .num (.loc 0) (.cst (.one (.int .i64 0))), (.var 5), none, []⟩])
 (.cond (.var 5) (.seq (.region [⟨.mov (.cst (.one (.int .i64 (-1)))), (.var 3), none, []⟩])
 (.ret))
 (.skip)))
 (.seq (.region [⟨.fieldAddr 4 (.var 2), .loc, none, []⟩, ⟨.load none (.loc 0), .loc, none, []⟩, ⟨.mov (.var 1), .loc, none, []⟩, ⟨.call 34 [.loc 1, .loc 2] false, .loc, none, []⟩, ⟨.mov (.loc 3), (.var 1), none, []⟩])
 (.seq (.seq (.region [⟨.mov (.var 1), .loc, none, []⟩, ⟨.bin .lss .num (.loc 0) (.cst (.one (.int .i64 0))), (.var 6), none, []⟩])
 (.cond (.var 6) (.seq (.region [⟨.mov (.cst (.one (.int .i64 (-1)))), (.var 3), none, []⟩])
 (.ret))
 (.skip)))
 (.seq (.region [⟨.mov (.var 1), .loc, none, []⟩, ⟨.mov (.loc 0), (.var 3), none, []⟩])
 (.ret)))))))), [(.var 3, none)]⟩
def c9 : Cfg := ⟨26, [0, 1, 2, 4, 11, 18, 24], [2], [], [], fun g t => [].contains g && ![].contains t⟩
theorem h9 : Has Try.prog 9 f9 := ⟨by kernel_rfl, c9, Try.f9, by kernel_rfl, by kernel_rfl⟩

/-- loop.example/g00396/laws.szCoreS -/
def f34 : AFun := ⟨[0, 1], 0,
 .seq (.region [⟨.mov (.cst (.one (.int .i64 0))), (.var 2), none, []⟩])
 (.seq (.region [⟨.mov (.var 1), .loc, none, []⟩, ⟨.mov (.var 0), .loc, none, []⟩, ⟨.len false (.loc 1), .loc, none, []⟩, ⟨.bin .sub .num (.loc 0) (.loc 2), .loc, none, []⟩, ⟨.mov (.loc 3), (.var 1), none, []⟩])
 (.seq (.seq (.region [⟨.mov (.var 1), .loc, none, []⟩, ⟨.bin .lss .num (.loc 0) (.cst (.one (.int .i64 0))), (.var 4), none, []⟩])
 (.cond (.var 4) (.seq (.region [⟨.mov (.cst (.one (.int .i64 (-1)))), (.var 2), none, []⟩])
 (.ret))
 (.skip)))
 (.seq (.seq (.region [⟨.mov (.cst (.one (.int .i64 0))), (.var 3), none, []⟩])
 (.block 0 (.loop (.seq (.seq (.region [⟨.mov (.var 3), .loc, none, []⟩, ⟨.mov (.var 0), .loc, none, []⟩, ⟨.len false (.loc 1), .loc, none, []⟩, ⟨.bin .lss .num (.loc 0) (.loc 2), (.var 5), none, []⟩])
 (.cond (.var 5) (.skip)
 (.exit 0)))
 (.seq (.block 1 (.seq (.region [⟨.mov (.var 0), .loc, none, []⟩, ⟨.mov (.var 3), .loc, none, []⟩, ⟨.indexAddr 5 (.loc 0) (.loc 1), .loc, none, []⟩, ⟨.load (some (5)) (.loc 2), .loc, none, []⟩, ⟨.mov (.var 1), .loc, none, []⟩, ⟨.call 9 [.loc 3, .loc 4] false, .loc, none, []⟩, ⟨.mov (.loc 5), (.var 1), none, []⟩])
 (.seq (.region [⟨.mov (.var 1), .loc, none, []⟩, ⟨.bin .lss .num (.loc 0) (.cst (.one (.int .i64 0))), (.var 6), none, []⟩])
 (.cond (.var 6) (.seq (.region [⟨.mov (.cst (.one (.int .i64 (-1)))), (.var 2), none, []⟩])
 (.ret))
 (.skip)))))
 (.region [⟨.mov (.var 3), .loc, none, []⟩, ⟨.bin .add .num (.loc 0) (.cst (.one (.int .i64 1))), .loc, none, []⟩, ⟨.mov (.loc 1), (.var 3), none, []⟩]))))))
 (.seq (.region [⟨.mov (.var 1), .loc, none, []⟩, ⟨.mov (.loc 0), (.var 2), none, []⟩])
 (.ret))))), [(.var 2, none)]⟩
def c34 : Cfg := ⟨27, [0, 1, 4, 5, 11, 15, 25], [], [], [], fun g t => [].contains g && ![].contains t⟩
theorem h34 : Has Try.prog 34 f34 := ⟨by kernel_rfl, c34, Try.f34, by kernel_rfl, by kernel_rfl⟩

/-- loop.example/g00396/spec.PutFor -/
def f10 : AFun := ⟨[0, 1, 2], 0,
 .seq (.region [⟨.boxV 3 28 5 (.var 0), (.var 3), none, []⟩, ⟨.boxV 4 28 5 (.var 2), (.var 4), none, []⟩, ⟨.boxV 5 28 5 (.cst (.agg [.int .i64 0, .int .i64 0, .str [], .str [], .nils])), (.var 5), none, []⟩])
 (.seq (.region [⟨.load (some (5)) (.var 3), .loc, none, []⟩, ⟨.mov (.var 1), .loc, none, []⟩, ⟨.load (some (5)) (.var 4), .loc, none, []⟩, ⟨.lit 1 0 [.str []] [], .loc, none, []⟩, ⟨.call 35 [.loc 0, .loc 1, .loc 2, .loc 3] false, .loc, none, []⟩, ⟨.store 5 (.var 5) (.loc 4), .no, none, []⟩])
 (.ret)), [(.var 5, (some ((some (5)))))]⟩
def c10 : Cfg := ⟨12, [0, 1, 2, 3, 5, 6], [3, 5, 6], [], [], fun g t => [].contains g && ![].contains t⟩
theorem h10 : Has Try.prog 10 f10 := ⟨by kernel_rfl, c10, Try.f10, by kernel_rfl, by kernel_rfl⟩

/-- loop.example/g00396/spec.l29Put -/
def f35 : AFun := ⟨[0, 1, 2, 3], 0,
 .seq (.region [⟨.boxV 4 28 5 (.var 0), (.var 4), none, []⟩, ⟨.boxV 5 28 5 (.var 2), (.var 5), none, []⟩, ⟨.boxV 6 28 5 (.cst (.agg [.int .i64 0, .int .i64 0, .str [], .str [], .nils])), (.var 6), none, []⟩])
 (.seq (.seq (.region [⟨.fieldAddr 0 (.var 4), .loc, none, []⟩, ⟨.load none (.loc 0), .loc, none, []⟩, ⟨.bin .eql .num (.loc 1) (.cst (.one (.int .i64 2))), .loc, none, []⟩, ⟨.mov (.loc 2), .loc, none, []⟩, ⟨.fieldAddr 2 (.var 4), .loc, (some (.loc 3, true)), []⟩, ⟨.load none (.loc 4), .loc, (some (.loc 3, true)), []⟩, ⟨.mov (.var 1), .loc, (some (.loc 3, true)), []⟩, ⟨.bin .eql .num (.loc 5) (.loc 6), .loc, (some (.loc 3, true)), []⟩, ⟨.pick (.loc 3) (.loc 7) (.cst (.one (.bool false))), .loc, none, []⟩, ⟨.mov (.loc 8), .loc, none, []⟩, ⟨.mov (.var 3), .loc, (some (.loc 9, true)), []⟩, ⟨.mov (.var 1), .loc, (some (.loc 9, true)), []⟩, ⟨.call 76 [.loc 10, .loc 11] false, .loc, (some (.loc 9, true)), []⟩, ⟨.not (.loc 12), .loc, (some (.loc 9, true)), []⟩, ⟨.pick (.loc 9) (.loc 13) (.cst (.one (.bool false))), (.var 9), none, []⟩])
 (.cond (.var 9) (.seq (.region [⟨.load (some (5)) (.var 5), .loc, none, []⟩, ⟨.call 61 [.loc 0] false, .loc, none, []⟩, ⟨.store 5 (.var 6) (.loc 1), .no, none, []⟩])
 (.ret))
 (.skip)))
 (.seq (.region [⟨.fieldAddr 0 (.var 4), .loc, none, []⟩, ⟨.load none (.loc 0), .loc, none, []⟩, ⟨.fieldAddr 1 (.var 4), .loc, none, []⟩, ⟨.load none (.loc 2), .loc, none, []⟩, ⟨.fieldAddr 2 (.var 4), .loc, none, []⟩, ⟨.load none (.loc 4), .loc, none, []⟩, ⟨.fieldAddr 3 (.var 4), .loc, none, []⟩, ⟨.load none (.loc 6), .loc, none, []⟩, ⟨.build [.int .i64 0, .int .i64 0, .str [], .str [], .nils] [(0, 1, .loc 1), (1, 1, .loc 3), (2, 1, .loc 5), (3, 1, .loc 7)], .loc, none, []⟩, ⟨.boxV 7 28 5 (.cst (.agg [.int .i64 0, .int .i64 0, .str [], .str [], .nils])), (.var 7), none, []⟩, ⟨.store 5 (.var 7) (.loc 8), .no, none, []⟩])
 (.seq (.seq (.region [⟨.mov (.cst (.one (.int .i64 0))), (.var 8), none, []⟩])
 (.block 0 (.loop (.seq (.seq (.region [⟨.mov (.var 8), .loc, none, []⟩, ⟨.fieldAddr 4 (.var 4), .loc, none, []⟩, ⟨.load none (.loc 1), .loc, none, []⟩, ⟨.len false (.loc 2), .loc, none, []⟩, ⟨.bin .lss .num (.loc 0) (.loc 3), (.var 10), none, []⟩])
 (.cond (.var 10) (.skip)
 (.exit 0)))
 (.seq (.block 1 (.region [⟨.fieldAddr 4 (.var 7), .loc, none, []⟩, ⟨.load none (.loc 0), .loc, none, []⟩, ⟨.fieldAddr 4 (.var 4), .loc, none, [0, 1]⟩, ⟨.load none (.loc 2), .loc, none, [0, 1]⟩, ⟨.mov (.var 8), .loc, none, [0, 1, 2, 3]⟩, ⟨.indexAddr 5 (.loc 3) (.loc 4), .loc, none, [0, 1]⟩, ⟨.load (some (5)) (.loc 5), .loc, none, [0, 1]⟩, ⟨.mov (.var 1), .loc, none, [0, 1, 2, 3, 4, 5, 6]⟩, ⟨.load (some (5)) (.var 5), .loc, none, [0, 1, 2, 3, 4, 5, 6, 7]⟩, ⟨.load (some (5)) (.var 4), .loc, none, [0, 1, 2, 3, 4, 5, 6, 7, 8]⟩, ⟨.mov (.var 8), .loc, none, [0, 1, 2, 3, 4, 5, 6, 7, 8, 9]⟩, ⟨.mov (.var 3), .loc, none, [0, 1, 2, 3, 4, 5, 6, 7, 8, 9, 10]⟩, ⟨.call 77 [.loc 9, .loc 10, .loc 11] false, .loc, none, [0, 1, 2, 3, 4, 5, 6, 7, 8]⟩, ⟨.call 35 [.loc 6, .loc 7, .loc 8, .loc 12] false, .loc, none, [0, 1]⟩, ⟨.lit 5 1 [.int .i64 0, .int .i64 0, .str [], .str [], .nils] [(0, .loc 13)], .loc, none, [0, 1]⟩, ⟨.append 28 5 72 (.loc 1) (.loc 14), .loc, none, []⟩, ⟨.fieldAddr 4 (.var 7), .loc, none, []⟩, ⟨.store 1 (.loc 16) (.loc 15), .no, none, []⟩]))
 (.region [⟨.mov (.var 8), .loc, none, []⟩, ⟨.bin .add .num (.loc 0) (.cst (.one (.int .i64 1))), .loc, none, []⟩, ⟨.mov (.loc 1), (.var 8), none, []⟩]))))))
 (.seq (.region [⟨.load (some (5)) (.var 7), .loc, none, []⟩, ⟨.store 5 (.var 6) (.loc 0), .no, none, []⟩])
 (.ret))))), [(.var 6, (some ((some (5)))))]⟩
def c35 : Cfg := ⟨62, [0, 1, 2, 3, 4, 6, 8, 9, 10, 25, 41], [4, 6, 8, 9], [], [], fun g t => [].contains g && ![].contains t⟩
theorem h35 : Has Try.prog 35 f35 := ⟨by kernel_rfl, c35, Try.f35, by kernel_rfl, by kernel_rfl⟩

/-- loop.example/g00396/spec.l9Copy -/
def f61 : AFun := ⟨[0], 0,
 .seq (.region [⟨.boxV 1 28 5 (.var 0), (.var 1), none, []⟩, ⟨.boxV 2 28 5 (.cst (.agg [.int .i64 0, .int .i64 0, .str [], .str [], .nils])), (.var 2), none, []⟩])
 (.seq (.region [⟨.fieldAddr 0 (.var 1), .loc, none, []⟩, ⟨.load none (.loc 0), .loc, none, []⟩, ⟨.fieldAddr 1 (.var 1), .loc, none, []⟩, ⟨.load none (.loc 2), .loc, none, []⟩, ⟨.fieldAddr 2 (.var 1), .loc, none, []⟩, ⟨.load none (.loc 4), .loc, none, []⟩, ⟨.fieldAddr 3 (.var 1), .loc, none, []⟩, ⟨.load none (.loc 6), .loc, none, []⟩, ⟨.build [.int .i64 0, .int .i64 0, .str [], .str [], .nils] [(0, 1, .loc 1), (1, 1, .loc 3), (2, 1, .loc 5), (3, 1, .loc 7)], .loc, none, []⟩, ⟨.boxV 3 28 5 (.cst (.agg [.int .i64 0, .int .i64 0, .str [], .str [], .nils])), (.var 3), none, []⟩, ⟨.store 5 (.var 3) (.loc 8), .no, none, []⟩])
 (.seq (.seq (.region [⟨.mov (.cst (.one (.int .i64 0))), (.var 4), none, []⟩])
 (.block 0 (.loop (.seq (.seq (.region [⟨.mov (.var 4), .loc, none, []⟩, ⟨.fieldAddr 4 (.var 1), .loc, none, []⟩, ⟨.load none (.loc 1), .loc, none, []⟩, ⟨.len false (.loc 2), .loc, none, []⟩, ⟨.bin .lss .num (.loc 0) (.loc 3), (.var 5), none, []⟩])
 (.cond (.var 5) (.skip)
 (.exit 0)))
 (.seq (.block 1 (.region [⟨.fieldAddr 4 (.var 3), .loc, none, []⟩, ⟨.load none (.loc 0), .loc, none, []⟩, ⟨.fieldAddr 4 (.var 1), .loc, none, [0, 1]⟩, ⟨.load none (.loc 2), .loc, none, [0, 1]⟩, ⟨.mov (.var 4), .loc, none, [0, 1, 2, 3]⟩, ⟨.indexAddr 5 (.loc 3) (.loc 4), .loc, none, [0, 1]⟩, ⟨.load (some (5)) (.loc 5), .loc, none, [0, 1]⟩, ⟨.call 61 [.loc 6] false, .loc, none, [0, 1]⟩, ⟨.lit 5 1 [.int .i64 0, .int .i64 0, .str [], .str [], .nils] [(0, .loc 7)], .loc, none, [0, 1]⟩, ⟨.append 28 5 72 (.loc 1) (.loc 8), .loc, none, []⟩, ⟨.fieldAddr 4 (.var 3), .loc, none, []⟩, ⟨.store 1 (.loc 10) (.loc 9), .no, none, []⟩]))
 (.region [⟨.mov (.var 4), .loc, none, []⟩, ⟨.bin .add .num (.loc 0) (.cst (.one (.int .i64 1))), .loc, none, []⟩, ⟨.mov (.loc 1), (.var 4), none, []⟩]))))))
 (.seq (.region [⟨.load (some (5)) (.var 3), .loc, none, []⟩, ⟨.store 5 (.var 2) (.loc 0), .no, none, []⟩])
 (.ret)))), [(.var 2, (some ((some (5)))))]⟩
def c61 : Cfg := ⟨33, [0, 1, 2, 3, 4, 18], [1, 2, 3], [], [], fun g t => [].contains g && ![].contains t⟩
theorem h61 : Has Try.prog 61 f61 := ⟨by kernel_rfl, c61, Try.f61, by kernel_rfl, by kernel_rfl⟩

/-- loop.example/g00396/spec.l9In -/
def f76 : AFun := ⟨[0, 1], 0,
 .seq (.region [⟨.mov (.cst (.one (.bool false))), (.var 2), none, []⟩])
 (.seq (.seq (.region [⟨.mov (.cst (.one (.int .i64 0))), (.var 3), none, []⟩])
 (.block 0 (.loop (.seq (.seq (.region [⟨.mov (.var 3), .loc, none, []⟩, ⟨.mov (.var 0), .loc, none, []⟩, ⟨.len false (.loc 1), .loc, none, []⟩, ⟨.bin .lss .num (.loc 0) (.loc 2), (.var 4), none, []⟩])
 (.cond (.var 4) (.skip)
 (.exit 0)))
 (.seq (.block 1 (.seq (.region [⟨.mov (.var 0), .loc, none, []⟩, ⟨.mov (.var 3), .loc, none, []⟩, ⟨.indexAddr 1 (.loc 0) (.loc 1), .loc, none, []⟩, ⟨.load none (.loc 2), .loc, none, []⟩, ⟨.mov (.var 1), .loc, none, []⟩, ⟨.bin .eql .num (.loc 3) (.loc 4), (.var 5), none, []⟩])
 (.cond (.var 5) (.seq (.region [⟨.mov (.cst (.one (.bool true))), (.var 2), none, []⟩])
 (.ret))
 (.skip))))
 (.region [⟨.mov (.var 3), .loc, none, []⟩, ⟨.bin .add .num (.loc 0) (.cst (.one (.int .i64 1))), .loc, none, []⟩, ⟨.mov (.loc 1), (.var 3), none, []⟩]))))))
 (.seq (.region [⟨.mov (.cst (.one (.bool false))), (.var 2), none, []⟩])
 (.ret))), [(.var 2, none)]⟩
def c76 : Cfg := ⟨18, [0, 1, 4, 5, 9, 17], [], [], [], fun g t => [].contains g && ![].contains t⟩
theorem h76 : Has Try.prog 76 f76 := ⟨by kernel_rfl, c76, Try.f76, by kernel_rfl, by kernel_rfl⟩

/-- loop.example/g00396/spec.l9Env -/
def f77 : AFun := ⟨[0, 1, 2], 0,
 .seq (.region [⟨.boxV 3 28 5 (.var 0), (.var 3), none, []⟩, ⟨.mov (.cst (.one (.nils))), (.var 4), none, []⟩])
 (.seq (.block 0 (.seq (.seq (.region [⟨.fieldAddr 0 (.var 3), .loc, none, []⟩, ⟨.load none (.loc 0), .loc, none, []⟩, ⟨.bin .eql .num (.loc 1) (.cst (.one (.int .i64 3))), .loc, none, []⟩, ⟨.mov (.loc 2), (.var 5), none, []⟩])
 (.cond (.var 5) (.skip)
 (.seq (.region [⟨.fieldAddr 0 (.var 3), .loc, none, []⟩, ⟨.load none (.loc 0), .loc, none, []⟩, ⟨.bin .eql .num (.loc 1) (.cst (.one (.int .i64 5))), .loc, none, []⟩, ⟨.mov (.loc 2), .loc, none, []⟩, ⟨.mov (.var 1), .loc, (some (.loc 3, true)), []⟩, ⟨.bin .eql .num (.loc 4) (.cst (.one (.int .i64 1))), .loc, (some (.loc 3, true)), []⟩, ⟨.pick (.loc 3) (.loc 5) (.cst (.one (.bool false))), .loc, none, []⟩, ⟨.mov (.loc 6), (.var 5), none, []⟩])
 (.cond (.var 5) (.skip)
 (.region [⟨.fieldAddr 0 (.var 3), .loc, none, []⟩, ⟨.load none (.loc 0), .loc, none, []⟩, ⟨.bin .eql .num (.loc 1) (.cst (.one (.int .i64 6))), .loc, none, []⟩, ⟨.mov (.loc 2), .loc, none, []⟩, ⟨.mov (.var 1), .loc, (some (.loc 3, true)), []⟩, ⟨.bin .eql .num (.loc 4) (.cst (.one (.int .i64 1))), .loc, (some (.loc 3, true)), []⟩, ⟨.pick (.loc 3) (.loc 5) (.cst (.one (.bool false))), .loc, none, []⟩, ⟨.mov (.loc 6), (.var 5), none, []⟩])))))
 (.cond (.var 5) (.seq (.region [⟨.mov (.var 2), .loc, none, []⟩, ⟨.fieldAddr 2 (.var 3), .loc, none, []⟩, ⟨.load none (.loc 1), .loc, none, []⟩, ⟨.call 113 [.loc 0, .loc 2] false, .loc, none, []⟩, ⟨.mov (.loc 3), (.var 4), none, []⟩])
 (.ret))
 (.seq (.region [⟨.fieldAddr 0 (.var 3), .loc, none, []⟩, ⟨.load none (.loc 0), .loc, none, []⟩, ⟨.bin .eql .num (.loc 1) (.cst (.one (.int .i64 6))), .loc, none, []⟩, ⟨.mov (.loc 2), (.var 6), none, []⟩])
 (.cond (.var 6) (.seq (.region [⟨.mov (.var 2), .loc, none, []⟩, ⟨.fieldAddr 2 (.var 3), .loc, none, [0]⟩, ⟨.load none (.loc 1), .loc, none, [0]⟩, ⟨.call 113 [.loc 0, .loc 2] false, .loc, none, []⟩, ⟨.fieldAddr 3 (.var 3), .loc, none, [0, 1, 2, 3]⟩, ⟨.load none (.loc 4), .loc, none, [0, 1, 2, 3]⟩, ⟨.call 113 [.loc 3, .loc 5] false, .loc, none, []⟩, ⟨.mov (.loc 6), (.var 4), none, []⟩])
 (.ret))
 (.skip))))))
 (.seq (.region [⟨.mov (.var 2), .loc, none, []⟩, ⟨.mov (.loc 0), (.var 4), none, []⟩])
 (.ret))), [(.var 4, none)]⟩
def c77 : Cfg := ⟨41, [0, 1, 2, 3, 6, 7, 29], [3], [], [], fun g t => [].contains g && ![].contains t⟩
theorem h77 : Has Try.prog 77 f77 := ⟨by kernel_rfl, c77, Try.f77, by kernel_rfl, by kernel_rfl⟩

/-- loop.example/g00396/spec.l9And -/
def f113 : AFun := ⟨[0, 1], 0,
 .seq (.region [⟨.mov (.cst (.one (.nils))), (.var 2), none, []⟩])
 (.seq (.region [⟨.litD 9 1 0 [.str []] [], .loc, none, []⟩, ⟨.mov (.var 0), .loc, none, []⟩, ⟨.append 9 1 16 (.loc 0) (.loc 1), .loc, none, []⟩, ⟨.mov (.loc 2), (.var 3), none, []⟩])
 (.seq (.region [⟨.mov (.var 3), .loc, none, []⟩, ⟨.mov (.var 1), .loc, none, []⟩, ⟨.lit 1 1 [.str []] [(0, .loc 1)], .loc, none, []⟩, ⟨.append 9 1 16 (.loc 0) (.loc 2), .loc, none, []⟩, ⟨.mov (.loc 3), (.var 2), none, []⟩])
 (.ret))), [(.var 2, none)]⟩
def c113 : Cfg := ⟨13, [0, 1, 4, 5], [], [], [6], fun g t => [].contains g && ![].contains t⟩
theorem h113 : Has Try.prog 113 f113 := ⟨by kernel_rfl, c113, Try.f113, by kernel_rfl, by kernel_rfl⟩

/-- loop.example/g00396/laws.toCore -/
def f11 : AFun := ⟨[0], 0,
 .seq (.region [⟨.boxV 1 24 5 (.var 0), (.var 1), none, []⟩, ⟨.boxV 2 28 5 (.cst (.agg [.int .i64 0, .int .i64 0, .str [], .str [], .nils])), (.var 2), none, []⟩])
 (.seq (.region [⟨.boxV 3 28 5 (.cst (.agg [.int .i64 0, .int .i64 0, .str [], .str [], .nils])), (.var 3), none, []⟩])
 (.seq (.region [⟨.fieldAddr 0 (.var 1), .loc, none, []⟩, ⟨.load none (.loc 0), .loc, none, []⟩, ⟨.fieldAddr 0 (.var 3), .loc, none, []⟩, ⟨.store 1 (.loc 2) (.loc 1), .no, none, []⟩])
 (.seq (.region [⟨.fieldAddr 1 (.var 1), .loc, none, []⟩, ⟨.load none (.loc 0), .loc, none, []⟩, ⟨.fieldAddr 1 (.var 3), .loc, none, []⟩, ⟨.store 1 (.loc 2) (.loc 1), .no, none, []⟩])
 (.seq (.region [⟨.fieldAddr 2 (.var 1), .loc, none, []⟩, ⟨.load none (.loc 0), .loc, none, []⟩, ⟨.fieldAddr 2 (.var 3), .loc, none, []⟩, ⟨.store 1 (.loc 2) (.loc 1), .no, none, []⟩])
 (.seq (.region [⟨.fieldAddr 3 (.var 1), .loc, none, []⟩, ⟨.load none (.loc 0), .loc, none, []⟩, ⟨.fieldAddr 3 (.var 3), .loc, none, []⟩, ⟨.store 1 (.loc 2) (.loc 1), .no, none, []⟩])
 (.seq (.region [⟨.fieldAddr 4 (.var 1), .loc, none, []⟩, ⟨.load none (.loc 0), .loc, none, []⟩, ⟨.call 36 [.loc 1] true, .loc, none, []⟩, ⟨.fieldAddr 4 (.var 3), .loc, none, []⟩, ⟨.store 1 (.loc 3) (.loc 2), .no, none, []⟩])
 (.seq (.region [⟨.load (some (5)) (.var 3), .loc, none, []⟩, ⟨.store 5 (.var 2) (.loc 0), .no, none, []⟩])
 (.ret)))))))), [(.var 2, (some ((some (5)))))]⟩
def c11 : Cfg := ⟨21, [0, 1, 2, 3], [1, 2, 3], [], [], fun g t => [36].contains g && ![].contains t⟩
theorem h11 : Has Try.prog 11 f11 := ⟨by kernel_rfl, c11, Try.f11, by kernel_rfl, by kernel_rfl⟩

/-- loop.example/g00396/laws.toCoreS -/
def f36 : AFun := ⟨[0], 0,
 .seq (.region [⟨.mov (.cst (.one (.nils))), (.var 1), none, []⟩])
 (.seq (.region [⟨.mov (.var 0), .loc, none, []⟩, ⟨.len false (.loc 0), .loc, none, []⟩, ⟨.mkSlice 28 5 72 [.int .i64 0, .int .i64 0, .str [], .str [], .nils] (.loc 1) (.loc 1), .loc, none, []⟩, ⟨.mov (.loc 2), (.var 2), none, []⟩])
 (.seq (.seq (.region [⟨.mov (.cst (.one (.int .i64 0))), (.var 3), none, []⟩])
 (.block 0 (.loop (.seq (.seq (.region [⟨.mov (.var 3), .loc, none, []⟩, ⟨.mov (.var 0), .loc, none, []⟩, ⟨.len false (.loc 1), .loc, none, []⟩, ⟨.bin .lss .num (.loc 0) (.loc 2), (.var 4), none, []⟩])
 (.cond (.var 4) (.skip)
 (.exit 0)))
 (.seq (.block 1 (.region [⟨.mov (.var 2), .loc, none, []⟩, ⟨.mov (.var 3), .loc, none, []⟩, ⟨.mov (.var 0), .loc, none, []⟩, ⟨.mov (.var 3), .loc, none, []⟩, ⟨.indexAddr 5 (.loc 2) (.loc 3), .loc, none, []⟩, ⟨.load (some (5)) (.loc 4), .loc, none, []⟩, ⟨.call 11 [.loc 5] true, .loc, none, []⟩, ⟨.indexAddr 5 (.loc 0) (.loc 1), .loc, none, []⟩, ⟨.store 5 (.loc 7) (.loc 6), .no, none, []⟩]))
 (.region [⟨.mov (.var 3), .loc, none, []⟩, ⟨.bin .add .num (.loc 0) (.cst (.one (.int .i64 1))), .loc, none, []⟩, ⟨.mov (.loc 1), (.var 3), none, []⟩]))))))
 (.seq (.region [⟨.mov (.var 2), .loc, none, []⟩, ⟨.mov (.loc 0), (.var 1), none, []⟩])
 (.ret)))), [(.var 1, none)]⟩
def c36 : Cfg := ⟨23, [0, 2, 3, 4, 11], [], [], [], fun g t => [11].contains g && ![].contains t⟩
theorem h36 : Has Try.prog 36 f36 := ⟨by kernel_rfl, c36, Try.f36, by kernel_rfl, by kernel_rfl⟩

/-- loop.example/g00396/impl.PutFor -/
def f12 : AFun := ⟨[0, 1, 2], 0,
 .seq (.region [⟨.boxV 3 28 5 (.var 0), (.var 3), none, []⟩, ⟨.boxV 4 28 5 (.var 2), (.var 4), none, []⟩, ⟨.boxV 5 28 5 (.cst (.agg [.int .i64 0, .int .i64 0, .str [], .str [], .nils])), (.var 5), none, []⟩])
 (.seq (.seq (.region [⟨.fieldAddr 0 (.var 3), .loc, none, []⟩, ⟨.load none (.loc 0), .loc, none, []⟩, ⟨.bin .eql .num (.loc 1) (.cst (.one (.int .i64 2))), .loc, none, []⟩, ⟨.mov (.loc 2), .loc, none, []⟩, ⟨.fieldAddr 2 (.var 3), .loc, (some (.loc 3, true)), []⟩, ⟨.load none (.loc 4), .loc, (some (.loc 3, true)), []⟩, ⟨.mov (.var 1), .loc, (some (.loc 3, true)), []⟩, ⟨.bin .eql .num (.loc 5) (.loc 6), .loc, (some (.loc 3, true)), []⟩, ⟨.pick (.loc 3) (.loc 7) (.cst (.one (.bool false))), (.var 9), none, []⟩])
 (.cond (.var 9) (.seq (.region [⟨.load (some (5)) (.var 4), .loc, none, []⟩, ⟨.call 37 [.loc 0] true, .loc, none, []⟩, ⟨.store 5 (.var 5) (.loc 1), .no, none, []⟩])
 (.ret))
 (.skip)))
 (.seq (.region [⟨.load (some (5)) (.var 3), .loc, none, []⟩, ⟨.boxV 6 28 5 (.cst (.agg [.int .i64 0, .int .i64 0, .str [], .str [], .nils])), (.var 6), none, []⟩, ⟨.store 5 (.var 6) (.loc 0), .no, none, []⟩])
 (.seq (.region [⟨.fieldAddr 4 (.var 6), .loc, none, []⟩, ⟨.store 1 (.loc 0) (.cst (.one (.nils))), .no, none, []⟩])
 (.seq (.seq (.region [⟨.fieldAddr 4 (.var 3), .loc, none, []⟩, ⟨.load none (.loc 0), (.var 10), none, []⟩, ⟨.len false (.var 10), (.var 11), none, []⟩, ⟨.mov (.cst (.one (.int .i64 0))), (.var 12), none, []⟩])
 (.block 0 (.loop (.seq (.region [⟨.bin .lss .num (.var 12) (.var 11), (.var 13), none, []⟩])
 (.seq (.cond (.var 13) (.skip)
 (.exit 0))
 (.seq (.block 1 (.seq (.region [⟨.mov (.var 12), .loc, none, []⟩, ⟨.indexAddr 5 (.var 10) (.var 12), .loc, none, []⟩, ⟨.load (some (5)) (.loc 1), .loc, none, []⟩, ⟨.boxV 8 28 5 (.cst (.agg [.int .i64 0, .int .i64 0, .str [], .str [], .nils])), (.var 8), none, []⟩, ⟨.mov (.loc 0), (.var 7), none, []⟩, ⟨.store 5 (.var 8) (.loc 2), .no, none, []⟩])
 (.seq (.region [⟨.load (some (5)) (.var 3), .loc, none, []⟩, ⟨.mov (.var 7), .loc, none, []⟩, ⟨.call 39 [.loc 0, .loc 1] true, .loc, none, []⟩, ⟨.mov (.var 1), .loc, none, []⟩, ⟨.call 38 [.loc 2, .loc 3] false, (.var 14), none, []⟩])
 (.cond (.var 14) (.region [⟨.fieldAddr 4 (.var 6), .loc, none, []⟩, ⟨.load none (.loc 0), .loc, none, []⟩, ⟨.load (some (5)) (.var 8), .loc, none, [0, 1]⟩, ⟨.call 37 [.loc 2] true, .loc, none, [0, 1]⟩, ⟨.lit 5 1 [.int .i64 0, .int .i64 0, .str [], .str [], .nils] [(0, .loc 3)], .loc, none, [0, 1]⟩, ⟨.append 28 5 72 (.loc 1) (.loc 4), .loc, none, []⟩, ⟨.fieldAddr 4 (.var 6), .loc, none, []⟩, ⟨.store 1 (.loc 6) (.loc 5), .no, none, []⟩])
 (.region [⟨.fieldAddr 4 (.var 6), .loc, none, []⟩, ⟨.load none (.loc 0), .loc, none, []⟩, ⟨.load (some (5)) (.var 8), .loc, none, [0, 1]⟩, ⟨.mov (.var 1), .loc, none, [0, 1, 2]⟩, ⟨.load (some (5)) (.var 4), .loc, none, [0, 1, 2, 3]⟩, ⟨.call 12 [.loc 2, .loc 3, .loc 4] true, .loc, none, [0, 1]⟩, ⟨.lit 5 1 [.int .i64 0, .int .i64 0, .str [], .str [], .nils] [(0, .loc 5)], .loc, none, [0, 1]⟩, ⟨.append 28 5 72 (.loc 1) (.loc 6), .loc, none, []⟩, ⟨.fieldAddr 4 (.var 6), .loc, none, []⟩, ⟨.store 1 (.loc 8) (.loc 7), .no, none, []⟩])))))
 (.region [⟨.bin .add .num (.var 12) (.cst (.one (.int .i64 1))), .loc, none, []⟩, ⟨.mov (.loc 0), (.var 12), none, []⟩])))))))
 (.seq (.region [⟨.load (some (5)) (.var 6), .loc, none, []⟩, ⟨.store 5 (.var 5) (.loc 0), .no, none, []⟩])
 (.ret)))))), [(.var 5, (some ((some (5)))))]⟩
def c12 : Cfg := ⟨54, [0, 1, 2, 3, 5, 6, 7, 8, 9, 18, 24, 25, 26, 27, 35], [3, 5, 6, 7, 9], [], [], fun g t => [12, 37, 39].contains g && ![].contains t⟩
theorem h12 : Has Try.prog 12 f12 := ⟨by kernel_rfl, c12, Try.f12, by kernel_rfl, by kernel_rfl⟩

/-- loop.example/g00396/impl.copyCore -/
def f37 : AFun := ⟨[0], 0,
 .seq (.region [⟨.boxV 1 28 5 (.var 0), (.var 1), none, []⟩, ⟨.boxV 2 28 5 (.cst (.agg [.int .i64 0, .int .i64 0, .str [], .str [], .nils])), (.var 2), none, []⟩])
 (.seq (.region [⟨.fieldAddr 4 (.var 1), .loc, none, []⟩, ⟨.load none (.loc 0), .loc, none, []⟩, ⟨.mov (.loc 1), (.var 3), none, []⟩])
 (.seq (.region [⟨.fieldAddr 4 (.var 1), .loc, none, []⟩, ⟨.store 1 (.loc 0) (.cst (.one (.nils))), .no, none, []⟩])
 (.seq (.seq (.region [⟨.mov (.var 3), (.var 5), none, []⟩, ⟨.len false (.var 5), (.var 6), none, []⟩, ⟨.mov (.cst (.one (.int .i64 0))), (.var 7), none, []⟩])
 (.block 0 (.loop (.seq (.region [⟨.bin .lss .num (.var 7) (.var 6), (.var 8), none, []⟩])
 (.seq (.cond (.var 8) (.skip)
 (.exit 0))
 (.seq (.block 1 (.seq (.region [⟨.indexAddr 5 (.var 5) (.var 7), .loc, none, []⟩, ⟨.load (some (5)) (.loc 0), .loc, none, []⟩, ⟨.boxV 4 28 5 (.cst (.agg [.int .i64 0, .int .i64 0, .str [], .str [], .nils])), (.var 4), none, []⟩, ⟨.store 5 (.var 4) (.loc 1), .no, none, []⟩])
 (.region [⟨.fieldAddr 4 (.var 1), .loc, none, []⟩, ⟨.load none (.loc 0), .loc, none, []⟩, ⟨.load (some (5)) (.var 4), .loc, none, [0, 1]⟩, ⟨.call 37 [.loc 2] true, .loc, none, [0, 1]⟩, ⟨.lit 5 1 [.int .i64 0, .int .i64 0, .str [], .str [], .nils] [(0, .loc 3)], .loc, none, [0, 1]⟩, ⟨.append 28 5 72 (.loc 1) (.loc 4), .loc, none, []⟩, ⟨.fieldAddr 4 (.var 1), .loc, none, []⟩, ⟨.store 1 (.loc 6) (.loc 5), .no, none, []⟩])))
 (.region [⟨.bin .add .num (.var 7) (.cst (.one (.int .i64 1))), .loc, none, []⟩, ⟨.mov (.loc 0), (.var 7), none, []⟩])))))))
 (.seq (.region [⟨.load (some (5)) (.var 1), .loc, none, []⟩, ⟨.store 5 (.var 2) (.loc 0), .no, none, []⟩])
 (.ret))))), [(.var 2, (some ((some (5)))))]⟩
def c37 : Cfg := ⟨24, [0, 1, 2, 3, 5, 9, 10, 11, 12], [1, 2, 5], [], [], fun g t => [37].contains g && ![].contains t⟩
theorem h37 : Has Try.prog 37 f37 := ⟨by kernel_rfl, c37, Try.f37, by kernel_rfl, by kernel_rfl⟩

/-- slices.Contains[[]string,string] -/
def f38 : AFun := ⟨[0, 1], 0,
 .seq (.region [⟨.mov (.cst (.one (.bool false))), (.var 2), none, []⟩])
 (.seq (.region [⟨.mov (.var 0), .loc, none, []⟩, ⟨.mov (.var 1), .loc, none, []⟩, ⟨.call 78 [.loc 0, .loc 1] false, .loc, none, []⟩, ⟨.bin .geq .num (.loc 2) (.cst (.one (.int .i64 0))), .loc, none, []⟩, ⟨.mov (.loc 3), (.var 2), none, []⟩])
 (.ret)), [(.var 2, none)]⟩
def c38 : Cfg := ⟨9, [0, 1, 4], [], [], [], fun g t => [].contains g && ![].contains t⟩
theorem h38 : Has Try.prog 38 f38 := ⟨by kernel_rfl, c38, Try.f38, by kernel_rfl, by kernel_rfl⟩

/-- slices.Index[[]string,string] -/
def f78 : AFun := ⟨[0, 1], 0,
 .seq (.region [⟨.mov (.cst (.one (.int .i64 0))), (.var 2), none, []⟩])
 (.seq (.seq (.region [⟨.mov (.var 0), .loc, none, []⟩, ⟨.len false (.loc 0), (.var 4), none, []⟩, ⟨.mov (.cst (.one (.int .i64 0))), (.var 5), none, []⟩])
 (.block 0 (.loop (.seq (.region [⟨.bin .lss .num (.var 5) (.var 4), (.var 6), none, []⟩])
 (.seq (.cond (.var 6) (.skip)
 (.exit 0))
 (.seq (.block 1 (.seq (.region [⟨.mov (.var 5), .loc, none, []⟩, ⟨.mov (.loc 0), (.var 3), none, []⟩])
 (.seq (.region [⟨.mov (.var 1), .loc, none, []⟩, ⟨.mov (.var 0), .loc, none, []⟩, ⟨.mov (.var 3), .loc, none, []⟩, ⟨.indexAddr 1 (.loc 1) (.loc 2), .loc, none, []⟩, ⟨.load none (.loc 3), .loc, none, []⟩, ⟨.bin .eql .num (.loc 0) (.loc 4), (.var 7), none, []⟩])
 (.cond (.var 7) (.seq (.region [⟨.mov (.var 3), .loc, none, []⟩, ⟨.mov (.loc 0), (.var 2), none, []⟩])
 (.ret))
 (.skip)))))
 (.region [⟨.bin .add .num (.var 5) (.cst (.one (.int .i64 1))), .loc, none, []⟩, ⟨.mov (.loc 0), (.var 5), none, []⟩])))))))
 (.seq (.region [⟨.mov (.cst (.one (.int .i64 (-1)))), (.var 2), none, []⟩])
 (.ret))), [(.var 2, none)]⟩
def c78 : Cfg := ⟨19, [0, 1, 4, 5, 7, 8, 9, 16], [], [], [], fun g t => [].contains g && ![].contains t⟩
theorem h78 : Has Try.prog 78 f78 := ⟨by kernel_rfl, c78, Try.f78, by kernel_rfl, by kernel_rfl⟩

/-- loop.example/g00396/impl.bindsIn -/
def f39 : AFun := ⟨[0, 1], 0,
 .seq (.region [⟨.boxV 2 28 5 (.var 0), (.var 2), none, []⟩, ⟨.mov (.cst (.one (.nils))), (.var 3), none, []⟩])
 (.seq (.block 0 (.seq (.seq (.region [⟨.fieldAddr 0 (.var 2), .loc, none, []⟩, ⟨.load none (.loc 0), .loc, none, []⟩, ⟨.bin .eql .num (.loc 1) (.cst (.one (.int .i64 3))), .loc, none, []⟩, ⟨.mov (.loc 2), (.var 4), none, []⟩])
 (.cond (.var 4) (.skip)
 (.seq (.region [⟨.fieldAddr 0 (.var 2), .loc, none, []⟩, ⟨.load none (.loc 0), .loc, none, []⟩, ⟨.bin .eql .num (.loc 1) (.cst (.one (.int .i64 5))), .loc, none, []⟩, ⟨.mov (.loc 2), .loc, none, []⟩, ⟨.mov (.var 1), .loc, (some (.loc 3, true)), []⟩, ⟨.bin .eql .num (.loc 4) (.cst (.one (.int .i64 1))), .loc, (some (.loc 3, true)), []⟩, ⟨.pick (.loc 3) (.loc 5) (.cst (.one (.bool false))), .loc, none, []⟩, ⟨.mov (.loc 6), (.var 4), none, []⟩])
 (.cond (.var 4) (.skip)
 (.region [⟨.fieldAddr 0 (.var 2), .loc, none, []⟩, ⟨.load none (.loc 0), .loc, none, []⟩, ⟨.bin .eql .num (.loc 1) (.cst (.one (.int .i64 6))), .loc, none, []⟩, ⟨.mov (.loc 2), .loc, none, []⟩, ⟨.mov (.var 1), .loc, (some (.loc 3, true)), []⟩, ⟨.bin .eql .num (.loc 4) (.cst (.one (.int .i64 1))), .loc, (some (.loc 3, true)), []⟩, ⟨.pick (.loc 3) (.loc 5) (.cst (.one (.bool false))), .loc, none, []⟩, ⟨.mov (.loc 6), (.var 4), none, []⟩])))))
 (.cond (.var 4) (.seq (.region [⟨.fieldAddr 2 (.var 2), .loc, none, []⟩, ⟨.load none (.loc 0), .loc, none, []⟩, ⟨.litD 9 1 1 [.str []] [(0, .loc 1)], .loc, none, []⟩, ⟨.mov (.loc 2), (.var 3), none, []⟩])
 (.ret))
 (.seq (.region [⟨.fieldAddr 0 (.var 2), .loc, none, []⟩, ⟨.load none (.loc 0), .loc, none, []⟩, ⟨.bin .eql .num (.loc 1) (.cst (.one (.int .i64 6))), .loc, none, []⟩, ⟨.mov (.loc 2), (.var 5), none, []⟩])
 (.cond (.var 5) (.seq (.region [⟨.fieldAddr 2 (.var 2), .loc, none, []⟩, ⟨.load none (.loc 0), .loc, none, []⟩, ⟨.fieldAddr 3 (.var 2), .loc, none, []⟩, ⟨.load none (.loc 2), .loc, none, []⟩, ⟨.litD 9 1 2 [.str []] [(0, .loc 1), (1, .loc 3)], .loc, none, []⟩, ⟨.mov (.loc 4), (.var 3), none, []⟩])
 (.ret))
 (.skip))))))
 (.seq (.region [⟨.mov (.cst (.one (.nils))), (.var 3), none, []⟩])
 (.ret))), [(.var 3, none)]⟩
def c39 : Cfg := ⟨35, [0, 1, 2, 4, 5, 26], [2], [], [25, 34], fun g t => [].contains g && ![].contains t⟩
theorem h39 : Has Try.prog 39 f39 := ⟨by kernel_rfl, c39, Try.f39, by kernel_rfl, by kernel_rfl⟩

/-- loop.example/g00396/laws.eqCore -/
def f13 : AFun := ⟨[0, 1], 0,
 .seq (.region [⟨.boxV 2 28 5 (.var 0), (.var 2), none, []⟩, ⟨.boxV 3 28 5 (.var 1), (.var 3), none, []⟩, ⟨.mov (.cst (.one (.bool false))), (.var 4), none, []⟩])
 (.seq (.seq (.region [⟨.fieldAddr 0 (.var 2), .loc, none, []⟩, ⟨.load none (.loc 0), .loc, none, []⟩, ⟨.fieldAddr 0 (.var 3), .loc, none, []⟩, ⟨.load none (.loc 2), .loc, none, []⟩, ⟨.bin .neq .num (.loc 1) (.loc 3), (.var 5), none, []⟩])
 (.cond (.var 5) (.seq (.region [⟨.mov (.cst (.one (.bool false))), (.var 4), none, []⟩])
 (.ret))
 (.skip)))
 (.seq (.seq (.region [⟨.fieldAddr 1 (.var 2), .loc, none, []⟩, ⟨.load none (.loc 0), .loc, none, []⟩, ⟨.fieldAddr 1 (.var 3), .loc, none, []⟩, ⟨.load none (.loc 2), .loc, none, []⟩, ⟨.bin .neq .num (.loc 1) (.loc 3), (.var 6), none, []⟩])
 (.cond (.var 6) (.seq (.region [⟨.mov (.cst (.one (.bool false))), (.var 4), none, []⟩])
 (.ret))
 (.skip)))
 (.seq (.seq (.region [⟨.fieldAddr 2 (.var 2), .loc, none, []⟩, ⟨.load none (.loc 0), .loc, none, []⟩, ⟨.fieldAddr 2 (.var 3), .loc, none, []⟩, ⟨.load none (.loc 2), .loc, none, []⟩, ⟨.bin .neq .num (.loc 1) (.loc 3), (.var 7), none, []⟩])
 (.cond (.var 7) (.seq (.region [⟨.mov (.cst (.one (.bool false))), (.var 4), none, []⟩])
 (.ret))
 (.skip)))
 (.seq (.seq (.region [⟨.fieldAddr 3 (.var 2), .loc, none, []⟩, ⟨.load none (.loc 0), .loc, none, []⟩, ⟨.fieldAddr 3 (.var 3), .loc, none, []⟩, ⟨.load none (.loc 2), .loc, none, []⟩, ⟨.bin .neq .num (.loc 1) (.loc 3), (.var 8), none, []⟩])
 (.cond (.var 8) (.seq (.region [⟨.mov (.cst (.one (.bool false))), (.var 4), none, []⟩])
 (.ret))
 (.skip)))
 (.seq (.seq (.region [⟨.fieldAddr 4 (.var 2), .loc, none, []⟩, ⟨.load none (.loc 0), .loc, none, []⟩, ⟨.fieldAddr 4 (.var 3), .loc, none, []⟩, ⟨.load none (.loc 2), .loc, none, []⟩, ⟨.call 40 [.loc 1, .loc 3] false, .loc, none, []⟩, ⟨.not (.loc 4), (.var 9), none, []⟩])
 (.cond (.var 9) (.seq (.region [⟨.mov (.cst (.one (.bool false))), (.var 4), none, []⟩])
 (.ret))
 (.skip)))
 (.seq (.region [⟨.mov (.cst (.one (.bool true))), (.var 4), none, []⟩])
 (.ret))))))), [(.var 4, none)]⟩
def c13 : Cfg := ⟨31, [0, 1, 2, 3, 4, 9, 14, 19, 24, 30], [2, 3], [], [], fun g t => [].contains g && ![].contains t⟩
theorem h13 : Has Try.prog 13 f13 := ⟨by kernel_rfl, c13, Try.f13, by kernel_rfl, by kernel_rfl⟩

/-- loop.example/g00396/laws.eqCoreS -/
def f40 : AFun := ⟨[0, 1], 0,
 .seq (.region [⟨.mov (.cst (.one (.bool false))), (.var 2), none, []⟩])
 (.seq (.seq (.region [⟨.mov (.var 0), .loc, none, []⟩, ⟨.len false (.loc 0), .loc, none, []⟩, ⟨.mov (.var 1), .loc, none, []⟩, ⟨.len false (.loc 2), .loc, none, []⟩, ⟨.bin .neq .num (.loc 1) (.loc 3), (.var 4), none, []⟩])
 (.cond (.var 4) (.seq (.region [⟨.mov (.cst (.one (.bool false))), (.var 2), none, []⟩])
 (.ret))
 (.skip)))
 (.seq (.seq (.region [⟨.mov (.cst (.one (.int .i64 0))), (.var 3), none, []⟩])
 (.block 0 (.loop (.seq (.seq (.region [⟨.mov (.var 3), .loc, none, []⟩, ⟨.mov (.var 0), .loc, none, []⟩, ⟨.len false (.loc 1), .loc, none, []⟩, ⟨.bin .lss .num (.loc 0) (.loc 2), (.var 5), none, []⟩])
 (.cond (.var 5) (.skip)
 (.exit 0)))
 (.seq (.block 1 (.seq (.region [⟨.mov (.var 0), .loc, none, []⟩, ⟨.mov (.var 3), .loc, none, [0]⟩, ⟨.indexAddr 5 (.loc 0) (.loc 1), .loc, none, []⟩, ⟨.load (some (5)) (.loc 2), .loc, none, []⟩, ⟨.mov (.var 1), .loc, none, [0, 1, 2, 3]⟩, ⟨.mov (.var 3), .loc, none, [0, 1, 2, 3, 4]⟩, ⟨.indexAddr 5 (.loc 4) (.loc 5), .loc, none, [0, 1, 2, 3]⟩, ⟨.load (some (5)) (.loc 6), .loc, none, [0, 1, 2, 3]⟩, ⟨.call 13 [.loc 3, .loc 7] false, .loc, none, []⟩, ⟨.not (.loc 8), (.var 6), none, []⟩])
 (.cond (.var 6) (.seq (.region [⟨.mov (.cst (.one (.bool false))), (.var 2), none, []⟩])
 (.ret))
 (.skip))))
 (.region [⟨.mov (.var 3), .loc, none, []⟩, ⟨.bin .add .num (.loc 0) (.cst (.one (.int .i64 1))), .loc, none, []⟩, ⟨.mov (.loc 1), (.var 3), none, []⟩]))))))
 (.seq (.region [⟨.mov (.cst (.one (.bool true))), (.var 2), none, []⟩])
 (.ret)))), [(.var 2, none)]⟩
def c40 : Cfg := ⟨27, [0, 1, 4, 5, 10, 14, 26], [], [], [], fun g t => [].contains g && ![].contains t⟩
theorem h40 : Has Try.prog 40 f40 := ⟨by kernel_rfl, c40, Try.f40, by kernel_rfl, by kernel_rfl⟩

/-- loop.example/g00396/laws.markCore -/
def f14 : AFun := ⟨[0, 1], 0,
 .seq (.region [⟨.boxV 2 28 5 (.var 0), (.var 2), none, []⟩, ⟨.mov (.cst (.one (.int .i64 0))), (.var 3), none, []⟩])
 (.seq (.region [⟨.fieldAddr 4 (.var 2), .loc, none, []⟩, ⟨.load none (.loc 0), .loc, none, []⟩, ⟨.mov (.var 1), .loc, none, []⟩, ⟨.call 41 [.loc 1, .loc 2] true, .loc, none, []⟩, ⟨.mov (.loc 3), (.var 1), none, []⟩])
 (.seq (.region [⟨.mov (.var 1), .loc, none, []⟩, ⟨.mov (.loc 0), (.var 3), none, []⟩])
 (.ret))), [(.var 3, none)]⟩
def c14 : Cfg := ⟨10, [0, 1, 2, 4], [2], [], [], fun g t => [41].contains g && ![].contains t⟩
theorem h14 : Has Try.prog 14 f14 := ⟨by kernel_rfl, c14, Try.f14, by kernel_rfl, by kernel_rfl⟩

/-- loop.example/g00396/laws.markCoreS -/
def f41 : AFun := ⟨[0, 1], 0,
 .seq (.region [⟨.mov (.cst (.one (.int .i64 0))), (.var 2), none, []⟩])
 (.seq (.seq (.region [⟨.mov (.cst (.one (.int .i64 0))), (.var 3), none, []⟩])
 (.block 0 (.loop (.seq (.seq (.region [⟨.mov (.var 3), .loc, none, []⟩, ⟨.mov (.var 0), .loc, none, []⟩, ⟨.len false (.loc 1), .loc, none, []⟩, ⟨.bin .lss .num (.loc 0) (.loc 2), (.var 4), none, []⟩])
 (.cond (.var 4) (.skip)
 (.exit 0)))
 (.seq (.block 1 (.seq (.region [⟨.mov (.var 0), .loc, none, []⟩, ⟨.mov (.var 3), .loc, none, []⟩, ⟨.mov (.var 1), .loc, none, []⟩, ⟨.indexAddr 5 (.loc 0) (.loc 1), .loc, none, []⟩, ⟨.fieldAddr 0 (.loc 3), .loc, none, []⟩, ⟨.store 1 (.loc 4) (.loc 2), .no, none, []⟩])
 (.seq (.region [⟨.mov (.var 1), .loc, none, []⟩, ⟨.bin .add .num (.loc 0) (.cst (.one (.int .i64 1))), .loc, none, []⟩, ⟨.mov (.loc 1), (.var 1), none, []⟩])
 (.seq (.region [⟨.mov (.var 0), .loc, none, []⟩, ⟨.mov (.var 3), .loc, none, []⟩, ⟨.mov (.var 1), .loc, none, []⟩, ⟨.indexAddr 5 (.loc 0) (.loc 1), .loc, none, []⟩, ⟨.fieldAddr 1 (.loc 3), .loc, none, []⟩, ⟨.store 1 (.loc 4) (.loc 2), .no, none, []⟩])
 (.seq (.region [⟨.mov (.var 1), .loc, none, []⟩, ⟨.bin .add .num (.loc 0) (.cst (.one (.int .i64 1))), .loc, none, []⟩, ⟨.mov (.loc 1), (.var 1), none, []⟩])
 (.seq (.region [⟨.mov (.var 0), .loc, none, []⟩, ⟨.mov (.var 3), .loc, none, []⟩, ⟨.mov (.var 1), .loc, none, []⟩, ⟨.call 79 [.loc 2] false, .loc, none, []⟩, ⟨.indexAddr 5 (.loc 0) (.loc 1), .loc, none, []⟩, ⟨.fieldAddr 2 (.loc 4), .loc, none, []⟩, ⟨.store 1 (.loc 5) (.loc 3), .no, none, []⟩])
 (.seq (.region [⟨.mov (.var 1), .loc, none, []⟩, ⟨.bin .add .num (.loc 0) (.cst (.one (.int .i64 1))), .loc, none, []⟩, ⟨.mov (.loc 1), (.var 1), none, []⟩])
 (.seq (.region [⟨.mov (.var 0), .loc, none, []⟩, ⟨.mov (.var 3), .loc, none, []⟩, ⟨.mov (.var 1), .loc, none, []⟩, ⟨.call 79 [.loc 2] false, .loc, none, []⟩, ⟨.indexAddr 5 (.loc 0) (.loc 1), .loc, none, []⟩, ⟨.fieldAddr 3 (.loc 4), .loc, none, []⟩, ⟨.store 1 (.loc 5) (.loc 3), .no, none, []⟩])
 (.seq (.region [⟨.mov (.var 1), .loc, none, []⟩, ⟨.bin .add .num (.loc 0) (.cst (.one (.int .i64 1))), .loc, none, []⟩, ⟨.mov (.loc 1), (.var 1), none, []⟩])
 (.region [⟨.mov (.var 0), .loc, none, []⟩, ⟨.mov (.var 3), .loc, none, []⟩, ⟨.indexAddr 5 (.loc 0) (.loc 1), .loc, none, []⟩, ⟨.fieldAddr 4 (.loc 2), .loc, none, []⟩, ⟨.load none (.loc 3), .loc, none, []⟩, ⟨.mov (.var 1), .loc, none, []⟩, ⟨.call 41 [.loc 4, .loc 5] true, .loc, none, []⟩, ⟨.mov (.loc 6), (.var 1), none, []⟩]))))))))))
 (.region [⟨.mov (.var 3), .loc, none, []⟩, ⟨.bin .add .num (.loc 0) (.cst (.one (.int .i64 1))), .loc, none, []⟩, ⟨.mov (.loc 1), (.var 3), none, []⟩]))))))
 (.seq (.region [⟨.mov (.var 1), .loc, none, []⟩, ⟨.mov (.loc 0), (.var 2), none, []⟩])
 (.ret))), [(.var 2, none)]⟩
def c41 : Cfg := ⟨50, [0, 1, 4, 5, 9], [], [], [], fun g t => [41].contains g && ![].contains t⟩
theorem h41 : Has Try.prog 41 f41 := ⟨by kernel_rfl, c41, Try.f41, by kernel_rfl, by kernel_rfl⟩

/-- loop.example/g00396/laws.heldCore -/
def f15 : AFun := ⟨[0, 1], 0,
 .seq (.region [⟨.boxV 2 28 5 (.var 0), (.var 2), none, []⟩, ⟨.mov (.cst (.one (.int .i64 0))), (.var 3), none, []⟩])
 (.seq (.region [⟨.fieldAddr 4 (.var 2), .loc, none, []⟩, ⟨.load none (.loc 0), .loc, none, []⟩, ⟨.mov (.var 1), .loc, none, []⟩, ⟨.call 42 [.loc 1, .loc 2] false, .loc, none, []⟩, ⟨.mov (.loc 3), (.var 1), none, []⟩])
 (.seq (.seq (.region [⟨.mov (.var 1), .loc, none, []⟩, ⟨.bin .lss .num (.loc 0) (.cst (.one (.int .i64 0))), (.var 4), none, []⟩])
 (.cond (.var 4) (.seq (.region [⟨.mov (.cst (.one (.int .i64 (-1)))), (.var 3), none, []⟩])
 (.ret))
 (.skip)))
 (.seq (.region [⟨.mov (.var 1), .loc, none, []⟩, ⟨.mov (.loc 0), (.var 3), none, []⟩])
 (.ret)))), [(.var 3, none)]⟩
def c15 : Cfg := ⟨12, [0, 1, 2, 4, 10], [2], [], [], fun g t => [].contains g && ![].contains t⟩
theorem h15 : Has Try.prog 15 f15 := ⟨by kernel_rfl, c15, Try.f15, by kernel_rfl, by kernel_rfl⟩

/-- loop.example/g00396/laws.heldCoreS -/
def f42 : AFun := ⟨[0, 1], 0,
 .seq (.region [⟨.mov (.cst (.one (.int .i64 0))), (.var 2), none, []⟩])
 (.seq (.seq (.region [⟨.mov (.cst (.one (.int .i64 0))), (.var 3), none, []⟩])
 (.block 0 (.loop (.seq (.seq (.region [⟨.mov (.var 3), .loc, none, []⟩, ⟨.mov (.var 0), .loc, none, []⟩, ⟨.len false (.loc 1), .loc, none, []⟩, ⟨.bin .lss .num (.loc 0) (.loc 2), (.var 4), none, []⟩])
 (.cond (.var 4) (.skip)
 (.exit 0)))
 (.seq (.block 1 (.seq (.seq (.region [⟨.mov (.var 0), .loc, none, []⟩, ⟨.mov (.var 3), .loc, none, []⟩, ⟨.indexAddr 5 (.loc 0) (.loc 1), .loc, none, []⟩, ⟨.fieldAddr 0 (.loc 2), .loc, none, []⟩, ⟨.load none (.loc 3), .loc, none, []⟩, ⟨.mov (.var 1), .loc, none, []⟩, ⟨.bin .neq .num (.loc 4) (.loc 5), (.var 5), none, []⟩])
 (.cond (.var 5) (.seq (.region [⟨.mov (.cst (.one (.int .i64 (-1)))), (.var 2), none, []⟩])
 (.ret))
 (.skip)))
 (.seq (.region [⟨.mov (.var 1), .loc, none, []⟩, ⟨.bin .add .num (.loc 0) (.cst (.one (.int .i64 1))), .loc, none, []⟩, ⟨.mov (.loc 1), (.var 1), none, []⟩])
 (.seq (.seq (.region [⟨.mov (.var 0), .loc, none, []⟩, ⟨.mov (.var 3), .loc, none, []⟩, ⟨.indexAddr 5 (.loc 0) (.loc 1), .loc, none, []⟩, ⟨.fieldAddr 1 (.loc 2), .loc, none, []⟩, ⟨.load none (.loc 3), .loc, none, []⟩, ⟨.mov (.var 1), .loc, none, []⟩, ⟨.bin .neq .num (.loc 4) (.loc 5), (.var 6), none, []⟩])
 (.cond (.var 6) (.seq (.region [⟨.mov (.cst (.one (.int .i64 (-1)))), (.var 2), none, []⟩])
 (.ret))
 (.skip)))
 (.seq (.region [⟨.mov (.var 1), .loc, none, []⟩, ⟨.bin .add .num (.loc 0) (.cst (.one (.int .i64 1))), .loc, none, []⟩, ⟨.mov (.loc 1), (.var 1), none, []⟩])
 (.seq (.seq (.region [⟨.mov (.var 0), .loc, none, []⟩, ⟨.mov (.var 3), .loc, none, [0]⟩, ⟨.indexAddr 5 (.loc 0) (.loc 1), .loc, none, []⟩, ⟨.fieldAddr 2 (.loc 2), .loc, none, []⟩, ⟨.load none (.loc 3), .loc, none, []⟩, ⟨.mov (.var 1), .loc, none, [0, 1, 2, 3, 4]⟩, ⟨.call 79 [.loc 5] false, .loc, none, [0, 1, 2, 3, 4]⟩, ⟨.bin .neq .num (.loc 4) (.loc 6), (.var 7), none, []⟩])
 (.cond (.var 7) (.seq (.region [⟨.mov (.cst (.one (.int .i64 (-1)))), (.var 2), none, []⟩])
 (.ret))
 (.skip)))
 (.seq (.region [⟨.mov (.var 1), .loc, none, []⟩, ⟨.bin .add .num (.loc 0) (.cst (.one (.int .i64 1))), .loc, none, []⟩, ⟨.mov (.loc 1), (.var 1), none, []⟩])
 (.seq (.seq (.region [⟨.mov (.var 0), .loc, none, []⟩, ⟨.mov (.var 3), .loc, none, [0]⟩, ⟨.indexAddr 5 (.loc 0) (.loc 1), .loc, none, []⟩, ⟨.fieldAddr 3 (.loc 2), .loc, none, []⟩, ⟨.load none (.loc 3), .loc, none, []⟩, ⟨.mov (.var 1), .loc, none, [0, 1, 2, 3, 4]⟩, ⟨.call 79 [.loc 5] false, .loc, none, [0, 1, 2, 3, 4]⟩, ⟨.bin .neq .num (.loc 4) (.loc 6), (.var 8), none, []⟩])
 (.cond (.var 8) (.seq (.region [⟨.mov (.cst (.one (.int .i64 (-1)))), (.var 2), none, []⟩])
 (.ret))
 (.skip)))
 (.seq (.region [⟨.mov (.var 1), .loc, none, []⟩, ⟨.bin .add .num (.loc 0) (.cst (.one (.int .i64 1))), .loc, none, []⟩, ⟨.mov (.loc 1), (.var 1), none, []⟩])
 (.seq (.region [⟨.mov (.var 0), .loc, none, []⟩, ⟨.mov (.var 3), .loc, none, []⟩, ⟨.indexAddr 5 (.loc 0) (.loc 1), .loc, none, []⟩, ⟨.fieldAddr 4 (.loc 2), .loc, none, []⟩, ⟨.load none (.loc 3), .loc, none, []⟩, ⟨.mov (.var 1), .loc, none, []⟩, ⟨.call 42 [.loc 4, .loc 5] false, .loc, none, []⟩, ⟨.mov (.loc 6), (.var 1), none, []⟩])
 (.seq (.region [⟨.mov (.var 1), .loc, none, []⟩, ⟨.bin .lss .num (.loc 0) (.cst (.one (.int .i64 0))), (.var 9), none, []⟩])
 (.cond (.var 9) (.seq (.region [⟨.mov (.cst (.one (.int .i64 (-1)))), (.var 2), none, []⟩])
 (.ret))
 (.skip)))))))))))))
 (.region [⟨.mov (.var 3), .loc, none, []⟩, ⟨.bin .add .num (.loc 0) (.cst (.one (.int .i64 1))), .loc, none, []⟩, ⟨.mov (.loc 1), (.var 3), none, []⟩]))))))
 (.seq (.region [⟨.mov (.var 1), .loc, none, []⟩, ⟨.mov (.loc 0), (.var 2), none, []⟩])
 (.ret))), [(.var 2, none)]⟩
def c42 : Cfg := ⟨60, [0, 1, 4, 5, 9, 18, 27, 37, 47, 58], [], [], [], fun g t => [].contains g && ![].contains t⟩
theorem h42 : Has Try.prog 42 f42 := ⟨by kernel_rfl, c42, Try.f42, by kernel_rfl, by kernel_rfl⟩

/-- loop.example/g00396/laws.markText -/
def f79 : AFun := ⟨[0], 0,
 .seq (.region [⟨.mov (.cst (.one (.str []))), (.var 1), none, []⟩])
 (.seq (.seq (.region [⟨.mov (.var 0), .loc, none, []⟩, ⟨.bin .leq .num (.loc 0) (.cst (.one (.int .i64 0))), (.var 3), none, []⟩])
 (.cond (.var 3) (.seq (.region [⟨.mov (.cst (.one (.str [109, 48]))), (.var 1), none, []⟩])
 (.ret))
 (.skip)))
 (.seq (.region [⟨.mov (.cst (.one (.str []))), (.var 2), none, []⟩])
 (.seq (.block 0 (.loop (.seq (.seq (.region [⟨.mov (.var 0), .loc, none, []⟩, ⟨.bin .gtr .num (.loc 0) (.cst (.one (.int .i64 0))), (.var 4), none, []⟩])
 (.cond (.var 4) (.skip)
 (.exit 0)))
 (.block 1 (.seq (.region [⟨.mov (.var 0), .loc, none, []⟩, ⟨.bin .rem .num (.loc 0) (.cst (.one (.int .i64 10))), .loc, none, []⟩, ⟨.bin .add .num (.cst (.one (.int .i64 48))) (.loc 1), .loc, none, []⟩, ⟨.conv .u8 (.loc 2), .loc, none, []⟩, ⟨.litD 5 1 1 [.int .u8 0] [(0, .loc 3)], .loc, none, []⟩, ⟨.strOf (.loc 4), .loc, none, []⟩, ⟨.mov (.var 2), .loc, none, []⟩, ⟨.bin .add .num (.loc 5) (.loc 6), .loc, none, []⟩, ⟨.mov (.loc 7), (.var 2), none, []⟩])
 (.region [⟨.mov (.var 0), .loc, none, []⟩, ⟨.bin .quo .num (.loc 0) (.cst (.one (.int .i64 10))), .loc, none, []⟩, ⟨.mov (.loc 1), (.var 0), none, []⟩]))))))
 (.seq (.region [⟨.mov (.var 2), .loc, none, []⟩, ⟨.bin .add .num (.cst (.one (.str [109]))) (.loc 0), .loc, none, []⟩, ⟨.mov (.loc 1), (.var 1), none, []⟩])
 (.ret))))), [(.var 1, none)]⟩
def c79 : Cfg := ⟨20, [0, 2, 3, 5, 7], [], [], [12], fun g t => [].contains g && ![].contains t⟩
theorem h79 : Has Try.prog 79 f79 := ⟨by kernel_rfl, c79, Try.f79, by kernel_rfl, by kernel_rfl⟩

/-- loop.example/g00396/laws.FnExactPutFor -/
def f3 : AFun := ⟨[0, 1, 2], 0,
 .seq (.region [⟨.boxV 3 24 5 (.var 0), (.var 3), none, []⟩, ⟨.boxV 4 24 5 (.var 2), (.var 4), none, []⟩, ⟨.mov (.cst (.one (.bool false))), (.var 5), none, []⟩])
 (.seq (.seq (.region [⟨.mov (.var 1), .loc, none, []⟩, ⟨.len true (.loc 0), .loc, none, []⟩, ⟨.bin .gtr .num (.loc 1) (.cst (.one (.int .i64 1048576))), (.var 15), none, []⟩])
 (.cond (.var 15) (.seq (.region [⟨.mov (.cst (.one (.bool true))), (.var 5), none, []⟩])
 (.ret))
 (.skip)))
 (.seq (.region [⟨.mov (.cst (.one (.int .i64 1048576))), (.var 6), none, []⟩])
 (.seq (.region [⟨.load (some (5)) (.var 3), .loc, none, []⟩, ⟨.mov (.var 6), .loc, none, []⟩, ⟨.call 9 [.loc 0, .loc 1] false, .loc, none, []⟩, ⟨.mov (.loc 2), (.var 6), none, []⟩])
 (.seq (.seq (.region [⟨.mov (.var 6), .loc, none, []⟩, ⟨.bin .lss .num (.loc 0) (.cst (.one (.int .i64 0))), (.var 16), none, []⟩])
 (.cond (.var 16) (.seq (.region [⟨.mov (.cst (.one (.bool true))), (.var 5), none, []⟩])
 (.ret))
 (.skip)))
 (.seq (.region [⟨.load (some (5)) (.var 4), .loc, none, []⟩, ⟨.mov (.var 6), .loc, none, []⟩, ⟨.call 9 [.loc 0, .loc 1] false, .loc, none, []⟩, ⟨.mov (.loc 2), (.var 6), none, []⟩])
 (.seq (.seq (.region [⟨.mov (.var 6), .loc, none, []⟩, ⟨.bin .lss .num (.loc 0) (.cst (.one (.int .i64 0))), (.var 17), none, []⟩])
 (.cond (.var 17) (.seq (.region [⟨.mov (.cst (.one (.bool true))), (.var 5), none, []⟩])
 (.ret))
 (.skip)))
 (.seq (.region [⟨.load (some (5)) (.var 3), .loc, none, []⟩, ⟨.call 11 [.loc 0] false, .loc, none, []⟩, ⟨.mov (.var 1), .loc, none, [0, 1]⟩, ⟨.load (some (5)) (.var 4), .loc, none, [0, 1, 2]⟩, ⟨.call 11 [.loc 3] false, .loc, none, [2]⟩, ⟨.call 10 [.loc 1, .loc 2, .loc 4] false, .loc, none, []⟩, ⟨.boxV 7 28 5 (.cst (.agg [.int .i64 0, .int .i64 0, .str [], .str [], .nils])), (.var 7), none, [0, 1, 2, 3, 4, 5]⟩, ⟨.store 5 (.var 7) (.loc 5), .no, none, []⟩])
 (.seq (.region [⟨.load (some (5)) (.var 3), .loc, none, []⟩, ⟨.call 11 [.loc 0] true, .loc, none, []⟩, ⟨.boxV 8 28 5 (.cst (.agg [.int .i64 0, .int .i64 0, .str [], .str [], .nils])), (.var 8), none, []⟩, ⟨.store 5 (.var 8) (.loc 1), .no, none, []⟩])
 (.seq (.region [⟨.load (some (5)) (.var 4), .loc, none, []⟩, ⟨.call 11 [.loc 0] true, .loc, none, []⟩, ⟨.boxV 9 28 5 (.cst (.agg [.int .i64 0, .int .i64 0, .str [], .str [], .nils])), (.var 9), none, []⟩, ⟨.store 5 (.var 9) (.loc 1), .no, none, []⟩])
 (.seq (.region [⟨.load (some (5)) (.var 8), .loc, none, []⟩, ⟨.mov (.var 1), .loc, none, []⟩, ⟨.load (some (5)) (.var 9), .loc, none, []⟩, ⟨.call 12 [.loc 0, .loc 1, .loc 2] true, .loc, none, []⟩, ⟨.boxV 10 28 5 (.cst (.agg [.int .i64 0, .int .i64 0, .str [], .str [], .nils])), (.var 10), none, []⟩, ⟨.store 5 (.var 10) (.loc 3), .no, none, []⟩])
 (.seq (.seq (.region [⟨.load (some (5)) (.var 10), .loc, none, []⟩, ⟨.load (some (5)) (.var 7), .loc, none, []⟩, ⟨.call 13 [.loc 0, .loc 1] false, .loc, none, []⟩, ⟨.not (.loc 2), (.var 18), none, []⟩])
 (.cond (.var 18) (.seq (.region [⟨.mov (.cst (.one (.bool false))), (.var 5), none, []⟩])
 (.ret))
 (.skip)))
 (.seq (.seq (.region [⟨.load (some (5)) (.var 8), .loc, none, []⟩, ⟨.load (some (5)) (.var 3), .loc, none, [0]⟩, ⟨.call 11 [.loc 1] false, .loc, none, [0]⟩, ⟨.call 13 [.loc 0, .loc 2] false, .loc, none, []⟩, ⟨.not (.loc 3), (.var 19), none, []⟩])
 (.cond (.var 19) (.seq (.region [⟨.mov (.cst (.one (.bool false))), (.var 5), none, []⟩])
 (.ret))
 (.skip)))
 (.seq (.seq (.region [⟨.load (some (5)) (.var 9), .loc, none, []⟩, ⟨.load (some (5)) (.var 4), .loc, none, [0]⟩, ⟨.call 11 [.loc 1] false, .loc, none, [0]⟩, ⟨.call 13 [.loc 0, .loc 2] false, .loc, none, []⟩, ⟨.not (.loc 3), (.var 20), none, []⟩])
 (.cond (.var 20) (.seq (.region [⟨.mov (.cst (.one (.bool false))), (.var 5), none, []⟩])
 (.ret))
 (.skip)))
 (.seq (.region [⟨.mov (.cst (.one (.int .i64 1))), (.var 11), none, []⟩])
 (.seq (.region [⟨.load (some (5)) (.var 8), .loc, none, []⟩, ⟨.mov (.var 11), .loc, none, []⟩, ⟨.call 14 [.loc 0, .loc 1] true, .loc, none, []⟩, ⟨.mov (.loc 2), (.var 11), none, []⟩])
 (.seq (.region [⟨.load (some (5)) (.var 9), .loc, none, []⟩, ⟨.mov (.var 11), .loc, none, []⟩, ⟨.call 14 [.loc 0, .loc 1] true, .loc, none, []⟩, ⟨.mov (.loc 2), (.var 11), none, []⟩])
 (.seq (.seq (.region [⟨.mov (.var 11), .loc, none, []⟩, ⟨.bin .lss .num (.loc 0) (.cst (.one (.int .i64 0))), .loc, none, []⟩, ⟨.mov (.loc 1), .loc, none, []⟩, ⟨.load (some (5)) (.var 10), .loc, (some (.loc 2, false)), []⟩, ⟨.load (some (5)) (.var 7), .loc, (some (.loc 2, false)), []⟩, ⟨.call 13 [.loc 3, .loc 4] false, .loc, (some (.loc 2, false)), []⟩, ⟨.not (.loc 5), .loc, (some (.loc 2, false)), []⟩, ⟨.pick (.loc 2) (.cst (.one (.bool true))) (.loc 6), (.var 21), none, []⟩])
 (.cond (.var 21) (.seq (.region [⟨.mov (.cst (.one (.bool false))), (.var 5), none, []⟩])
 (.ret))
 (.skip)))
 (.seq (.region [⟨.mov (.cst (.one (.int .i64 1))), (.var 12), none, []⟩])
 (.seq (.region [⟨.load (some (5)) (.var 10), .loc, none, []⟩, ⟨.mov (.var 12), .loc, none, []⟩, ⟨.call 14 [.loc 0, .loc 1] true, .loc, none, []⟩, ⟨.mov (.loc 2), (.var 12), none, []⟩])
 (.seq (.region [⟨.mov (.cst (.one (.int .i64 1))), (.var 13), none, []⟩])
 (.seq (.region [⟨.load (some (5)) (.var 10), .loc, none, []⟩, ⟨.mov (.var 13), .loc, none, []⟩, ⟨.call 15 [.loc 0, .loc 1] false, .loc, none, []⟩, ⟨.mov (.loc 2), (.var 13), none, []⟩])
 (.seq (.seq (.region [⟨.mov (.var 13), .loc, none, []⟩, ⟨.bin .lss .num (.loc 0) (.cst (.one (.int .i64 0))), (.var 22), none, []⟩])
 (.cond (.var 22) (.seq (.region [⟨.mov (.cst (.one (.bool false))), (.var 5), none, []⟩])
 (.ret))
 (.skip)))
 (.seq (.seq (.region [⟨.mov (.var 13), .loc, none, []⟩, ⟨.mov (.var 12), .loc, none, []⟩, ⟨.bin .neq .num (.loc 0) (.loc 1), (.var 23), none, []⟩])
 (.cond (.var 23) (.seq (.region [⟨.mov (.cst (.one (.bool false))), (.var 5), none, []⟩])
 (.ret))
 (.skip)))
 (.seq (.region [⟨.load (some (5)) (.var 3), .loc, none, []⟩, ⟨.call 11 [.loc 0] false, .loc, none, []⟩, ⟨.mov (.var 1), .loc, none, [0, 1]⟩, ⟨.load (some (5)) (.var 4), .loc, none, [0, 1, 2]⟩, ⟨.call 11 [.loc 3] false, .loc, none, [2]⟩, ⟨.call 12 [.loc 1, .loc 2, .loc 4] false, .loc, none, []⟩, ⟨.boxV 14 28 5 (.cst (.agg [.int .i64 0, .int .i64 0, .str [], .str [], .nils])), (.var 14), none, [0, 1, 2, 3, 4, 5]⟩, ⟨.store 5 (.var 14) (.loc 5), .no, none, []⟩])
 (.seq (.seq (.region [⟨.load (some (5)) (.var 14), .loc, none, []⟩, ⟨.load (some (5)) (.var 7), .loc, none, []⟩, ⟨.call 13 [.loc 0, .loc 1] false, .loc, none, []⟩, ⟨.not (.loc 2), (.var 24), none, []⟩])
 (.cond (.var 24) (.seq (.region [⟨.mov (.cst (.one (.bool false))), (.var 5), none, []⟩])
 (.ret))
 (.skip)))
 (.seq (.region [⟨.mov (.cst (.one (.int .i64 1))), (.var 13), none, []⟩])
 (.seq (.region [⟨.load (some (5)) (.var 10), .loc, none, []⟩, ⟨.mov (.var 13), .loc, none, []⟩, ⟨.call 15 [.loc 0, .loc 1] false, .loc, none, []⟩, ⟨.mov (.loc 2), (.var 13), none, []⟩])
 (.seq (.seq (.region [⟨.mov (.var 13), .loc, none, []⟩, ⟨.bin .lss .num (.loc 0) (.cst (.one (.int .i64 0))), (.var 25), none, []⟩])
 (.cond (.var 25) (.seq (.region [⟨.mov (.cst (.one (.bool false))), (.var 5), none, []⟩])
 (.ret))
 (.skip)))
 (.seq (.seq (.region [⟨.mov (.var 13), .loc, none, []⟩, ⟨.mov (.var 12), .loc, none, []⟩, ⟨.bin .neq .num (.loc 0) (.loc 1), (.var 26), none, []⟩])
 (.cond (.var 26) (.seq (.region [⟨.mov (.cst (.one (.bool false))), (.var 5), none, []⟩])
 (.ret))
 (.skip)))
 (.seq (.region [⟨.mov (.cst (.one (.bool true))), (.var 5), none, []⟩])
 (.ret))))))))))))))))))))))))))))))), [(.var 5, none)]⟩
def c3 : Cfg := ⟨100, [0, 1, 2, 3, 5, 6, 7, 8, 9, 10, 11, 12, 13, 14, 15, 18, 23, 28, 46, 51, 56, 70, 78, 81, 91, 96, 99], [3, 5, 8, 9, 10, 11, 15], [], [], fun g t => [11, 12, 14].contains g && ![30, 33, 49, 54, 83, 86, 87].contains t⟩
theorem h3 : Has Try.prog 3 f3 := ⟨by kernel_rfl, c3, Try.f3, by kernel_rfl, by kernel_rfl⟩
end Go.Proofs.Ytnnejoalamkkpaa

namespace Go.Proofs.Ytnnejoalamkkpaa
open Go Go.AI Go.Proofs
set_option linter.unusedSimpArgs false

mutual
def szM : Cr → Int → Int
  | .mk _ _ s t k, l => if l - s.length < 0 then -1 else if l - s.length - t.length < 0 then -1 else
      if l - s.length - t.length - k.length < 0 then -1 else szML k (l - s.length - t.length - k.length)
def szML : List Cr → Int → Int
  | [], l => l
  | x :: r, l => if szM x l < 0 then -1 else szML r (szM x l)
end
def szS (k : List Cr) (l : Int) : Int := if l - k.length < 0 then -1 else szML k (l - k.length)

mutual
theorem szM_le : ∀ (x : Cr) (l : Int), 0 ≤ l → -1 ≤ szM x l ∧ szM x l ≤ l
  | .mk a b s t k, l, h => by
    simp only [szM]
    repeat' split
    all_goals first | omega | (have := szML_le k _ (by omega : 0 ≤ l - s.length - t.length - k.length); omega)
theorem szML_le : ∀ (x : List Cr) (l : Int), 0 ≤ l → -1 ≤ szML x l ∧ szML x l ≤ l
  | [], l, h => by simp [szML]; omega
  | x :: r, l, h => by
    simp only [szML]
    have := szM_le x l h
    split
    · omega
    · have := szML_le r (szM x l) (by omega); omega
end

theorem szS_pv (k : List Cr) (hk : k.length < 1000000000000000) (ih : ∀ x ∈ k, ∀ l : Int, 0 ≤ l → l ≤ 1048576 → PV Try.prog 9 [.agg x.enc, .one (.int .i64 l)] (.one (.int .i64 (szM x l)))) (l : Int) (h0 : 0 ≤ l) (h1 : l ≤ 1048576) :
    PV Try.prog 34 [.one (encL k), .one (.int .i64 l)] (.one (.int .i64 (szS k l))) := by
  generalize hr : szS k l = r
  refine h34.pvq ⟨rfl, rfl, ?_⟩
  have e1 : IntKind.i64.wrap (l - k.length) = l - k.length := wrapI ⟨by omega, by omega⟩
  simp [f34, encL, e1]
  split
  · rw [← hr, szS, if_pos (by omega)]
  · rename_i c1
    refine w_for (fun n st => ∃ vars, st = ⟨vars, Heap.empty, 0⟩ ∧ ∃ (i : Nat), i ≤ k.length ∧ n = k.length - i ∧ vars.get 0 = some (.one (.dv (k.map Cr.enc))) ∧
      (∃ acc : Int, 0 ≤ acc ∧ acc ≤ 1048576 ∧ vars.get 1 = some (.one (.int .i64 acc)) ∧ szML (k.drop i) acc = szML k (l - k.length)) ∧ vars.get 3 = some (.one (.int .i64 i)) ∧ NB vars [2, 5, 6]) k.length ?_ ?_
    · exact ⟨_, rfl, 0, by simp, by simp, by simp, ⟨l - k.length, by omega, by omega, by simp, by simp⟩, by simp, by simp⟩
    · rintro J hJ n _ ⟨vars, rfl, i, hi, rfl, v0, ⟨acc, a0, a1, v1, hacc⟩, v3, nb⟩
      simp at nb
      by_cases hlt : i < k.length
      · have hget : (k.map Cr.enc)[i]? = some (Cr.enc k[i]) := by simp [hlt]
        simp [v0, v1, v3, nb, hlt, hget]
        refine callP_of (ih _ (List.getElem_mem hlt) acc a0 a1) ?_
        have hs := szM_le k[i] acc a0
        have hw : IntKind.i64.wrap ((i : Int) + 1) = ((i + 1 : Nat) : Int) := by rw [wrapI ⟨by omega, by omega⟩]; simp
        have hd : k.drop i = k[i] :: k.drop (i + 1) := List.drop_eq_getElem_cons hlt
        rw [hd, szML] at hacc
        simp [v0, v1, v3, nb, hw]
        split
        · rename_i c2; rw [if_pos c2] at hacc; rw [← hr, szS, if_neg (by omega), ← hacc]
        · rename_i c2; rw [if_neg c2] at hacc
          subst hJ
          exact ⟨k.length - (i + 1), by omega, _, rfl, i + 1, by omega, rfl, by simp [v0], ⟨szM k[i] acc, by omega, by omega, by simp, hacc⟩, by simp, by simp [nb]⟩
      · have he : i = k.length := by omega
        subst he
        simp only [List.drop_length, szML] at hacc
        simp [v0, v1, v3, nb, ← hr, szS]
        rw [if_neg (by omega)]; exact hacc

theorem sz_pv : ∀ (x : Cr) (l : Int), x.lim → 0 ≤ l → l ≤ 1048576 → PV Try.prog 9 [.agg x.enc, .one (.int .i64 l)] (.one (.int .i64 (szM x l)))
  | .mk a b s t k, l, hw, h0, h1 => by
    simp only [Cr.lim] at hw
    obtain ⟨hw1, hw2, hw3, hw4⟩ := hw
    have ih : ∀ x ∈ k, ∀ l : Int, 0 ≤ l → l ≤ 1048576 → PV Try.prog 9 [.agg x.enc, .one (.int .i64 l)] (.one (.int .i64 (szM x l))) := fun x hx l a0 a1 => sz_pv x l (limL_mem hw4 hx) a0 a1
    generalize hr : szM (.mk a b s t k) l = r
    refine h9.pvq ⟨rfl, rfl, ?_⟩
    have e1 : IntKind.i64.wrap (l - s.length) = l - s.length := wrapI ⟨by omega, by omega⟩
    have e2 : IntKind.i64.wrap (l - s.length - t.length) = l - s.length - t.length := wrapI ⟨by omega, by omega⟩
    simp [f9, enc_mk, encL, e1, e2]
    rw [szM] at hr
    split
    · rw [← hr, if_pos (by omega)]
    split
    · rw [← hr, if_neg (by omega), if_pos (by omega)]
    refine callP_of (szS_pv k (by omega) ih (l - s.length - t.length) (by omega) (by omega)) ?_
    rw [if_neg (by omega), if_neg (by omega)] at hr
    simp [szS, hr]
    intro hn
    by_cases c3 : l - s.length - t.length - k.length < 0
    · rw [← hr, if_pos c3]
    · rw [if_neg c3] at hr; have := szML_le k (l - s.length - t.length - k.length) (by omega); omega

/-! what passes is small -/
mutual
theorem szM_wt : ∀ (x : Cr) (l : Int), 0 ≤ szM x l → 0 ≤ l → (x.wt : Int) + szM x l ≤ l + 1
  | .mk a b s t k, l, h, h0 => by
    rw [wt_mk]
    rw [szM] at h ⊢
    split at h
    · omega
    split at h
    · omega
    split at h
    · omega
    rw [if_neg (by assumption), if_neg (by assumption), if_neg (by assumption)]
    have := szML_wt k (l - s.length - t.length - k.length) h (by omega)
    omega
theorem szML_wt : ∀ (x : List Cr) (l : Int), 0 ≤ szML x l → 0 ≤ l → (wtL x : Int) + szML x l ≤ l + x.length
  | [], l, h, h0 => by simp [szML, wtL_nil]
  | x :: r, l, h, h0 => by
    rw [wtL_cons]
    rw [szML] at h ⊢
    split at h
    · omega
    rw [if_neg (by assumption)]
    have h1 := szM_wt x l (by omega) h0
    have h2 := szML_wt r (szM x l) h (by omega)
    simp only [List.length_cons]
    omega
end
end Go.Proofs.Ytnnejoalamkkpaa

namespace Go.Proofs.Ytnnejoalamkkpaa
open Go Go.AI Go.Proofs
set_option linter.unusedSimpArgs false


theorem toS_hv (k : List Cr) (hk : k.length < 1000000000000) (ih : ∀ x ∈ k, ∀ H, HV Try.prog 11 [.agg x.enc] H (MkQ H x)) (H : Heap) :
    HV Try.prog 36 [.one (encL k)] H (fun r H' => ∃ c, r = .one c ∧ Th H' (kdL k + 1) (encL k) c (Rng H.next H'.next) ∧ Keep H.next H H') := by
  generalize hQ : (fun (r : V) (H' : Heap) => ∃ c, r = .one c ∧ Th H' (kdL k + 1) (encL k) c (Rng H.next H'.next) ∧ Keep H.next H H') = Q
  refine h36.hv ⟨rfl, rfl, ?_⟩
  have e1 : (k.length : Int) * 72 ≤ 281474976710656 := by omega
  have e2 : (k.length : Int) ≤ 9223372036854775807 := by omega
  simp [f36, encL, e1, e2]
  refine w_for (fun n st => ∃ vars h, st = ⟨vars, h, H.next⟩ ∧ ∃ (i : Nat) (g : Nat), i ≤ k.length ∧ n = k.length - i ∧ vars.get 0 = some (.one (.dv (k.map Cr.enc))) ∧
    vars.get 2 = some (.one (.sl H.next g 0 k.length)) ∧ vars.get 3 = some (.one (.int .i64 i)) ∧ NB vars [1, 4] ∧ H.next < h.next ∧ Keep H.next H h ∧ Part h H.next g (kdL k) k i) k.length ?_ ?_
  · refine ⟨_, _, rfl, 0, H.fresh H.next, by simp, by simp, by simp, ?_, by simp, by simp, by simp [Heap.new], ⟨by simp [Heap.new], fun m hm => by simp [Heap.new, Tr.get_put_ne _ _ (by omega : m ≠ H.next)]⟩, ?_⟩
    · simp
    · exact ⟨28, List.replicate k.length [.int .i64 0, .int .i64 0, .str [], .str [], .nils], fun _ _ => False, by simp [Heap.new], by simp, fun i' el he => by
        have := List.eq_of_mem_replicate (List.mem_of_getElem? he); subst this; rfl, fun i' x el hlt => by omega, fun _ _ h => h.elim, fun _ _ _ h => h.elim⟩
  · rintro J hJ n _ ⟨vars, h, rfl, i, g, hi, rfl, v0, v2, v3, nb, hn, hkeep, hpart⟩
    simp at nb
    by_cases hlt : i < k.length
    · have hget : (k.map Cr.enc)[i]? = some (Cr.enc k[i]) := by simp [hlt]
      simp [v0, v2, v3, nb, hlt, hget]
      refine callH_of (ih _ (List.getElem_mem hlt) h) (by simp) (by simp) ?_
      rintro r h' ⟨cs, rfl, ht, hk'⟩
      have hx : k[i]? = some k[i] := by simp [hlt]
      obtain ⟨ty, els, e, a1, a2, a3, a4, a5⟩ := hpart.step hn hx hk' (ht.up (by have := kdL_mem (List.getElem_mem hlt); omega))
      have hw : IntKind.i64.wrap ((i : Int) + 1) = ((i + 1 : Nat) : Int) := by rw [wrapI ⟨by omega, by omega⟩]; simp
      have hdr : e.drop 5 = [] := List.drop_eq_nil_of_le (by omega)
      simp [v0, v2, v3, nb, hlt, Heap.at_of a2, a3, a4, ht.len, hw, hdr]
      subst hJ
      refine ⟨k.length - (i + 1), by omega, _, _, rfl, i + 1, g, by omega, rfl, by simp [v0], by simp [v2], by simp, by simp [nb], ?_, ?_, ?_⟩
      · have := hk'.1; simp [Heap.set]; omega
      · refine hkeep.trans ((hk'.less (by omega)).trans ⟨by simp [Heap.set], fun m hm => by simp [Heap.set, Tr.get_put_ne _ _ (by omega : m ≠ H.next)]⟩)
      · exact a5
    · have he : i = k.length := by omega
      subst he
      simp [v0, v2, v3, nb, ← hQ]
      exact ⟨hpart.th hn, hkeep⟩

theorem to_hv : ∀ (x : Cr), x.wt < 1000000000000 → ∀ H, HV Try.prog 11 [.agg x.enc] H (MkQ H x)
  | .mk a b s t k, hw, H => by
    rw [wt_mk] at hw
    have ih : ∀ x ∈ k, ∀ H, HV Try.prog 11 [.agg x.enc] H (MkQ H x) := fun x hx => to_hv x (by have := wtL_mem hx; omega)
    have hl := wtL_len k
    generalize hQ : MkQ H (.mk a b s t k) = Q
    refine h11.hv ⟨rfl, rfl, ?_⟩
    simp [f11, enc_mk]
    refine callH_of (toS_hv k (by omega) ih _) (by simp) (by simp) ?_
    rintro r h' ⟨c, rfl, ht, hk⟩
    simp [← hQ]
    exact ⟨_, rfl, ⟨c, rfl, by rw [kd_mk]; exact ht⟩, hk⟩

theorem to_pv (x : Cr) (hw : x.wt < 1000000000000) (hd : x.kd + 1 ≤ frzDepth) : PV Try.prog 11 [.agg x.enc] (.agg x.enc) := pv_of_mk hd (to_hv x hw _)

end Go.Proofs.Ytnnejoalamkkpaa

namespace Go.Proofs.Ytnnejoalamkkpaa
open Go Go.AI Go.Proofs
set_option linter.unusedSimpArgs false

theorem eqS_pv (k : List Cr) (hk : k.length < 1000000000000000) (ih : ∀ x ∈ k, PV Try.prog 13 [.agg x.enc, .agg x.enc] (.one (.bool true))) :
    PV Try.prog 40 [.one (encL k), .one (encL k)] (.one (.bool true)) := by
  refine h40.pvq ⟨rfl, rfl, ?_⟩
  simp [f40, encL]
  refine w_for (fun n st => ∃ vars, st = ⟨vars, Heap.empty, 0⟩ ∧ ∃ (i : Nat), i ≤ k.length ∧ n = k.length - i ∧ vars.get 0 = some (.one (.dv (k.map Cr.enc))) ∧ vars.get 1 = some (.one (.dv (k.map Cr.enc))) ∧
    vars.get 3 = some (.one (.int .i64 i)) ∧ NB vars [2, 5, 6]) k.length ?_ ?_
  · exact ⟨_, rfl, 0, by simp, by simp, by simp, by simp, by simp, by simp⟩
  · rintro J hJ n _ ⟨vars, rfl, i, hi, rfl, v0, v1, v3, nb⟩
    simp at nb
    by_cases hlt : i < k.length
    · have hget : (k.map Cr.enc)[i]? = some (Cr.enc k[i]) := by simp [hlt]
      have hw : IntKind.i64.wrap ((i : Int) + 1) = ((i + 1 : Nat) : Int) := by rw [wrapI ⟨by omega, by omega⟩]; simp
      simp [v0, v1, v3, nb, hlt, hget]
      refine callP_of (ih _ (List.getElem_mem hlt)) ?_
      simp [v0, v1, v3, nb, hw]
      subst hJ
      exact ⟨k.length - (i + 1), by omega, _, rfl, i + 1, by omega, rfl, by simp [v0], by simp [v1], by simp, by simp [nb]⟩
    · simp [v0, v1, v3, nb, hlt]

theorem eq_pv : ∀ x : Cr, x.wt < 1000000000000000 → PV Try.prog 13 [.agg x.enc, .agg x.enc] (.one (.bool true))
  | .mk a b s t k, hw => by
    rw [wt_mk] at hw
    have ih : ∀ x ∈ k, PV Try.prog 13 [.agg x.enc, .agg x.enc] (.one (.bool true)) := fun x hx => eq_pv x (by have := wtL_mem hx; omega)
    have hl := wtL_len k
    refine h13.pvq ⟨rfl, rfl, ?_⟩
    simp [f13, enc_mk, encL]
    refine callP_of (eqS_pv k (by omega) ih) ?_
    simp

end Go.Proofs.Ytnnejoalamkkpaa

namespace Go.Proofs.Ytnnejoalamkkpaa
open Go Go.AI Go.Proofs
set_option linter.unusedSimpArgs false

def digA (n : Nat) (out : Txt) : Txt := if h : n = 0 then out else digA (n / 10) (UInt8.ofNat (48 + n % 10) :: out)
termination_by n
decreasing_by omega
def txtM (k : Int) : Txt := if k ≤ 0 then [109, 48] else 109 :: digA k.toNat []

theorem markText_pv (k : Int) (hk : k ≤ 4000000000000000000) : PV Try.prog 79 [.one (.int .i64 k)] (.one (.str (txtM k))) := by
  generalize hr : txtM k = r
  refine h79.pvq ⟨rfl, rfl, ?_⟩
  simp [f79]
  split
  · rw [← hr, txtM, if_pos (by omega)]
  · rename_i c1
    refine w_for (fun n st => ∃ vars h, st = ⟨vars, h, 0⟩ ∧ ∃ (m : Nat) (out : Txt), n = m ∧ out.length + m ≤ 4000000000000000000 ∧ digA m out = digA k.toNat [] ∧ vars.get 0 = some (.one (.int .i64 m)) ∧
      vars.get 2 = some (.one (.str out)) ∧ NB vars [1, 4]) k.toNat ?_ ?_
    · exact ⟨_, _, rfl, k.toNat, [], rfl, by simp; omega, rfl, by simp; omega, by simp, by simp⟩
    · rintro J hJ n _ ⟨vars, h, rfl, m, out, rfl, hm, hd, v0, v2, nb⟩
      simp at nb
      by_cases hp : 0 < n
      · have e0 : IntKind.i64.wrap (48 + ((n : Int).tmod 10)) = 48 + (n : Int) % 10 := by
          have : (n : Int).tmod 10 = ((n % 10 : Nat) : Int) := by simp [Int.tmod_eq_emod_of_nonneg]
          rw [this, wrapI ⟨by omega, by omega⟩]; simp
        have e1 : IntKind.u8.wrap (48 + (n : Int) % 10) = 48 + (n : Int) % 10 := IntWalk.u8_in _ (by omega)
        have e2 : IntKind.i64.wrap ((n : Int).tdiv 10) = (n : Int) / 10 := by
          have : (n : Int).tdiv 10 = ((n / 10 : Nat) : Int) := by simp [Int.tdiv_eq_ediv_of_nonneg]
          rw [this, wrapI ⟨by omega, by omega⟩]; simp
        have e3 : 0 ≤ 48 + (n : Int) % 10 ∧ 48 + (n : Int) % 10 < 256 := by omega
        have e4 : (1 : Int) + out.length ≤ 9223372036854775807 := by omega
        simp [v0, v2, nb, hp, e0, e1, e2, e3, e4, bytesOf]
        have e5 : IntKind.i64.wrap ((n : Int) / 10) = (n : Int) / 10 := wrapI ⟨by omega, by omega⟩
        have e6 : (48 + (n : Int) % 10).toNat = 48 + n % 10 := by omega
        subst hJ
        refine ⟨n / 10, by omega, _, _, rfl, n / 10, UInt8.ofNat (48 + n % 10) :: out, rfl, ?_, ?_, by simp [e5], by simp [e6], by simp [nb]⟩
        · simp; omega
        · rw [← hd, digA.eq_def n, dif_neg (by omega)]
      · have : n = 0 := by omega
        subst this
        have : out = digA k.toNat [] := by rw [← hd, digA, dif_pos rfl]
        have e4 : (1 : Int) + out.length ≤ 9223372036854775807 := by omega
        simp [v0, v2, nb, e4, ← hr, txtM]
        rw [if_neg (by omega), this]

mutual
def mkC : Int → Cr → Cr
  | k, .mk _ _ _ _ ks => .mk k (k + 1) (txtM (k + 2)) (txtM (k + 3)) (mkL (k + 4) ks)
def mkL : Int → List Cr → List Cr
  | _, [] => []
  | k, x :: r => mkC k x :: mkL (k + 4 * (1 + x.cnt)) r
end
theorem mkL_len : ∀ (k : Int) (ks : List Cr), (mkL k ks).length = ks.length
  | _, [] => by simp [mkL]
  | k, x :: r => by simp [mkL, mkL_len _ r]
theorem mkL_get : ∀ (ks : List Cr) (k : Int) (i : Nat) (x : Cr), ks[i]? = some x → (mkL k ks)[i]? = some (mkC (k + 4 * cntL (ks.take i)) x)
  | [], k, i, x, h => by simp at h
  | y :: r, k, 0, x, h => by simp at h; subst h; simp [mkL, cntL_nil]
  | y :: r, k, i + 1, x, h => by
    simp only [List.getElem?_cons_succ] at h
    simp only [mkL, List.getElem?_cons_succ, List.take_succ_cons, cntL_cons]
    rw [mkL_get r _ i x h]
    congr 2
    push_cast
    omega
theorem cntL_take {ks : List Cr} {i : Nat} {x : Cr} (h : ks[i]? = some x) : cntL (ks.take (i + 1)) = cntL (ks.take i) + 1 + x.cnt := by
  have hi := (List.getElem?_eq_some_iff.1 h)
  obtain ⟨hi, rfl⟩ := hi
  rw [List.take_succ_eq_append_getElem hi, cntL_append, cntL_cons, cntL_nil]; omega
theorem cntL_take_le (ks : List Cr) (i : Nat) : cntL (ks.take i) ≤ cntL ks := by
  have h := cntL_append (ks.take i) (ks.drop i)
  rw [List.take_append_drop] at h; omega

theorem mark_hv : ∀ (x : Cr) (H : Heap) (n : Nat) (c : C) (I : Nat → Prop) (k : Int), x.wt < 1000000000000000 → Th H n (encL x.kids) c I → (∀ m, I m → m < H.next) → 0 ≤ k → k + 4 * x.cnt ≤ 4000000000000000000 →
    HV Try.prog 41 [.one c, .one (.int .i64 k)] H (fun r H' => r = .one (.int .i64 (k + 4 * x.cnt)) ∧ Th H' n (encL (mkL k x.kids)) c I ∧ H.next ≤ H'.next ∧ ∀ m, m < H.next → ¬ I m → H'.mem.get m = H.mem.get m)
  | .mk _ _ _ _ ks, H, n, c, I, k, hw, ht, hI, h0, hk => by
    simp only [Cr.kids] at ht ⊢
    simp only [cnt_mk] at hk ⊢
    rw [wt_mk] at hw
    have hl := wtL_len ks
    have ih := fun x (hx : x ∈ ks) => mark_hv x
    generalize hQ : (fun (r : V) (H' : Heap) => r = .one (.int .i64 (k + 4 * cntL ks)) ∧ Th H' n (encL (mkL k ks)) c I ∧ H.next ≤ H'.next ∧ ∀ m, m < H.next → ¬ I m → H'.mem.get m = H.mem.get m) = Q
    refine h41.hv ⟨rfl, rfl, ?_⟩
    rcases ht.look with ⟨rfl, rfl⟩ | ⟨n, id, g, ty, sz, els0, J0, rfl, rfl, hat, hIid, hlen, h5, hsub, hdis, hd⟩
    · simp [f41]
      refine w_for (fun n st => ∃ vars, st = ⟨vars, H, H.next⟩ ∧ vars.get 0 = some (.one .nils) ∧ vars.get 1 = some (.one (.int .i64 k)) ∧ vars.get 3 = some (.one (.int .i64 0)) ∧ NB vars [2, 4]) 0 ?_ ?_
      · exact ⟨_, rfl, by simp, by simp, by simp, by simp⟩
      · rintro J hJ n _ ⟨vars, rfl, v0, v1, v3, nb⟩
        simp at nb
        simp [v0, v1, v3, nb, ← hQ, cntL_nil, mkL, encL]
        exact .nil ..
    · simp [f41]
      refine w_for (fun n' st => ∃ vars h, st = ⟨vars, h, H.next⟩ ∧ ∃ (i : Nat) (els : List (List C)), i ≤ ks.length ∧ n' = ks.length - i ∧ vars.get 0 = some (.one (.sl id g 0 ks.length)) ∧
        vars.get 1 = some (.one (.int .i64 (k + 4 * cntL (ks.take i)))) ∧ vars.get 3 = some (.one (.int .i64 i)) ∧ NB vars [2, 4] ∧ H.next ≤ h.next ∧ (∀ m, m < H.next → ¬ I m → h.mem.get m = H.mem.get m) ∧
        h.mem.get id = some ⟨g, ty, sz, true, els⟩ ∧ els.length = ks.length ∧
        (∀ (i' : Nat) (x : Cr) (el : List C), ks[i']? = some x → els[i']? = some el → ThC h n (if i' < i then mkC (k + 4 * cntL (ks.take i')) x else x) el (J0 i'))) ks.length ?_ ?_
      · exact ⟨_, _, rfl, 0, els0, by simp, by simp, by simp, by simp [cntL_nil], by simp, by simp, Nat.le_refl _, fun _ _ _ => rfl, hat, hlen, fun i' x el hx he => by simpa using hd i' x el hx he⟩
      · rintro J hJ n' _ ⟨vars, h, rfl, i, els, hi, rfl, v0, v1, v3, nb, hn, hfr, hm, hle, hel⟩
        simp at nb
        by_cases hlt : i < ks.length
        · have hi2 : i < els.length := by omega
          have hs5 := h5 i hlt
          subst hs5
          have hx : ks[i]? = some ks[i] := by simp [hlt]
          have he : els[i]? = some els[i] := by simp [hi2]
          have hti := hel i _ _ hx he
          rw [if_neg (by omega)] at hti
          have hct := cntL_take hx
          have hcl := cntL_take_le ks (i + 1)
          have hwx := wtL_mem (List.getElem_mem hlt)
          generalize hxx : ks[i] = x at *
          generalize hee : els[i] = e at *
          obtain ⟨a, b, s, t, kk⟩ := x
          obtain ⟨cc, rfl, htk⟩ := hti
          rw [cnt_mk] at hct
          generalize hk' : k + 4 * (cntL (ks.take i) : Int) = k' at *
          have g1 : IntKind.i64.wrap (k' + 1) = k' + 1 := wrapI ⟨by omega, by omega⟩
          have g2 : IntKind.i64.wrap (k' + 1 + 1) = k' + 2 := by rw [wrapI ⟨by omega, by omega⟩]; omega
          have g3 : IntKind.i64.wrap (k' + 2 + 1) = k' + 3 := by rw [wrapI ⟨by omega, by omega⟩]; omega
          have g4 : IntKind.i64.wrap (k' + 3 + 1) = k' + 4 := by rw [wrapI ⟨by omega, by omega⟩]; omega
          simp [v0, v1, v3, nb, hlt, Heap.at_of hm, hee, hi2, g1, g2, g3, g4]
          refine callP_of (markText_pv _ (by omega)) ?_
          simp [v0, v1, v3, nb, hlt, Heap.at_of hm, hee, hi2, g1, g2, g3, g4]
          refine callP_of (markText_pv _ (by omega)) ?_
          simp [v0, v1, v3, nb, hlt, Heap.at_of hm, hee, hi2, g1, g2, g3, g4]
          have hJn : ∀ m, J0 i m → m < h.next := fun m hm' => by have := hI m (hsub i m hm').1; omega
          refine callH_of (ih (.mk a b s t kk) (hxx ▸ List.getElem_mem hlt) _ n cc (J0 i) (k' + 4) (by omega) ?_ ?_ (by omega) (by rw [cnt_mk]; omega)) (by simp) (by simp) ?_
          · exact htk.frame fun m hm' => by simp [Heap.set_get, (hsub i m hm').2]
          · simpa using hJn
          rintro r h' ⟨rfl, ht', hn', hfr'⟩
          simp only [Cr.kids, cnt_mk, Heap.set_next] at ht' hn' hfr' ⊢
          have hidn : id < h.next := by have := hI id hIid; omega
          have hidJ : ¬ J0 i id := fun hJ' => (hsub i id hJ').2 rfl
          have hid' := hfr' id hidn hidJ
          simp only [Heap.set_get, if_pos] at hid'
          have hw : IntKind.i64.wrap ((i : Int) + 1) = ((i + 1 : Nat) : Int) := by rw [wrapI ⟨by omega, by omega⟩]; simp
          simp [v0, v1, v3, nb, hw]
          subst hJ
          refine ⟨ks.length - (i + 1), by omega, _, _, rfl, i + 1, _, by omega, rfl, by simp [v0], ?_, by simp, by simp [nb], by omega, ?_, hid', by simp [hle], ?_⟩
          · simp; omega
          · intro m hm1 hm2
            rw [hfr' m (by omega) fun h9 => hm2 (hsub i m h9).1]
            have hne : m ≠ id := fun h9 => hm2 (h9 ▸ hIid)
            simp [Heap.set_get, hne, hfr m hm1 hm2]
          · intro i' x el hx' he'
            by_cases hii : i = i'
            · subst hii
              rw [List.getElem?_set_self hi2] at he'
              cases he'
              rw [hx] at hx'; cases hx'
              rw [if_pos (by omega), hk', mkC]
              exact ⟨cc, rfl, ht'⟩
            · rw [List.getElem?_set_ne hii] at he'
              have h9 := hel i' x el hx' he'
              have h10 : (if i' < i + 1 then mkC (k + 4 * (cntL (ks.take i') : Int)) x else x) = if i' < i then mkC (k + 4 * (cntL (ks.take i') : Int)) x else x := by
                by_cases h11 : i' < i
                · rw [if_pos h11, if_pos (by omega)]
                · rw [if_neg h11, if_neg (by omega)]
              rw [h10]
              refine h9.frame fun m hm' => ?_
              have hmI := hsub i' m hm'
              have hmH := hI m hmI.1
              rw [hfr' m (by omega) fun h12 => hii (hdis i i' m h12 hm')]
              simp [Heap.set_get, hmI.2]
        · have hei : i = ks.length := by omega
          subst hei
          simp [v0, v1, v3, nb, ← hQ]
          refine ⟨?_, hn, hfr⟩
          rw [← mkL_len k ks]
          refine Th.mk hm hIid (by rw [mkL_len]; exact hle) (by rw [mkL_len]; exact h5) hsub hdis fun i x el hx he => ?_
          have hi : i < ks.length := by have := (List.getElem?_eq_some_iff.1 hx).1; rwa [mkL_len] at this
          have hy : ks[i]? = some ks[i] := by simp [hi]
          have := hel i ks[i] el hy he
          rw [mkL_get ks k i _ hy] at hx
          cases hx
          rw [if_pos hi] at this
          exact this

end Go.Proofs.Ytnnejoalamkkpaa

namespace Go.Proofs.Ytnnejoalamkkpaa
open Go Go.AI Go.Proofs
set_option linter.unusedSimpArgs false

theorem heldS_pv : ∀ (x : Cr) (k : Int), x.wt < 1000000000000000 → 0 ≤ k → k + 4 * x.cnt ≤ 4000000000000000000 →
    PV Try.prog 42 [.one (encL (mkL k x.kids)), .one (.int .i64 k)] (.one (.int .i64 (k + 4 * x.cnt)))
  | .mk _ _ _ _ ks, k, hw, h0, hk => by
    simp only [Cr.kids, cnt_mk] at hk ⊢
    rw [wt_mk] at hw
    have hl := wtL_len ks
    have ih := fun x (hx : x ∈ ks) => heldS_pv x
    refine h42.pvq ⟨rfl, rfl, ?_⟩
    generalize hQ : pvQ (.one (.int .i64 (k + 4 * cntL ks))) = Q
    simp [f42, encL]
    generalize hM : (mkL k ks).map Cr.enc = M
    have hml : M.length = ks.length := by rw [← hM, List.length_map, mkL_len]
    refine w_for (fun n st => ∃ vars, st = ⟨vars, Heap.empty, 0⟩ ∧ ∃ (i : Nat), i ≤ ks.length ∧ n = ks.length - i ∧ vars.get 0 = some (.one (.dv M)) ∧ vars.get 1 = some (.one (.int .i64 (k + 4 * cntL (ks.take i)))) ∧
      vars.get 3 = some (.one (.int .i64 i)) ∧ NB vars [2, 4, 5, 6, 7, 8, 9]) ks.length ?_ ?_
    · exact ⟨_, rfl, 0, by simp, by simp, by simp, by simp [cntL_nil], by simp, by simp⟩
    · rintro J hJ n _ ⟨vars, rfl, i, hi, rfl, v0, v1, v3, nb⟩
      simp at nb
      by_cases hlt : i < ks.length
      · have hx : ks[i]? = some ks[i] := by simp [hlt]
        have hmem := List.getElem_mem hlt
        have hct := cntL_take hx
        have hcl := cntL_take_le ks (i + 1)
        have hwx := wtL_mem hmem
        have hget0 := mkL_get ks k i _ hx
        generalize hxx : ks[i] = x at *
        obtain ⟨a, b, s, t, kk⟩ := x
        rw [cnt_mk] at hct
        generalize hk' : k + 4 * (cntL (ks.take i) : Int) = k' at *
        have hget : M[i]? = some [.int .i64 k', .int .i64 (k' + 1), .str (txtM (k' + 2)), .str (txtM (k' + 3)), .dv ((mkL (k' + 4) kk).map Cr.enc)] := by
          rw [← hM]; simp only [List.getElem?_map, hget0, Option.map_some, mkC, enc_mk, encL]
        have hi2 : i < M.length := by omega
        have hgE : M[i] = [.int .i64 k', .int .i64 (k' + 1), .str (txtM (k' + 2)), .str (txtM (k' + 3)), .dv ((mkL (k' + 4) kk).map Cr.enc)] := by
          rw [List.getElem?_eq_getElem hi2] at hget; exact Option.some.inj hget
        have g1 : IntKind.i64.wrap (k' + 1) = k' + 1 := wrapI ⟨by omega, by omega⟩
        have g2 : IntKind.i64.wrap (k' + 1 + 1) = k' + 2 := by rw [wrapI ⟨by omega, by omega⟩]; omega
        have g3 : IntKind.i64.wrap (k' + 2 + 1) = k' + 3 := by rw [wrapI ⟨by omega, by omega⟩]; omega
        have g4 : IntKind.i64.wrap (k' + 3 + 1) = k' + 4 := by rw [wrapI ⟨by omega, by omega⟩]; omega
        have hw : IntKind.i64.wrap ((i : Int) + 1) = ((i + 1 : Nat) : Int) := by rw [wrapI ⟨by omega, by omega⟩]; simp
        simp [v0, v1, v3, nb, hlt, hgE, g1, g2, g3, g4, hml]
        refine callP_of (markText_pv _ (by omega)) ?_
        simp [v0, v1, v3, nb, hlt, hgE, g1, g2, g3, g4, hml]
        refine callP_of (markText_pv _ (by omega)) ?_
        simp [v0, v1, v3, nb, hlt, hgE, g1, g2, g3, g4, hml]
        refine callP_of (ih (.mk a b s t kk) hmem (k' + 4) (by omega) (by omega) (by rw [cnt_mk]; omega)) ?_
        have hng : ¬ (k' + 4 + 4 * (cntL kk : Int) < 0) := by omega
        rw [cnt_mk]
        simp [v0, v1, v3, nb, hw, hng]
        subst hJ
        refine ⟨ks.length - (i + 1), by omega, _, rfl, i + 1, by omega, rfl, by simp [v0], ?_, by simp, by simp [nb]⟩
        simp; omega
      · have hei : i = ks.length := by omega
        subst hei
        simp [v0, v1, v3, nb, hml, ← hQ]

theorem held_pv (x : Cr) (a b : Int) (s t : Txt) (k : Int) (hw : x.wt < 1000000000000000) (h0 : 0 ≤ k) (hk : k + 4 * x.cnt ≤ 4000000000000000000) :
    PV Try.prog 15 [.agg [.int .i64 a, .int .i64 b, .str s, .str t, encL (mkL k x.kids)], .one (.int .i64 k)] (.one (.int .i64 (k + 4 * x.cnt))) := by
  refine h15.pvq ⟨rfl, rfl, ?_⟩
  simp [f15, encL]
  refine callP_of (heldS_pv x k hw h0 hk) ?_
  have hng : ¬ (k + 4 * (x.cnt : Int) < 0) := by omega
  simp [hng]

theorem markC_hv (x : Cr) (H : Heap) (n : Nat) (cs : List C) (I : Nat → Prop) (k : Int) (hw : x.wt < 1000000000000000) (ht : ThC H n x cs I) (hI : ∀ m, I m → m < H.next) (h0 : 0 ≤ k) (hk : k + 4 * x.cnt ≤ 4000000000000000000) :
    HV Try.prog 14 [.agg cs, .one (.int .i64 k)] H (fun r H' => r = .one (.int .i64 (k + 4 * x.cnt)) ∧ (∀ a b s t kk, x = .mk a b s t kk → ThC H' n (.mk a b s t (mkL k kk)) cs I) ∧ H.next ≤ H'.next ∧ ∀ m, m < H.next → ¬ I m → H'.mem.get m = H.mem.get m) := by
  obtain ⟨a, b, s, t, kk⟩ := x
  obtain ⟨c, rfl, ht⟩ := ht
  generalize hQ : (fun (r : V) (H' : Heap) => r = .one (.int .i64 (k + 4 * (Cr.mk a b s t kk).cnt)) ∧ (∀ a' b' s' t' kk', Cr.mk a b s t kk = .mk a' b' s' t' kk' → ThC H' n (.mk a' b' s' t' (mkL k kk')) [.int .i64 a, .int .i64 b, .str s, .str t, c] I) ∧ H.next ≤ H'.next ∧ ∀ m, m < H.next → ¬ I m → H'.mem.get m = H.mem.get m) = Q
  refine h14.hv ⟨rfl, rfl, ?_⟩
  simp [f14]
  refine callH_of (mark_hv (.mk a b s t kk) _ n c I k hw (by simpa [Cr.kids] using ht.frame fun m hm => rfl) (by simpa using hI) h0 hk) (by simp) (by simp) ?_
  rintro r h' ⟨rfl, ht', hn', hfr'⟩
  simp [← hQ]
  refine ⟨?_, by simpa using hn', by simpa using hfr'⟩
  rintro a' b' s' t' kk' rfl rfl rfl rfl rfl
  exact ⟨c, rfl, ht'⟩

end Go.Proofs.Ytnnejoalamkkpaa

namespace Go.Proofs.Ytnnejoalamkkpaa
open Go Go.AI Go.Proofs
set_option linter.unusedSimpArgs false

theorem in_pv (l : List Txt) (hl : l.length < 1000000000000000) (s : Txt) : PV Try.prog 76 [.one (encT l), .one (.str s)] (.one (.bool (decide (s ∈ l)))) := by
  generalize hr : decide (s ∈ l) = r
  refine h76.pvq ⟨rfl, rfl, ?_⟩
  simp [f76, encT]
  generalize hM : l.map (fun s => [C.str s]) = M
  have hml : M.length = l.length := by rw [← hM]; simp
  refine w_for (fun n st => ∃ vars, st = ⟨vars, Heap.empty, 0⟩ ∧ ∃ (i : Nat), i ≤ l.length ∧ n = l.length - i ∧ vars.get 0 = some (.one (.dv M)) ∧ vars.get 1 = some (.one (.str s)) ∧ vars.get 3 = some (.one (.int .i64 i)) ∧
    s ∉ l.take i ∧ NB vars [2, 4, 5]) l.length ?_ ?_
  · exact ⟨_, rfl, 0, by simp, by simp, by simp, by simp, by simp, by simp, by simp⟩
  · rintro J hJ n _ ⟨vars, rfl, i, hi, rfl, v0, v1, v3, hnot, nb⟩
    simp at nb
    by_cases hlt : i < l.length
    · have hi2 : i < M.length := by omega
      have hgE : M[i] = [.str l[i]] := by subst hM; simp
      have hw : IntKind.i64.wrap ((i : Int) + 1) = ((i + 1 : Nat) : Int) := by rw [wrapI ⟨by omega, by omega⟩]; simp
      simp [v0, v1, v3, nb, hlt, hgE, hml, hw]
      split
      · rename_i he
        rw [← hr]
        simp [← he]
      · rename_i he
        subst hJ
        refine ⟨l.length - (i + 1), by omega, _, rfl, i + 1, by omega, rfl, by simp [v0], by simp [v1], by simp, ?_, by simp [nb]⟩
        rw [List.take_succ_eq_append_getElem hlt]
        simp only [List.mem_append, List.mem_singleton, not_or]
        exact ⟨hnot, fun h => he h.symm⟩
    · have hei : i = l.length := by omega
      subst hei
      rw [List.take_length] at hnot
      simp [v0, v1, v3, nb, hml, ← hr, hnot]

theorem and_pv (l : List Txt) (hl : l.length < 1000000000000) (s : Txt) : PV Try.prog 113 [.one (encT l), .one (.str s)] (.one (encT (l ++ [s]))) := by
  generalize hQ : pvQ (.one (encT (l ++ [s]))) = Q
  refine h113.pvq ⟨rfl, rfl, ?_⟩
  rw [hQ]
  simp [f113, encT]
  have a0 : AccD (Heap.empty.new 9 1 []) 9 1 [] (.sl 0 0 0 0) := .inr ⟨0, 0, rfl, by simp [Heap.new, Heap.fresh, Heap.empty, Tr.get], by simp [Heap.new]⟩
  obtain ⟨c1, h1, fp1, e1, a1, _⟩ := a0.push (bytes := 16) (news := l.map fun s => [.str s]) (by simp) (by simp; omega)
  obtain ⟨c2, h2, fp2, e2, a2, _⟩ := a1.push (bytes := 16) (news := [[.str s]]) (by simp) (by simp; omega)
  have e0 : Heap.empty.fresh 0 = 0 := rfl
  simp only [Heap.empty] at e1 e0
  simp [e0, e1, e2]
  rw [← hQ]
  exact pvQ_names (ty := 9) (h := h2) (c := c2) (by simpa using a2)

end Go.Proofs.Ytnnejoalamkkpaa

namespace Go.Proofs.Ytnnejoalamkkpaa
open Go Go.AI Go.Proofs
set_option linter.unusedSimpArgs false

theorem env_pv (x : Cr) (i : Int) (l : List Txt) (hl : l.length < 999999999990) : PV Try.prog 77 [.agg x.enc, .one (.int .i64 i), .one (encT l)] (.one (encT (l ++ binds x i))) := by
  obtain ⟨a, b, s, t, k⟩ := x
  generalize hQ : pvQ (.one (encT (l ++ binds (.mk a b s t k) i))) = Q
  refine h77.pvq ⟨rfl, rfl, ?_⟩
  rw [hQ]
  by_cases h3 : a = 3
  · subst h3
    simp [f77, enc_mk]
    refine callP_of (and_pv l (by omega) s) ?_
    simp [← hQ, encT, binds]
  by_cases h5 : a = 5
  · subst h5
    by_cases hi : i = 1
    · subst hi
      simp [f77, enc_mk]
      refine callP_of (and_pv l (by omega) s) ?_
      simp [← hQ, encT, binds]
    · simp [f77, enc_mk, hi, encT]
      simp [← hQ, encT, binds, hi]
  by_cases h6 : a = 6
  · subst h6
    by_cases hi : i = 1
    · subst hi
      simp [f77, enc_mk]
      refine callP_of (and_pv l (by omega) s) ?_
      simp [← hQ, encT, binds]
    · simp [f77, enc_mk, hi]
      refine callP_of (and_pv l (by omega) s) ?_
      simp
      refine callP_of (and_pv (l ++ [s]) (by simp; omega) t) ?_
      simp [← hQ, encT, binds, hi]
  · simp [f77, enc_mk, h3, h5, h6, encT]
    simp [← hQ, encT, binds, h3, h5, h6]

theorem copyS_pv : ∀ x : Cr, x.wt < 1000000000000 → PV Try.prog 61 [.agg x.enc] (.agg x.enc)
  | .mk a b s t k, hw => by
    rw [wt_mk] at hw
    have ih := fun x (hx : x ∈ k) => copyS_pv x (by have := wtL_mem hx; omega)
    have hl := wtL_len k
    generalize hQ : pvQ (.agg (Cr.mk a b s t k).enc) = Q
    refine h61.pvq ⟨rfl, rfl, ?_⟩
    rw [hQ]
    simp [f61, enc_mk, encL]
    refine w_for (fun n st => ∃ vars h, st = ⟨vars, h, 0⟩ ∧ ∃ (i : Nat) (c : C), i ≤ k.length ∧ n = k.length - i ∧ vars.get 1 = some (.box 0 [.int .i64 a, .int .i64 b, .str s, .str t, .dv (k.map Cr.enc)]) ∧
      vars.get 2 = some (.box 0 [.int .i64 0, .int .i64 0, .str [], .str [], .nils]) ∧
      vars.get 3 = some (.box 0 [.int .i64 a, .int .i64 b, .str s, .str t, c]) ∧ vars.get 4 = some (.one (.int .i64 i)) ∧ AccD h 28 5 ((k.take i).map Cr.enc) c ∧ NB vars [5]) k.length ?_ ?_
    · exact ⟨_, _, rfl, 0, .nils, by simp, by simp, by simp, by simp, by simp, by simp, by simp [AccD], by simp⟩
    · rintro J hJ n _ ⟨vars, h, rfl, i, c, hi, rfl, v1, v2, v3, v4, hacc, nb⟩
      simp at nb
      by_cases hlt : i < k.length
      · have hw : IntKind.i64.wrap ((i : Int) + 1) = ((i + 1 : Nat) : Int) := by rw [wrapI ⟨by omega, by omega⟩]; simp
        obtain ⟨c', h', fp, e1, a1, hn⟩ := hacc.push (bytes := 72) (news := [k[i].enc]) (by simp) (by simp; omega)
        simp [v1, v2, v3, v4, nb, hlt]
        refine callP_of (ih _ (List.getElem_mem hlt)) ?_
        simp [v1, v2, v3, v4, nb, hlt, e1, hw]
        subst hJ
        refine ⟨k.length - (i + 1), by omega, _, _, rfl, i + 1, c', by omega, rfl, by simp [v1], by simp [v2], by simp, by simp, ?_, by simp [nb]⟩
        rw [List.take_succ_eq_append_getElem hlt, List.map_append]
        exact a1
      · have hei : i = k.length := by omega
        subst hei
        rw [List.take_length] at hacc
        simp [v1, v2, v3, v4, nb]
        rw [← hQ]
        exact pvQ_core hacc

theorem binds_len (x : Cr) (i : Int) : (binds x i).length ≤ 2 := by
  obtain ⟨a, b, s, t, k⟩ := x
  simp only [binds]
  repeat' split
  all_goals simp

mutual
def putS (name : Txt) (v : Cr) : List Txt → Cr → Cr
  | env, .mk a b s t k => if a = 2 ∧ s = name ∧ name ∉ env then v else .mk a b s t (putSL name v env a s t 0 k)
def putSL (name : Txt) (v : Cr) : List Txt → Int → Txt → Txt → Nat → List Cr → List Cr
  | _, _, _, _, _, [] => []
  | env, a, s, t, i, x :: r => putS name v (env ++ binds (.mk a 0 s t []) i) x :: putSL name v env a s t (i + 1) r
end
theorem putSL_len (name : Txt) (v : Cr) (env : List Txt) (a : Int) (s t : Txt) : ∀ (k : List Cr) (i : Nat), (putSL name v env a s t i k).length = k.length
  | [], _ => by simp [putSL]
  | x :: r, i => by simp [putSL, putSL_len name v env a s t r]
theorem putSL_get (name : Txt) (v : Cr) (env : List Txt) (a : Int) (s t : Txt) : ∀ (k : List Cr) (j i : Nat) (x : Cr), k[i]? = some x → (putSL name v env a s t j k)[i]? = some (putS name v (env ++ binds (.mk a 0 s t []) ((j + i : Nat) : Int)) x)
  | [], j, i, x, h => by simp at h
  | y :: r, j, 0, x, h => by simp at h; subst h; simp [putSL]
  | y :: r, j, i + 1, x, h => by
    simp only [List.getElem?_cons_succ] at h
    simp only [putSL, List.getElem?_cons_succ]
    rw [putSL_get name v env a s t r (j + 1) i x h]
    congr 4; omega

theorem put_pv (name : Txt) (v : Cr) (hv : v.wt < 1000000000000) : ∀ (x : Cr) (env : List Txt), x.wt < 1000000000 → env.length + 2 * x.wt < 100000000000 → PV Try.prog 35 [.agg x.enc, .one (.str name), .agg v.enc, .one (encT env)] (.agg (putS name v env x).enc)
  | .mk a b s t k, env, hw, he => by
    rw [wt_mk] at hw he
    have ih := fun x (hx : x ∈ k) => put_pv name v hv x
    have hl := wtL_len k
    generalize hQ : pvQ (.agg (putS name v env (.mk a b s t k)).enc) = Q
    refine h35.pvq ⟨rfl, rfl, ?_⟩
    rw [hQ]
    by_cases hc : a = 2 ∧ s = name ∧ name ∉ env
    · obtain ⟨rfl, rfl, hc⟩ := hc
      simp [f35, enc_mk]
      refine callP_of (in_pv env (by omega) s) ?_
      simp [hc]
      refine callP_of (copyS_pv v hv) ?_
      simp [← hQ, putS, hc, pvQ]
    · have hgo : putS name v env (.mk a b s t k) = .mk a b s t (putSL name v env a s t 0 k) := by rw [putS, if_neg hc]
      rw [hgo] at hQ
      generalize hR : putSL name v env a s t 0 k = R at *
      have hRl : R.length = k.length := by rw [← hR, putSL_len]
      have h3 : a ≠ 2 ∨ (a = 2 ∧ s ≠ name) ∨ (a = 2 ∧ s = name ∧ name ∈ env) := by
        by_cases h1 : a = 2
        · by_cases h2 : s = name
          · exact .inr (.inr ⟨h1, h2, Classical.byContradiction fun h4 => hc ⟨h1, h2, h4⟩⟩)
          · exact .inr (.inl ⟨h1, h2⟩)
        · exact .inl h1
      rcases h3 with h3 | ⟨h1, h3⟩ | ⟨h1, h2, h3⟩
      all_goals first
        | (simp [f35, enc_mk, h1, h2]; refine callP_of (in_pv env (by omega) name) ?_; simp [h3])
        | simp [f35, enc_mk, h1, h3]
        | simp [f35, enc_mk, h3]
      all_goals
        refine w_for (fun n st => ∃ vars h, st = ⟨vars, h, 0⟩ ∧ ∃ (i : Nat) (c : C), i ≤ k.length ∧ n = k.length - i ∧ vars.get 4 = some (.box 0 (Cr.mk a b s t k).enc) ∧ vars.get 5 = some (.box 0 v.enc) ∧
          vars.get 1 = some (.one (.str name)) ∧ vars.get 3 = some (.one (encT env)) ∧
          vars.get 6 = some (.box 0 [.int .i64 0, .int .i64 0, .str [], .str [], .nils]) ∧
          vars.get 7 = some (.box 0 [.int .i64 a, .int .i64 b, .str s, .str t, c]) ∧ vars.get 8 = some (.one (.int .i64 i)) ∧ AccD h 28 5 ((R.take i).map Cr.enc) c ∧ NB vars [10]) k.length ?_ ?_
        · exact ⟨_, _, rfl, 0, .nils, by simp, by simp, by simp [enc_mk, *], by simp, by simp [*], by simp, by simp, by simp [*], by simp, by simp [AccD], by simp⟩
        · rintro J hJ n _ ⟨vars, h, rfl, i, c, hi, rfl, v4, v5, v1, v3, v6, v7, v8, hacc, nb⟩
          simp at nb
          by_cases hlt : i < k.length
          · have hw : IntKind.i64.wrap ((i : Int) + 1) = ((i + 1 : Nat) : Int) := by rw [wrapI ⟨by omega, by omega⟩]; simp
            have hx : k[i]? = some k[i] := by simp [hlt]
            have hmem := List.getElem_mem hlt
            have hwx := wtL_mem hmem
            have hRi : i < R.length := by omega
            have hg := putSL_get name v env a s t k 0 i _ hx
            rw [hR, List.getElem?_eq_getElem hRi, Nat.zero_add] at hg
            have hRg := Option.some.inj hg
            obtain ⟨c', h', fp, e1, a1, hn⟩ := hacc.push (bytes := 72) (news := [R[i].enc]) (by simp) (by simp; omega)
            rw [hRg] at e1
            rw [enc_mk, encL] at v4
            simp [v1, v3, v4, v5, v6, v7, v8, nb, hlt]
            have henv := env_pv (.mk a b s t k) i env (by omega)
            rw [enc_mk, encL] at henv
            refine callP_of henv ?_
            simp [v1, v3, v4, v5, v6, v7, v8, nb, hlt]
            refine callP_of (ih _ hmem (env ++ binds (.mk a b s t k) i) (by omega) ?_) ?_
            · have := binds_len (.mk a b s t k) i
              simp only [List.length_append]; omega
            simp only [binds] at e1
            simp [v1, v3, v4, v5, v6, v7, v8, nb, hlt, e1, hw, binds]
            subst hJ
            refine ⟨k.length - (i + 1), by omega, _, _, rfl, i + 1, c', by omega, rfl, by simp [v4, enc_mk, encL], by simp [v5], by simp [v1], by simp [v3], by simp [v6], by simp, by simp, ?_, by simp [nb]⟩
            rw [List.take_succ_eq_append_getElem hRi, List.map_append]
            exact a1
          · have hei : i = k.length := by omega
            subst hei
            rw [← hRl, List.take_length] at hacc
            rw [enc_mk, encL] at v4
            simp [v1, v3, v4, v5, v6, v7, v8, nb]
            rw [← hQ]
            exact pvQ_core hacc

end Go.Proofs.Ytnnejoalamkkpaa

namespace Go.Proofs.Ytnnejoalamkkpaa
open Go Go.AI Go.Proofs
set_option linter.unusedSimpArgs false

theorem putfor_pv (name : Txt) (v x : Cr) (hv : v.wt < 1000000000000) (hx : x.wt < 1000000000) : PV Try.prog 10 [.agg x.enc, .one (.str name), .agg v.enc] (.agg (putS name v [] x).enc) := by
  refine h10.pvq ⟨rfl, rfl, ?_⟩
  simp [f10]
  refine callP_of (put_pv name v hv x [] hx (by simp; omega)) ?_
  simp [pvQ]

theorem copy_hv : ∀ x : Cr, x.wt < 1000000000000 → ∀ (H : Heap) (cs : List C), RdC H x cs → HV Try.prog 37 [.agg cs] H (MkQ H x)
  | .mk a b s t k, hw, H, cs, hr => by
    obtain ⟨c, rfl, hr⟩ := hr
    rw [wt_mk] at hw
    have hl := wtL_len k
    have ih := fun x (hx : x ∈ k) => copy_hv x (by have := wtL_mem hx; omega)
    generalize hQ : MkQ H (.mk a b s t k) = Q
    refine h37.hv ⟨rfl, rfl, ?_⟩
    have hlen := hr.len
    simp [f37, hlen]
    refine w_for (fun n st => ∃ vars h, st = ⟨vars, h, H.next⟩ ∧ ∃ (i : Nat) (kc : C), i ≤ k.length ∧ n = k.length - i ∧ vars.get 1 = some (.box 0 [.int .i64 a, .int .i64 b, .str s, .str t, kc]) ∧
      vars.get 2 = some (.box 0 [.int .i64 0, .int .i64 0, .str [], .str [], .nils]) ∧ vars.get 5 = some (.one c) ∧ vars.get 6 = some (.one (.int .i64 k.length)) ∧ vars.get 7 = some (.one (.int .i64 i)) ∧
      NB vars [8] ∧ Acc h 28 5 (kdL k) ((k.take i).map Cr.enc) kc (Rng H.next h.next) ∧ Keep H.next H h) k.length ?_ ?_
    · exact ⟨_, _, rfl, 0, .nils, by simp, by simp, by simp, by simp, by simp, by simp, by simp, by simp, .inl ⟨by simp, rfl⟩, Keep.refl _ _⟩
    · rintro J hJ n _ ⟨vars, h, rfl, i, kc, hi, rfl, v1, v2, v5, v6, v7, nb, hacc, hkeep⟩
      simp at nb
      by_cases hlt : i < k.length
      · have hw : IntKind.i64.wrap ((i : Int) + 1) = ((i + 1 : Nat) : Int) := by rw [wrapI ⟨by omega, by omega⟩]; simp
        have hmem := List.getElem_mem hlt
        obtain ⟨p, l1, l2, cs, e1, e2, e3, e4⟩ := (hr.keep hkeep (Nat.le_refl _)).at hlt
        have htk : cs.take 5 = cs := List.take_of_length_le (by omega)
        simp [v1, v2, v5, v6, v7, nb, hlt, e1, e2, e3, htk]
        refine callH_of (ih _ hmem h cs e4) (by simp) (by simp) ?_
        rintro r h' ⟨cs', rfl, ht, hk'⟩
        have hl5 := ht.len
        have hkd := kdL_mem hmem
        obtain ⟨c', h'', fp, a1, a2, a3⟩ := (hacc.frame (h' := h') fun m hm => hk'.2 m hm.2).push (bytes := 72) (el := k[i].enc) (el' := cs') hk'.1 hkeep.1 (enc_len _) hl5
          (fun j c c' hc hc' => (ht.up (by omega)).th j c c' hc hc') (by simp; omega)
        simp [v1, v2, v5, v6, v7, nb, hlt, a1, hl5, hw]
        subst hJ
        refine ⟨k.length - (i + 1), by omega, _, _, rfl, i + 1, c', by omega, rfl, by simp, by simp [v2], by simp [v5], by simp [v6], by simp, by simp [nb], ?_, hkeep.trans ((hk'.less hkeep.1).trans a3)⟩
        rw [List.take_succ_eq_append_getElem hlt, List.map_append]
        exact a2
      · have hei : i = k.length := by omega
        subst hei
        rw [List.take_length] at hacc
        simp [v1, v2, v5, v6, v7, nb]
        rw [← hQ]
        refine ⟨_, rfl, ⟨kc, rfl, ?_⟩, hkeep⟩
        rw [kd_mk]
        exact hacc.th

end Go.Proofs.Ytnnejoalamkkpaa

namespace Go.Proofs.Ytnnejoalamkkpaa
open Go Go.AI Go.Proofs
set_option linter.unusedSimpArgs false

def idxA (s : Txt) : Nat → List Txt → Int
  | _, [] => -1
  | i, x :: r => if s = x then i else idxA s (i + 1) r
theorem idxA_mem (s : Txt) : ∀ (l : List Txt) (i : Nat), 0 ≤ idxA s i l ↔ s ∈ l
  | [], i => by simp [idxA]
  | x :: r, i => by
    simp only [idxA, List.mem_cons]
    split
    · rename_i h; simp [h]
    · rename_i h; rw [idxA_mem s r (i + 1)]; simp [h]

theorem index_pv (l : List Txt) (hl : l.length < 1000000000000000) (s : Txt) : PV Try.prog 78 [.one (encT l), .one (.str s)] (.one (.int .i64 (idxA s 0 l))) := by
  generalize hr : idxA s 0 l = r
  refine h78.pvq ⟨rfl, rfl, ?_⟩
  simp [f78, encT]
  generalize hM : l.map (fun s => [C.str s]) = M
  have hml : M.length = l.length := by rw [← hM]; simp
  refine w_for (fun n st => ∃ vars, st = ⟨vars, Heap.empty, 0⟩ ∧ ∃ (i : Nat), i ≤ l.length ∧ n = l.length - i ∧ vars.get 0 = some (.one (.dv M)) ∧ vars.get 1 = some (.one (.str s)) ∧ vars.get 4 = some (.one (.int .i64 l.length)) ∧ vars.get 5 = some (.one (.int .i64 i)) ∧
    idxA s i (l.drop i) = r ∧ NB vars [2, 3, 6, 7]) l.length ?_ ?_
  · exact ⟨_, rfl, 0, by simp, by simp, by simp, by simp, by simp, by simp, by simp [hr], by simp⟩
  · rintro J hJ n _ ⟨vars, rfl, i, hi, rfl, v0, v1, v4, v5, hidx, nb⟩
    simp at nb
    by_cases hlt : i < l.length
    · have hi2 : i < M.length := by omega
      have hgE : M[i] = [.str l[i]] := by subst hM; simp
      have hw : IntKind.i64.wrap ((i : Int) + 1) = ((i + 1 : Nat) : Int) := by rw [wrapI ⟨by omega, by omega⟩]; simp
      rw [List.drop_eq_getElem_cons hlt, idxA] at hidx
      simp [v0, v1, v4, v5, nb, hlt, hgE, hml, hw]
      split
      · rename_i he
        rw [if_pos he] at hidx
        exact hidx
      · rename_i he
        rw [if_neg he] at hidx
        subst hJ
        exact ⟨l.length - (i + 1), by omega, _, rfl, i + 1, by omega, rfl, by simp [v0], by simp [v1], by simp [v4], by simp, hidx, by simp [nb]⟩
    · have hei : i = l.length := by omega
      subst hei
      simp [idxA] at hidx
      simp [v0, v1, v4, v5, nb, hidx]

theorem contains_pv (l : List Txt) (hl : l.length < 1000000000000000) (s : Txt) : PV Try.prog 38 [.one (encT l), .one (.str s)] (.one (.bool (decide (s ∈ l)))) := by
  generalize hr : decide (s ∈ l) = r
  refine h38.pvq ⟨rfl, rfl, ?_⟩
  simp [f38]
  refine callP_of (index_pv l hl s) ?_
  simp [idxA_mem, hr]

theorem bindsIn_hv (a b : Int) (s t : Txt) (c : C) (i : Int) (H : Heap) : HV Try.prog 39 [.agg [.int .i64 a, .int .i64 b, .str s, .str t, c], .one (.int .i64 i)] H
    (fun r H' => ∃ c', r = .one c' ∧ AccD H' 9 1 ((binds (.mk a b s t []) i).map fun s => [.str s]) c' ∧ Keep H.next H H') := by
  generalize hQ : (fun (r : V) (H' : Heap) => ∃ c', r = .one c' ∧ AccD H' 9 1 ((binds (.mk a b s t []) i).map fun s => [.str s]) c' ∧ Keep H.next H H') = Q
  have hnew : ∀ l, Keep H.next H (H.new 9 1 l) := fun l => ⟨by simp [Heap.new], fun m hm => by simp [Heap.new, Tr.get_put_ne _ _ (by omega : m ≠ H.next)]⟩
  have hacc : ∀ l : List (List C), AccD (H.new 9 1 l) 9 1 l (.sl H.next (H.fresh H.next) 0 l.length) := fun l => .inr ⟨H.next, H.fresh H.next, rfl, by simp [Heap.new], by simp [Heap.new]⟩
  refine h39.hv ⟨rfl, rfl, ?_⟩
  by_cases h3 : a = 3
  · subst h3
    simp [f39, binds, ← hQ]
    exact ⟨hacc [[.str s]], hnew _⟩
  by_cases h5 : a = 5
  · subst h5
    by_cases hi : i = 1
    · subst hi
      simp [f39, binds, ← hQ]
      exact ⟨hacc [[.str s]], hnew _⟩
    · simp [f39, binds, ← hQ, hi]
      exact ⟨.inl ⟨rfl, rfl⟩, Keep.refl _ _⟩
  by_cases h6 : a = 6
  · subst h6
    by_cases hi : i = 1
    · subst hi
      simp [f39, binds, ← hQ]
      exact ⟨hacc [[.str s]], hnew _⟩
    · simp [f39, binds, ← hQ, hi]
      exact ⟨hacc [[.str s], [.str t]], hnew _⟩
  · simp [f39, binds, ← hQ, h3, h5, h6]
    exact ⟨.inl ⟨rfl, rfl⟩, Keep.refl _ _⟩

mutual
def putI (name : Txt) (v : Cr) : Cr → Cr
  | .mk a b s t k => if a = 2 ∧ s = name then v else .mk a b s t (putIL name v a s t 0 k)
def putIL (name : Txt) (v : Cr) : Int → Txt → Txt → Nat → List Cr → List Cr
  | _, _, _, _, [] => []
  | a, s, t, i, x :: r => (if name ∈ binds (.mk a 0 s t []) i then x else putI name v x) :: putIL name v a s t (i + 1) r
end
theorem putIL_len (name : Txt) (v : Cr) (a : Int) (s t : Txt) : ∀ (k : List Cr) (i : Nat), (putIL name v a s t i k).length = k.length
  | [], _ => by simp [putIL]
  | x :: r, i => by simp [putIL, putIL_len name v a s t r]
theorem putIL_get (name : Txt) (v : Cr) (a : Int) (s t : Txt) : ∀ (k : List Cr) (j i : Nat) (x : Cr), k[i]? = some x → (putIL name v a s t j k)[i]? = some (if name ∈ binds (.mk a 0 s t []) ((j + i : Nat) : Int) then x else putI name v x)
  | [], j, i, x, h => by simp at h
  | y :: r, j, 0, x, h => by simp at h; subst h; simp [putIL]
  | y :: r, j, i + 1, x, h => by
    simp only [List.getElem?_cons_succ] at h
    simp only [putIL, List.getElem?_cons_succ]
    rw [putIL_get name v a s t r (j + 1) i x h]
    rw [show j + 1 + i = j + (i + 1) by omega]

theorem put_hv (name : Txt) (v : Cr) (hv : v.wt < 1000000000000) : ∀ (x : Cr), x.wt < 1000000000 → ∀ (H : Heap) (cs cv : List C), RdC H x cs → RdC H v cv → cv.length = 5 → HV Try.prog 12 [.agg cs, .one (.str name), .agg cv] H (MkQ H (putI name v x))
  | .mk a b s t k, hw, H, cs, cv, hr, hrv, hcv5 => by
    obtain ⟨c, rfl, hr⟩ := hr
    rw [wt_mk] at hw
    have hl := wtL_len k
    have ih := fun x (hx : x ∈ k) => put_hv name v hv x (by have := wtL_mem hx; omega)
    have hcp := fun x (hx : x ∈ k) => copy_hv x (by have := wtL_mem hx; omega)
    generalize hQ : MkQ H (putI name v (.mk a b s t k)) = Q
    refine h12.hv ⟨rfl, rfl, ?_⟩
    have hlen := hr.len
    have htv : cv.take 5 = cv := List.take_of_length_le (by omega)
    by_cases hc : a = 2 ∧ s = name
    · obtain ⟨h1, h2⟩ := hc
      simp [f12, h1, h2, hcv5, htv]
      refine callH_of (copy_hv v hv _ cv (hrv.keep (Keep.refl _ _) (Nat.le_refl _))) (by simp) (by simp) ?_
      rintro r h' ⟨cs', rfl, ht, hk'⟩
      have hl5 := ht.len
      have htk : cs'.take 5 = cs' := List.take_of_length_le (by omega)
      simp [hl5, htk]
      rw [← hQ, putI, if_pos ⟨h1, h2⟩]
      exact ⟨cs', rfl, ht, hk'⟩
    · have hgo : putI name v (.mk a b s t k) = .mk a b s t (putIL name v a s t 0 k) := by rw [putI, if_neg hc]
      rw [hgo] at hQ
      generalize hR : putIL name v a s t 0 k = R at *
      have hRl : R.length = k.length := by rw [← hR, putIL_len]
      have h3 : a ≠ 2 ∨ (a = 2 ∧ s ≠ name) := by
        by_cases h1 : a = 2
        · exact .inr ⟨h1, fun h2 => hc ⟨h1, h2⟩⟩
        · exact .inl h1
      rcases h3 with h3 | ⟨h1, h3⟩
      all_goals first
        | simp [f12, hlen, h1, h3, hcv5]
        | simp [f12, hlen, h3, hcv5]
      all_goals
        refine w_for (fun n st => ∃ vars h, st = ⟨vars, h, H.next⟩ ∧ ∃ (i : Nat) (kc : C), i ≤ k.length ∧ n = k.length - i ∧ vars.get 1 = some (.one (.str name)) ∧ vars.get 3 = some (.box 0 [.int .i64 a, .int .i64 b, .str s, .str t, c]) ∧
          vars.get 4 = some (.box 0 cv) ∧ vars.get 5 = some (.box 0 [.int .i64 0, .int .i64 0, .str [], .str [], .nils]) ∧ vars.get 6 = some (.box 0 [.int .i64 a, .int .i64 b, .str s, .str t, kc]) ∧
          vars.get 10 = some (.one c) ∧ vars.get 11 = some (.one (.int .i64 k.length)) ∧ vars.get 12 = some (.one (.int .i64 i)) ∧
          NB vars [7, 13, 14] ∧ Acc h 28 5 (kdL R) ((R.take i).map Cr.enc) kc (Rng H.next h.next) ∧ Keep H.next H h) k.length ?_ ?_
        · exact ⟨_, _, rfl, 0, .nils, by simp, by simp, by simp, by simp [*], by simp, by simp, by simp [*], by simp, by simp, by simp, by simp, .inl ⟨by simp, rfl⟩, Keep.refl _ _⟩
        · rintro J hJ n _ ⟨vars, h, rfl, i, kc, hi, rfl, v1, v3, v4, v5, v6, v10, v11, v12, nb, hacc, hkeep⟩
          simp at nb
          by_cases hlt : i < k.length
          · have hw : IntKind.i64.wrap ((i : Int) + 1) = ((i + 1 : Nat) : Int) := by rw [wrapI ⟨by omega, by omega⟩]; simp
            have hmem := List.getElem_mem hlt
            have hwx := wtL_mem hmem
            have hx : k[i]? = some k[i] := by simp [hlt]
            have hRi : i < R.length := by omega
            have hg := putIL_get name v a s t k 0 i _ hx
            rw [hR, List.getElem?_eq_getElem hRi, Nat.zero_add] at hg
            have hRg := Option.some.inj hg
            have hkd := kdL_mem (List.getElem_mem hRi)
            obtain ⟨p, l1, l2, cs, e1, e2, e3, e4⟩ := (hr.keep hkeep (Nat.le_refl _)).at hlt
            have htk : cs.take 5 = cs := List.take_of_length_le (by omega)
            simp [v1, v3, v4, v5, v6, v10, v11, v12, nb, hlt, e1, e2, e3, htk]
            refine callH_of (bindsIn_hv a b s t c i h) (by simp) (by simp) ?_
            rintro r h1' ⟨c', rfl, had, hk1⟩
            obtain ⟨ids, hf⟩ := had.names
            simp [v1, v3, v4, v5, v6, v10, v11, v12, nb, hlt, hf]
            have hbl := binds_len (.mk a 0 s t []) i
            refine callP_of (contains_pv (binds (.mk a b s t []) i) (by simp only [binds] at hbl ⊢; omega) name) ?_
            have hacc1 := hacc.frame (h' := h1') fun m hm => hk1.2 m hm.2
            by_cases hb : name ∈ binds (.mk a 0 s t []) i
            · rw [if_pos hb] at hRg
              have hb' : name ∈ binds (.mk a b s t []) i := hb
              simp [v1, v3, v4, v5, v6, v10, v11, v12, nb, hlt, hb', e3, htk]
              refine callH_of (hcp _ hmem h1' cs (e4.keep hk1 (Nat.le_refl _))) (by simp) (by simp) ?_
              rintro r h' ⟨cs', rfl, ht, hk'⟩
              have hl5 := ht.len
              rw [← hRg] at ht
              have hkk := hk1.1
              obtain ⟨c2, h2, fp, a1, a2, a3⟩ := (hacc1.frame (h' := h') fun m hm => hk'.2 m (by have := hm.2; omega)).push (bytes := 72) (el := R[i].enc) (el' := cs') (Nat.le_trans hkk hk'.1) hkeep.1 (enc_len _) hl5
                (fun j c c' hc hc' => ((ht.up hkd).mono fun m hm => ⟨by have := hm.1; omega, hm.2⟩).th j c c' hc hc') (by simp; omega)
              simp [v1, v3, v4, v5, v6, v10, v11, v12, nb, hlt, a1, hl5, hw]
              subst hJ
              refine ⟨k.length - (i + 1), by omega, _, _, rfl, i + 1, c2, by omega, rfl, by simp [v1], by simp [v3], by simp [v4], by simp [v5], by simp, by simp [v10], by simp [v11], by simp, by simp [nb], ?_,
                hkeep.trans ((hk1.less hkeep.1).trans ((hk'.less (Nat.le_trans hkeep.1 hkk)).trans a3))⟩
              rw [List.take_succ_eq_append_getElem hRi, List.map_append]
              exact a2
            · rw [if_neg hb] at hRg
              have hb' : name ∉ binds (.mk a b s t []) i := hb
              simp [v1, v3, v4, v5, v6, v10, v11, v12, nb, hlt, hb', e3, htk, hcv5, htv]
              refine callH_of (ih _ hmem h1' cs cv (e4.keep hk1 (Nat.le_refl _)) ((hrv.keep hkeep (Nat.le_refl _)).keep hk1 (Nat.le_refl _)) hcv5) (by simp) (by simp) ?_
              rintro r h' ⟨cs', rfl, ht, hk'⟩
              have hl5 := ht.len
              rw [← hRg] at ht
              have hkk := hk1.1
              obtain ⟨c2, h2, fp, a1, a2, a3⟩ := (hacc1.frame (h' := h') fun m hm => hk'.2 m (by have := hm.2; omega)).push (bytes := 72) (el := R[i].enc) (el' := cs') (Nat.le_trans hkk hk'.1) hkeep.1 (enc_len _) hl5
                (fun j c c' hc hc' => ((ht.up hkd).mono fun m hm => ⟨by have := hm.1; omega, hm.2⟩).th j c c' hc hc') (by simp; omega)
              simp [v1, v3, v4, v5, v6, v10, v11, v12, nb, hlt, a1, hl5, hw]
              subst hJ
              refine ⟨k.length - (i + 1), by omega, _, _, rfl, i + 1, c2, by omega, rfl, by simp [v1], by simp [v3], by simp [v4], by simp [v5], by simp, by simp [v10], by simp [v11], by simp, by simp [nb], ?_,
                hkeep.trans ((hk1.less hkeep.1).trans ((hk'.less (Nat.le_trans hkeep.1 hkk)).trans a3))⟩
              rw [List.take_succ_eq_append_getElem hRi, List.map_append]
              exact a2
          · have hei : i = k.length := by omega
            subst hei
            rw [← hRl, List.take_length] at hacc
            simp [v1, v3, v4, v5, v6, v10, v11, v12, nb]
            rw [← hQ]
            refine ⟨_, rfl, ⟨kc, rfl, ?_⟩, hkeep⟩
            rw [kd_mk]
            exact hacc.th

end Go.Proofs.Ytnnejoalamkkpaa

/- The functions that FnExactFoldable reaches, translated. -/
namespace Go.Proofs.Ytnnejoalamkkpaa
open Go Go.AI Go.Proofs
/-- loop.example/g00396/spec.CoreOk -/
def f60 : AFun := ⟨[0], 0,
 .seq (.region [⟨.boxV 1 28 5 (.var 0), (.var 1), none, []⟩, ⟨.mov (.cst (.one (.bool false))), (.var 2), none, []⟩])
 (.seq (.region [⟨.load (some (5)) (.var 1), .loc, none, []⟩, ⟨.call 66 [.loc 0] false, .loc, none, []⟩, ⟨.bin .leq .num (.loc 1) (.cst (.one (.int .i64 3000))), .loc, none, []⟩, ⟨.mov (.loc 2), .loc, none, []⟩, ⟨.load (some (5)) (.var 1), .loc, (some (.loc 3, true)), []⟩, ⟨.call 91 [.loc 4] false, .loc, (some (.loc 3, true)), []⟩, ⟨.bin .leq .num (.loc 5) (.cst (.one (.int .i64 150))), .loc, (some (.loc 3, true)), []⟩, ⟨.pick (.loc 3) (.loc 6) (.cst (.one (.bool false))), .loc, none, []⟩, ⟨.mov (.loc 7), .loc, none, []⟩, ⟨.load (some (5)) (.var 1), .loc, (some (.loc 8, true)), []⟩, ⟨.lit 1 0 [.str []] [], .loc, (some (.loc 8, true)), []⟩, ⟨.call 92 [.loc 9, .loc 10] false, .loc, (some (.loc 8, true)), []⟩, ⟨.pick (.loc 8) (.loc 11) (.cst (.one (.bool false))), .loc, none, []⟩, ⟨.mov (.loc 12), (.var 2), none, []⟩])
 (.ret)), [(.var 2, none)]⟩
def c60 : Cfg := ⟨16, [0, 1, 2], [1], [], [], fun g t => [].contains g && ![].contains t⟩
theorem h60 : Has Try.prog 60 f60 := ⟨by kernel_rfl, c60, Try.f60, by kernel_rfl, by kernel_rfl⟩

/-- loop.example/g00396/spec.CoreSize -/
def f66 : AFun := ⟨[0], 0,
 .seq (.region [⟨.boxV 1 28 5 (.var 0), (.var 1), none, []⟩, ⟨.mov (.cst (.one (.int .i64 0))), (.var 2), none, []⟩])
 (.seq (.region [⟨.mov (.cst (.one (.int .i64 1))), (.var 3), none, []⟩])
 (.seq (.seq (.region [⟨.mov (.cst (.one (.int .i64 0))), (.var 4), none, []⟩])
 (.block 0 (.loop (.seq (.seq (.region [⟨.mov (.var 4), .loc, none, []⟩, ⟨.fieldAddr 4 (.var 1), .loc, none, []⟩, ⟨.load none (.loc 1), .loc, none, []⟩, ⟨.len false (.loc 2), .loc, none, []⟩, ⟨.bin .lss .num (.loc 0) (.loc 3), (.var 5), none, []⟩])
 (.cond (.var 5) (.skip)
 (.exit 0)))
 (.seq (.block 1 (.region [⟨.mov (.var 3), .loc, none, []⟩, ⟨.fieldAddr 4 (.var 1), .loc, none, []⟩, ⟨.load none (.loc 1), .loc, none, []⟩, ⟨.mov (.var 4), .loc, none, []⟩, ⟨.indexAddr 5 (.loc 2) (.loc 3), .loc, none, []⟩, ⟨.load (some (5)) (.loc 4), .loc, none, []⟩, ⟨.call 66 [.loc 5] false, .loc, none, []⟩, ⟨.bin .add .num (.loc 0) (.loc 6), .loc, none, []⟩, ⟨.mov (.loc 7), (.var 3), none, []⟩]))
 (.region [⟨.mov (.var 4), .loc, none, []⟩, ⟨.bin .add .num (.loc 0) (.cst (.one (.int .i64 1))), .loc, none, []⟩, ⟨.mov (.loc 1), (.var 4), none, []⟩]))))))
 (.seq (.region [⟨.mov (.var 3), .loc, none, []⟩, ⟨.mov (.loc 0), (.var 2), none, []⟩])
 (.ret)))), [(.var 2, none)]⟩
def c66 : Cfg := ⟨21, [0, 1, 2, 3, 4, 9], [1], [], [], fun g t => [].contains g && ![].contains t⟩
theorem h66 : Has Try.prog 66 f66 := ⟨by kernel_rfl, c66, Try.f66, by kernel_rfl, by kernel_rfl⟩

/-- loop.example/g00396/spec.l9Deep -/
def f91 : AFun := ⟨[0], 0,
 .seq (.region [⟨.boxV 1 28 5 (.var 0), (.var 1), none, []⟩, ⟨.mov (.cst (.one (.int .i64 0))), (.var 2), none, []⟩])
 (.seq (.region [⟨.mov (.cst (.one (.int .i64 0))), (.var 3), none, []⟩])
 (.seq (.seq (.region [⟨.mov (.cst (.one (.int .i64 0))), (.var 4), none, []⟩])
 (.block 0 (.loop (.seq (.seq (.region [⟨.mov (.var 4), .loc, none, []⟩, ⟨.fieldAddr 4 (.var 1), .loc, none, []⟩, ⟨.load none (.loc 1), .loc, none, []⟩, ⟨.len false (.loc 2), .loc, none, []⟩, ⟨.bin .lss .num (.loc 0) (.loc 3), (.var 5), none, []⟩])
 (.cond (.var 5) (.skip)
 (.exit 0)))
 (.seq (.block 1 (.region [⟨.mov (.var 3), .loc, none, []⟩, ⟨.fieldAddr 4 (.var 1), .loc, none, []⟩, ⟨.load none (.loc 1), .loc, none, []⟩, ⟨.mov (.var 4), .loc, none, []⟩, ⟨.indexAddr 5 (.loc 2) (.loc 3), .loc, none, []⟩, ⟨.load (some (5)) (.loc 4), .loc, none, []⟩, ⟨.call 91 [.loc 5] false, .loc, none, []⟩, ⟨.call 121 [.loc 0, .loc 6] false, .loc, none, []⟩, ⟨.mov (.loc 7), (.var 3), none, []⟩]))
 (.region [⟨.mov (.var 4), .loc, none, []⟩, ⟨.bin .add .num (.loc 0) (.cst (.one (.int .i64 1))), .loc, none, []⟩, ⟨.mov (.loc 1), (.var 4), none, []⟩]))))))
 (.seq (.region [⟨.mov (.var 3), .loc, none, []⟩, ⟨.bin .add .num (.loc 0) (.cst (.one (.int .i64 1))), .loc, none, []⟩, ⟨.mov (.loc 1), (.var 2), none, []⟩])
 (.ret)))), [(.var 2, none)]⟩
def c91 : Cfg := ⟨22, [0, 1, 2, 3, 4, 9], [1], [], [], fun g t => [].contains g && ![].contains t⟩
theorem h91 : Has Try.prog 91 f91 := ⟨by kernel_rfl, c91, Try.f91, by kernel_rfl, by kernel_rfl⟩

/-- loop.example/g00396/spec.l9Right -/
def f92 : AFun := ⟨[0, 1], 0,
 .seq (.region [⟨.boxV 2 28 5 (.var 0), (.var 2), none, []⟩, ⟨.mov (.cst (.one (.bool false))), (.var 3), none, []⟩])
 (.seq (.seq (.region [⟨.fieldAddr 0 (.var 2), .loc, none, []⟩, ⟨.load none (.loc 0), .loc, none, []⟩, ⟨.call 122 [.loc 1] false, .loc, none, []⟩, ⟨.fieldAddr 4 (.var 2), .loc, none, [0, 1, 2]⟩, ⟨.load none (.loc 3), .loc, none, [0, 1, 2]⟩, ⟨.len false (.loc 4), .loc, none, [0, 1, 2]⟩, ⟨.bin .neq .num (.loc 2) (.loc 5), .loc, none, []⟩, ⟨.mov (.loc 6), .loc, none, []⟩, ⟨.fieldAddr 0 (.var 2), .loc, (some (.loc 7, false)), []⟩, ⟨.load none (.loc 8), .loc, (some (.loc 7, false)), []⟩, ⟨.call 123 [.loc 9] false, .loc, (some (.loc 7, false)), []⟩, ⟨.fieldAddr 2 (.var 2), .loc, (some (.loc 7, false)), [8, 9, 10]⟩, ⟨.load none (.loc 11), .loc, (some (.loc 7, false)), [8, 9, 10]⟩, ⟨.bin .neq .num (.loc 12) (.cst (.one (.str []))), .loc, (some (.loc 7, false)), [8, 9, 10]⟩, ⟨.bin .neq .bool (.loc 10) (.loc 13), .loc, (some (.loc 7, false)), []⟩, ⟨.pick (.loc 7) (.cst (.one (.bool true))) (.loc 14), .loc, none, []⟩, ⟨.mov (.loc 15), .loc, none, []⟩, ⟨.fieldAddr 0 (.var 2), .loc, (some (.loc 16, false)), []⟩, ⟨.load none (.loc 17), .loc, (some (.loc 16, false)), []⟩, ⟨.bin .eql .num (.loc 18) (.cst (.one (.int .i64 6))), .loc, (some (.loc 16, false)), []⟩, ⟨.fieldAddr 3 (.var 2), .loc, (some (.loc 16, false)), [17, 18, 19]⟩, ⟨.load none (.loc 20), .loc, (some (.loc 16, false)), [17, 18, 19]⟩, ⟨.bin .neq .num (.loc 21) (.cst (.one (.str []))), .loc, (some (.loc 16, false)), [17, 18, 19]⟩, ⟨.bin .neq .bool (.loc 19) (.loc 22), .loc, (some (.loc 16, false)), []⟩, ⟨.pick (.loc 16) (.cst (.one (.bool true))) (.loc 23), .loc, none, []⟩, ⟨.mov (.loc 24), .loc, none, []⟩, ⟨.fieldAddr 0 (.var 2), .loc, (some (.loc 25, false)), []⟩, ⟨.load none (.loc 26), .loc, (some (.loc 25, false)), []⟩, ⟨.bin .neq .num (.loc 27) (.cst (.one (.int .i64 1))), .loc, (some (.loc 25, false)), []⟩, ⟨.mov (.loc 28), .loc, (some (.loc 25, false)), []⟩, ⟨.fieldAddr 1 (.var 2), .loc, (some (.loc 29, true)), []⟩, ⟨.load none (.loc 30), .loc, (some (.loc 29, true)), []⟩, ⟨.bin .neq .num (.loc 31) (.cst (.one (.int .i64 0))), .loc, (some (.loc 29, true)), []⟩, ⟨.pick (.loc 29) (.loc 32) (.cst (.one (.bool false))), .loc, (some (.loc 25, false)), []⟩, ⟨.pick (.loc 25) (.cst (.one (.bool true))) (.loc 33), .loc, none, []⟩, ⟨.mov (.loc 34), .loc, none, []⟩, ⟨.fieldAddr 1 (.var 2), .loc, (some (.loc 35, false)), []⟩, ⟨.load none (.loc 36), .loc, (some (.loc 35, false)), []⟩, ⟨.call 114 [.loc 37] false, .loc, (some (.loc 35, false)), []⟩, ⟨.not (.loc 38), .loc, (some (.loc 35, false)), []⟩, ⟨.pick (.loc 35) (.cst (.one (.bool true))) (.loc 39), .loc, none, []⟩, ⟨.mov (.loc 40), .loc, none, []⟩, ⟨.fieldAddr 0 (.var 2), .loc, (some (.loc 41, false)), []⟩, ⟨.load none (.loc 42), .loc, (some (.loc 41, false)), []⟩, ⟨.bin .eql .num (.loc 43) (.cst (.one (.int .i64 2))), .loc, (some (.loc 41, false)), []⟩, ⟨.mov (.loc 44), .loc, (some (.loc 41, false)), []⟩, ⟨.mov (.var 1), .loc, (some (.loc 45, true)), []⟩, ⟨.fieldAddr 2 (.var 2), .loc, (some (.loc 45, true)), [46]⟩, ⟨.load none (.loc 47), .loc, (some (.loc 45, true)), [46]⟩, ⟨.call 76 [.loc 46, .loc 48] false, .loc, (some (.loc 45, true)), []⟩, ⟨.not (.loc 49), .loc, (some (.loc 45, true)), []⟩, ⟨.pick (.loc 45) (.loc 50) (.cst (.one (.bool false))), .loc, (some (.loc 41, false)), []⟩, ⟨.pick (.loc 41) (.cst (.one (.bool true))) (.loc 51), (.var 5), none, []⟩])
 (.cond (.var 5) (.seq (.region [⟨.mov (.cst (.one (.bool false))), (.var 3), none, []⟩])
 (.ret))
 (.skip)))
 (.seq (.seq (.region [⟨.mov (.cst (.one (.int .i64 0))), (.var 4), none, []⟩])
 (.block 0 (.loop (.seq (.seq (.region [⟨.mov (.var 4), .loc, none, []⟩, ⟨.fieldAddr 4 (.var 2), .loc, none, []⟩, ⟨.load none (.loc 1), .loc, none, []⟩, ⟨.len false (.loc 2), .loc, none, []⟩, ⟨.bin .lss .num (.loc 0) (.loc 3), (.var 6), none, []⟩])
 (.cond (.var 6) (.skip)
 (.exit 0)))
 (.seq (.block 1 (.seq (.region [⟨.fieldAddr 4 (.var 2), .loc, none, []⟩, ⟨.load none (.loc 0), .loc, none, []⟩, ⟨.mov (.var 4), .loc, none, [0, 1]⟩, ⟨.indexAddr 5 (.loc 1) (.loc 2), .loc, none, []⟩, ⟨.load (some (5)) (.loc 3), .loc, none, []⟩, ⟨.load (some (5)) (.var 2), .loc, none, [0, 1, 2, 3, 4]⟩, ⟨.mov (.var 4), .loc, none, [0, 1, 2, 3, 4, 5]⟩, ⟨.mov (.var 1), .loc, none, [0, 1, 2, 3, 4, 5, 6]⟩, ⟨.call 77 [.loc 5, .loc 6, .loc 7] false, .loc, none, [0, 1, 2, 3, 4]⟩, ⟨.call 92 [.loc 4, .loc 8] false, .loc, none, []⟩, ⟨.not (.loc 9), (.var 7), none, []⟩])
 (.cond (.var 7) (.seq (.region [⟨.mov (.cst (.one (.bool false))), (.var 3), none, []⟩])
 (.ret))
 (.skip))))
 (.region [⟨.mov (.var 4), .loc, none, []⟩, ⟨.bin .add .num (.loc 0) (.cst (.one (.int .i64 1))), .loc, none, []⟩, ⟨.mov (.loc 1), (.var 4), none, []⟩]))))))
 (.seq (.region [⟨.mov (.cst (.one (.bool true))), (.var 3), none, []⟩])
 (.ret)))), [(.var 3, none)]⟩
def c92 : Cfg := ⟨77, [0, 1, 2, 4, 5, 58, 63, 76], [2], [], [], fun g t => [].contains g && ![].contains t⟩
theorem h92 : Has Try.prog 92 f92 := ⟨by kernel_rfl, c92, Try.f92, by kernel_rfl, by kernel_rfl⟩

/-- loop.example/g00396/spec.l9Kids -/
def f122 : AFun := ⟨[0], 0,
 .seq (.region [⟨.mov (.cst (.one (.int .i64 0))), (.var 1), none, []⟩])
 (.seq (.seq (.region [⟨.mov (.var 0), (.var 2), none, []⟩])
 (.block 0 (.seq (.seq (.region [⟨.bin .eql .num (.var 2) (.cst (.one (.int .i64 1))), .loc, none, []⟩, ⟨.mov (.loc 0), (.var 3), none, []⟩])
 (.cond (.var 3) (.skip)
 (.seq (.region [⟨.bin .eql .num (.var 2) (.cst (.one (.int .i64 2))), .loc, none, []⟩, ⟨.mov (.loc 0), (.var 3), none, []⟩])
 (.cond (.var 3) (.skip)
 (.region [⟨.bin .eql .num (.var 2) (.cst (.one (.int .i64 13))), .loc, none, []⟩, ⟨.mov (.loc 0), (.var 3), none, []⟩])))))
 (.cond (.var 3) (.seq (.region [⟨.mov (.cst (.one (.int .i64 0))), (.var 1), none, []⟩])
 (.ret))
 (.seq (.seq (.region [⟨.bin .eql .num (.var 2) (.cst (.one (.int .i64 3))), .loc, none, []⟩, ⟨.mov (.loc 0), (.var 4), none, []⟩])
 (.cond (.var 4) (.skip)
 (.seq (.region [⟨.bin .eql .num (.var 2) (.cst (.one (.int .i64 15))), .loc, none, []⟩, ⟨.mov (.loc 0), (.var 4), none, []⟩])
 (.cond (.var 4) (.skip)
 (.seq (.region [⟨.bin .eql .num (.var 2) (.cst (.one (.int .i64 16))), .loc, none, []⟩, ⟨.mov (.loc 0), (.var 4), none, []⟩])
 (.cond (.var 4) (.skip)
 (.seq (.region [⟨.bin .eql .num (.var 2) (.cst (.one (.int .i64 17))), .loc, none, []⟩, ⟨.mov (.loc 0), (.var 4), none, []⟩])
 (.cond (.var 4) (.skip)
 (.region [⟨.bin .eql .num (.var 2) (.cst (.one (.int .i64 18))), .loc, none, []⟩, ⟨.mov (.loc 0), (.var 4), none, []⟩])))))))))
 (.cond (.var 4) (.seq (.region [⟨.mov (.cst (.one (.int .i64 1))), (.var 1), none, []⟩])
 (.ret))
 (.seq (.seq (.region [⟨.bin .eql .num (.var 2) (.cst (.one (.int .i64 4))), .loc, none, []⟩, ⟨.mov (.loc 0), (.var 5), none, []⟩])
 (.cond (.var 5) (.skip)
 (.seq (.region [⟨.bin .eql .num (.var 2) (.cst (.one (.int .i64 5))), .loc, none, []⟩, ⟨.mov (.loc 0), (.var 5), none, []⟩])
 (.cond (.var 5) (.skip)
 (.seq (.region [⟨.bin .eql .num (.var 2) (.cst (.one (.int .i64 6))), .loc, none, []⟩, ⟨.mov (.loc 0), (.var 5), none, []⟩])
 (.cond (.var 5) (.skip)
 (.seq (.region [⟨.bin .eql .num (.var 2) (.cst (.one (.int .i64 8))), .loc, none, []⟩, ⟨.mov (.loc 0), (.var 5), none, []⟩])
 (.cond (.var 5) (.skip)
 (.seq (.region [⟨.bin .eql .num (.var 2) (.cst (.one (.int .i64 9))), .loc, none, []⟩, ⟨.mov (.loc 0), (.var 5), none, []⟩])
 (.cond (.var 5) (.skip)
 (.seq (.region [⟨.bin .eql .num (.var 2) (.cst (.one (.int .i64 10))), .loc, none, []⟩, ⟨.mov (.loc 0), (.var 5), none, []⟩])
 (.cond (.var 5) (.skip)
 (.seq (.region [⟨.bin .eql .num (.var 2) (.cst (.one (.int .i64 11))), .loc, none, []⟩, ⟨.mov (.loc 0), (.var 5), none, []⟩])
 (.cond (.var 5) (.skip)
 (.seq (.region [⟨.bin .eql .num (.var 2) (.cst (.one (.int .i64 12))), .loc, none, []⟩, ⟨.mov (.loc 0), (.var 5), none, []⟩])
 (.cond (.var 5) (.skip)
 (.region [⟨.bin .eql .num (.var 2) (.cst (.one (.int .i64 14))), .loc, none, []⟩, ⟨.mov (.loc 0), (.var 5), none, []⟩])))))))))))))))))
 (.cond (.var 5) (.seq (.region [⟨.mov (.cst (.one (.int .i64 2))), (.var 1), none, []⟩])
 (.ret))
 (.seq (.region [⟨.bin .eql .num (.var 2) (.cst (.one (.int .i64 7))), .loc, none, []⟩, ⟨.mov (.loc 0), (.var 6), none, []⟩])
 (.cond (.var 6) (.seq (.region [⟨.mov (.cst (.one (.int .i64 3))), (.var 1), none, []⟩])
 (.ret))
 (.skip)))))))))))
 (.seq (.region [⟨.mov (.cst (.one (.int .i64 (-1)))), (.var 1), none, []⟩])
 (.ret))), [(.var 1, none)]⟩
def c122 : Cfg := ⟨26, [0, 2, 3, 4, 8, 14, 24], [], [], [], fun g t => [].contains g && ![].contains t⟩
theorem h122 : Has Try.prog 122 f122 := ⟨by kernel_rfl, c122, Try.f122, by kernel_rfl, by kernel_rfl⟩

/-- loop.example/g00396/spec.l9Named -/
def f123 : AFun := ⟨[0], 0,
 .seq (.region [⟨.mov (.cst (.one (.bool false))), (.var 1), none, []⟩])
 (.seq (.region [⟨.mov (.var 0), .loc, none, []⟩, ⟨.bin .eql .num (.loc 0) (.cst (.one (.int .i64 2))), .loc, none, []⟩, ⟨.mov (.loc 1), .loc, none, []⟩, ⟨.mov (.var 0), .loc, (some (.loc 2, false)), []⟩, ⟨.bin .eql .num (.loc 3) (.cst (.one (.int .i64 3))), .loc, (some (.loc 2, false)), []⟩, ⟨.pick (.loc 2) (.cst (.one (.bool true))) (.loc 4), .loc, none, []⟩, ⟨.mov (.loc 5), .loc, none, []⟩, ⟨.mov (.var 0), .loc, (some (.loc 6, false)), []⟩, ⟨.bin .eql .num (.loc 7) (.cst (.one (.int .i64 5))), .loc, (some (.loc 6, false)), []⟩, ⟨.pick (.loc 6) (.cst (.one (.bool true))) (.loc 8), .loc, none, []⟩, ⟨.mov (.loc 9), .loc, none, []⟩, ⟨.mov (.var 0), .loc, (some (.loc 10, false)), []⟩, ⟨.bin .eql .num (.loc 11) (.cst (.one (.int .i64 6))), .loc, (some (.loc 10, false)), []⟩, ⟨.pick (.loc 10) (.cst (.one (.bool true))) (.loc 12), .loc, none, []⟩, ⟨.mov (.loc 13), (.var 1), none, []⟩])
 (.ret)), [(.var 1, none)]⟩
def c123 : Cfg := ⟨17, [0, 2], [], [], [], fun g t => [].contains g && ![].contains t⟩
theorem h123 : Has Try.prog 123 f123 := ⟨by kernel_rfl, c123, Try.f123, by kernel_rfl, by kernel_rfl⟩

/-- loop.example/g00396/spec.WordOk -/
def f114 : AFun := ⟨[0], 0,
 .seq (.region [⟨.mov (.cst (.one (.bool false))), (.var 1), none, []⟩])
 (.seq (.region [⟨.mov (.var 0), .loc, none, []⟩, ⟨.call 81 [.loc 0, .cst (.one (.int .i64 (-1073741824))), .cst (.one (.int .i64 1073741823))] false, .loc, none, []⟩, ⟨.mov (.loc 1), (.var 1), none, []⟩])
 (.ret)), [(.var 1, none)]⟩
def c114 : Cfg := ⟨5, [0, 2], [], [], [], fun g t => [].contains g && ![].contains t⟩
theorem h114 : Has Try.prog 114 f114 := ⟨by kernel_rfl, c114, Try.f114, by kernel_rfl, by kernel_rfl⟩

/-- loop.example/g00396/spec.l1In -/
def f81 : AFun := ⟨[0, 1, 2], 0,
 .seq (.region [⟨.mov (.cst (.one (.bool false))), (.var 3), none, []⟩])
 (.seq (.region [⟨.mov (.var 0), .loc, none, []⟩, ⟨.mov (.var 1), .loc, none, []⟩, ⟨.bin .geq .num (.loc 0) (.loc 1), .loc, none, []⟩, ⟨.mov (.loc 2), .loc, none, []⟩, ⟨.mov (.var 0), .loc, (some (.loc 3, true)), []⟩, ⟨.mov (.var 2), .loc, (some (.loc 3, true)), []⟩, ⟨.bin .leq .num (.loc 4) (.loc 5), .loc, (some (.loc 3, true)), []⟩, ⟨.pick (.loc 3) (.loc 6) (.cst (.one (.bool false))), .loc, none, []⟩, ⟨.mov (.loc 7), (.var 3), none, []⟩])
 (.ret)), [(.var 3, none)]⟩
def c81 : Cfg := ⟨15, [0, 1, 2, 6], [], [], [], fun g t => [].contains g && ![].contains t⟩
theorem h81 : Has Try.prog 81 f81 := ⟨by kernel_rfl, c81, Try.f81, by kernel_rfl, by kernel_rfl⟩

/-- loop.example/g00396/spec.l1Max -/
def f121 : AFun := ⟨[0, 1], 0,
 .seq (.region [⟨.mov (.cst (.one (.int .i64 0))), (.var 2), none, []⟩])
 (.seq (.seq (.region [⟨.mov (.var 0), .loc, none, []⟩, ⟨.mov (.var 1), .loc, none, []⟩, ⟨.bin .gtr .num (.loc 0) (.loc 1), (.var 3), none, []⟩])
 (.cond (.var 3) (.seq (.region [⟨.mov (.var 0), .loc, none, []⟩, ⟨.mov (.loc 0), (.var 2), none, []⟩])
 (.ret))
 (.skip)))
 (.seq (.region [⟨.mov (.var 1), .loc, none, []⟩, ⟨.mov (.loc 0), (.var 2), none, []⟩])
 (.ret))), [(.var 2, none)]⟩
def c121 : Cfg := ⟨10, [0, 1, 4, 7], [], [], [], fun g t => [].contains g && ![].contains t⟩
theorem h121 : Has Try.prog 121 f121 := ⟨by kernel_rfl, c121, Try.f121, by kernel_rfl, by kernel_rfl⟩

/-- loop.example/g00396/spec.l28Fold -/
def f62 : AFun := ⟨[0], 0,
 .seq (.region [⟨.boxV 1 28 5 (.var 0), (.var 1), none, []⟩, ⟨.boxV 2 28 5 (.cst (.agg [.int .i64 0, .int .i64 0, .str [], .str [], .nils])), (.var 2), none, []⟩])
 (.seq (.region [⟨.fieldAddr 0 (.var 1), .loc, none, []⟩, ⟨.load none (.loc 0), .loc, none, []⟩, ⟨.fieldAddr 1 (.var 1), .loc, none, []⟩, ⟨.load none (.loc 2), .loc, none, []⟩, ⟨.fieldAddr 2 (.var 1), .loc, none, []⟩, ⟨.load none (.loc 4), .loc, none, []⟩, ⟨.fieldAddr 3 (.var 1), .loc, none, []⟩, ⟨.load none (.loc 6), .loc, none, []⟩, ⟨.build [.int .i64 0, .int .i64 0, .str [], .str [], .nils] [(0, 1, .loc 1), (1, 1, .loc 3), (2, 1, .loc 5), (3, 1, .loc 7)], .loc, none, []⟩, ⟨.boxV 3 28 5 (.cst (.agg [.int .i64 0, .int .i64 0, .str [], .str [], .nils])), (.var 3), none, []⟩, ⟨.store 5 (.var 3) (.loc 8), .no, none, []⟩])
 (.seq (.seq (.region [⟨.mov (.cst (.one (.int .i64 0))), (.var 4), none, []⟩])
 (.block 0 (.loop (.seq (.seq (.region [⟨.mov (.var 4), .loc, none, []⟩, ⟨.fieldAddr 4 (.var 1), .loc, none, []⟩, ⟨.load none (.loc 1), .loc, none, []⟩, ⟨.len false (.loc 2), .loc, none, []⟩, ⟨.bin .lss .num (.loc 0) (.loc 3), (.var 5), none, []⟩])
 (.cond (.var 5) (.skip)
 (.exit 0)))
 (.seq (.block 1 (.region [⟨.fieldAddr 4 (.var 3), .loc, none, []⟩, ⟨.load none (.loc 0), .loc, none, []⟩, ⟨.fieldAddr 4 (.var 1), .loc, none, [0, 1]⟩, ⟨.load none (.loc 2), .loc, none, [0, 1]⟩, ⟨.mov (.var 4), .loc, none, [0, 1, 2, 3]⟩, ⟨.indexAddr 5 (.loc 3) (.loc 4), .loc, none, [0, 1]⟩, ⟨.load (some (5)) (.loc 5), .loc, none, [0, 1]⟩, ⟨.call 62 [.loc 6] false, .loc, none, [0, 1]⟩, ⟨.lit 5 1 [.int .i64 0, .int .i64 0, .str [], .str [], .nils] [(0, .loc 7)], .loc, none, [0, 1]⟩, ⟨.append 28 5 72 (.loc 1) (.loc 8), .loc, none, []⟩, ⟨.fieldAddr 4 (.var 3), .loc, none, []⟩, ⟨.store 1 (.loc 10) (.loc 9), .no, none, []⟩]))
 (.region [⟨.mov (.var 4), .loc, none, []⟩, ⟨.bin .add .num (.loc 0) (.cst (.one (.int .i64 1))), .loc, none, []⟩, ⟨.mov (.loc 1), (.var 4), none, []⟩]))))))
 (.seq (.block 2 (.seq (.region [⟨.fieldAddr 0 (.var 1), .loc, none, []⟩, ⟨.load none (.loc 0), .loc, none, []⟩, ⟨.call 93 [.loc 1] false, .loc, none, []⟩, ⟨.mov (.loc 2), .loc, none, []⟩, ⟨.fieldAddr 4 (.var 3), .loc, (some (.loc 3, true)), []⟩, ⟨.load none (.loc 4), .loc, (some (.loc 3, true)), []⟩, ⟨.indexAddr 5 (.loc 5) (.cst (.one (.int .i64 0))), .loc, (some (.loc 3, true)), []⟩, ⟨.fieldAddr 0 (.loc 6), .loc, (some (.loc 3, true)), []⟩, ⟨.load none (.loc 7), .loc, (some (.loc 3, true)), []⟩, ⟨.bin .eql .num (.loc 8) (.cst (.one (.int .i64 1))), .loc, (some (.loc 3, true)), []⟩, ⟨.pick (.loc 3) (.loc 9) (.cst (.one (.bool false))), .loc, none, []⟩, ⟨.mov (.loc 10), .loc, none, []⟩, ⟨.fieldAddr 4 (.var 3), .loc, (some (.loc 11, true)), []⟩, ⟨.load none (.loc 12), .loc, (some (.loc 11, true)), []⟩, ⟨.indexAddr 5 (.loc 13) (.cst (.one (.int .i64 1))), .loc, (some (.loc 11, true)), []⟩, ⟨.fieldAddr 0 (.loc 14), .loc, (some (.loc 11, true)), []⟩, ⟨.load none (.loc 15), .loc, (some (.loc 11, true)), []⟩, ⟨.bin .eql .num (.loc 16) (.cst (.one (.int .i64 1))), .loc, (some (.loc 11, true)), []⟩, ⟨.pick (.loc 11) (.loc 17) (.cst (.one (.bool false))), .loc, none, []⟩, ⟨.mov (.loc 18), (.var 6), none, []⟩])
 (.cond (.var 6) (.seq (.region [⟨.fieldAddr 0 (.var 1), .loc, none, []⟩, ⟨.load none (.loc 0), .loc, none, []⟩, ⟨.fieldAddr 4 (.var 3), .loc, none, [0, 1]⟩, ⟨.load none (.loc 2), .loc, none, [0, 1]⟩, ⟨.indexAddr 5 (.loc 3) (.cst (.one (.int .i64 0))), .loc, none, [0, 1]⟩, ⟨.fieldAddr 1 (.loc 4), .loc, none, [0, 1]⟩, ⟨.load none (.loc 5), .loc, none, [0, 1]⟩, ⟨.fieldAddr 4 (.var 3), .loc, none, [0, 1, 2, 3, 4, 5, 6]⟩, ⟨.load none (.loc 7), .loc, none, [0, 1, 2, 3, 4, 5, 6]⟩, ⟨.indexAddr 5 (.loc 8) (.cst (.one (.int .i64 1))), .loc, none, [0, 1, 2, 3, 4, 5, 6]⟩, ⟨.fieldAddr 1 (.loc 9), .loc, none, [0, 1, 2, 3, 4, 5, 6]⟩, ⟨.load none (.loc 10), .loc, none, [0, 1, 2, 3, 4, 5, 6]⟩, ⟨.call 94 [.loc 1, .loc 6, .loc 11] false, .loc, none, []⟩, ⟨.build [.int .i64 0, .int .i64 0, .str [], .str [], .nils] [(0, 1, .cst (.one (.int .i64 1))), (1, 1, .loc 12)], .loc, none, []⟩, ⟨.store 5 (.var 2) (.loc 13), .no, none, []⟩])
 (.ret))
 (.seq (.region [⟨.fieldAddr 0 (.var 1), .loc, none, []⟩, ⟨.load none (.loc 0), .loc, none, []⟩, ⟨.bin .eql .num (.loc 1) (.cst (.one (.int .i64 7))), .loc, none, []⟩, ⟨.mov (.loc 2), .loc, none, []⟩, ⟨.fieldAddr 4 (.var 3), .loc, (some (.loc 3, true)), []⟩, ⟨.load none (.loc 4), .loc, (some (.loc 3, true)), []⟩, ⟨.indexAddr 5 (.loc 5) (.cst (.one (.int .i64 0))), .loc, (some (.loc 3, true)), []⟩, ⟨.fieldAddr 0 (.loc 6), .loc, (some (.loc 3, true)), []⟩, ⟨.load none (.loc 7), .loc, (some (.loc 3, true)), []⟩, ⟨.bin .eql .num (.loc 8) (.cst (.one (.int .i64 1))), .loc, (some (.loc 3, true)), []⟩, ⟨.pick (.loc 3) (.loc 9) (.cst (.one (.bool false))), .loc, none, []⟩, ⟨.mov (.loc 10), .loc, none, []⟩, ⟨.fieldAddr 4 (.var 3), .loc, (some (.loc 11, true)), []⟩, ⟨.load none (.loc 12), .loc, (some (.loc 11, true)), []⟩, ⟨.indexAddr 5 (.loc 13) (.cst (.one (.int .i64 0))), .loc, (some (.loc 11, true)), []⟩, ⟨.fieldAddr 1 (.loc 14), .loc, (some (.loc 11, true)), []⟩, ⟨.load none (.loc 15), .loc, (some (.loc 11, true)), []⟩, ⟨.bin .neq .num (.loc 16) (.cst (.one (.int .i64 0))), .loc, (some (.loc 11, true)), []⟩, ⟨.pick (.loc 11) (.loc 17) (.cst (.one (.bool false))), .loc, none, []⟩, ⟨.mov (.loc 18), (.var 7), none, []⟩])
 (.cond (.var 7) (.seq (.region [⟨.fieldAddr 4 (.var 3), .loc, none, []⟩, ⟨.load none (.loc 0), .loc, none, []⟩, ⟨.indexAddr 5 (.loc 1) (.cst (.one (.int .i64 1))), .loc, none, []⟩, ⟨.load (some (5)) (.loc 2), .loc, none, []⟩, ⟨.store 5 (.var 2) (.loc 3), .no, none, []⟩])
 (.ret))
 (.seq (.region [⟨.fieldAddr 0 (.var 1), .loc, none, []⟩, ⟨.load none (.loc 0), .loc, none, []⟩, ⟨.bin .eql .num (.loc 1) (.cst (.one (.int .i64 7))), .loc, none, []⟩, ⟨.mov (.loc 2), .loc, none, []⟩, ⟨.fieldAddr 4 (.var 3), .loc, (some (.loc 3, true)), []⟩, ⟨.load none (.loc 4), .loc, (some (.loc 3, true)), []⟩, ⟨.indexAddr 5 (.loc 5) (.cst (.one (.int .i64 0))), .loc, (some (.loc 3, true)), []⟩, ⟨.fieldAddr 0 (.loc 6), .loc, (some (.loc 3, true)), []⟩, ⟨.load none (.loc 7), .loc, (some (.loc 3, true)), []⟩, ⟨.bin .eql .num (.loc 8) (.cst (.one (.int .i64 1))), .loc, (some (.loc 3, true)), []⟩, ⟨.pick (.loc 3) (.loc 9) (.cst (.one (.bool false))), .loc, none, []⟩, ⟨.mov (.loc 10), (.var 8), none, []⟩])
 (.cond (.var 8) (.seq (.region [⟨.fieldAddr 4 (.var 3), .loc, none, []⟩, ⟨.load none (.loc 0), .loc, none, []⟩, ⟨.indexAddr 5 (.loc 1) (.cst (.one (.int .i64 2))), .loc, none, []⟩, ⟨.load (some (5)) (.loc 2), .loc, none, []⟩, ⟨.store 5 (.var 2) (.loc 3), .no, none, []⟩])
 (.ret))
 (.seq (.region [⟨.fieldAddr 0 (.var 1), .loc, none, []⟩, ⟨.load none (.loc 0), .loc, none, []⟩, ⟨.bin .eql .num (.loc 1) (.cst (.one (.int .i64 17))), .loc, none, []⟩, ⟨.mov (.loc 2), .loc, none, []⟩, ⟨.fieldAddr 4 (.var 3), .loc, (some (.loc 3, true)), []⟩, ⟨.load none (.loc 4), .loc, (some (.loc 3, true)), []⟩, ⟨.indexAddr 5 (.loc 5) (.cst (.one (.int .i64 0))), .loc, (some (.loc 3, true)), []⟩, ⟨.fieldAddr 0 (.loc 6), .loc, (some (.loc 3, true)), []⟩, ⟨.load none (.loc 7), .loc, (some (.loc 3, true)), []⟩, ⟨.bin .eql .num (.loc 8) (.cst (.one (.int .i64 1))), .loc, (some (.loc 3, true)), []⟩, ⟨.mov (.loc 9), .loc, (some (.loc 3, true)), []⟩, ⟨.fieldAddr 4 (.var 3), .loc, (some (.loc 10, false)), []⟩, ⟨.load none (.loc 11), .loc, (some (.loc 10, false)), []⟩, ⟨.indexAddr 5 (.loc 12) (.cst (.one (.int .i64 0))), .loc, (some (.loc 10, false)), []⟩, ⟨.fieldAddr 0 (.loc 13), .loc, (some (.loc 10, false)), []⟩, ⟨.load none (.loc 14), .loc, (some (.loc 10, false)), []⟩, ⟨.bin .eql .num (.loc 15) (.cst (.one (.int .i64 13))), .loc, (some (.loc 10, false)), []⟩, ⟨.pick (.loc 10) (.cst (.one (.bool true))) (.loc 16), .loc, (some (.loc 3, true)), []⟩, ⟨.pick (.loc 3) (.loc 17) (.cst (.one (.bool false))), .loc, none, []⟩, ⟨.mov (.loc 18), (.var 9), none, []⟩])
 (.cond (.var 9) (.seq (.region [⟨.build [.int .i64 0, .int .i64 0, .str [], .str [], .nils] [(0, 1, .cst (.one (.int .i64 1)))], .loc, none, []⟩, ⟨.store 5 (.var 2) (.loc 0), .no, none, []⟩])
 (.ret))
 (.skip))))))))))
 (.seq (.region [⟨.load (some (5)) (.var 3), .loc, none, []⟩, ⟨.store 5 (.var 2) (.loc 0), .no, none, []⟩])
 (.ret))))), [(.var 2, (some ((some (5)))))]⟩
def c62 : Cfg := ⟨128, [0, 1, 2, 3, 4, 18, 32, 66, 90, 106], [1, 2, 3], [], [], fun g t => [].contains g && ![].contains t⟩
theorem h62 : Has Try.prog 62 f62 := ⟨by kernel_rfl, c62, Try.f62, by kernel_rfl, by kernel_rfl⟩

/-- loop.example/g00396/spec.l28Math -/
def f93 : AFun := ⟨[0], 0,
 .seq (.region [⟨.mov (.cst (.one (.bool false))), (.var 1), none, []⟩])
 (.seq (.region [⟨.mov (.var 0), .loc, none, []⟩, ⟨.call 81 [.loc 0, .cst (.one (.int .i64 8)), .cst (.one (.int .i64 12))] false, .loc, none, []⟩, ⟨.mov (.loc 1), (.var 1), none, []⟩])
 (.ret)), [(.var 1, none)]⟩
def c93 : Cfg := ⟨5, [0, 2], [], [], [], fun g t => [].contains g && ![].contains t⟩
theorem h93 : Has Try.prog 93 f93 := ⟨by kernel_rfl, c93, Try.f93, by kernel_rfl, by kernel_rfl⟩

/-- loop.example/g00396/spec.l11Math -/
def f94 : AFun := ⟨[0, 1, 2], 0,
 .seq (.region [⟨.mov (.cst (.one (.int .i64 0))), (.var 3), none, []⟩])
 (.seq (.seq (.region [⟨.mov (.var 0), (.var 4), none, []⟩])
 (.block 0 (.seq (.region [⟨.bin .eql .num (.var 4) (.cst (.one (.int .i64 8))), .loc, none, []⟩, ⟨.mov (.loc 0), (.var 5), none, []⟩])
 (.cond (.var 5) (.seq (.region [⟨.mov (.var 1), .loc, none, []⟩, ⟨.mov (.var 2), .loc, none, []⟩, ⟨.bin .add .num (.loc 0) (.loc 1), .loc, none, []⟩, ⟨.call 124 [.loc 2] false, .loc, none, []⟩, ⟨.mov (.loc 3), (.var 3), none, []⟩])
 (.ret))
 (.seq (.region [⟨.bin .eql .num (.var 4) (.cst (.one (.int .i64 9))), .loc, none, []⟩, ⟨.mov (.loc 0), (.var 6), none, []⟩])
 (.cond (.var 6) (.seq (.region [⟨.mov (.var 1), .loc, none, []⟩, ⟨.mov (.var 2), .loc, none, []⟩, ⟨.bin .sub .num (.loc 0) (.loc 1), .loc, none, []⟩, ⟨.call 124 [.loc 2] false, .loc, none, []⟩, ⟨.mov (.loc 3), (.var 3), none, []⟩])
 (.ret))
 (.seq (.region [⟨.bin .eql .num (.var 4) (.cst (.one (.int .i64 10))), .loc, none, []⟩, ⟨.mov (.loc 0), (.var 7), none, []⟩])
 (.cond (.var 7) (.seq (.region [⟨.mov (.var 1), .loc, none, []⟩, ⟨.mov (.var 2), .loc, none, []⟩, ⟨.bin .mul .num (.loc 0) (.loc 1), .loc, none, []⟩, ⟨.call 124 [.loc 2] false, .loc, none, []⟩, ⟨.mov (.loc 3), (.var 3), none, []⟩])
 (.ret))
 (.seq (.region [⟨.bin .eql .num (.var 4) (.cst (.one (.int .i64 11))), .loc, none, []⟩, ⟨.mov (.loc 0), (.var 8), none, []⟩])
 (.cond (.var 8) (.seq (.region [⟨.mov (.var 1), .loc, none, []⟩, ⟨.mov (.var 2), .loc, none, []⟩, ⟨.bin .lss .num (.loc 0) (.loc 1), .loc, none, []⟩, ⟨.call 57 [.loc 2] false, .loc, none, []⟩, ⟨.mov (.loc 3), (.var 3), none, []⟩])
 (.ret))
 (.skip)))))))))))
 (.seq (.region [⟨.mov (.var 1), .loc, none, []⟩, ⟨.mov (.var 2), .loc, none, []⟩, ⟨.bin .eql .num (.loc 0) (.loc 1), .loc, none, []⟩, ⟨.call 57 [.loc 2] false, .loc, none, []⟩, ⟨.mov (.loc 3), (.var 3), none, []⟩])
 (.ret))), [(.var 3, none)]⟩
def c94 : Cfg := ⟨36, [0, 1, 2, 6, 7, 8, 14, 20, 26], [], [], [], fun g t => [].contains g && ![].contains t⟩
theorem h94 : Has Try.prog 94 f94 := ⟨by kernel_rfl, c94, Try.f94, by kernel_rfl, by kernel_rfl⟩

/-- loop.example/g00396/spec.Round -/
def f124 : AFun := ⟨[0], 0,
 .seq (.region [⟨.mov (.cst (.one (.int .i64 0))), (.var 1), none, []⟩])
 (.seq (.region [⟨.mov (.var 0), .loc, none, []⟩, ⟨.bin .and .num (.loc 0) (.cst (.one (.int .i64 2147483647))), .loc, none, []⟩, ⟨.mov (.loc 1), (.var 2), none, []⟩])
 (.seq (.seq (.region [⟨.mov (.var 2), .loc, none, []⟩, ⟨.bin .gtr .num (.loc 0) (.cst (.one (.int .i64 1073741823))), (.var 3), none, []⟩])
 (.cond (.var 3) (.seq (.region [⟨.mov (.var 2), .loc, none, []⟩, ⟨.bin .sub .num (.loc 0) (.cst (.one (.int .i64 2147483648))), .loc, none, []⟩, ⟨.mov (.loc 1), (.var 1), none, []⟩])
 (.ret))
 (.skip)))
 (.seq (.region [⟨.mov (.var 2), .loc, none, []⟩, ⟨.mov (.loc 0), (.var 1), none, []⟩])
 (.ret)))), [(.var 1, none)]⟩
def c124 : Cfg := ⟨11, [0, 2, 3, 7], [], [], [], fun g t => [].contains g && ![].contains t⟩
theorem h124 : Has Try.prog 124 f124 := ⟨by kernel_rfl, c124, Try.f124, by kernel_rfl, by kernel_rfl⟩

/-- loop.example/g00396/spec.FoldCore -/
def f25 : AFun := ⟨[0], 0,
 .seq (.region [⟨.boxV 1 28 5 (.var 0), (.var 1), none, []⟩, ⟨.boxV 2 28 5 (.cst (.agg [.int .i64 0, .int .i64 0, .str [], .str [], .nils])), (.var 2), none, []⟩])
 (.seq (.seq (.region [⟨.load (some (5)) (.var 1), .loc, none, []⟩, ⟨.call 60 [.loc 0] false, .loc, none, []⟩, ⟨.not (.loc 1), (.var 3), none, []⟩])
 (.cond (.var 3) (.seq (.region [⟨.load (some (5)) (.var 1), .loc, none, []⟩, ⟨.call 61 [.loc 0] false, .loc, none, []⟩, ⟨.store 5 (.var 2) (.loc 1), .no, none, []⟩])
 (.ret))
 (.skip)))
 (.seq (.region [⟨.load (some (5)) (.var 1), .loc, none, []⟩, ⟨.call 62 [.loc 0] false, .loc, none, []⟩, ⟨.store 5 (.var 2) (.loc 1), .no, none, []⟩])
 (.ret))), [(.var 2, (some ((some (5)))))]⟩
def c25 : Cfg := ⟨10, [0, 1, 2, 5], [1, 2], [], [], fun g t => [].contains g && ![].contains t⟩
theorem h25 : Has Try.prog 25 f25 := ⟨by kernel_rfl, c25, Try.f25, by kernel_rfl, by kernel_rfl⟩

/-- loop.example/g00396/spec.Foldable -/
def f27 : AFun := ⟨[0], 0,
 .seq (.region [⟨.boxV 1 28 5 (.var 0), (.var 1), none, []⟩, ⟨.mov (.cst (.one (.bool false))), (.var 2), none, []⟩])
 (.seq (.region [⟨.load (some (5)) (.var 1), .loc, none, []⟩, ⟨.call 25 [.loc 0] false, .loc, none, []⟩, ⟨.boxV 3 28 5 (.cst (.agg [.int .i64 0, .int .i64 0, .str [], .str [], .nils])), (.var 3), none, []⟩, ⟨.store 5 (.var 3) (.loc 1), .no, none, []⟩])
 (.seq (.region [⟨.load (some (5)) (.var 3), .loc, none, []⟩, ⟨.load (some (5)) (.var 1), .loc, none, [0]⟩, ⟨.call 65 [.loc 0, .loc 1] false, .loc, none, []⟩, ⟨.not (.loc 2), .loc, none, []⟩, ⟨.mov (.loc 3), .loc, none, []⟩, ⟨.load (some (5)) (.var 3), .loc, (some (.loc 4, false)), []⟩, ⟨.call 66 [.loc 5] false, .loc, (some (.loc 4, false)), []⟩, ⟨.load (some (5)) (.var 1), .loc, (some (.loc 4, false)), [5, 6]⟩, ⟨.call 66 [.loc 7] false, .loc, (some (.loc 4, false)), []⟩, ⟨.bin .neq .num (.loc 6) (.loc 8), .loc, (some (.loc 4, false)), []⟩, ⟨.pick (.loc 4) (.cst (.one (.bool true))) (.loc 9), .loc, none, []⟩, ⟨.mov (.loc 10), (.var 2), none, []⟩])
 (.ret))), [(.var 2, none)]⟩
def c27 : Cfg := ⟨17, [0, 1, 2, 3], [1, 3], [], [], fun g t => [].contains g && ![].contains t⟩
theorem h27 : Has Try.prog 27 f27 := ⟨by kernel_rfl, c27, Try.f27, by kernel_rfl, by kernel_rfl⟩

/-- loop.example/g00396/spec.Alike -/
def f65 : AFun := ⟨[0, 1], 0,
 .seq (.region [⟨.boxV 2 28 5 (.var 0), (.var 2), none, []⟩, ⟨.boxV 3 28 5 (.var 1), (.var 3), none, []⟩, ⟨.mov (.cst (.one (.bool false))), (.var 4), none, []⟩])
 (.seq (.region [⟨.load (some (5)) (.var 2), .loc, none, []⟩, ⟨.load (some (5)) (.var 3), .loc, none, []⟩, ⟨.lit 1 0 [.str []] [], .loc, none, []⟩, ⟨.lit 1 0 [.str []] [], .loc, none, []⟩, ⟨.call 98 [.loc 0, .loc 1, .loc 2, .loc 3] false, .loc, none, []⟩, ⟨.mov (.loc 4), (.var 4), none, []⟩])
 (.ret)), [(.var 4, none)]⟩
def c65 : Cfg := ⟨10, [0, 1, 2, 3, 4], [2, 3], [], [], fun g t => [].contains g && ![].contains t⟩
theorem h65 : Has Try.prog 65 f65 := ⟨by kernel_rfl, c65, Try.f65, by kernel_rfl, by kernel_rfl⟩

/-- loop.example/g00396/spec.l9Alike -/
def f98 : AFun := ⟨[0, 1, 2, 3], 0,
 .seq (.region [⟨.boxV 4 28 5 (.var 0), (.var 4), none, []⟩, ⟨.boxV 5 28 5 (.var 1), (.var 5), none, []⟩, ⟨.mov (.cst (.one (.bool false))), (.var 6), none, []⟩])
 (.seq (.seq (.region [⟨.fieldAddr 0 (.var 4), .loc, none, []⟩, ⟨.load none (.loc 0), .loc, none, []⟩, ⟨.fieldAddr 0 (.var 5), .loc, none, []⟩, ⟨.load none (.loc 2), .loc, none, []⟩, ⟨.bin .neq .num (.loc 1) (.loc 3), .loc, none, []⟩, ⟨.mov (.loc 4), .loc, none, []⟩, ⟨.fieldAddr 1 (.var 4), .loc, (some (.loc 5, false)), []⟩, ⟨.load none (.loc 6), .loc, (some (.loc 5, false)), []⟩, ⟨.fieldAddr 1 (.var 5), .loc, (some (.loc 5, false)), []⟩, ⟨.load none (.loc 8), .loc, (some (.loc 5, false)), []⟩, ⟨.bin .neq .num (.loc 7) (.loc 9), .loc, (some (.loc 5, false)), []⟩, ⟨.pick (.loc 5) (.cst (.one (.bool true))) (.loc 10), .loc, none, []⟩, ⟨.mov (.loc 11), .loc, none, []⟩, ⟨.fieldAddr 4 (.var 4), .loc, (some (.loc 12, false)), []⟩, ⟨.load none (.loc 13), .loc, (some (.loc 12, false)), []⟩, ⟨.len false (.loc 14), .loc, (some (.loc 12, false)), []⟩, ⟨.fieldAddr 4 (.var 5), .loc, (some (.loc 12, false)), []⟩, ⟨.load none (.loc 16), .loc, (some (.loc 12, false)), []⟩, ⟨.len false (.loc 17), .loc, (some (.loc 12, false)), []⟩, ⟨.bin .neq .num (.loc 15) (.loc 18), .loc, (some (.loc 12, false)), []⟩, ⟨.pick (.loc 12) (.cst (.one (.bool true))) (.loc 19), (.var 10), none, []⟩])
 (.cond (.var 10) (.seq (.region [⟨.mov (.cst (.one (.bool false))), (.var 6), none, []⟩])
 (.ret))
 (.skip)))
 (.seq (.seq (.region [⟨.fieldAddr 0 (.var 4), .loc, none, []⟩, ⟨.load none (.loc 0), .loc, none, []⟩, ⟨.bin .eql .num (.loc 1) (.cst (.one (.int .i64 2))), (.var 11), none, []⟩])
 (.cond (.var 11) (.seq (.region [⟨.mov (.var 2), .loc, none, []⟩, ⟨.fieldAddr 2 (.var 4), .loc, none, [0]⟩, ⟨.load none (.loc 1), .loc, none, [0]⟩, ⟨.call 130 [.loc 0, .loc 2] false, .loc, none, []⟩, ⟨.mov (.var 3), .loc, none, [0, 1, 2, 3]⟩, ⟨.fieldAddr 2 (.var 5), .loc, none, [0, 1, 2, 3, 4]⟩, ⟨.load none (.loc 5), .loc, none, [0, 1, 2, 3, 4]⟩, ⟨.call 130 [.loc 4, .loc 6] false, .loc, none, []⟩, ⟨.mov (.loc 3), (.var 7), none, []⟩, ⟨.mov (.loc 7), (.var 8), none, []⟩])
 (.seq (.region [⟨.mov (.var 7), .loc, none, []⟩, ⟨.mov (.var 8), .loc, none, []⟩, ⟨.bin .neq .num (.loc 0) (.loc 1), .loc, none, []⟩, ⟨.mov (.loc 2), .loc, none, []⟩, ⟨.mov (.var 7), .loc, (some (.loc 3, false)), []⟩, ⟨.bin .lss .num (.loc 4) (.cst (.one (.int .i64 0))), .loc, (some (.loc 3, false)), []⟩, ⟨.mov (.loc 5), .loc, (some (.loc 3, false)), []⟩, ⟨.fieldAddr 2 (.var 4), .loc, (some (.loc 6, true)), []⟩, ⟨.load none (.loc 7), .loc, (some (.loc 6, true)), []⟩, ⟨.fieldAddr 2 (.var 5), .loc, (some (.loc 6, true)), []⟩, ⟨.load none (.loc 9), .loc, (some (.loc 6, true)), []⟩, ⟨.bin .neq .num (.loc 8) (.loc 10), .loc, (some (.loc 6, true)), []⟩, ⟨.pick (.loc 6) (.loc 11) (.cst (.one (.bool false))), .loc, (some (.loc 3, false)), []⟩, ⟨.pick (.loc 3) (.cst (.one (.bool true))) (.loc 12), (.var 12), none, []⟩])
 (.cond (.var 12) (.seq (.region [⟨.mov (.cst (.one (.bool false))), (.var 6), none, []⟩])
 (.ret))
 (.skip))))
 (.skip)))
 (.seq (.seq (.region [⟨.mov (.cst (.one (.int .i64 0))), (.var 9), none, []⟩])
 (.block 0 (.loop (.seq (.seq (.region [⟨.mov (.var 9), .loc, none, []⟩, ⟨.fieldAddr 4 (.var 4), .loc, none, []⟩, ⟨.load none (.loc 1), .loc, none, []⟩, ⟨.len false (.loc 2), .loc, none, []⟩, ⟨.bin .lss .num (.loc 0) (.loc 3), (.var 13), none, []⟩])
 (.cond (.var 13) (.skip)
 (.exit 0)))
 (.seq (.block 1 (.seq (.region [⟨.fieldAddr 4 (.var 4), .loc, none, []⟩, ⟨.load none (.loc 0), .loc, none, []⟩, ⟨.mov (.var 9), .loc, none, [0, 1]⟩, ⟨.indexAddr 5 (.loc 1) (.loc 2), .loc, none, []⟩, ⟨.load (some (5)) (.loc 3), .loc, none, []⟩, ⟨.fieldAddr 4 (.var 5), .loc, none, [0, 1, 2, 3, 4]⟩, ⟨.load none (.loc 5), .loc, none, [0, 1, 2, 3, 4]⟩, ⟨.mov (.var 9), .loc, none, [0, 1, 2, 3, 4, 5, 6]⟩, ⟨.indexAddr 5 (.loc 6) (.loc 7), .loc, none, [0, 1, 2, 3, 4]⟩, ⟨.load (some (5)) (.loc 8), .loc, none, [0, 1, 2, 3, 4]⟩, ⟨.load (some (5)) (.var 4), .loc, none, [0, 1, 2, 3, 4, 5, 6, 7, 8, 9]⟩, ⟨.mov (.var 9), .loc, none, [0, 1, 2, 3, 4, 5, 6, 7, 8, 9, 10]⟩, ⟨.mov (.var 2), .loc, none, [0, 1, 2, 3, 4, 5, 6, 7, 8, 9, 10, 11]⟩, ⟨.call 77 [.loc 10, .loc 11, .loc 12] false, .loc, none, [0, 1, 2, 3, 4, 5, 6, 7, 8, 9]⟩, ⟨.load (some (5)) (.var 5), .loc, none, [0, 1, 2, 3, 4, 5, 6, 7, 8, 9, 10, 11, 12, 13]⟩, ⟨.mov (.var 9), .loc, none, [0, 1, 2, 3, 4, 5, 6, 7, 8, 9, 10, 11, 12, 13, 14]⟩, ⟨.mov (.var 3), .loc, none, [0, 1, 2, 3, 4, 5, 6, 7, 8, 9, 10, 11, 12, 13, 14, 15]⟩, ⟨.call 77 [.loc 14, .loc 15, .loc 16] false, .loc, none, [0, 1, 2, 3, 4, 5, 6, 7, 8, 9]⟩, ⟨.call 98 [.loc 4, .loc 9, .loc 13, .loc 17] false, .loc, none, []⟩, ⟨.not (.loc 18), (.var 14), none, []⟩])
 (.cond (.var 14) (.seq (.region [⟨.mov (.cst (.one (.bool false))), (.var 6), none, []⟩])
 (.ret))
 (.skip))))
 (.region [⟨.mov (.var 9), .loc, none, []⟩, ⟨.bin .add .num (.loc 0) (.cst (.one (.int .i64 1))), .loc, none, []⟩, ⟨.mov (.loc 1), (.var 9), none, []⟩]))))))
 (.seq (.region [⟨.mov (.cst (.one (.bool true))), (.var 6), none, []⟩])
 (.ret))))), [(.var 6, none)]⟩
def c98 : Cfg := ⟨85, [0, 1, 2, 3, 4, 5, 8, 9, 10, 11, 32, 35, 57, 62, 84], [4, 5], [], [], fun g t => [].contains g && ![].contains t⟩
theorem h98 : Has Try.prog 98 f98 := ⟨by kernel_rfl, c98, Try.f98, by kernel_rfl, by kernel_rfl⟩

/-- loop.example/g00396/spec.l9Place -/
def f130 : AFun := ⟨[0, 1], 0,
 .seq (.region [⟨.mov (.cst (.one (.int .i64 0))), (.var 2), none, []⟩])
 (.seq (.region [⟨.mov (.var 0), .loc, none, []⟩, ⟨.len false (.loc 0), .loc, none, []⟩, ⟨.bin .sub .num (.loc 1) (.cst (.one (.int .i64 1))), .loc, none, []⟩, ⟨.mov (.loc 2), (.var 3), none, []⟩])
 (.seq (.block 0 (.loop (.seq (.seq (.region [⟨.mov (.var 3), .loc, none, []⟩, ⟨.bin .geq .num (.loc 0) (.cst (.one (.int .i64 0))), .loc, none, []⟩, ⟨.mov (.loc 1), .loc, none, []⟩, ⟨.mov (.var 0), .loc, (some (.loc 2, true)), []⟩, ⟨.mov (.var 3), .loc, (some (.loc 2, true)), []⟩, ⟨.indexAddr 1 (.loc 3) (.loc 4), .loc, (some (.loc 2, true)), []⟩, ⟨.load none (.loc 5), .loc, (some (.loc 2, true)), []⟩, ⟨.mov (.var 1), .loc, (some (.loc 2, true)), []⟩, ⟨.bin .neq .num (.loc 6) (.loc 7), .loc, (some (.loc 2, true)), []⟩, ⟨.pick (.loc 2) (.loc 8) (.cst (.one (.bool false))), (.var 4), none, []⟩])
 (.cond (.var 4) (.skip)
 (.exit 0)))
 (.block 1 (.region [⟨.mov (.var 3), .loc, none, []⟩, ⟨.bin .sub .num (.loc 0) (.cst (.one (.int .i64 1))), .loc, none, []⟩, ⟨.mov (.loc 1), (.var 3), none, []⟩])))))
 (.seq (.region [⟨.mov (.var 3), .loc, none, []⟩, ⟨.mov (.loc 0), (.var 2), none, []⟩])
 (.ret)))), [(.var 2, none)]⟩
def c130 : Cfg := ⟨22, [0, 1, 4, 5, 18], [], [], [], fun g t => [].contains g && ![].contains t⟩
theorem h130 : Has Try.prog 130 f130 := ⟨by kernel_rfl, c130, Try.f130, by kernel_rfl, by kernel_rfl⟩

/-- loop.example/g00396/impl.CoreOk -/
def f63 : AFun := ⟨[0], 0,
 .seq (.region [⟨.boxV 1 28 5 (.var 0), (.var 1), none, []⟩, ⟨.mov (.cst (.one (.bool false))), (.var 2), none, []⟩])
 (.seq (.region [⟨.load (some (5)) (.var 1), .loc, none, []⟩, ⟨.call 95 [.loc 0, .cst (.one (.nils)), .cst (.one (.int .i64 1))] false, .loc, none, []⟩, ⟨.bin .leq .num (.loc 1) (.cst (.one (.int .i64 3000))), .loc, none, []⟩, ⟨.mov (.loc 2), (.var 2), none, []⟩])
 (.ret)), [(.var 2, none)]⟩
def c63 : Cfg := ⟨6, [0, 1, 2], [1], [], [], fun g t => [].contains g && ![].contains t⟩
theorem h63 : Has Try.prog 63 f63 := ⟨by kernel_rfl, c63, Try.f63, by kernel_rfl, by kernel_rfl⟩

/-- loop.example/g00396/impl.coreParts -/
def f95 : AFun := ⟨[0, 1, 2], 0,
 .seq (.region [⟨.boxV 3 28 5 (.var 0), (.var 3), none, []⟩, ⟨.mov (.cst (.one (.int .i64 0))), (.var 4), none, []⟩])
 (.seq (.seq (.region [⟨.mov (.var 2), .loc, none, []⟩, ⟨.bin .gtr .num (.loc 0) (.cst (.one (.int .i64 150))), .loc, none, []⟩, ⟨.mov (.loc 1), .loc, none, []⟩, ⟨.fieldAddr 4 (.var 3), .loc, (some (.loc 2, false)), []⟩, ⟨.load none (.loc 3), .loc, (some (.loc 2, false)), []⟩, ⟨.len false (.loc 4), .loc, (some (.loc 2, false)), []⟩, ⟨.fieldAddr 0 (.var 3), .loc, (some (.loc 2, false)), [3, 4, 5]⟩, ⟨.load none (.loc 6), .loc, (some (.loc 2, false)), [3, 4, 5]⟩, ⟨.call 125 [.loc 7] false, .loc, (some (.loc 2, false)), [3, 4, 5]⟩, ⟨.bin .neq .num (.loc 5) (.loc 8), .loc, (some (.loc 2, false)), []⟩, ⟨.pick (.loc 2) (.cst (.one (.bool true))) (.loc 9), .loc, none, []⟩, ⟨.mov (.loc 10), .loc, none, []⟩, ⟨.fieldAddr 1 (.var 3), .loc, (some (.loc 11, false)), []⟩, ⟨.load none (.loc 12), .loc, (some (.loc 11, false)), []⟩, ⟨.call 118 [.loc 13] false, .loc, (some (.loc 11, false)), []⟩, ⟨.not (.loc 14), .loc, (some (.loc 11, false)), []⟩, ⟨.pick (.loc 11) (.cst (.one (.bool true))) (.loc 15), .loc, none, []⟩, ⟨.mov (.loc 16), .loc, none, []⟩, ⟨.fieldAddr 0 (.var 3), .loc, (some (.loc 17, false)), []⟩, ⟨.load none (.loc 18), .loc, (some (.loc 17, false)), []⟩, ⟨.bin .neq .num (.loc 19) (.cst (.one (.int .i64 1))), .loc, (some (.loc 17, false)), []⟩, ⟨.mov (.loc 20), .loc, (some (.loc 17, false)), []⟩, ⟨.fieldAddr 1 (.var 3), .loc, (some (.loc 21, true)), []⟩, ⟨.load none (.loc 22), .loc, (some (.loc 21, true)), []⟩, ⟨.bin .neq .num (.loc 23) (.cst (.one (.int .i64 0))), .loc, (some (.loc 21, true)), []⟩, ⟨.pick (.loc 21) (.loc 24) (.cst (.one (.bool false))), .loc, (some (.loc 17, false)), []⟩, ⟨.pick (.loc 17) (.cst (.one (.bool true))) (.loc 25), (.var 9), none, []⟩])
 (.cond (.var 9) (.seq (.region [⟨.mov (.cst (.one (.int .i64 3001))), (.var 4), none, []⟩])
 (.ret))
 (.skip)))
 (.seq (.region [⟨.fieldAddr 0 (.var 3), .loc, none, []⟩, ⟨.load none (.loc 0), .loc, none, []⟩, ⟨.bin .eql .num (.loc 1) (.cst (.one (.int .i64 2))), .loc, none, []⟩, ⟨.mov (.loc 2), .loc, none, []⟩, ⟨.fieldAddr 0 (.var 3), .loc, (some (.loc 3, false)), []⟩, ⟨.load none (.loc 4), .loc, (some (.loc 3, false)), []⟩, ⟨.bin .eql .num (.loc 5) (.cst (.one (.int .i64 3))), .loc, (some (.loc 3, false)), []⟩, ⟨.pick (.loc 3) (.cst (.one (.bool true))) (.loc 6), .loc, none, []⟩, ⟨.mov (.loc 7), .loc, none, []⟩, ⟨.fieldAddr 0 (.var 3), .loc, (some (.loc 8, false)), []⟩, ⟨.load none (.loc 9), .loc, (some (.loc 8, false)), []⟩, ⟨.bin .eql .num (.loc 10) (.cst (.one (.int .i64 5))), .loc, (some (.loc 8, false)), []⟩, ⟨.pick (.loc 8) (.cst (.one (.bool true))) (.loc 11), .loc, none, []⟩, ⟨.mov (.loc 12), .loc, none, []⟩, ⟨.fieldAddr 0 (.var 3), .loc, (some (.loc 13, false)), []⟩, ⟨.load none (.loc 14), .loc, (some (.loc 13, false)), []⟩, ⟨.bin .eql .num (.loc 15) (.cst (.one (.int .i64 6))), .loc, (some (.loc 13, false)), []⟩, ⟨.pick (.loc 13) (.cst (.one (.bool true))) (.loc 16), .loc, none, []⟩, ⟨.mov (.loc 17), (.var 5), none, []⟩])
 (.seq (.seq (.region [⟨.mov (.var 5), .loc, none, []⟩, ⟨.fieldAddr 2 (.var 3), .loc, none, []⟩, ⟨.load none (.loc 1), .loc, none, []⟩, ⟨.bin .neq .num (.loc 2) (.cst (.one (.str []))), .loc, none, []⟩, ⟨.bin .neq .bool (.loc 0) (.loc 3), .loc, none, []⟩, ⟨.mov (.loc 4), .loc, none, []⟩, ⟨.fieldAddr 0 (.var 3), .loc, (some (.loc 5, false)), []⟩, ⟨.load none (.loc 6), .loc, (some (.loc 5, false)), []⟩, ⟨.bin .eql .num (.loc 7) (.cst (.one (.int .i64 6))), .loc, (some (.loc 5, false)), []⟩, ⟨.fieldAddr 3 (.var 3), .loc, (some (.loc 5, false)), []⟩, ⟨.load none (.loc 9), .loc, (some (.loc 5, false)), []⟩, ⟨.bin .neq .num (.loc 10) (.cst (.one (.str []))), .loc, (some (.loc 5, false)), []⟩, ⟨.bin .neq .bool (.loc 8) (.loc 11), .loc, (some (.loc 5, false)), []⟩, ⟨.pick (.loc 5) (.cst (.one (.bool true))) (.loc 12), .loc, none, []⟩, ⟨.mov (.loc 13), .loc, none, []⟩, ⟨.fieldAddr 0 (.var 3), .loc, (some (.loc 14, false)), []⟩, ⟨.load none (.loc 15), .loc, (some (.loc 14, false)), []⟩, ⟨.bin .eql .num (.loc 16) (.cst (.one (.int .i64 2))), .loc, (some (.loc 14, false)), []⟩, ⟨.mov (.loc 17), .loc, (some (.loc 14, false)), []⟩, ⟨.mov (.var 1), .loc, (some (.loc 18, true)), []⟩, ⟨.fieldAddr 2 (.var 3), .loc, (some (.loc 18, true)), []⟩, ⟨.load none (.loc 20), .loc, (some (.loc 18, true)), []⟩, ⟨.call 38 [.loc 19, .loc 21] false, .loc, (some (.loc 18, true)), []⟩, ⟨.not (.loc 22), .loc, (some (.loc 18, true)), []⟩, ⟨.pick (.loc 18) (.loc 23) (.cst (.one (.bool false))), .loc, (some (.loc 14, false)), []⟩, ⟨.pick (.loc 14) (.cst (.one (.bool true))) (.loc 24), (.var 10), none, []⟩])
 (.cond (.var 10) (.seq (.region [⟨.mov (.cst (.one (.int .i64 3001))), (.var 4), none, []⟩])
 (.ret))
 (.skip)))
 (.seq (.region [⟨.mov (.cst (.one (.int .i64 1))), (.var 6), none, []⟩])
 (.seq (.seq (.region [⟨.fieldAddr 4 (.var 3), .loc, none, []⟩, ⟨.load none (.loc 0), (.var 11), none, []⟩, ⟨.len false (.var 11), (.var 12), none, []⟩, ⟨.mov (.cst (.one (.int .i64 0))), (.var 13), none, []⟩])
 (.block 0 (.loop (.seq (.region [⟨.bin .lss .num (.var 13) (.var 12), (.var 14), none, []⟩])
 (.seq (.cond (.var 14) (.skip)
 (.exit 0))
 (.seq (.block 1 (.seq (.region [⟨.mov (.var 13), .loc, none, []⟩, ⟨.indexAddr 5 (.var 11) (.var 13), .loc, none, []⟩, ⟨.load (some (5)) (.loc 1), .loc, none, []⟩, ⟨.boxV 8 28 5 (.cst (.agg [.int .i64 0, .int .i64 0, .str [], .str [], .nils])), (.var 8), none, []⟩, ⟨.mov (.loc 0), (.var 7), none, []⟩, ⟨.store 5 (.var 8) (.loc 2), .no, none, []⟩])
 (.seq (.region [⟨.mov (.var 6), .loc, none, []⟩, ⟨.load (some (5)) (.var 8), .loc, none, [0]⟩, ⟨.mov (.var 1), .loc, none, [0, 1]⟩, ⟨.load (some (5)) (.var 3), .loc, none, [0, 1, 2]⟩, ⟨.mov (.var 7), .loc, none, [0, 1, 2, 3]⟩, ⟨.call 39 [.loc 3, .loc 4] false, .loc, none, [0, 1, 2]⟩, ⟨.lit 1 2 [.nils] [(0, .loc 2), (1, .loc 5)], .loc, none, [0, 1]⟩, ⟨.call 126 [.loc 6] false, .loc, none, [0, 1]⟩, ⟨.mov (.var 2), .loc, none, [0, 1, 2, 3, 4, 5, 6, 7]⟩, ⟨.bin .add .num (.loc 8) (.cst (.one (.int .i64 1))), .loc, none, [0, 1, 2, 3, 4, 5, 6, 7]⟩, ⟨.call 95 [.loc 1, .loc 7, .loc 9] false, .loc, none, [0]⟩, ⟨.bin .add .num (.loc 0) (.loc 10), .loc, none, []⟩, ⟨.mov (.loc 11), (.var 6), none, []⟩])
 (.seq (.region [⟨.mov (.var 6), .loc, none, []⟩, ⟨.bin .geq .num (.loc 0) (.cst (.one (.int .i64 3001))), (.var 15), none, []⟩])
 (.cond (.var 15) (.seq (.region [⟨.mov (.cst (.one (.int .i64 3001))), (.var 4), none, []⟩])
 (.ret))
 (.skip))))))
 (.region [⟨.bin .add .num (.var 13) (.cst (.one (.int .i64 1))), .loc, none, []⟩, ⟨.mov (.loc 0), (.var 13), none, []⟩])))))))
 (.seq (.region [⟨.mov (.var 6), .loc, none, []⟩, ⟨.mov (.loc 0), (.var 4), none, []⟩])
 (.ret))))))), [(.var 4, none)]⟩
def c95 : Cfg := ⟨106, [0, 1, 2, 3, 6, 7, 8, 9, 10, 37, 81, 83, 84, 85, 86, 103], [3, 10], [], [], fun g t => [].contains g && ![].contains t⟩
theorem h95 : Has Try.prog 95 f95 := ⟨by kernel_rfl, c95, Try.f95, by kernel_rfl, by kernel_rfl⟩

/-- loop.example/g00396/impl.arity -/
def f125 : AFun := ⟨[0], 0,
 .seq (.region [⟨.mov (.cst (.one (.int .i64 0))), (.var 1), none, []⟩])
 (.seq (.seq (.region [⟨.mov (.var 0), (.var 2), none, []⟩])
 (.block 0 (.seq (.seq (.region [⟨.bin .eql .num (.var 2) (.cst (.one (.int .i64 1))), .loc, none, []⟩, ⟨.mov (.loc 0), (.var 3), none, []⟩])
 (.cond (.var 3) (.skip)
 (.seq (.region [⟨.bin .eql .num (.var 2) (.cst (.one (.int .i64 2))), .loc, none, []⟩, ⟨.mov (.loc 0), (.var 3), none, []⟩])
 (.cond (.var 3) (.skip)
 (.region [⟨.bin .eql .num (.var 2) (.cst (.one (.int .i64 13))), .loc, none, []⟩, ⟨.mov (.loc 0), (.var 3), none, []⟩])))))
 (.cond (.var 3) (.seq (.region [⟨.mov (.cst (.one (.int .i64 0))), (.var 1), none, []⟩])
 (.ret))
 (.seq (.seq (.region [⟨.bin .eql .num (.var 2) (.cst (.one (.int .i64 3))), .loc, none, []⟩, ⟨.mov (.loc 0), (.var 4), none, []⟩])
 (.cond (.var 4) (.skip)
 (.seq (.region [⟨.bin .eql .num (.var 2) (.cst (.one (.int .i64 15))), .loc, none, []⟩, ⟨.mov (.loc 0), (.var 4), none, []⟩])
 (.cond (.var 4) (.skip)
 (.seq (.region [⟨.bin .eql .num (.var 2) (.cst (.one (.int .i64 16))), .loc, none, []⟩, ⟨.mov (.loc 0), (.var 4), none, []⟩])
 (.cond (.var 4) (.skip)
 (.seq (.region [⟨.bin .eql .num (.var 2) (.cst (.one (.int .i64 17))), .loc, none, []⟩, ⟨.mov (.loc 0), (.var 4), none, []⟩])
 (.cond (.var 4) (.skip)
 (.region [⟨.bin .eql .num (.var 2) (.cst (.one (.int .i64 18))), .loc, none, []⟩, ⟨.mov (.loc 0), (.var 4), none, []⟩])))))))))
 (.cond (.var 4) (.seq (.region [⟨.mov (.cst (.one (.int .i64 1))), (.var 1), none, []⟩])
 (.ret))
 (.seq (.seq (.region [⟨.bin .eql .num (.var 2) (.cst (.one (.int .i64 4))), .loc, none, []⟩, ⟨.mov (.loc 0), (.var 5), none, []⟩])
 (.cond (.var 5) (.skip)
 (.seq (.region [⟨.bin .eql .num (.var 2) (.cst (.one (.int .i64 5))), .loc, none, []⟩, ⟨.mov (.loc 0), (.var 5), none, []⟩])
 (.cond (.var 5) (.skip)
 (.seq (.region [⟨.bin .eql .num (.var 2) (.cst (.one (.int .i64 6))), .loc, none, []⟩, ⟨.mov (.loc 0), (.var 5), none, []⟩])
 (.cond (.var 5) (.skip)
 (.seq (.region [⟨.bin .eql .num (.var 2) (.cst (.one (.int .i64 8))), .loc, none, []⟩, ⟨.mov (.loc 0), (.var 5), none, []⟩])
 (.cond (.var 5) (.skip)
 (.seq (.region [⟨.bin .eql .num (.var 2) (.cst (.one (.int .i64 9))), .loc, none, []⟩, ⟨.mov (.loc 0), (.var 5), none, []⟩])
 (.cond (.var 5) (.skip)
 (.seq (.region [⟨.bin .eql .num (.var 2) (.cst (.one (.int .i64 10))), .loc, none, []⟩, ⟨.mov (.loc 0), (.var 5), none, []⟩])
 (.cond (.var 5) (.skip)
 (.seq (.region [⟨.bin .eql .num (.var 2) (.cst (.one (.int .i64 11))), .loc, none, []⟩, ⟨.mov (.loc 0), (.var 5), none, []⟩])
 (.cond (.var 5) (.skip)
 (.seq (.region [⟨.bin .eql .num (.var 2) (.cst (.one (.int .i64 12))), .loc, none, []⟩, ⟨.mov (.loc 0), (.var 5), none, []⟩])
 (.cond (.var 5) (.skip)
 (.region [⟨.bin .eql .num (.var 2) (.cst (.one (.int .i64 14))), .loc, none, []⟩, ⟨.mov (.loc 0), (.var 5), none, []⟩])))))))))))))))))
 (.cond (.var 5) (.seq (.region [⟨.mov (.cst (.one (.int .i64 2))), (.var 1), none, []⟩])
 (.ret))
 (.seq (.region [⟨.bin .eql .num (.var 2) (.cst (.one (.int .i64 7))), .loc, none, []⟩, ⟨.mov (.loc 0), (.var 6), none, []⟩])
 (.cond (.var 6) (.seq (.region [⟨.mov (.cst (.one (.int .i64 3))), (.var 1), none, []⟩])
 (.ret))
 (.skip)))))))))))
 (.seq (.region [⟨.mov (.cst (.one (.int .i64 (-1)))), (.var 1), none, []⟩])
 (.ret))), [(.var 1, none)]⟩
def c125 : Cfg := ⟨26, [0, 2, 3, 4, 8, 14, 24], [], [], [], fun g t => [].contains g && ![].contains t⟩
theorem h125 : Has Try.prog 125 f125 := ⟨by kernel_rfl, c125, Try.f125, by kernel_rfl, by kernel_rfl⟩

/-- loop.example/g00396/impl.WordOk -/
def f118 : AFun := ⟨[0], 0,
 .seq (.region [⟨.mov (.cst (.one (.bool false))), (.var 1), none, []⟩])
 (.seq (.region [⟨.mov (.var 0), .loc, none, []⟩, ⟨.call 84 [.loc 0, .cst (.one (.int .i64 (-1073741824))), .cst (.one (.int .i64 1073741823))] false, .loc, none, []⟩, ⟨.mov (.loc 1), (.var 1), none, []⟩])
 (.ret)), [(.var 1, none)]⟩
def c118 : Cfg := ⟨5, [0, 2], [], [], [], fun g t => [].contains g && ![].contains t⟩
theorem h118 : Has Try.prog 118 f118 := ⟨by kernel_rfl, c118, Try.f118, by kernel_rfl, by kernel_rfl⟩

/-- loop.example/g00396/impl.within -/
def f84 : AFun := ⟨[0, 1, 2], 0,
 .seq (.region [⟨.mov (.cst (.one (.bool false))), (.var 3), none, []⟩])
 (.seq (.region [⟨.mov (.var 0), .loc, none, []⟩, ⟨.mov (.var 1), .loc, none, []⟩, ⟨.bin .geq .num (.loc 0) (.loc 1), .loc, none, []⟩, ⟨.mov (.loc 2), .loc, none, []⟩, ⟨.mov (.var 0), .loc, (some (.loc 3, true)), []⟩, ⟨.mov (.var 2), .loc, (some (.loc 3, true)), []⟩, ⟨.bin .leq .num (.loc 4) (.loc 5), .loc, (some (.loc 3, true)), []⟩, ⟨.pick (.loc 3) (.loc 6) (.cst (.one (.bool false))), .loc, none, []⟩, ⟨.mov (.loc 7), (.var 3), none, []⟩])
 (.ret)), [(.var 3, none)]⟩
def c84 : Cfg := ⟨15, [0, 1, 2, 6], [], [], [], fun g t => [].contains g && ![].contains t⟩
theorem h84 : Has Try.prog 84 f84 := ⟨by kernel_rfl, c84, Try.f84, by kernel_rfl, by kernel_rfl⟩

/-- slices.Concat[[]string,string] -/
def f126 : AFun := ⟨[0], 0,
 .seq (.region [⟨.mov (.cst (.one (.nils))), (.var 1), none, []⟩])
 (.seq (.region [⟨.mov (.cst (.one (.int .i64 0))), (.var 2), none, []⟩])
 (.seq (.seq (.region [⟨.mov (.var 0), (.var 6), none, []⟩, ⟨.len false (.var 6), (.var 7), none, []⟩, ⟨.mov (.cst (.one (.int .i64 0))), (.var 8), none, []⟩])
 (.block 0 (.loop (.seq (.region [⟨.bin .lss .num (.var 8) (.var 7), (.var 9), none, []⟩])
 (.seq (.cond (.var 9) (.skip)
 (.exit 0))
 (.seq (.block 1 (.seq (.region [⟨.indexAddr 1 (.var 6) (.var 8), .loc, none, []⟩, ⟨.load none (.loc 0), .loc, none, []⟩, ⟨.mov (.loc 1), (.var 3), none, []⟩])
 (.seq (.region [⟨.mov (.var 2), .loc, none, []⟩, ⟨.mov (.var 3), .loc, none, []⟩, ⟨.len false (.loc 1), .loc, none, []⟩, ⟨.bin .add .num (.loc 0) (.loc 2), .loc, none, []⟩, ⟨.mov (.loc 3), (.var 2), none, []⟩])
 (.seq (.region [⟨.mov (.var 2), .loc, none, []⟩, ⟨.bin .lss .num (.loc 0) (.cst (.one (.int .i64 0))), (.var 10), none, []⟩])
 (.cond (.var 10) (.region [⟨.bad, .loc, none, []⟩, ⟨.bad, .no, none, []⟩])
 (.skip))))))
 (.region [⟨.bin .add .num (.var 8) (.cst (.one (.int .i64 1))), .loc, none, []⟩, ⟨.mov (.loc 0), (.var 8), none, []⟩])))))))
 (.seq (.region [⟨.mov (.var 2), .loc, none, []⟩, ⟨.call 137 [.cst (.one (.nils)), .loc 0] true, .loc, none, []⟩, ⟨.mov (.loc 1), (.var 4), none, []⟩])
 (.seq (.seq (.region [⟨.mov (.var 0), (.var 11), none, []⟩, ⟨.len false (.var 11), (.var 12), none, []⟩, ⟨.mov (.cst (.one (.int .i64 0))), (.var 13), none, []⟩])
 (.block 2 (.loop (.seq (.region [⟨.bin .lss .num (.var 13) (.var 12), (.var 14), none, []⟩])
 (.seq (.cond (.var 14) (.skip)
 (.exit 2))
 (.seq (.block 3 (.seq (.region [⟨.indexAddr 1 (.var 11) (.var 13), .loc, none, []⟩, ⟨.load none (.loc 0), .loc, none, []⟩, ⟨.mov (.loc 1), (.var 5), none, []⟩])
 (.region [⟨.mov (.var 4), .loc, none, []⟩, ⟨.mov (.var 5), .loc, none, []⟩, ⟨.append 9 1 16 (.loc 0) (.loc 1), .loc, none, []⟩, ⟨.mov (.loc 2), (.var 4), none, []⟩])))
 (.region [⟨.bin .add .num (.var 13) (.cst (.one (.int .i64 1))), .loc, none, []⟩, ⟨.mov (.loc 0), (.var 13), none, []⟩])))))))
 (.seq (.region [⟨.mov (.var 4), .loc, none, []⟩, ⟨.mov (.loc 0), (.var 1), none, []⟩])
 (.ret)))))), [(.var 1, none)]⟩
def c126 : Cfg := ⟨36, [0, 2, 3, 5, 6, 8, 9, 10, 11, 12, 20, 25, 26, 27, 28], [], [], [], fun g t => [137].contains g && ![].contains t⟩
theorem h126 : Has Try.prog 126 f126 := ⟨by kernel_rfl, c126, Try.f126, by kernel_rfl, by kernel_rfl⟩

/-- slices.Grow[[]string,string] -/
def f137 : AFun := ⟨[0, 1], 0,
 .seq (.region [⟨.mov (.cst (.one (.nils))), (.var 2), none, []⟩])
 (.seq (.seq (.region [⟨.mov (.var 1), .loc, none, []⟩, ⟨.bin .lss .num (.loc 0) (.cst (.one (.int .i64 0))), (.var 3), none, []⟩])
 (.cond (.var 3) (.region [⟨.bad, .loc, none, []⟩, ⟨.bad, .no, none, []⟩])
 (.skip)))
 (.seq (.seq (.region [⟨.mov (.var 1), .loc, none, []⟩, ⟨.mov (.var 0), .loc, none, []⟩, ⟨.cap (.loc 1), .loc, none, []⟩, ⟨.mov (.var 0), .loc, none, []⟩, ⟨.len false (.loc 3), .loc, none, []⟩, ⟨.bin .sub .num (.loc 2) (.loc 4), .loc, none, []⟩, ⟨.bin .sub .num (.loc 0) (.loc 5), .loc, none, []⟩, ⟨.mov (.loc 6), (.var 1), none, []⟩])
 (.seq (.region [⟨.mov (.var 1), .loc, none, []⟩, ⟨.bin .gtr .num (.loc 0) (.cst (.one (.int .i64 0))), (.var 4), none, []⟩])
 (.cond (.var 4) (.region [⟨.mov (.var 0), .loc, none, []⟩, ⟨.mov (.var 0), .loc, none, []⟩, ⟨.cap (.loc 1), .loc, none, []⟩, ⟨.slice false 1 (.loc 0) none (some (.loc 2)), .loc, none, []⟩, ⟨.mov (.var 1), .loc, none, []⟩, ⟨.appendZ 9 1 16 [.str []] (.loc 3) (.loc 4), .loc, none, []⟩, ⟨.mov (.var 0), .loc, none, []⟩, ⟨.len false (.loc 6), .loc, none, []⟩, ⟨.slice false 1 (.loc 5) none (some (.loc 7)), .loc, none, []⟩, ⟨.mov (.loc 8), (.var 0), none, []⟩])
 (.skip))))
 (.seq (.region [⟨.mov (.var 0), .loc, none, []⟩, ⟨.mov (.loc 0), (.var 2), none, []⟩])
 (.ret)))), [(.var 2, none)]⟩
def c137 : Cfg := ⟨27, [0, 1, 4, 6, 16], [], [], [], fun g t => [].contains g && ![].contains t⟩
theorem h137 : Has Try.prog 137 f137 := ⟨by kernel_rfl, c137, Try.f137, by kernel_rfl, by kernel_rfl⟩

/-- loop.example/g00396/impl.folded -/
def f64 : AFun := ⟨[0], 1,
 .seq (.region [⟨.boxV 1 28 5 (.var 0), (.var 1), none, []⟩, ⟨.boxV 2 28 5 (.cst (.agg [.int .i64 0, .int .i64 0, .str [], .str [], .nils])), (.var 2), none, []⟩])
 (.seq (.region [⟨.load (some (5)) (.var 1), .loc, none, []⟩, ⟨.boxS 0 28 5 (.cst (.agg [.int .i64 0, .int .i64 0, .str [], .str [], .nils])), (.var 3), none, []⟩, ⟨.store 5 (.var 3) (.loc 0), .no, none, []⟩])
 (.seq (.region [⟨.fieldAddr 4 (.var 3), .loc, none, []⟩, ⟨.store 1 (.loc 0) (.cst (.one (.nils))), .no, none, []⟩])
 (.seq (.seq (.region [⟨.fieldAddr 4 (.var 1), .loc, none, []⟩, ⟨.load none (.loc 0), (.var 6), none, []⟩, ⟨.len false (.var 6), (.var 7), none, []⟩, ⟨.mov (.cst (.one (.int .i64 0))), (.var 8), none, []⟩])
 (.block 0 (.loop (.seq (.region [⟨.bin .lss .num (.var 8) (.var 7), (.var 9), none, []⟩])
 (.seq (.cond (.var 9) (.skip)
 (.exit 0))
 (.seq (.block 1 (.seq (.region [⟨.indexAddr 5 (.var 6) (.var 8), .loc, none, []⟩, ⟨.load (some (5)) (.loc 0), .loc, none, []⟩, ⟨.boxV 4 28 5 (.cst (.agg [.int .i64 0, .int .i64 0, .str [], .str [], .nils])), (.var 4), none, []⟩, ⟨.store 5 (.var 4) (.loc 1), .no, none, []⟩])
 (.region [⟨.fieldAddr 4 (.var 3), .loc, none, []⟩, ⟨.load none (.loc 0), .loc, none, []⟩, ⟨.load (some (5)) (.var 4), .loc, none, [0, 1]⟩, ⟨.call 64 [.loc 2] false, .loc, none, [0, 1]⟩, ⟨.len false (.loc 1), .loc, none, [2, 3]⟩, ⟨.lit 5 1 [.int .i64 0, .int .i64 0, .str [], .str [], .nils] [(0, .cst (.agg [.int .i64 0, .int .i64 0, .str [], .str [], .nils]))], .loc, none, [0, 1, 2, 3, 4]⟩, ⟨.append 28 5 72 (.loc 1) (.loc 5), .loc, none, []⟩, ⟨.indexAddr 5 (.loc 6) (.loc 4), .loc, none, []⟩, ⟨.store 5 (.loc 7) (.loc 3), .no, none, []⟩, ⟨.fieldAddr 4 (.var 3), .loc, none, [7, 8]⟩, ⟨.store 1 (.loc 9) (.loc 6), .no, none, [7, 8]⟩])))
 (.region [⟨.bin .add .num (.var 8) (.cst (.one (.int .i64 1))), .loc, none, []⟩, ⟨.mov (.loc 0), (.var 8), none, []⟩])))))))
 (.seq (.region [⟨.mkfn 96 [.var 3], .loc, none, []⟩, ⟨.mov (.loc 0), (.var 5), none, []⟩])
 (.seq (.block 2 (.seq (.region [⟨.fieldAddr 0 (.var 1), .loc, none, []⟩, ⟨.load none (.loc 0), .loc, none, []⟩, ⟨.call 84 [.loc 1, .cst (.one (.int .i64 8)), .cst (.one (.int .i64 12))] false, .loc, none, []⟩, ⟨.mov (.loc 2), .loc, none, []⟩, ⟨.mov (.var 5), .loc, (some (.loc 3, true)), []⟩, ⟨.callV (.loc 4) [.cst (.one (.int .i64 0))], .loc, (some (.loc 3, true)), []⟩, ⟨.pick (.loc 3) (.loc 5) (.cst (.one (.bool false))), .loc, none, []⟩, ⟨.mov (.loc 6), .loc, none, []⟩, ⟨.mov (.var 5), .loc, (some (.loc 7, true)), []⟩, ⟨.callV (.loc 8) [.cst (.one (.int .i64 1))], .loc, (some (.loc 7, true)), []⟩, ⟨.pick (.loc 7) (.loc 9) (.cst (.one (.bool false))), .loc, none, []⟩, ⟨.mov (.loc 10), (.var 10), none, []⟩])
 (.cond (.var 10) (.seq (.region [⟨.fieldAddr 0 (.var 1), .loc, none, []⟩, ⟨.load none (.loc 0), .loc, none, []⟩, ⟨.fieldAddr 4 (.var 3), .loc, none, [0, 1]⟩, ⟨.load none (.loc 2), .loc, none, [0, 1]⟩, ⟨.indexAddr 5 (.loc 3) (.cst (.one (.int .i64 0))), .loc, none, [0, 1]⟩, ⟨.fieldAddr 1 (.loc 4), .loc, none, [0, 1]⟩, ⟨.load none (.loc 5), .loc, none, [0, 1]⟩, ⟨.fieldAddr 4 (.var 3), .loc, none, [0, 1, 2, 3, 4, 5, 6]⟩, ⟨.load none (.loc 7), .loc, none, [0, 1, 2, 3, 4, 5, 6]⟩, ⟨.indexAddr 5 (.loc 8) (.cst (.one (.int .i64 1))), .loc, none, [0, 1, 2, 3, 4, 5, 6]⟩, ⟨.fieldAddr 1 (.loc 9), .loc, none, [0, 1, 2, 3, 4, 5, 6]⟩, ⟨.load none (.loc 10), .loc, none, [0, 1, 2, 3, 4, 5, 6]⟩, ⟨.call 97 [.loc 1, .loc 6, .loc 11] false, .loc, none, []⟩, ⟨.nilCheck (.loc 12), .loc, none, []⟩, ⟨.fieldAddr 1 (.loc 13), .loc, none, []⟩, ⟨.load none (.loc 14), .loc, none, []⟩, ⟨.build [.int .i64 0, .int .i64 0, .str [], .str [], .nils] [(0, 1, .cst (.one (.int .i64 1))), (1, 1, .loc 15)], .loc, none, []⟩, ⟨.store 5 (.var 2) (.loc 16), .no, none, []⟩])
 (.ret))
 (.seq (.region [⟨.fieldAddr 0 (.var 1), .loc, none, []⟩, ⟨.load none (.loc 0), .loc, none, []⟩, ⟨.bin .eql .num (.loc 1) (.cst (.one (.int .i64 7))), .loc, none, []⟩, ⟨.mov (.loc 2), .loc, none, []⟩, ⟨.mov (.var 5), .loc, (some (.loc 3, true)), []⟩, ⟨.callV (.loc 4) [.cst (.one (.int .i64 0))], .loc, (some (.loc 3, true)), []⟩, ⟨.pick (.loc 3) (.loc 5) (.cst (.one (.bool false))), .loc, none, []⟩, ⟨.mov (.loc 6), (.var 11), none, []⟩])
 (.cond (.var 11) (.seq (.seq (.region [⟨.fieldAddr 4 (.var 3), .loc, none, []⟩, ⟨.load none (.loc 0), .loc, none, []⟩, ⟨.indexAddr 5 (.loc 1) (.cst (.one (.int .i64 0))), .loc, none, []⟩, ⟨.fieldAddr 1 (.loc 2), .loc, none, []⟩, ⟨.load none (.loc 3), .loc, none, []⟩, ⟨.bin .eql .num (.loc 4) (.cst (.one (.int .i64 0))), (.var 12), none, []⟩])
 (.cond (.var 12) (.seq (.region [⟨.fieldAddr 4 (.var 3), .loc, none, []⟩, ⟨.load none (.loc 0), .loc, none, []⟩, ⟨.indexAddr 5 (.loc 1) (.cst (.one (.int .i64 2))), .loc, none, []⟩, ⟨.load (some (5)) (.loc 2), .loc, none, []⟩, ⟨.store 5 (.var 2) (.loc 3), .no, none, []⟩])
 (.ret))
 (.skip)))
 (.seq (.region [⟨.fieldAddr 4 (.var 3), .loc, none, []⟩, ⟨.load none (.loc 0), .loc, none, []⟩, ⟨.indexAddr 5 (.loc 1) (.cst (.one (.int .i64 1))), .loc, none, []⟩, ⟨.load (some (5)) (.loc 2), .loc, none, []⟩, ⟨.store 5 (.var 2) (.loc 3), .no, none, []⟩])
 (.ret)))
 (.seq (.region [⟨.fieldAddr 0 (.var 1), .loc, none, []⟩, ⟨.load none (.loc 0), .loc, none, []⟩, ⟨.bin .eql .num (.loc 1) (.cst (.one (.int .i64 17))), .loc, none, []⟩, ⟨.mov (.loc 2), .loc, none, []⟩, ⟨.mov (.var 5), .loc, (some (.loc 3, true)), []⟩, ⟨.callV (.loc 4) [.cst (.one (.int .i64 0))], .loc, (some (.loc 3, true)), []⟩, ⟨.mov (.loc 5), .loc, (some (.loc 3, true)), []⟩, ⟨.fieldAddr 4 (.var 3), .loc, (some (.loc 6, false)), []⟩, ⟨.load none (.loc 7), .loc, (some (.loc 6, false)), []⟩, ⟨.indexAddr 5 (.loc 8) (.cst (.one (.int .i64 0))), .loc, (some (.loc 6, false)), []⟩, ⟨.fieldAddr 0 (.loc 9), .loc, (some (.loc 6, false)), []⟩, ⟨.load none (.loc 10), .loc, (some (.loc 6, false)), []⟩, ⟨.bin .eql .num (.loc 11) (.cst (.one (.int .i64 13))), .loc, (some (.loc 6, false)), []⟩, ⟨.pick (.loc 6) (.cst (.one (.bool true))) (.loc 12), .loc, (some (.loc 3, true)), []⟩, ⟨.pick (.loc 3) (.loc 13) (.cst (.one (.bool false))), .loc, none, []⟩, ⟨.mov (.loc 14), (.var 13), none, []⟩])
 (.cond (.var 13) (.seq (.region [⟨.build [.int .i64 0, .int .i64 0, .str [], .str [], .nils] [(0, 1, .cst (.one (.int .i64 1)))], .loc, none, []⟩, ⟨.store 5 (.var 2) (.loc 0), .no, none, []⟩])
 (.ret))
 (.skip))))))))
 (.seq (.region [⟨.load (some (5)) (.var 3), .loc, none, []⟩, ⟨.store 5 (.var 2) (.loc 0), .no, none, []⟩])
 (.ret))))))), [(.var 2, (some ((some (5)))))]⟩
def c64 : Cfg := ⟨96, [0, 1, 2, 3, 5, 6, 10, 11, 12, 13, 27, 56, 69, 78], [1, 2, 5], [3], [], fun g t => [].contains g && ![].contains t⟩
theorem h64 : Has Try.prog 64 f64 := ⟨by kernel_rfl, c64, Try.f64, by kernel_rfl, by kernel_rfl⟩

/-- loop.example/g00396/impl.folded$1 -/
def f96 : AFun := ⟨[0, 1], 0,
 .seq (.region [⟨.mov (.cst (.one (.bool false))), (.var 2), none, []⟩])
 (.seq (.region [⟨.fieldAddr 4 (.var 1), .loc, none, []⟩, ⟨.load none (.loc 0), .loc, none, []⟩, ⟨.mov (.var 0), .loc, none, []⟩, ⟨.indexAddr 5 (.loc 1) (.loc 2), .loc, none, []⟩, ⟨.fieldAddr 0 (.loc 3), .loc, none, []⟩, ⟨.load none (.loc 4), .loc, none, []⟩, ⟨.bin .eql .num (.loc 5) (.cst (.one (.int .i64 1))), .loc, none, []⟩, ⟨.mov (.loc 6), (.var 2), none, []⟩])
 (.ret)), [(.var 2, none)]⟩
def c96 : Cfg := ⟨11, [0, 1, 3], [], [], [], fun g t => [].contains g && ![].contains t⟩
theorem h96 : Has Try.prog 96 f96 := ⟨by kernel_rfl, c96, Try.f96, by kernel_rfl, by kernel_rfl⟩

/-- loop.example/g00396/impl.reckoned -/
def f97 : AFun := ⟨[0, 1, 2], 0,
 .seq (.region [⟨.mov (.cst (.one (.nilp))), (.var 3), none, []⟩])
 (.seq (.seq (.region [⟨.mov (.var 0), (.var 4), none, []⟩])
 (.block 0 (.seq (.region [⟨.bin .eql .num (.var 4) (.cst (.one (.int .i64 8))), .loc, none, []⟩, ⟨.mov (.loc 0), (.var 5), none, []⟩])
 (.cond (.var 5) (.seq (.region [⟨.mov (.var 1), .loc, none, []⟩, ⟨.mov (.var 2), .loc, none, []⟩, ⟨.bin .add .num (.loc 0) (.loc 1), .loc, none, []⟩, ⟨.call 128 [.loc 2] false, .loc, none, []⟩, ⟨.call 127 [.loc 3] false, .loc, none, []⟩, ⟨.mov (.loc 4), (.var 3), none, []⟩])
 (.ret))
 (.seq (.region [⟨.bin .eql .num (.var 4) (.cst (.one (.int .i64 9))), .loc, none, []⟩, ⟨.mov (.loc 0), (.var 6), none, []⟩])
 (.cond (.var 6) (.seq (.region [⟨.mov (.var 1), .loc, none, []⟩, ⟨.mov (.var 2), .loc, none, []⟩, ⟨.bin .sub .num (.loc 0) (.loc 1), .loc, none, []⟩, ⟨.call 128 [.loc 2] false, .loc, none, []⟩, ⟨.call 127 [.loc 3] false, .loc, none, []⟩, ⟨.mov (.loc 4), (.var 3), none, []⟩])
 (.ret))
 (.seq (.region [⟨.bin .eql .num (.var 4) (.cst (.one (.int .i64 10))), .loc, none, []⟩, ⟨.mov (.loc 0), (.var 7), none, []⟩])
 (.cond (.var 7) (.seq (.region [⟨.mov (.var 1), .loc, none, []⟩, ⟨.mov (.var 2), .loc, none, []⟩, ⟨.bin .mul .num (.loc 0) (.loc 1), .loc, none, []⟩, ⟨.call 128 [.loc 2] false, .loc, none, []⟩, ⟨.call 127 [.loc 3] false, .loc, none, []⟩, ⟨.mov (.loc 4), (.var 3), none, []⟩])
 (.ret))
 (.seq (.region [⟨.bin .eql .num (.var 4) (.cst (.one (.int .i64 11))), .loc, none, []⟩, ⟨.mov (.loc 0), (.var 8), none, []⟩])
 (.cond (.var 8) (.seq (.region [⟨.mov (.var 1), .loc, none, []⟩, ⟨.mov (.var 2), .loc, none, []⟩, ⟨.bin .lss .num (.loc 0) (.loc 1), .loc, none, []⟩, ⟨.call 129 [.loc 2] false, .loc, none, []⟩, ⟨.mov (.loc 3), (.var 3), none, []⟩])
 (.ret))
 (.skip)))))))))))
 (.seq (.region [⟨.mov (.var 1), .loc, none, []⟩, ⟨.mov (.var 2), .loc, none, []⟩, ⟨.bin .eql .num (.loc 0) (.loc 1), .loc, none, []⟩, ⟨.call 129 [.loc 2] false, .loc, none, []⟩, ⟨.mov (.loc 3), (.var 3), none, []⟩])
 (.ret))), [(.var 3, none)]⟩
def c97 : Cfg := ⟨39, [0, 1, 2, 6, 7, 8, 15, 22, 29], [], [], [], fun g t => [].contains g && ![].contains t⟩
theorem h97 : Has Try.prog 97 f97 := ⟨by kernel_rfl, c97, Try.f97, by kernel_rfl, by kernel_rfl⟩

/-- loop.example/g00396/impl.Round -/
def f128 : AFun := ⟨[0], 0,
 .seq (.region [⟨.mov (.cst (.one (.int .i64 0))), (.var 1), none, []⟩])
 (.seq (.region [⟨.mov (.var 0), .loc, none, []⟩, ⟨.bin .and .num (.loc 0) (.cst (.one (.int .i64 2147483647))), .loc, none, []⟩, ⟨.mov (.loc 1), (.var 0), none, []⟩])
 (.seq (.seq (.region [⟨.mov (.var 0), .loc, none, []⟩, ⟨.bin .geq .num (.loc 0) (.cst (.one (.int .i64 1073741824))), (.var 2), none, []⟩])
 (.cond (.var 2) (.region [⟨.mov (.var 0), .loc, none, []⟩, ⟨.bin .sub .num (.loc 0) (.cst (.one (.int .i64 2147483648))), .loc, none, []⟩, ⟨.mov (.loc 1), (.var 0), none, []⟩])
 (.skip)))
 (.seq (.region [⟨.mov (.var 0), .loc, none, []⟩, ⟨.mov (.loc 0), (.var 1), none, []⟩])
 (.ret)))), [(.var 1, none)]⟩
def c128 : Cfg := ⟨10, [0, 2, 6], [], [], [], fun g t => [].contains g && ![].contains t⟩
theorem h128 : Has Try.prog 128 f128 := ⟨by kernel_rfl, c128, Try.f128, by kernel_rfl, by kernel_rfl⟩

/-- loop.example/g00396/impl.integer -/
def f127 : AFun := ⟨[0], 0,
 .seq (.region [⟨.mov (.cst (.one (.nilp))), (.var 1), none, []⟩])
 (.seq (.region [⟨.mov (.var 0), .loc, none, []⟩, ⟨.build [.int .i64 0, .int .i64 0, .nilp, .nilp, .str [], .int .i64 0, .int .i64 0, .str [], .str [], .nils, .nilp] [(0, 1, .cst (.one (.int .i64 1))), (1, 1, .loc 0)], .loc, none, []⟩, ⟨.boxD 122 11 (.loc 1), .loc, none, []⟩, ⟨.mov (.loc 2), (.var 1), none, []⟩])
 (.ret)), [(.var 1, none)]⟩
def c127 : Cfg := ⟨6, [0, 2], [], [], [], fun g t => [].contains g && ![].contains t⟩
theorem h127 : Has Try.prog 127 f127 := ⟨by kernel_rfl, c127, Try.f127, by kernel_rfl, by kernel_rfl⟩

/-- loop.example/g00396/impl.flag -/
def f129 : AFun := ⟨[0], 0,
 .seq (.region [⟨.mov (.cst (.one (.nilp))), (.var 1), none, []⟩])
 (.seq (.seq (.region [⟨.mov (.var 0), (.var 2), none, []⟩])
 (.cond (.var 2) (.seq (.region [⟨.call 127 [.cst (.one (.int .i64 1))] false, .loc, none, []⟩, ⟨.mov (.loc 0), (.var 1), none, []⟩])
 (.ret))
 (.skip)))
 (.seq (.region [⟨.call 127 [.cst (.one (.int .i64 0))] false, .loc, none, []⟩, ⟨.mov (.loc 0), (.var 1), none, []⟩])
 (.ret))), [(.var 1, none)]⟩
def c129 : Cfg := ⟨6, [0, 2, 3], [], [], [], fun g t => [].contains g && ![].contains t⟩
theorem h129 : Has Try.prog 129 f129 := ⟨by kernel_rfl, c129, Try.f129, by kernel_rfl, by kernel_rfl⟩

/-- loop.example/g00396/impl.FoldCore -/
def f26 : AFun := ⟨[0], 0,
 .seq (.region [⟨.boxV 1 28 5 (.var 0), (.var 1), none, []⟩, ⟨.boxV 2 28 5 (.cst (.agg [.int .i64 0, .int .i64 0, .str [], .str [], .nils])), (.var 2), none, []⟩])
 (.seq (.seq (.region [⟨.load (some (5)) (.var 1), .loc, none, []⟩, ⟨.call 63 [.loc 0] false, .loc, none, []⟩, ⟨.not (.loc 1), (.var 3), none, []⟩])
 (.cond (.var 3) (.seq (.region [⟨.load (some (5)) (.var 1), .loc, none, []⟩, ⟨.call 37 [.loc 0] false, .loc, none, []⟩, ⟨.store 5 (.var 2) (.loc 1), .no, none, []⟩])
 (.ret))
 (.skip)))
 (.seq (.region [⟨.load (some (5)) (.var 1), .loc, none, []⟩, ⟨.call 64 [.loc 0] false, .loc, none, []⟩, ⟨.store 5 (.var 2) (.loc 1), .no, none, []⟩])
 (.ret))), [(.var 2, (some ((some (5)))))]⟩
def c26 : Cfg := ⟨10, [0, 1, 2, 5], [1, 2], [], [], fun g t => [].contains g && ![].contains t⟩
theorem h26 : Has Try.prog 26 f26 := ⟨by kernel_rfl, c26, Try.f26, by kernel_rfl, by kernel_rfl⟩

/-- loop.example/g00396/impl.Foldable -/
def f28 : AFun := ⟨[0], 0,
 .seq (.region [⟨.boxV 1 28 5 (.var 0), (.var 1), none, []⟩, ⟨.mov (.cst (.one (.bool false))), (.var 2), none, []⟩])
 (.seq (.region [⟨.load (some (5)) (.var 1), .loc, none, []⟩, ⟨.call 26 [.loc 0] false, .loc, none, []⟩, ⟨.boxV 3 28 5 (.cst (.agg [.int .i64 0, .int .i64 0, .str [], .str [], .nils])), (.var 3), none, []⟩, ⟨.store 5 (.var 3) (.loc 1), .no, none, []⟩])
 (.seq (.region [⟨.load (some (5)) (.var 3), .loc, none, []⟩, ⟨.load (some (5)) (.var 1), .loc, none, [0]⟩, ⟨.call 67 [.loc 0, .loc 1] false, .loc, none, []⟩, ⟨.not (.loc 2), .loc, none, []⟩, ⟨.mov (.loc 3), .loc, none, []⟩, ⟨.load (some (5)) (.var 3), .loc, (some (.loc 4, false)), []⟩, ⟨.call 68 [.loc 5] false, .loc, (some (.loc 4, false)), []⟩, ⟨.load (some (5)) (.var 1), .loc, (some (.loc 4, false)), [5, 6]⟩, ⟨.call 68 [.loc 7] false, .loc, (some (.loc 4, false)), []⟩, ⟨.bin .neq .num (.loc 6) (.loc 8), .loc, (some (.loc 4, false)), []⟩, ⟨.pick (.loc 4) (.cst (.one (.bool true))) (.loc 9), .loc, none, []⟩, ⟨.mov (.loc 10), (.var 2), none, []⟩])
 (.ret))), [(.var 2, none)]⟩
def c28 : Cfg := ⟨17, [0, 1, 2, 3], [1, 3], [], [], fun g t => [].contains g && ![].contains t⟩
theorem h28 : Has Try.prog 28 f28 := ⟨by kernel_rfl, c28, Try.f28, by kernel_rfl, by kernel_rfl⟩

/-- loop.example/g00396/impl.Alike -/
def f67 : AFun := ⟨[0, 1], 0,
 .seq (.region [⟨.boxV 2 28 5 (.var 0), (.var 2), none, []⟩, ⟨.boxV 3 28 5 (.var 1), (.var 3), none, []⟩, ⟨.mov (.cst (.one (.bool false))), (.var 4), none, []⟩])
 (.seq (.region [⟨.load (some (5)) (.var 2), .loc, none, []⟩, ⟨.load (some (5)) (.var 3), .loc, none, []⟩, ⟨.call 99 [.loc 0, .loc 1, .cst (.one (.nils)), .cst (.one (.nils))] false, .loc, none, []⟩, ⟨.mov (.loc 2), (.var 4), none, []⟩])
 (.ret)), [(.var 4, none)]⟩
def c67 : Cfg := ⟨8, [0, 1, 2, 3, 4], [2, 3], [], [], fun g t => [].contains g && ![].contains t⟩
theorem h67 : Has Try.prog 67 f67 := ⟨by kernel_rfl, c67, Try.f67, by kernel_rfl, by kernel_rfl⟩

/-- loop.example/g00396/impl.alike -/
def f99 : AFun := ⟨[0, 1, 2, 3], 0,
 .seq (.region [⟨.boxV 4 28 5 (.var 0), (.var 4), none, []⟩, ⟨.boxV 5 28 5 (.var 1), (.var 5), none, []⟩, ⟨.mov (.cst (.one (.bool false))), (.var 6), none, []⟩])
 (.seq (.seq (.region [⟨.fieldAddr 0 (.var 4), .loc, none, []⟩, ⟨.load none (.loc 0), .loc, none, []⟩, ⟨.fieldAddr 0 (.var 5), .loc, none, []⟩, ⟨.load none (.loc 2), .loc, none, []⟩, ⟨.bin .neq .num (.loc 1) (.loc 3), .loc, none, []⟩, ⟨.mov (.loc 4), .loc, none, []⟩, ⟨.fieldAddr 1 (.var 4), .loc, (some (.loc 5, false)), []⟩, ⟨.load none (.loc 6), .loc, (some (.loc 5, false)), []⟩, ⟨.fieldAddr 1 (.var 5), .loc, (some (.loc 5, false)), []⟩, ⟨.load none (.loc 8), .loc, (some (.loc 5, false)), []⟩, ⟨.bin .neq .num (.loc 7) (.loc 9), .loc, (some (.loc 5, false)), []⟩, ⟨.pick (.loc 5) (.cst (.one (.bool true))) (.loc 10), .loc, none, []⟩, ⟨.mov (.loc 11), .loc, none, []⟩, ⟨.fieldAddr 4 (.var 4), .loc, (some (.loc 12, false)), []⟩, ⟨.load none (.loc 13), .loc, (some (.loc 12, false)), []⟩, ⟨.len false (.loc 14), .loc, (some (.loc 12, false)), []⟩, ⟨.fieldAddr 4 (.var 5), .loc, (some (.loc 12, false)), []⟩, ⟨.load none (.loc 16), .loc, (some (.loc 12, false)), []⟩, ⟨.len false (.loc 17), .loc, (some (.loc 12, false)), []⟩, ⟨.bin .neq .num (.loc 15) (.loc 18), .loc, (some (.loc 12, false)), []⟩, ⟨.pick (.loc 12) (.cst (.one (.bool true))) (.loc 19), (.var 10), none, []⟩])
 (.cond (.var 10) (.seq (.region [⟨.mov (.cst (.one (.bool false))), (.var 6), none, []⟩])
 (.ret))
 (.skip)))
 (.seq (.seq (.region [⟨.fieldAddr 0 (.var 4), .loc, none, []⟩, ⟨.load none (.loc 0), .loc, none, []⟩, ⟨.bin .eql .num (.loc 1) (.cst (.one (.int .i64 2))), (.var 11), none, []⟩])
 (.cond (.var 11) (.seq (.region [⟨.mov (.var 2), .loc, none, []⟩, ⟨.fieldAddr 2 (.var 4), .loc, none, [0]⟩, ⟨.load none (.loc 1), .loc, none, [0]⟩, ⟨.call 131 [.loc 0, .loc 2] false, .loc, none, []⟩, ⟨.mov (.var 3), .loc, none, [0, 1, 2, 3]⟩, ⟨.fieldAddr 2 (.var 5), .loc, none, [0, 1, 2, 3, 4]⟩, ⟨.load none (.loc 5), .loc, none, [0, 1, 2, 3, 4]⟩, ⟨.call 131 [.loc 4, .loc 6] false, .loc, none, []⟩, ⟨.mov (.loc 3), (.var 7), none, []⟩, ⟨.mov (.loc 7), (.var 8), none, []⟩])
 (.seq (.region [⟨.mov (.var 7), .loc, none, []⟩, ⟨.mov (.var 8), .loc, none, []⟩, ⟨.bin .neq .num (.loc 0) (.loc 1), .loc, none, []⟩, ⟨.mov (.loc 2), .loc, none, []⟩, ⟨.mov (.var 7), .loc, (some (.loc 3, false)), []⟩, ⟨.bin .lss .num (.loc 4) (.cst (.one (.int .i64 0))), .loc, (some (.loc 3, false)), []⟩, ⟨.mov (.loc 5), .loc, (some (.loc 3, false)), []⟩, ⟨.fieldAddr 2 (.var 4), .loc, (some (.loc 6, true)), []⟩, ⟨.load none (.loc 7), .loc, (some (.loc 6, true)), []⟩, ⟨.fieldAddr 2 (.var 5), .loc, (some (.loc 6, true)), []⟩, ⟨.load none (.loc 9), .loc, (some (.loc 6, true)), []⟩, ⟨.bin .neq .num (.loc 8) (.loc 10), .loc, (some (.loc 6, true)), []⟩, ⟨.pick (.loc 6) (.loc 11) (.cst (.one (.bool false))), .loc, (some (.loc 3, false)), []⟩, ⟨.pick (.loc 3) (.cst (.one (.bool true))) (.loc 12), (.var 12), none, []⟩])
 (.cond (.var 12) (.seq (.region [⟨.mov (.cst (.one (.bool false))), (.var 6), none, []⟩])
 (.ret))
 (.skip))))
 (.skip)))
 (.seq (.seq (.region [⟨.fieldAddr 4 (.var 4), .loc, none, []⟩, ⟨.load none (.loc 0), .loc, none, []⟩, ⟨.len false (.loc 1), (.var 13), none, []⟩, ⟨.mov (.cst (.one (.int .i64 0))), (.var 14), none, []⟩])
 (.block 0 (.loop (.seq (.region [⟨.bin .lss .num (.var 14) (.var 13), (.var 15), none, []⟩])
 (.seq (.cond (.var 15) (.skip)
 (.exit 0))
 (.seq (.block 1 (.seq (.region [⟨.mov (.var 14), .loc, none, []⟩, ⟨.mov (.loc 0), (.var 9), none, []⟩])
 (.seq (.region [⟨.fieldAddr 4 (.var 4), .loc, none, []⟩, ⟨.load none (.loc 0), .loc, none, []⟩, ⟨.mov (.var 9), .loc, none, [0, 1]⟩, ⟨.indexAddr 5 (.loc 1) (.loc 2), .loc, none, []⟩, ⟨.load (some (5)) (.loc 3), .loc, none, []⟩, ⟨.fieldAddr 4 (.var 5), .loc, none, [0, 1, 2, 3, 4]⟩, ⟨.load none (.loc 5), .loc, none, [0, 1, 2, 3, 4]⟩, ⟨.mov (.var 9), .loc, none, [0, 1, 2, 3, 4, 5, 6]⟩, ⟨.indexAddr 5 (.loc 6) (.loc 7), .loc, none, [0, 1, 2, 3, 4]⟩, ⟨.load (some (5)) (.loc 8), .loc, none, [0, 1, 2, 3, 4]⟩, ⟨.mov (.var 2), .loc, none, [0, 1, 2, 3, 4, 5, 6, 7, 8, 9]⟩, ⟨.load (some (5)) (.var 4), .loc, none, [0, 1, 2, 3, 4, 5, 6, 7, 8, 9, 10]⟩, ⟨.mov (.var 9), .loc, none, [0, 1, 2, 3, 4, 5, 6, 7, 8, 9, 10, 11]⟩, ⟨.call 39 [.loc 11, .loc 12] false, .loc, none, [0, 1, 2, 3, 4, 5, 6, 7, 8, 9, 10]⟩, ⟨.lit 1 2 [.nils] [(0, .loc 10), (1, .loc 13)], .loc, none, [0, 1, 2, 3, 4, 5, 6, 7, 8, 9]⟩, ⟨.call 126 [.loc 14] false, .loc, none, [0, 1, 2, 3, 4, 5, 6, 7, 8, 9]⟩, ⟨.mov (.var 3), .loc, none, [0, 1, 2, 3, 4, 5, 6, 7, 8, 9, 10, 11, 12, 13, 14, 15]⟩, ⟨.load (some (5)) (.var 5), .loc, none, [0, 1, 2, 3, 4, 5, 6, 7, 8, 9, 10, 11, 12, 13, 14, 15, 16]⟩, ⟨.mov (.var 9), .loc, none, [0, 1, 2, 3, 4, 5, 6, 7, 8, 9, 10, 11, 12, 13, 14, 15, 16, 17]⟩, ⟨.call 39 [.loc 17, .loc 18] false, .loc, none, [0, 1, 2, 3, 4, 5, 6, 7, 8, 9, 16]⟩, ⟨.lit 1 2 [.nils] [(0, .loc 16), (1, .loc 19)], .loc, none, [0, 1, 2, 3, 4, 5, 6, 7, 8, 9]⟩, ⟨.call 126 [.loc 20] false, .loc, none, [0, 1, 2, 3, 4, 5, 6, 7, 8, 9]⟩, ⟨.call 99 [.loc 4, .loc 9, .loc 15, .loc 21] false, .loc, none, []⟩, ⟨.not (.loc 22), (.var 16), none, []⟩])
 (.cond (.var 16) (.seq (.region [⟨.mov (.cst (.one (.bool false))), (.var 6), none, []⟩])
 (.ret))
 (.skip)))))
 (.region [⟨.bin .add .num (.var 14) (.cst (.one (.int .i64 1))), .loc, none, []⟩, ⟨.mov (.loc 0), (.var 14), none, []⟩])))))))
 (.seq (.region [⟨.mov (.cst (.one (.bool true))), (.var 6), none, []⟩])
 (.ret))))), [(.var 6, none)]⟩
def c99 : Cfg := ⟨89, [0, 1, 2, 3, 4, 5, 8, 9, 10, 11, 32, 35, 57, 60, 61, 62, 87], [4, 5], [], [], fun g t => [].contains g && ![].contains t⟩
theorem h99 : Has Try.prog 99 f99 := ⟨by kernel_rfl, c99, Try.f99, by kernel_rfl, by kernel_rfl⟩

/-- loop.example/g00396/impl.placeIn -/
def f131 : AFun := ⟨[0, 1], 0,
 .seq (.region [⟨.mov (.cst (.one (.int .i64 0))), (.var 2), none, []⟩])
 (.seq (.seq (.region [⟨.mov (.var 0), .loc, none, []⟩, ⟨.len false (.loc 0), .loc, none, []⟩, ⟨.bin .sub .num (.loc 1) (.cst (.one (.int .i64 1))), .loc, none, []⟩, ⟨.mov (.loc 2), (.var 3), none, []⟩])
 (.block 0 (.loop (.seq (.seq (.region [⟨.mov (.var 3), .loc, none, []⟩, ⟨.bin .geq .num (.loc 0) (.cst (.one (.int .i64 0))), (.var 4), none, []⟩])
 (.cond (.var 4) (.skip)
 (.exit 0)))
 (.seq (.block 1 (.seq (.region [⟨.mov (.var 0), .loc, none, []⟩, ⟨.mov (.var 3), .loc, none, []⟩, ⟨.indexAddr 1 (.loc 0) (.loc 1), .loc, none, []⟩, ⟨.load none (.loc 2), .loc, none, []⟩, ⟨.mov (.var 1), .loc, none, []⟩, ⟨.bin .eql .num (.loc 3) (.loc 4), (.var 5), none, []⟩])
 (.cond (.var 5) (.seq (.region [⟨.mov (.var 3), .loc, none, []⟩, ⟨.mov (.loc 0), (.var 2), none, []⟩])
 (.ret))
 (.skip))))
 (.region [⟨.mov (.var 3), .loc, none, []⟩, ⟨.bin .sub .num (.loc 0) (.cst (.one (.int .i64 1))), .loc, none, []⟩, ⟨.mov (.loc 1), (.var 3), none, []⟩]))))))
 (.seq (.region [⟨.mov (.cst (.one (.int .i64 (-1)))), (.var 2), none, []⟩])
 (.ret))), [(.var 2, none)]⟩
def c131 : Cfg := ⟨20, [0, 1, 4, 5, 10, 18], [], [], [], fun g t => [].contains g && ![].contains t⟩
theorem h131 : Has Try.prog 131 f131 := ⟨by kernel_rfl, c131, Try.f131, by kernel_rfl, by kernel_rfl⟩

/-- loop.example/g00396/impl.CoreSize -/
def f68 : AFun := ⟨[0], 0,
 .seq (.region [⟨.boxV 1 28 5 (.var 0), (.var 1), none, []⟩, ⟨.mov (.cst (.one (.int .i64 0))), (.var 2), none, []⟩])
 (.seq (.region [⟨.mov (.cst (.one (.int .i64 1))), (.var 3), none, []⟩])
 (.seq (.seq (.region [⟨.fieldAddr 4 (.var 1), .loc, none, []⟩, ⟨.load none (.loc 0), (.var 5), none, []⟩, ⟨.len false (.var 5), (.var 6), none, []⟩, ⟨.mov (.cst (.one (.int .i64 0))), (.var 7), none, []⟩])
 (.block 0 (.loop (.seq (.region [⟨.bin .lss .num (.var 7) (.var 6), (.var 8), none, []⟩])
 (.seq (.cond (.var 8) (.skip)
 (.exit 0))
 (.seq (.block 1 (.seq (.region [⟨.indexAddr 5 (.var 5) (.var 7), .loc, none, []⟩, ⟨.load (some (5)) (.loc 0), .loc, none, []⟩, ⟨.boxV 4 28 5 (.cst (.agg [.int .i64 0, .int .i64 0, .str [], .str [], .nils])), (.var 4), none, []⟩, ⟨.store 5 (.var 4) (.loc 1), .no, none, []⟩])
 (.region [⟨.mov (.var 3), .loc, none, []⟩, ⟨.load (some (5)) (.var 4), .loc, none, []⟩, ⟨.call 68 [.loc 1] false, .loc, none, []⟩, ⟨.bin .add .num (.loc 0) (.loc 2), .loc, none, []⟩, ⟨.mov (.loc 3), (.var 3), none, []⟩])))
 (.region [⟨.bin .add .num (.var 7) (.cst (.one (.int .i64 1))), .loc, none, []⟩, ⟨.mov (.loc 0), (.var 7), none, []⟩])))))))
 (.seq (.region [⟨.mov (.var 3), .loc, none, []⟩, ⟨.mov (.loc 0), (.var 2), none, []⟩])
 (.ret)))), [(.var 2, none)]⟩
def c68 : Cfg := ⟨19, [0, 1, 2, 3, 5, 7, 8, 9, 10], [1, 5], [], [], fun g t => [].contains g && ![].contains t⟩
theorem h68 : Has Try.prog 68 f68 := ⟨by kernel_rfl, c68, Try.f68, by kernel_rfl, by kernel_rfl⟩

/-- loop.example/g00396/laws.FnExactFoldable -/
def f7 : AFun := ⟨[0], 0,
 .seq (.region [⟨.boxV 1 24 5 (.var 0), (.var 1), none, []⟩, ⟨.mov (.cst (.one (.bool false))), (.var 2), none, []⟩])
 (.seq (.region [⟨.mov (.cst (.one (.int .i64 1048576))), (.var 3), none, []⟩])
 (.seq (.region [⟨.load (some (5)) (.var 1), .loc, none, []⟩, ⟨.mov (.var 3), .loc, none, []⟩, ⟨.call 9 [.loc 0, .loc 1] false, .loc, none, []⟩, ⟨.mov (.loc 2), (.var 3), none, []⟩])
 (.seq (.seq (.region [⟨.mov (.var 3), .loc, none, []⟩, ⟨.bin .lss .num (.loc 0) (.cst (.one (.int .i64 0))), (.var 7), none, []⟩])
 (.cond (.var 7) (.seq (.region [⟨.mov (.cst (.one (.bool true))), (.var 2), none, []⟩])
 (.ret))
 (.skip)))
 (.seq (.region [⟨.load (some (5)) (.var 1), .loc, none, []⟩, ⟨.call 11 [.loc 0] false, .loc, none, []⟩, ⟨.call 27 [.loc 1] false, .loc, none, []⟩, ⟨.mov (.loc 2), (.var 4), none, []⟩])
 (.seq (.region [⟨.load (some (5)) (.var 1), .loc, none, []⟩, ⟨.call 11 [.loc 0] false, .loc, none, []⟩, ⟨.boxV 5 28 5 (.cst (.agg [.int .i64 0, .int .i64 0, .str [], .str [], .nils])), (.var 5), none, []⟩, ⟨.store 5 (.var 5) (.loc 1), .no, none, []⟩])
 (.seq (.region [⟨.load (some (5)) (.var 5), .loc, none, []⟩, ⟨.call 28 [.loc 0] false, .loc, none, []⟩, ⟨.mov (.loc 1), (.var 6), none, []⟩])
 (.seq (.seq (.region [⟨.mov (.var 6), .loc, none, []⟩, ⟨.mov (.var 4), .loc, none, []⟩, ⟨.bin .neq .bool (.loc 0) (.loc 1), (.var 8), none, []⟩])
 (.cond (.var 8) (.seq (.region [⟨.mov (.cst (.one (.bool false))), (.var 2), none, []⟩])
 (.ret))
 (.skip)))
 (.seq (.seq (.region [⟨.load (some (5)) (.var 5), .loc, none, []⟩, ⟨.load (some (5)) (.var 1), .loc, none, [0]⟩, ⟨.call 11 [.loc 1] false, .loc, none, [0]⟩, ⟨.call 13 [.loc 0, .loc 2] false, .loc, none, []⟩, ⟨.not (.loc 3), (.var 9), none, []⟩])
 (.cond (.var 9) (.seq (.region [⟨.mov (.cst (.one (.bool false))), (.var 2), none, []⟩])
 (.ret))
 (.skip)))
 (.seq (.region [⟨.mov (.cst (.one (.bool true))), (.var 2), none, []⟩])
 (.ret)))))))))), [(.var 2, none)]⟩
def c7 : Cfg := ⟨27, [0, 1, 2, 3, 4, 5, 6, 11, 21, 26], [1, 5], [], [], fun g t => [].contains g && ![].contains t⟩
theorem h7 : Has Try.prog 7 f7 := ⟨by kernel_rfl, c7, Try.f7, by kernel_rfl, by kernel_rfl⟩
end Go.Proofs.Ytnnejoalamkkpaa

namespace Go.Proofs.Ytnnejoalamkkpaa
open Go Go.AI Go.Proofs
set_option linter.unusedSimpArgs false

/-- how many kids an op has -/
def kidsN (op : Int) : Int := if op = 1 ∨ op = 2 ∨ op = 13 then 0 else if op = 3 ∨ op = 15 ∨ op = 16 ∨ op = 17 ∨ op = 18 then 1 else
  if op = 4 ∨ op = 5 ∨ op = 6 ∨ op = 8 ∨ op = 9 ∨ op = 10 ∨ op = 11 ∨ op = 12 ∨ op = 14 then 2 else if op = 7 then 3 else -1
def NoOp (op : Int) : Prop := op ≠ 1 ∧ op ≠ 2 ∧ op ≠ 3 ∧ op ≠ 4 ∧ op ≠ 5 ∧ op ≠ 6 ∧ op ≠ 7 ∧ op ≠ 8 ∧ op ≠ 9 ∧ op ≠ 10 ∧ op ≠ 11 ∧ op ≠ 12 ∧ op ≠ 13 ∧ op ≠ 14 ∧ op ≠ 15 ∧ op ≠ 16 ∧ op ≠ 17 ∧ op ≠ 18
theorem op_cases (op : Int) : op = 1 ∨ op = 2 ∨ op = 3 ∨ op = 4 ∨ op = 5 ∨ op = 6 ∨ op = 7 ∨ op = 8 ∨ op = 9 ∨ op = 10 ∨ op = 11 ∨ op = 12 ∨ op = 13 ∨ op = 14 ∨ op = 15 ∨ op = 16 ∨ op = 17 ∨ op = 18 ∨ NoOp op := by
  unfold NoOp; omega

set_option maxRecDepth 20000 in
theorem kids_pv (a : Int) : PV Try.prog 122 [.one (.int .i64 a)] (.one (.int .i64 (kidsN a))) := by
  refine h122.pvq ⟨rfl, rfl, ?_⟩
  rcases op_cases a with rfl | rfl | rfl | rfl | rfl | rfl | rfl | rfl | rfl | rfl | rfl | rfl | rfl | rfl | rfl | rfl | rfl | rfl | h
  all_goals first
    | (simp [f122, kidsN]; done)
    | (simp only [NoOp] at h; simp [f122, kidsN, h])

set_option maxRecDepth 20000 in
theorem arity_pv (a : Int) : PV Try.prog 125 [.one (.int .i64 a)] (.one (.int .i64 (kidsN a))) := by
  refine h125.pvq ⟨rfl, rfl, ?_⟩
  rcases op_cases a with rfl | rfl | rfl | rfl | rfl | rfl | rfl | rfl | rfl | rfl | rfl | rfl | rfl | rfl | rfl | rfl | rfl | rfl | h
  all_goals first
    | (simp [f125, kidsN]; done)
    | (simp only [NoOp] at h; simp [f125, kidsN, h])

def named (op : Int) : Bool := decide (op = 2 ∨ op = 3 ∨ op = 5 ∨ op = 6)
theorem named_pv (a : Int) : PV Try.prog 123 [.one (.int .i64 a)] (.one (.bool (named a))) := by
  refine h123.pvq ⟨rfl, rfl, ?_⟩
  by_cases h1 : a = 2
  · simp [f123, named, h1]
  by_cases h2 : a = 3
  · simp [f123, named, h2]
  by_cases h3 : a = 5
  · simp [f123, named, h3]
  · simp [f123, named, h1, h2, h3]

theorem in3_pv (a l u : Int) : PV Try.prog 81 [.one (.int .i64 a), .one (.int .i64 l), .one (.int .i64 u)] (.one (.bool (decide (l ≤ a ∧ a ≤ u)))) := by
  refine h81.pvq ⟨rfl, rfl, ?_⟩
  by_cases h1 : l ≤ a
  · simp [f81, h1]
  · simp [f81, h1]
theorem within_pv (a l u : Int) : PV Try.prog 84 [.one (.int .i64 a), .one (.int .i64 l), .one (.int .i64 u)] (.one (.bool (decide (l ≤ a ∧ a ≤ u)))) := by
  refine h84.pvq ⟨rfl, rfl, ?_⟩
  by_cases h1 : l ≤ a
  · simp [f84, h1]
  · simp [f84, h1]
def wordM (a : Int) : Bool := decide (-1073741824 ≤ a ∧ a ≤ 1073741823)
theorem wordS_pv (a : Int) : PV Try.prog 114 [.one (.int .i64 a)] (.one (.bool (wordM a))) := by
  generalize hr : wordM a = r
  refine h114.pvq ⟨rfl, rfl, ?_⟩
  simp [f114]
  refine callP_of (in3_pv a _ _) ?_
  simp [← hr, wordM]
theorem word_pv (a : Int) : PV Try.prog 118 [.one (.int .i64 a)] (.one (.bool (wordM a))) := by
  generalize hr : wordM a = r
  refine h118.pvq ⟨rfl, rfl, ?_⟩
  simp [f118]
  refine callP_of (within_pv a _ _) ?_
  simp [← hr, wordM]
theorem max_pv (a b : Int) : PV Try.prog 121 [.one (.int .i64 a), .one (.int .i64 b)] (.one (.int .i64 (max a b))) := by
  refine h121.pvq ⟨rfl, rfl, ?_⟩
  by_cases h1 : b < a
  · simp [f121, h1]; omega
  · simp [f121, h1]; omega

theorem sizeS_pv : ∀ x : Cr, x.wt < 1000000000000000 → PV Try.prog 66 [.agg x.enc] (.one (.int .i64 ((x.cnt + 1 : Nat) : Int)))
  | .mk a b s t k, hw => by
    rw [wt_mk] at hw
    have ih := fun x (hx : x ∈ k) => sizeS_pv x (by have := wtL_mem hx; omega)
    have hl := wtL_len k
    have hc := cntL_le_wtL k
    rw [cnt_mk]
    generalize hQ : pvQ (.one (.int .i64 ((cntL k + 1 : Nat) : Int))) = Q
    refine h66.pvq ⟨rfl, rfl, ?_⟩
    rw [hQ]
    simp [f66, enc_mk, encL]
    refine w_for (fun n st => ∃ vars, st = ⟨vars, Heap.empty, 0⟩ ∧ ∃ (i : Nat), i ≤ k.length ∧ n = k.length - i ∧ vars.get 1 = some (.box 0 [.int .i64 a, .int .i64 b, .str s, .str t, .dv (k.map Cr.enc)]) ∧
      vars.get 3 = some (.one (.int .i64 ((cntL (k.take i) + 1 : Nat) : Int))) ∧ vars.get 4 = some (.one (.int .i64 i)) ∧ NB vars [2, 5]) k.length ?_ ?_
    · exact ⟨_, rfl, 0, by simp, by simp, by simp, by simp [cntL_nil], by simp, by simp⟩
    · rintro J hJ n _ ⟨vars, rfl, i, hi, rfl, v1, v3, v4, nb⟩
      simp only [NB_cons, NB_nil] at nb
      by_cases hlt : i < k.length
      · have hw' : IntKind.i64.wrap ((i : Int) + 1) = ((i + 1 : Nat) : Int) := by rw [wrapI ⟨by omega, by omega⟩]; simp
        have hx : k[i]? = some k[i] := by simp [hlt]
        have hct := cntL_take hx
        have hcl := cntL_take_le k (i + 1)
        have hw2 : IntKind.i64.wrap (((cntL (k.take i) + 1 : Nat) : Int) + ((k[i].cnt + 1 : Nat) : Int)) = ((cntL (k.take (i + 1)) + 1 : Nat) : Int) := by rw [wrapI ⟨by omega, by omega⟩]; omega
        generalize hA : ((cntL (k.take i) + 1 : Nat) : Int) = A at *
        generalize hB : ((cntL (k.take (i + 1)) + 1 : Nat) : Int) = B at *
        have hih := ih _ (List.getElem_mem hlt)
        generalize hC : ((k[i].cnt + 1 : Nat) : Int) = C' at *
        simp [v1, v3, v4, nb, hlt]
        refine callP_of hih ?_
        simp [v1, v3, v4, nb, hw', hw2]
        subst hJ
        exact ⟨k.length - (i + 1), by omega, _, rfl, i + 1, by omega, rfl, by simp [v1], by simp [hB], by simp, by simp [nb]⟩
      · have hei : i = k.length := by omega
        subst hei
        rw [List.take_length] at v3
        simp [v1, v3, v4, nb, ← hQ]

theorem deep_pv : ∀ x : Cr, x.wt < 1000000000000000 → PV Try.prog 91 [.agg x.enc] (.one (.int .i64 ((x.kd + 1 : Nat) : Int)))
  | .mk a b s t k, hw => by
    rw [wt_mk] at hw
    have ih := fun x (hx : x ∈ k) => deep_pv x (by have := wtL_mem hx; omega)
    have hl := wtL_len k
    have hc := kdL_le_wtL k
    rw [kd_mk]
    generalize hQ : pvQ (.one (.int .i64 ((kdL k + 1 : Nat) : Int))) = Q
    refine h91.pvq ⟨rfl, rfl, ?_⟩
    rw [hQ]
    simp [f91, enc_mk, encL]
    refine w_for (fun n st => ∃ vars, st = ⟨vars, Heap.empty, 0⟩ ∧ ∃ (i : Nat), i ≤ k.length ∧ n = k.length - i ∧ vars.get 1 = some (.box 0 [.int .i64 a, .int .i64 b, .str s, .str t, .dv (k.map Cr.enc)]) ∧
      (∃ acc : Nat, vars.get 3 = some (.one (.int .i64 acc)) ∧ max acc (kdL (k.drop i)) = kdL k) ∧ vars.get 4 = some (.one (.int .i64 i)) ∧ NB vars [2, 5]) k.length ?_ ?_
    · exact ⟨_, rfl, 0, by simp, by simp, by simp, ⟨0, by simp, by simp⟩, by simp, by simp⟩
    · rintro J hJ n _ ⟨vars, rfl, i, hi, rfl, v1, ⟨acc, v3, hacc⟩, v4, nb⟩
      simp only [NB_cons, NB_nil] at nb
      by_cases hlt : i < k.length
      · have hw' : IntKind.i64.wrap ((i : Int) + 1) = ((i + 1 : Nat) : Int) := by rw [wrapI ⟨by omega, by omega⟩]; simp
        rw [List.drop_eq_getElem_cons hlt, kdL_cons] at hacc
        have hih := ih _ (List.getElem_mem hlt)
        have hmx := max_pv (acc : Int) ((k[i].kd + 1 : Nat) : Int)
        have hmm : max (acc : Int) ((k[i].kd + 1 : Nat) : Int) = ((max acc (k[i].kd + 1) : Nat) : Int) := by omega
        rw [hmm] at hmx
        generalize hC : ((k[i].kd + 1 : Nat) : Int) = C' at *
        simp [v1, v3, v4, nb, hlt]
        refine callP_of hih ?_
        simp [v1, v3, v4, nb]
        refine callP_of hmx ?_
        simp [v1, v3, v4, nb, hw']
        subst hJ
        exact ⟨k.length - (i + 1), by omega, _, rfl, i + 1, by omega, rfl, by simp [v1], ⟨max acc (k[i].kd + 1), by simp, by omega⟩, by simp, by simp [nb]⟩
      · have hei : i = k.length := by omega
        subst hei
        simp [kdL_nil] at hacc
        subst hacc
        have hw3 : IntKind.i64.wrap ((kdL k : Int) + 1) = (kdL k : Int) + 1 := wrapI ⟨by omega, by omega⟩
        simp [v1, v3, v4, nb, ← hQ, hw3]

end Go.Proofs.Ytnnejoalamkkpaa

namespace Go.Proofs.Ytnnejoalamkkpaa
open Go Go.AI Go.Proofs
set_option linter.unusedSimpArgs false

mutual
def rightM : Cr → List Txt → Bool
  | .mk a b s t k, env => decide (kidsN a = k.length) && (named a == !decide (s = [])) && (decide (a = 6) == !decide (t = [])) && (decide (a = 1) || decide (b = 0)) && wordM b && (!decide (a = 2) || decide (s ∈ env)) && rightL a s t 0 env k
def rightL : Int → Txt → Txt → Nat → List Txt → List Cr → Bool
  | _, _, _, _, _, [] => true
  | a, s, t, i, env, x :: r => rightM x (env ++ binds (.mk a 0 s t []) i) && rightL a s t (i + 1) env r
end

set_option maxHeartbeats 4000000 in
set_option maxRecDepth 20000 in
theorem right_pv : ∀ (x : Cr) (env : List Txt), x.wt < 1000000000 → env.length + 2 * x.wt < 100000000000 → PV Try.prog 92 [.agg x.enc, .one (encT env)] (.one (.bool (rightM x env)))
  | .mk a b s t k, env, hw, he => by
    rw [wt_mk] at hw he
    have ih := fun x (hx : x ∈ k) => right_pv x
    have hl := wtL_len k
    generalize hr : rightM (.mk a b s t k) env = r
    rw [rightM] at hr
    refine h92.pvq ⟨rfl, rfl, ?_⟩
    simp [f92, enc_mk, encL]
    refine callP_of (kids_pv a) ?_
    by_cases q1 : kidsN a = k.length
    case neg => simp [q1, ← hr]
    simp [q1]
    refine callP_of (named_pv a) ?_
    cases q2 : (named a == !decide (s = []))
    case false => simp [q2]; simp [q2] at hr; rw [← hr]
    simp [q2]
    cases q3 : (decide (a = 6) == !decide (t = []))
    case false => simp [q3]; simp [q3] at hr; rw [← hr]
    simp [q3]
    have w0 : wordM 0 = true := rfl
    have hr' : ∀ (c1 : a = 1 ∨ b = 0) (c2 : wordM b = true) (c3 : a = 2 → s ∈ env), rightL a s t 0 env k = r := by
      intro c1 c2 c3
      have d1 : decide (kidsN a = (k.length : Int)) = true := decide_eq_true q1
      have d4 : (decide (a = 1) || decide (b = 0)) = true := by rcases c1 with c | c <;> simp [c]
      have d6 : (!decide (a = 2) || decide (s ∈ env)) = true := by
        by_cases h8 : a = 2
        · simp [h8, c3 h8]
        · simp [h8]
      rw [← hr, d1, q2, q3, d4, c2, d6]; simp
    have hp : (a ≠ 1 ∧ b ≠ 0) ∨ a = 1 ∨ (a ≠ 1 ∧ b = 0 ∧ a ≠ 2) ∨ (a = 2 ∧ b = 0) := by omega
    rcases hp with ⟨h1, h2⟩ | h1 | ⟨h1, h2, h3⟩ | ⟨h1, h2⟩
    · simp [h1, h2]; simp [h1, h2] at hr; rw [← hr]
    all_goals first
      | (simp [h1, h2, h3]; refine callP_of (wordS_pv 0) ?_)
      | (simp [h1, h2]; refine callP_of (wordS_pv 0) ?_)
      | (simp [h1]; refine callP_of (wordS_pv b) ?_)
    all_goals first
      | (simp [w0, h1, h2, h3]; replace hr' := hr' (.inr h2) (h2 ▸ w0) (fun h => absurd h h3))
      | (simp [w0, h1, h2]
         refine callP_of (in_pv env (by omega) s) ?_
         by_cases q6 : s ∈ env
         case neg => simp [q6]; simp [q6, h1] at hr; rw [← hr]
         simp [q6]
         replace hr' := hr' (.inr h2) (h2 ▸ w0) (fun _ => q6))
      | (cases q5 : wordM b
         case false => simp [q5]; simp [q5] at hr; rw [← hr]
         simp [q5, h1]
         replace hr' := hr' (.inl h1) q5 (fun h => by omega))
    all_goals
      refine w_for (fun n st => ∃ vars, st = ⟨vars, Heap.empty, 0⟩ ∧ ∃ (i : Nat), i ≤ k.length ∧ n = k.length - i ∧ vars.get 1 = some (.one (encT env)) ∧ vars.get 2 = some (.box 0 [.int .i64 a, .int .i64 b, .str s, .str t, .dv (k.map Cr.enc)]) ∧
        vars.get 4 = some (.one (.int .i64 i)) ∧ rightL a s t i env (k.drop i) = r ∧ NB vars [3, 6, 7]) k.length ?_ ?_
      · exact ⟨_, rfl, 0, by simp, by simp, by simp, by simp [*], by simp, by simpa using hr', by simp⟩
      · rintro J hJ n _ ⟨vars, rfl, i, hi, rfl, v1, v2, v4, hx, nb⟩
        simp only [NB_cons, NB_nil] at nb
        by_cases hlt : i < k.length
        · have hw' : IntKind.i64.wrap ((i : Int) + 1) = ((i + 1 : Nat) : Int) := by rw [wrapI ⟨by omega, by omega⟩]; simp
          have hmem := List.getElem_mem hlt
          have hwx := wtL_mem hmem
          have hbl := binds_len (.mk a b s t k) i
          rw [List.drop_eq_getElem_cons hlt, rightL] at hx
          have henv := env_pv (.mk a b s t k) i env (by omega)
          rw [enc_mk, encL] at henv
          simp [v1, v2, v4, nb, hlt]
          refine callP_of henv ?_
          simp [v1, v2, v4, nb, hlt]
          refine callP_of (ih _ hmem (env ++ binds (.mk a b s t k) i) (by omega) (by simp only [List.length_append]; omega)) ?_
          have hb : binds (.mk a b s t k) i = binds (.mk a 0 s t []) i := rfl
          rw [hb]
          cases q7 : rightM k[i] (env ++ binds (.mk a 0 s t []) i)
          · rw [q7] at hx; simp at hx
            simp [v1, v2, v4, nb, hx]
          · rw [q7] at hx; simp only [Bool.true_and] at hx
            simp [v1, v2, v4, nb, hw']
            subst hJ
            exact ⟨k.length - (i + 1), by omega, _, rfl, i + 1, by omega, rfl, by simp [v1], by simp [v2], by simp, hx, by simp [nb]⟩
        · have hei : i = k.length := by omega
          subst hei
          simp [rightL] at hx
          simp [v1, v2, v4, nb, hx]

mutual
theorem rightL_true : ∀ (k : List Cr) (a : Int) (s t : Txt) (j : Nat) (env : List Txt), rightL a s t j env k = true ↔ ∀ (i : Nat) (x : Cr), k[i]? = some x → rightM x (env ++ binds (.mk a 0 s t []) ((j + i : Nat) : Int)) = true
  | [], a, s, t, j, env => by simp [rightL]
  | y :: r, a, s, t, j, env => by
    simp only [rightL, Bool.and_eq_true, rightL_true r a s t (j + 1) env]
    constructor
    · rintro ⟨h1, h2⟩ i x hx
      cases i with
      | zero => simp at hx; subst hx; exact h1
      | succ i => have := h2 i x (by simpa using hx); rw [show j + (i + 1) = j + 1 + i by omega]; exact this
    · intro h
      refine ⟨h 0 y rfl, fun i x hx => ?_⟩
      have := h (i + 1) x (by simpa using hx)
      rw [show j + 1 + i = j + (i + 1) by omega]; exact this
end

end Go.Proofs.Ytnnejoalamkkpaa

namespace Go.Proofs.Ytnnejoalamkkpaa
open Go Go.AI Go.Proofs
set_option linter.unusedSimpArgs false

def okM (x : Cr) : Bool := decide (x.cnt + 1 ≤ 3000) && decide (x.kd + 1 ≤ 150) && rightM x []
theorem okS_pv (x : Cr) (hw : x.wt < 1000000000) : PV Try.prog 60 [.agg x.enc] (.one (.bool (okM x))) := by
  generalize hr : okM x = r
  rw [okM] at hr
  refine h60.pvq ⟨rfl, rfl, ?_⟩
  simp [f60]
  refine callP_of (sizeS_pv x (by omega)) ?_
  by_cases q1 : x.cnt + 1 ≤ 3000
  case neg =>
    have q1' : ¬ (((x.cnt + 1 : Nat) : Int) ≤ 3000) := by omega
    generalize ((x.cnt + 1 : Nat) : Int) = A at *
    simp [q1']; simp [q1] at hr; rw [← hr]
  have q1' : ((x.cnt + 1 : Nat) : Int) ≤ 3000 := by omega
  generalize ((x.cnt + 1 : Nat) : Int) = A at *
  simp [q1']
  refine callP_of (deep_pv x (by omega)) ?_
  by_cases q2 : x.kd + 1 ≤ 150
  case neg =>
    have q2' : ¬ (((x.kd + 1 : Nat) : Int) ≤ 150) := by omega
    generalize ((x.kd + 1 : Nat) : Int) = B at *
    simp [q2']; simp [q2] at hr; rw [← hr]
  have q2' : ((x.kd + 1 : Nat) : Int) ≤ 150 := by omega
  generalize ((x.kd + 1 : Nat) : Int) = B at *
  simp [q2']
  refine callP_of (right_pv x [] hw (by simp; omega)) ?_
  simp [q1, q2] at hr
  simp [hr]

theorem size_pv : ∀ x : Cr, x.wt < 1000000000000000 → PV Try.prog 68 [.agg x.enc] (.one (.int .i64 ((x.cnt + 1 : Nat) : Int)))
  | .mk a b s t k, hw => by
    rw [wt_mk] at hw
    have ih := fun x (hx : x ∈ k) => size_pv x (by have := wtL_mem hx; omega)
    have hl := wtL_len k
    have hc := cntL_le_wtL k
    rw [cnt_mk]
    generalize hQ : pvQ (.one (.int .i64 ((cntL k + 1 : Nat) : Int))) = Q
    refine h68.pvq ⟨rfl, rfl, ?_⟩
    rw [hQ]
    simp [f68, enc_mk, encL]
    refine w_for (fun n st => ∃ vars, st = ⟨vars, Heap.empty, 0⟩ ∧ ∃ (i : Nat), i ≤ k.length ∧ n = k.length - i ∧ vars.get 5 = some (.one (.dv (k.map Cr.enc))) ∧ vars.get 6 = some (.one (.int .i64 k.length)) ∧
      vars.get 3 = some (.one (.int .i64 ((cntL (k.take i) + 1 : Nat) : Int))) ∧ vars.get 7 = some (.one (.int .i64 i)) ∧ NB vars [2, 8]) k.length ?_ ?_
    · exact ⟨_, rfl, 0, by simp, by simp, by simp, by simp, by simp [cntL_nil], by simp, by simp⟩
    · rintro J hJ n _ ⟨vars, rfl, i, hi, rfl, v5, v6, v3, v7, nb⟩
      simp only [NB_cons, NB_nil] at nb
      by_cases hlt : i < k.length
      · have hw' : IntKind.i64.wrap ((i : Int) + 1) = ((i + 1 : Nat) : Int) := by rw [wrapI ⟨by omega, by omega⟩]; simp
        have hx : k[i]? = some k[i] := by simp [hlt]
        have hct := cntL_take hx
        have hcl := cntL_take_le k (i + 1)
        have hw2 : IntKind.i64.wrap (((cntL (k.take i) + 1 : Nat) : Int) + ((k[i].cnt + 1 : Nat) : Int)) = ((cntL (k.take (i + 1)) + 1 : Nat) : Int) := by rw [wrapI ⟨by omega, by omega⟩]; omega
        generalize hA : ((cntL (k.take i) + 1 : Nat) : Int) = A at *
        generalize hB : ((cntL (k.take (i + 1)) + 1 : Nat) : Int) = B at *
        have hih := ih _ (List.getElem_mem hlt)
        generalize hC : ((k[i].cnt + 1 : Nat) : Int) = C' at *
        simp [v5, v6, v3, v7, nb, hlt]
        refine callP_of hih ?_
        simp [v5, v6, v3, v7, nb, hw', hw2]
        subst hJ
        exact ⟨k.length - (i + 1), by omega, _, rfl, i + 1, by omega, rfl, by simp [v5], by simp [v6], by simp [hB], by simp, by simp [nb]⟩
      · have hei : i = k.length := by omega
        subst hei
        rw [List.take_length] at v3
        simp [v5, v6, v3, v7, nb, ← hQ]

/-- a slice of names with room for N, of which some are laid -/
def Cap (h : Heap) (N : Nat) (acc : List Txt) (c : C) : Prop :=
  (N = 0 ∧ acc = [] ∧ c = .nils) ∨ ∃ id g os, c = .sl id g 0 acc.length ∧ h.mem.get id = some ⟨g, 9, 1, true, os⟩ ∧ os.length = N ∧ os.take acc.length = acc.map (fun s => [.str s]) ∧ id < h.next

theorem Cap.push {h : Heap} {N : Nat} {acc l : List Txt} {c : C} (a : Cap h N acc c) (hn : acc.length + l.length ≤ N) :
    ∃ c' h' fp, appendC h 9 1 16 (.one c) (l.map fun s => [.str s]) = some (.one c', h', fp) ∧ Cap h' N (acc ++ l) c' := by
  have hall : (l.map fun s => [C.str s]).all (fun el => decide (el.length = 1)) = true := by simp
  rcases a with ⟨rfl, rfl, rfl⟩ | ⟨id, g, os, rfl, hm, hl, ht, hid⟩
  · have : l = [] := by cases l; rfl; simp at hn
    subst this
    exact ⟨.nils, h, FP.no, by simp [appendC], .inl ⟨rfl, rfl, rfl⟩⟩
  · refine ⟨.sl id g 0 (acc.length + l.length), h.set id ⟨g, 9, 1, true, os.take acc.length ++ (l.map fun s => [.str s]) ++ os.drop (acc.length + l.length)⟩, FP.write [id], ?_, .inr ⟨id, g, os.take acc.length ++ (l.map fun s => [.str s]) ++ os.drop (acc.length + l.length), by simp, by simp [Heap.set], ?_, ?_, by simpa [Heap.set] using hid⟩⟩
    · simp only [appendC, hall, if_true, Heap.at_of hm]
      rw [if_pos (by simp; omega), if_pos (by simp; omega)]
      simp
    · simp; omega
    · rw [ht, List.take_append_of_le_length (by simp)]
      rw [List.take_of_length_le (by simp)]
      simp

theorem grow_hv (n : Nat) (hn : n < 1000000000000) (H : Heap) : HV Try.prog 137 [.one .nils, .one (.int .i64 n)] H (fun r H' => ∃ c, r = .one c ∧ Cap H' n [] c) := by
  generalize hQ : (fun (r : V) (H' : Heap) => ∃ c, r = .one c ∧ Cap H' n [] c) = Q
  refine h137.hv ⟨rfl, rfl, ?_⟩
  have w0 : IntKind.i64.wrap 0 = 0 := wrapI ⟨by omega, by omega⟩
  have w1 : IntKind.i64.wrap (n : Int) = n := wrapI ⟨by omega, by omega⟩
  have hng : ¬ ((n : Int) < 0) := by omega
  by_cases h0 : n = 0
  · subst h0
    simp [f137, w0, ← hQ, sliceC]
    exact .inl ⟨rfl, rfl, rfl⟩
  · have hp : 0 < n := by omega
    have hb : (n : Int) * 16 ≤ 140737488355328 := by omega
    have hb2 : (n : Int) ≤ 140737488355328 := by omega
    simp [f137, w0, w1, hng, hp, sliceC, hb, hb2, ← hQ]
    exact .inr ⟨H.next, _, List.replicate n [.str []], rfl, by simp [Heap.new], by simp, by simp, by simp [Heap.new]⟩

theorem concat_pv (ls : List (List Txt)) (hl : ls.length < 1000000000000) (hs : (ls.map List.length).sum < 1000000000000) : PV Try.prog 126 [.one (.dv (ls.map fun l => [encT l]))] (.one (encT ls.flatten)) := by
  generalize hQ : pvQ (.one (encT ls.flatten)) = Q
  refine h126.pvq ⟨rfl, rfl, ?_⟩
  rw [hQ]
  simp [f126]
  generalize hM : (ls.map fun l => [encT l]) = M
  have hml : M.length = ls.length := by rw [← hM]; simp
  have hsum : ∀ i, ((ls.take i).map List.length).sum ≤ (ls.map List.length).sum := by
    intro i
    have := congrArg (fun l => (l.map List.length).sum) (List.take_append_drop i ls)
    simp only [List.map_append, List.sum_append] at this
    omega
  have hsum1 : ∀ i (h : i < ls.length), ((ls.take (i + 1)).map List.length).sum = ((ls.take i).map List.length).sum + ls[i].length := by
    intro i h
    rw [List.take_succ_eq_append_getElem h, List.map_append, List.sum_append]; simp
  refine w_for (fun n st => ∃ vars, st = ⟨vars, Heap.empty, 0⟩ ∧ ∃ (i : Nat), i ≤ ls.length ∧ n = ls.length - i ∧ vars.get 0 = some (.one (.dv M)) ∧ vars.get 2 = some (.one (.int .i64 (((ls.take i).map List.length).sum : Nat))) ∧
    vars.get 6 = some (.one (.dv M)) ∧ vars.get 7 = some (.one (.int .i64 ls.length)) ∧ vars.get 8 = some (.one (.int .i64 i)) ∧ NB vars [1, 3, 4, 5, 9, 10, 11, 12, 13, 14]) ls.length ?_ ?_
  · exact ⟨_, rfl, 0, by simp, by simp, by simp, by simp, by simp, by simp [hml], by simp, by simp⟩
  · rintro J hJ n _ ⟨vars, rfl, i, hi, rfl, v0, v2, v6, v7, v8, nb⟩
    simp only [NB_cons, NB_nil] at nb
    by_cases hlt : i < ls.length
    · have hw' : IntKind.i64.wrap ((i : Int) + 1) = ((i + 1 : Nat) : Int) := by rw [wrapI ⟨by omega, by omega⟩]; simp
      have hi2 : i < M.length := by omega
      have hgE : M[i] = [.dv (ls[i].map fun s => [.str s])] := by subst hM; simp [encT]
      have h1 := hsum1 i hlt
      have h2 := hsum (i + 1)
      have hw2 : IntKind.i64.wrap (((((ls.take i).map List.length).sum : Nat) : Int) + (ls[i].length : Int)) = ((((ls.take (i + 1)).map List.length).sum : Nat) : Int) := by rw [wrapI ⟨by omega, by omega⟩]; omega
      have hng : ¬ (((((ls.take (i + 1)).map List.length).sum : Nat) : Int) < 0) := by omega
      generalize hA : ((((ls.take i).map List.length).sum : Nat) : Int) = A at *
      generalize hB : ((((ls.take (i + 1)).map List.length).sum : Nat) : Int) = B at *
      simp [v0, v2, v6, v7, v8, nb, hlt, hgE, hml, hw2, hng, hw']
      subst hJ
      exact ⟨ls.length - (i + 1), by omega, _, rfl, i + 1, by omega, rfl, by simp [v0], by rw [hB]; simp, by simp [v6], by simp [v7], by simp, by simp [nb]⟩
    · have hei : i = ls.length := by omega
      subst hei
      rw [List.take_length] at v2
      simp [v0, v2, v6, v7, v8, nb]
      refine callH_of (grow_hv _ hs _) (by simp) (by simp) ?_
      rintro r h' ⟨c, rfl, hcap⟩
      simp [v0, v2, v6, v7, v8, nb]
      refine w_for (fun n st => ∃ vars h, st = ⟨vars, h, 0⟩ ∧ ∃ (i : Nat) (c : C), i ≤ ls.length ∧ n = ls.length - i ∧ vars.get 4 = some (.one c) ∧ Cap h (ls.map List.length).sum (ls.take i).flatten c ∧
        vars.get 11 = some (.one (.dv M)) ∧ vars.get 12 = some (.one (.int .i64 ls.length)) ∧ vars.get 13 = some (.one (.int .i64 i)) ∧ NB vars [1, 5, 14]) ls.length ?_ ?_
      · exact ⟨_, _, rfl, 0, c, by simp, by simp, by simp, by simpa using hcap, by simp, by simp [hml], by simp, by simp [nb]⟩
      · rintro J2 hJ2 n _ ⟨vars, h, rfl, i, c, hi, rfl, v4, hcap, v11, v12, v13, nb⟩
        simp only [NB_cons, NB_nil] at nb
        by_cases hlt : i < ls.length
        · have hw' : IntKind.i64.wrap ((i : Int) + 1) = ((i + 1 : Nat) : Int) := by rw [wrapI ⟨by omega, by omega⟩]; simp
          have hi2 : i < M.length := by omega
          have hgE : M[i] = [.dv (ls[i].map fun s => [.str s])] := by subst hM; simp [encT]
          have h1 := hsum1 i hlt
          have h2 := hsum (i + 1)
          obtain ⟨c', h', fp, a1, a2⟩ := hcap.push (l := ls[i]) (by rw [List.length_flatten]; omega)
          simp [v4, v11, v12, v13, nb, hlt, hgE, hml, a1, hw']
          subst hJ2
          refine ⟨ls.length - (i + 1), by omega, _, _, rfl, i + 1, c', by omega, rfl, by simp, ?_, by simp [v11], by simp [v12], by simp, by simp [nb]⟩
          rw [List.take_succ_eq_append_getElem hlt, List.flatten_append]
          simpa using a2
        · have hei : i = ls.length := by omega
          subst hei
          rw [List.take_length] at hcap
          simp [v4, v11, v12, v13, nb]
          rw [← hQ]
          rcases hcap with ⟨q1, q2, rfl⟩ | ⟨id, g, os, rfl, hm, hl', ht, hid⟩
          · rw [q2]; simp [encT]
          · have hos : os = ls.flatten.map fun s => [.str s] := by rw [← ht, List.take_of_length_le (by rw [List.length_flatten]; omega)]
            subst hos
            exact pvQ_names (ty := 9) (.inr ⟨id, g, by rw [List.length_map], hm, hid⟩)

end Go.Proofs.Ytnnejoalamkkpaa

namespace Go.Proofs.Ytnnejoalamkkpaa
open Go Go.AI Go.Proofs
set_option linter.unusedSimpArgs false

theorem binds_pv (x : Cr) (i : Int) : PV Try.prog 39 [.agg x.enc, .one (.int .i64 i)] (.one (encT (binds x i))) := by
  obtain ⟨a, b, s, t, k⟩ := x
  have h := bindsIn_hv a b s t (encL k) i Heap.empty
  rw [← enc_mk] at h
  refine PV_of_HV h ?_
  rintro r h' ⟨c', rfl, had, _⟩
  have := pvQ_names had
  exact this

def partsR (x : Cr) (names : List Txt) (deep : Nat) : Int := if deep + x.kd ≤ 150 ∧ rightM x names = true ∧ x.cnt + 1 ≤ 3000 then ((x.cnt + 1 : Nat) : Int) else 3001

theorem parts_loop (a b : Int) (s t : Txt) (k : List Cr) (names : List Txt) (deep : Nat) (hd : deep ≤ 150) (hl : k.length < 1000000000) (hnl : names.length + 2 * (1 + wtL k) < 100000000000)
    (ih : ∀ x ∈ k, ∀ names : List Txt, names.length + 2 * x.wt < 100000000000 → PV Try.prog 95 [.agg x.enc, .one (encT names), .one (.int .i64 ((deep + 1 : Nat) : Int))] (.one (.int .i64 (partsR x names (deep + 1))))) (r : Int)
    (hr : r = if deep + kdL k ≤ 150 ∧ rightL a s t 0 names k = true ∧ cntL k + 1 ≤ 3000 then ((cntL k + 1 : Nat) : Int) else 3001)
    (vars : Tr V) (u1 : vars.get 1 = some (.one (encT names))) (u2 : vars.get 2 = some (.one (.int .i64 deep))) (u3 : vars.get 3 = some (.box 0 [.int .i64 a, .int .i64 b, .str s, .str t, .dv (k.map Cr.enc)]))
    (u6 : vars.get 6 = some (.one (.int .i64 1))) (u11 : vars.get 11 = some (.one (.dv (k.map Cr.enc)))) (u12 : vars.get 12 = some (.one (.int .i64 k.length))) (u13 : vars.get 13 = some (.one (.int .i64 (0 : Nat)))) (u : NB vars [4, 7, 14, 15]) :
    arun Try.prog (match f95.body with | .seq _ (.seq _ (.seq _ (.seq _ (.seq _ (.seq (.seq _ (.block _ l)) _))))) => l | c => c) ⟨vars, Heap.empty, 0⟩
      (blockK 0 (seqK Try.prog (match f95.body with | .seq _ (.seq _ (.seq _ (.seq _ (.seq _ (.seq _ r))))) => r | c => c) (retK f95.results (pvQ (.one (.int .i64 r)))))) := by
  simp [f95]
  refine w_for (fun n st => ∃ vars, st = ⟨vars, Heap.empty, 0⟩ ∧ ∃ (i : Nat) (m : Nat), i ≤ k.length ∧ n = k.length - i ∧ vars.get 1 = some (.one (encT names)) ∧ vars.get 2 = some (.one (.int .i64 deep)) ∧ vars.get 3 = some (.box 0 [.int .i64 a, .int .i64 b, .str s, .str t, .dv (k.map Cr.enc)]) ∧
    vars.get 6 = some (.one (.int .i64 m)) ∧ vars.get 11 = some (.one (.dv (k.map Cr.enc))) ∧ vars.get 12 = some (.one (.int .i64 k.length)) ∧ vars.get 13 = some (.one (.int .i64 i)) ∧ NB vars [4, 7, 14, 15] ∧ m ≤ 3000 ∧
    r = if deep + kdL (k.drop i) ≤ 150 ∧ rightL a s t i names (k.drop i) = true ∧ m + cntL (k.drop i) ≤ 3000 then ((m + cntL (k.drop i) : Nat) : Int) else 3001) k.length ?_ ?_
  · refine ⟨_, rfl, 0, 1, by simp, by simp, u1, u2, u3, by simpa using u6, u11, u12, u13, u, by omega, ?_⟩
    rw [hr]; simp only [List.drop_zero, Nat.add_comm 1]
  · rintro J hJ n _ ⟨vars, rfl, i, m, hi, rfl, v1, v2, v3, v6, v11, v12, v13, nb, hm, hx⟩
    simp only [NB_cons, NB_nil] at nb
    by_cases hlt : i < k.length
    · have hw' : IntKind.i64.wrap ((i : Int) + 1) = ((i + 1 : Nat) : Int) := by rw [wrapI ⟨by omega, by omega⟩]; simp
      have hwd : IntKind.i64.wrap ((deep : Int) + 1) = ((deep + 1 : Nat) : Int) := by rw [wrapI ⟨by omega, by omega⟩]; simp
      have hmem := List.getElem_mem hlt
      have hwx := wtL_mem hmem
      have hbl := binds_len (.mk a b s t k) i
      have hb : binds (.mk a b s t k) i = binds (.mk a 0 s t []) i := rfl
      have hbn := binds_pv (.mk a b s t k) i
      rw [enc_mk, encL] at hbn
      have hcc := concat_pv [names, binds (.mk a b s t k) i] (by simp) (by simp; omega)
      simp only [List.map_cons, List.map_nil, List.flatten_cons, List.flatten_nil, List.append_nil] at hcc
      rw [List.drop_eq_getElem_cons hlt, rightL, kdL_cons, cntL_cons] at hx
      simp [v1, v2, v3, v6, v11, v12, v13, nb, hlt]
      refine callP_of hbn ?_
      simp [v1, v2, v3, v6, v11, v12, v13, nb, hlt]
      refine callP_of hcc ?_
      simp [v1, v2, v3, v6, v11, v12, v13, nb, hlt, hwd]
      refine callP_of (ih _ hmem (names ++ binds (.mk a b s t k) i) (by simp only [List.length_append]; omega)) ?_
      rw [hb]
      have hp : partsR k[i] (names ++ binds (.mk a 0 s t []) i) (deep + 1) = if deep + 1 + k[i].kd ≤ 150 ∧ rightM k[i] (names ++ binds (.mk a 0 s t []) i) = true ∧ k[i].cnt + 1 ≤ 3000 then ((k[i].cnt + 1 : Nat) : Int) else 3001 := rfl
      generalize partsR k[i] (names ++ binds (.mk a 0 s t []) i) (deep + 1) = p at *
      have hp0 : 0 ≤ p ∧ p ≤ 3001 := by rw [hp]; split <;> omega
      have hwp : IntKind.i64.wrap ((m : Int) + p) = (m : Int) + p := wrapI ⟨by omega, by omega⟩
      simp [v1, v2, v3, v6, v11, v12, v13, nb, hwp, hw']
      by_cases q : deep + 1 + k[i].kd ≤ 150 ∧ rightM k[i] (names ++ binds (.mk a 0 s t []) i) = true ∧ k[i].cnt + 1 ≤ 3000
      · rw [if_pos q] at hp
        obtain ⟨qa, qb, qc⟩ := q
        rw [qb, Bool.true_and] at hx
        split
        · rename_i hge
          rw [hx, if_neg]; omega
        · rename_i hge
          subst hJ
          refine ⟨k.length - (i + 1), by omega, _, rfl, i + 1, m + (k[i].cnt + 1), by omega, rfl, by simp [v1], by simp [v2], by simp [v3], ?_, by simp [v11], by simp [v12], by simp, by simp [nb], by omega, ?_⟩
          · simp [hp]
          · rw [hx]
            have e1 : (deep + max (k[i].kd + 1) (kdL (k.drop (i + 1))) ≤ 150 ∧ rightL a s t (i + 1) names (k.drop (i + 1)) = true ∧ m + (1 + k[i].cnt + cntL (k.drop (i + 1))) ≤ 3000) ↔ (deep + kdL (k.drop (i + 1)) ≤ 150 ∧ rightL a s t (i + 1) names (k.drop (i + 1)) = true ∧ m + (k[i].cnt + 1) + cntL (k.drop (i + 1)) ≤ 3000) := by
              constructor
              · rintro ⟨w1, w2, w3⟩; exact ⟨by omega, w2, by omega⟩
              · rintro ⟨w1, w2, w3⟩; exact ⟨by omega, w2, by omega⟩
            simp only [e1]
            split <;> omega
      · rw [if_neg q] at hp
        have hge : (3001 : Int) ≤ (m : Int) + p := by omega
        simp [hge]
        rw [hx, if_neg]
        rintro ⟨w1, w2, w3⟩
        simp only [Bool.and_eq_true] at w2
        exact q ⟨by omega, w2.1, by omega⟩
    · have hei : i = k.length := by omega
      subst hei
      simp [rightL, kdL_nil, cntL_nil] at hx
      rw [if_pos ⟨hd, hm⟩] at hx
      simp [v1, v2, v3, v6, v11, v12, v13, nb, hx]

set_option maxHeartbeats 4000000 in
set_option maxRecDepth 20000 in
theorem parts_pv : ∀ (x : Cr) (names : List Txt) (deep : Nat), x.wt < 1000000000 → names.length + 2 * x.wt < 100000000000 → deep ≤ 1000000 → PV Try.prog 95 [.agg x.enc, .one (encT names), .one (.int .i64 deep)] (.one (.int .i64 (partsR x names deep)))
  | .mk a b s t k, names, deep, hw, hn, hd => by
    rw [wt_mk] at hw hn
    have ih0 := fun x (hx : x ∈ k) (names : List Txt) => parts_pv x names (deep + 1) (by have := wtL_mem hx; omega)
    have hl := wtL_len k
    generalize hr : partsR (.mk a b s t k) names deep = r
    rw [partsR, kd_mk, cnt_mk, rightM] at hr
    refine h95.pvq ⟨rfl, rfl, ?_⟩
    by_cases d : 150 < deep
    · have d' : (150 : Int) < deep := by omega
      rw [if_neg (by omega)] at hr
      simp [f95, d', hr]
    have d' : ¬ ((150 : Int) < deep) := by omega
    have hloop := parts_loop a b s t k names deep (by omega) (by omega) (by omega) (fun x hx names hnn => ih0 x hx names hnn (by omega)) r
    have hcls : a = 1 ∨ a = 2 ∨ a = 3 ∨ a = 5 ∨ a = 6 ∨ (a ≠ 1 ∧ a ≠ 2 ∧ a ≠ 3 ∧ a ≠ 5 ∧ a ≠ 6) := by omega
    simp [f95, enc_mk, encL, d']
    refine callP_of (arity_pv a) ?_
    by_cases q1 : kidsN a = k.length
    case neg =>
      have q1' : ¬ ((k.length : Int) = kidsN a) := fun h => q1 h.symm
      simp [q1] at hr
      simp [q1', hr]
    have q1' : (k.length : Int) = kidsN a := q1.symm
    simp [q1']
    refine callP_of (word_pv b) ?_
    cases q5 : wordM b
    case false => simp [q5] at hr; simp [hr]
    simp
    have w0 : wordM 0 = true := rfl
    rcases hcls with h1 | h1 | h1 | h1 | h1 | ⟨n1, n2, n3, n5, n6⟩
    · have a1 : kidsN 1 = (k.length : Int) := by rw [← h1]; exact q1
      simp [h1]
      by_cases hs : s = []
      case neg => (simp [q1, q5, named, hs, h1] at hr; simp [hs, hr, h1])
      simp [h1, hs]
      by_cases ht : t = []
      case neg => (simp [q1, q5, named, hs, ht, h1] at hr; simp [ht, hr, hs, h1])
      simp [h1, hs, ht]
      have hr' : r = if deep + kdL k ≤ 150 ∧ rightL a s t 0 names k = true ∧ cntL k + 1 ≤ 3000 then ((cntL k + 1 : Nat) : Int) else 3001 := by
        rw [← hr]; simp [a1, q1, q5, named, w0, h1, hs, ht]
      exact hloop hr' _ (by simp) (by simp) (by simp [h1, hs, ht]) (by simp) (by simp) (by simp [q1']) (by simp) (by simp)
    · have a1 : kidsN 2 = (k.length : Int) := by rw [← h1]; exact q1
      by_cases hb : b = 0
      case neg => simp [h1, hb]; simp [q1, q5, named, h1, hb] at hr; rw [← hr]
      simp [h1, hb]
      by_cases hs : s = []
      case pos => (simp [q1, q5, named, hs, h1, hb] at hr; simp [hs, hr, h1, hb])
      simp [h1, hb, hs]
      by_cases ht : t = []
      case neg => (simp [q1, q5, named, hs, ht, h1, hb] at hr; simp [ht, hr, hs, h1, hb])
      simp [h1, hb, hs, ht]
      refine callP_of (contains_pv names (by omega) s) ?_
      by_cases hm : s ∈ names
      case neg => (simp [hm]; simp [q1, q5, named, hs, ht, hm, h1, hb] at hr; rw [← hr])
      simp [hm]
      have hr' : r = if deep + kdL k ≤ 150 ∧ rightL a s t 0 names k = true ∧ cntL k + 1 ≤ 3000 then ((cntL k + 1 : Nat) : Int) else 3001 := by
        rw [← hr]; simp [a1, q1, q5, named, w0, h1, hb, hs, ht, hm]
      exact hloop hr' _ (by simp) (by simp) (by simp [h1, hb, hs, ht]) (by simp) (by simp) (by simp [q1']) (by simp) (by simp)
    · have a1 : kidsN 3 = (k.length : Int) := by rw [← h1]; exact q1
      by_cases hb : b = 0
      case neg => simp [h1, hb]; simp [q1, q5, named, h1, hb] at hr; rw [← hr]
      simp [h1, hb]
      by_cases hs : s = []
      case pos => (simp [q1, q5, named, hs, h1, hb] at hr; simp [hs, hr, h1, hb])
      simp [h1, hb, hs]
      by_cases ht : t = []
      case neg => (simp [q1, q5, named, hs, ht, h1, hb] at hr; simp [ht, hr, hs, h1, hb])
      simp [h1, hb, hs, ht]
      have hr' : r = if deep + kdL k ≤ 150 ∧ rightL a s t 0 names k = true ∧ cntL k + 1 ≤ 3000 then ((cntL k + 1 : Nat) : Int) else 3001 := by
        rw [← hr]; simp [a1, q1, q5, named, w0, h1, hb, hs, ht]
      exact hloop hr' _ (by simp) (by simp) (by simp [h1, hb, hs, ht]) (by simp) (by simp) (by simp [q1']) (by simp) (by simp)
    · have a1 : kidsN 5 = (k.length : Int) := by rw [← h1]; exact q1
      by_cases hb : b = 0
      case neg => simp [h1, hb]; simp [q1, q5, named, h1, hb] at hr; rw [← hr]
      simp [h1, hb]
      by_cases hs : s = []
      case pos => (simp [q1, q5, named, hs, h1, hb] at hr; simp [hs, hr, h1, hb])
      simp [h1, hb, hs]
      by_cases ht : t = []
      case neg => (simp [q1, q5, named, hs, ht, h1, hb] at hr; simp [ht, hr, hs, h1, hb])
      simp [h1, hb, hs, ht]
      have hr' : r = if deep + kdL k ≤ 150 ∧ rightL a s t 0 names k = true ∧ cntL k + 1 ≤ 3000 then ((cntL k + 1 : Nat) : Int) else 3001 := by
        rw [← hr]; simp [a1, q1, q5, named, w0, h1, hb, hs, ht]
      exact hloop hr' _ (by simp) (by simp) (by simp [h1, hb, hs, ht]) (by simp) (by simp) (by simp [q1']) (by simp) (by simp)
    · have a1 : kidsN 6 = (k.length : Int) := by rw [← h1]; exact q1
      by_cases hb : b = 0
      case neg => simp [h1, hb]; simp [q1, q5, named, h1, hb] at hr; rw [← hr]
      simp [h1, hb]
      by_cases hs : s = []
      case pos => (simp [q1, q5, named, hs, h1, hb] at hr; simp [hs, hr, h1, hb])
      simp [h1, hb, hs]
      by_cases ht : t = []
      case pos => (simp [q1, q5, named, hs, ht, h1, hb] at hr; simp [ht, hr, hs, h1, hb])
      simp [h1, hb, hs, ht]
      have hr' : r = if deep + kdL k ≤ 150 ∧ rightL a s t 0 names k = true ∧ cntL k + 1 ≤ 3000 then ((cntL k + 1 : Nat) : Int) else 3001 := by
        rw [← hr]; simp [a1, q1, q5, named, w0, h1, hb, hs, ht]
      exact hloop hr' _ (by simp) (by simp) (by simp [h1, hb, hs, ht]) (by simp) (by simp) (by simp [q1']) (by simp) (by simp)
    · have a1 : kidsN a = (k.length : Int) := q1
      by_cases hb : b = 0
      case neg => simp [n1, n2, n3, n5, n6, hb]; simp [q1, q5, named, n1, n2, n3, n5, n6, hb] at hr; rw [← hr]
      simp [n1, n2, n3, n5, n6, hb]
      by_cases hs : s = []
      case neg => (simp [q1, q5, named, hs, n1, n2, n3, n5, n6, hb] at hr; simp [hs, hr, n1, n2, n3, n5, n6, hb])
      simp [n1, n2, n3, n5, n6, hb, hs]
      by_cases ht : t = []
      case neg => (simp [q1, q5, named, hs, ht, n1, n2, n3, n5, n6, hb] at hr; simp [ht, hr, hs, n1, n2, n3, n5, n6, hb])
      simp [n1, n2, n3, n5, n6, hb, hs, ht]
      have hr' : r = if deep + kdL k ≤ 150 ∧ rightL a s t 0 names k = true ∧ cntL k + 1 ≤ 3000 then ((cntL k + 1 : Nat) : Int) else 3001 := by
        rw [← hr]; simp [a1, q1, q5, named, w0, n1, n2, n3, n5, n6, hb, hs, ht]
      exact hloop hr' _ (by simp) (by simp) (by simp [n1, n2, n3, n5, n6, hb, hs, ht]) (by simp) (by simp) (by simp [q1']) (by simp) (by simp)

end Go.Proofs.Ytnnejoalamkkpaa
