/- A part of a proof that a law of the given program holds for every input: no condition. -/
import Derived.Test.YtgmcijagaielaaaProg
import Derived.KernelRfl
import Derived.Deep.Slices
import Derived.OpenShut
import Derived.SizedLaws
import Derived.WideLaws
import Derived.Test.YtgmcijagaielaaaRows
import Derived.ProofKit
import Derived.ShutString
import Derived.ChangeOld
import Derived.Below
import Derived.Test.YtgmcijagaielaaaKFnExactConnect2

set_option linter.unusedSimpArgs false
set_option linter.unusedVariables false
/-! The code of a function, in the engine's words. -/
namespace Go.Proofs.YtgmcijagaielaaaE
open Go Go.RowKit
@[reducible] def ic23 : IC := (.seq (.ops [⟨some 3, .box (.tmp 0), none⟩, ⟨some 6, .new [(.int .i64 0), (.int .i64 0), (.int .i64 0), (.slice none 0 0)], none⟩, ⟨some 7, .mov (.const (.slice none 0 0)), none⟩, ⟨some 8, .mov (.const (.int .i64 0)), none⟩]) (.seq (.ops [⟨some 23, .load 4 true (.tmp 3), none⟩, ⟨some 24, .call 39 [(.tmp 23)], none⟩, ⟨none, .store 4 (.tmp 3) (.tmp 24), none⟩]) (.seq (.ops [⟨some 25, .blds .move 0 [], none⟩, ⟨some 9, .mov (.tmp 25), none⟩]) (.seq (.seq (.ops [⟨some 26, .load 4 true (.tmp 3), none⟩, ⟨some 27, .call 10 [(.tmp 26)], none⟩, ⟨some 28, .una .not (.tmp 27), none⟩, ⟨some 29, .mov (.tmp 28), none⟩, ⟨some 30, .load 4 true (.tmp 3), some (29, false)⟩, ⟨some 31, .mov (.tmp 1), some (29, false)⟩, ⟨some 32, .call 36 [(.tmp 30), (.tmp 31)], some (29, false)⟩, ⟨some 33, .una .not (.tmp 32), some (29, false)⟩, ⟨some 34, .pick (.tmp 29) (.const (.bool true)) (.tmp 33), none⟩, ⟨some 35, .mov (.tmp 34), none⟩, ⟨some 36, .load 4 true (.tmp 3), some (35, false)⟩, ⟨some 37, .mov (.tmp 2), some (35, false)⟩, ⟨some 38, .call 36 [(.tmp 36), (.tmp 37)], some (35, false)⟩, ⟨some 39, .una .not (.tmp 38), some (35, false)⟩, ⟨some 40, .pick (.tmp 35) (.const (.bool true)) (.tmp 39), none⟩]) (.cond (.tmp 40) (.seq (.ops [⟨some 41, .load 4 true (.tmp 3), none⟩, ⟨some 42, .mov (.tmp 9), none⟩, ⟨none, .store 4 (.tmp 6) (.tmp 41), none⟩, ⟨some 7, .mov (.tmp 42), none⟩, ⟨some 8, .mov (.const (.int .i64 1)), none⟩]) .ret) .skip)) (.seq (.seq (.ops [⟨some 10, .mov (.const (.int .i64 0)), none⟩]) (.block 0 (.loop (.seq (.seq (.ops [⟨some 43, .mov (.tmp 10), none⟩, ⟨some 44, .fadr 3 (.tmp 3), none⟩, ⟨some 45, .load 1 false (.tmp 44), none⟩, ⟨some 46, .len (.tmp 45), none⟩, ⟨some 47, .bin .lss (.tmp 43) (.tmp 46), none⟩]) (.cond (.tmp 47) .skip (.exit 0))) (.seq (.block 1 (.seq (.ops [⟨some 50, .fadr 3 (.tmp 3), none⟩, ⟨some 51, .load 1 false (.tmp 50), none⟩, ⟨some 52, .mov (.tmp 10), none⟩, ⟨some 53, .iadr 3 (.tmp 51) (.tmp 52), none⟩, ⟨some 54, .fadr 0 (.tmp 53), none⟩, ⟨some 55, .load 1 false (.tmp 54), none⟩, ⟨some 56, .mov (.tmp 1), none⟩, ⟨some 57, .bin .eql (.tmp 55) (.tmp 56), none⟩, ⟨some 58, .mov (.tmp 57), none⟩, ⟨some 59, .fadr 3 (.tmp 3), some (58, false)⟩, ⟨some 60, .load 1 false (.tmp 59), some (58, false)⟩, ⟨some 61, .mov (.tmp 10), some (58, false)⟩, ⟨some 62, .iadr 3 (.tmp 60) (.tmp 61), some (58, false)⟩, ⟨some 63, .fadr 1 (.tmp 62), some (58, false)⟩, ⟨some 64, .load 1 false (.tmp 63), some (58, false)⟩, ⟨some 65, .mov (.tmp 2), some (58, false)⟩, ⟨some 66, .bin .eql (.tmp 64) (.tmp 65), some (58, false)⟩, ⟨some 67, .pick (.tmp 58) (.const (.bool true)) (.tmp 66), none⟩]) (.cond (.tmp 67) (.seq (.ops [⟨some 68, .load 4 true (.tmp 3), none⟩, ⟨some 69, .mov (.tmp 9), none⟩, ⟨none, .store 4 (.tmp 6) (.tmp 68), none⟩, ⟨some 7, .mov (.tmp 69), none⟩, ⟨some 8, .mov (.const (.int .i64 2)), none⟩]) .ret) .skip))) (.ops [⟨some 48, .mov (.tmp 10), none⟩, ⟨some 49, .bin .add (.tmp 48) (.const (.int .i64 1)), none⟩, ⟨some 10, .mov (.tmp 49), none⟩])))))) (.seq (.draw [⟨some 70, .mov (.tmp 1), none⟩, ⟨some 71, .fadr 1 (.tmp 3), none⟩, ⟨some 72, .load 1 false (.tmp 71), none⟩, ⟨some 73, .bin .quo (.tmp 70) (.tmp 72), none⟩, ⟨some 74, .mov (.tmp 2), none⟩, ⟨some 75, .fadr 1 (.tmp 3), none⟩, ⟨some 76, .load 1 false (.tmp 75), none⟩, ⟨some 77, .bin .quo (.tmp 74) (.tmp 76), none⟩, ⟨some 11, .mov (.tmp 73), none⟩, ⟨some 12, .mov (.tmp 77), none⟩] (.held ⟨some 70, .mov (.tmp 1), none⟩ (.held ⟨some 71, .fadr 1 (.tmp 3), none⟩ (.held ⟨some 72, .load 1 false (.tmp 71), none⟩ (.held ⟨some 73, .bin .quo (.tmp 70) (.tmp 72), none⟩ (.held ⟨some 74, .mov (.tmp 2), none⟩ (.held ⟨some 75, .fadr 1 (.tmp 3), none⟩ (.held ⟨some 76, .load 1 false (.tmp 75), none⟩ (.held ⟨some 77, .bin .quo (.tmp 74) (.tmp 76), none⟩ (.held ⟨some 11, .mov (.tmp 73), none⟩ (.held ⟨some 12, .mov (.tmp 77), none⟩ .done))))))))))) (.seq (.ops [⟨some 13, .mov (.const (.int .i64 (-1))), none⟩, ⟨some 14, .mov (.const (.int .i64 (-1))), none⟩]) (.seq (.seq (.ops [⟨some 15, .mov (.const (.int .i64 0)), none⟩]) (.block 2 (.loop (.seq (.seq (.ops [⟨some 78, .mov (.tmp 15), none⟩, ⟨some 79, .fadr 2 (.tmp 3), none⟩, ⟨some 80, .load 1 false (.tmp 79), none⟩, ⟨some 81, .bin .lss (.tmp 78) (.tmp 80), none⟩]) (.cond (.tmp 81) .skip (.exit 2))) (.seq (.block 3 (.seq (.draw [⟨some 84, .load 4 true (.tmp 3), none⟩, ⟨some 85, .mov (.tmp 11), none⟩, ⟨some 86, .mov (.tmp 15), none⟩, ⟨some 87, .call 44 [(.tmp 84), (.tmp 85), (.tmp 86)], none⟩, ⟨some 88, .bin .lss (.tmp 87) (.const (.int .i64 0)), none⟩, ⟨some 89, .load 4 true (.tmp 3), none⟩, ⟨some 90, .mov (.tmp 12), none⟩, ⟨some 91, .mov (.tmp 15), none⟩, ⟨some 92, .call 45 [(.tmp 89), (.tmp 90), (.tmp 91)], none⟩, ⟨some 93, .bin .lss (.tmp 92) (.const (.int .i64 0)), none⟩, ⟨some 16, .mov (.tmp 88), none⟩, ⟨some 17, .mov (.tmp 93), none⟩] (.held ⟨some 84, .load 4 true (.tmp 3), none⟩ (.held ⟨some 85, .mov (.tmp 11), none⟩ (.held ⟨some 86, .mov (.tmp 15), none⟩ (.held ⟨some 89, .load 4 true (.tmp 3), none⟩ (.held ⟨some 90, .mov (.tmp 12), none⟩ (.held ⟨some 91, .mov (.tmp 15), none⟩ (.alt ⟨some 87, .call 44 [(.tmp 84), (.tmp 85), (.tmp 86)], none⟩ (.held ⟨some 88, .bin .lss (.tmp 87) (.const (.int .i64 0)), none⟩ (.alt ⟨some 92, .call 45 [(.tmp 89), (.tmp 90), (.tmp 91)], none⟩ (.held ⟨some 93, .bin .lss (.tmp 92) (.const (.int .i64 0)), none⟩ (.held ⟨some 16, .mov (.tmp 88), none⟩ (.held ⟨some 17, .mov (.tmp 93), none⟩ .done))) .stop)) .stop)))))))) (.seq (.seq (.ops [⟨some 94, .mov (.tmp 16), none⟩, ⟨some 95, .mov (.tmp 94), none⟩, ⟨some 96, .mov (.tmp 17), some (95, true)⟩, ⟨some 97, .pick (.tmp 95) (.tmp 96) (.const (.bool false)), none⟩]) (.cond (.tmp 97) (.seq (.ops [⟨some 98, .fadr 3 (.tmp 3), none⟩, ⟨some 99, .load 1 false (.tmp 98), none⟩, ⟨some 100, .mov (.tmp 1), none⟩, ⟨some 101, .mov (.tmp 2), none⟩, ⟨some 102, .mov (.tmp 15), none⟩, ⟨some 103, .bld [(.int .i64 0), (.int .i64 0), (.int .i64 0)] [(0, 1, (.tmp 100)), (1, 1, (.tmp 101)), (2, 1, (.tmp 102))], none⟩, ⟨some 104, .blds .path 1 [(0, 3, (.tmp 103))], none⟩, ⟨some 105, .app .path 24 (.tmp 99) (.tmp 104), none⟩, ⟨some 106, .fadr 3 (.tmp 3), none⟩, ⟨none, .store 1 (.tmp 106) (.tmp 105), none⟩]) (.seq (.ops [⟨some 107, .load 4 true (.tmp 3), none⟩, ⟨some 108, .mov (.tmp 9), none⟩, ⟨none, .store 4 (.tmp 6) (.tmp 107), none⟩, ⟨some 7, .mov (.tmp 108), none⟩, ⟨some 8, .mov (.const (.int .i64 0)), none⟩]) .ret)) .skip)) (.seq (.seq (.ops [⟨some 109, .mov (.tmp 16), none⟩, ⟨some 110, .mov (.tmp 109), none⟩, ⟨some 111, .mov (.tmp 13), some (110, true)⟩, ⟨some 112, .bin .lss (.tmp 111) (.const (.int .i64 0)), some (110, true)⟩, ⟨some 113, .pick (.tmp 110) (.tmp 112) (.const (.bool false)), none⟩]) (.cond (.tmp 113) (.ops [⟨some 114, .mov (.tmp 15), none⟩, ⟨some 13, .mov (.tmp 114), none⟩]) .skip)) (.seq (.ops [⟨some 115, .mov (.tmp 17), none⟩, ⟨some 116, .mov (.tmp 115), none⟩, ⟨some 117, .mov (.tmp 14), some (116, true)⟩, ⟨some 118, .bin .lss (.tmp 117) (.const (.int .i64 0)), some (116, true)⟩, ⟨some 119, .pick (.tmp 116) (.tmp 118) (.const (.bool false)), none⟩]) (.cond (.tmp 119) (.ops [⟨some 120, .mov (.tmp 15), none⟩, ⟨some 14, .mov (.tmp 120), none⟩]) .skip)))))) (.ops [⟨some 82, .mov (.tmp 15), none⟩, ⟨some 83, .bin .add (.tmp 82) (.const (.int .i64 1)), none⟩, ⟨some 15, .mov (.tmp 83), none⟩])))))) (.seq (.seq (.ops [⟨some 121, .mov (.tmp 13), none⟩, ⟨some 122, .bin .lss (.tmp 121) (.const (.int .i64 0)), none⟩, ⟨some 123, .mov (.tmp 122), none⟩, ⟨some 124, .mov (.tmp 14), some (123, false)⟩, ⟨some 125, .bin .lss (.tmp 124) (.const (.int .i64 0)), some (123, false)⟩, ⟨some 126, .pick (.tmp 123) (.const (.bool true)) (.tmp 125), none⟩]) (.cond (.tmp 126) (.seq (.ops [⟨some 127, .load 4 true (.tmp 3), none⟩, ⟨some 128, .mov (.tmp 9), none⟩, ⟨none, .store 4 (.tmp 6) (.tmp 127), none⟩, ⟨some 7, .mov (.tmp 128), none⟩, ⟨some 8, .mov (.const (.int .i64 3)), none⟩]) .ret) .skip)) (.seq (.draw [⟨some 129, .load 4 true (.tmp 3), none⟩, ⟨some 130, .load 4 true (.tmp 3), none⟩, ⟨some 131, .mov (.tmp 12), none⟩, ⟨some 132, .mov (.tmp 13), none⟩, ⟨some 133, .call 45 [(.tmp 130), (.tmp 131), (.tmp 132)], none⟩, ⟨some 134, .mov (.tmp 13), none⟩, ⟨some 135, .mov (.tmp 14), none⟩, ⟨some 136, .call 48 [(.tmp 129), (.tmp 133), (.tmp 134), (.tmp 135), (.const (.bool true))], none⟩, ⟨some 18, .mov (.tmp 136), none⟩] (.held ⟨some 129, .load 4 true (.tmp 3), none⟩ (.held ⟨some 130, .load 4 true (.tmp 3), none⟩ (.held ⟨some 131, .mov (.tmp 12), none⟩ (.held ⟨some 132, .mov (.tmp 13), none⟩ (.held ⟨some 134, .mov (.tmp 13), none⟩ (.held ⟨some 135, .mov (.tmp 14), none⟩ (.alt ⟨some 133, .call 45 [(.tmp 130), (.tmp 131), (.tmp 132)], none⟩ (.alt ⟨some 136, .call 48 [(.tmp 129), (.tmp 133), (.tmp 134), (.tmp 135), (.const (.bool true))], none⟩ (.held ⟨some 18, .mov (.tmp 136), none⟩ .done) .stop) .stop)))))))) (.seq (.ops [⟨some 137, .mov (.tmp 13), none⟩, ⟨some 19, .mov (.tmp 137), none⟩]) (.seq (.seq (.draw [⟨some 138, .load 4 true (.tmp 3), none⟩, ⟨some 139, .load 4 true (.tmp 3), none⟩, ⟨some 140, .mov (.tmp 11), none⟩, ⟨some 141, .mov (.tmp 14), none⟩, ⟨some 142, .call 44 [(.tmp 139), (.tmp 140), (.tmp 141)], none⟩, ⟨some 143, .mov (.tmp 14), none⟩, ⟨some 144, .mov (.tmp 13), none⟩, ⟨some 145, .call 48 [(.tmp 138), (.tmp 142), (.tmp 143), (.tmp 144), (.const (.bool false))], none⟩, ⟨some 20, .mov (.tmp 145), none⟩] (.held ⟨some 138, .load 4 true (.tmp 3), none⟩ (.held ⟨some 139, .load 4 true (.tmp 3), none⟩ (.held ⟨some 140, .mov (.tmp 11), none⟩ (.held ⟨some 141, .mov (.tmp 14), none⟩ (.held ⟨some 143, .mov (.tmp 14), none⟩ (.held ⟨some 144, .mov (.tmp 13), none⟩ (.alt ⟨some 142, .call 44 [(.tmp 139), (.tmp 140), (.tmp 141)], none⟩ (.alt ⟨some 145, .call 48 [(.tmp 138), (.tmp 142), (.tmp 143), (.tmp 144), (.const (.bool false))], none⟩ (.held ⟨some 20, .mov (.tmp 145), none⟩ .done) .stop) .stop)))))))) (.seq (.ops [⟨some 146, .mov (.tmp 20), none⟩, ⟨some 147, .len (.tmp 146), none⟩, ⟨some 148, .mov (.tmp 18), none⟩, ⟨some 149, .len (.tmp 148), none⟩, ⟨some 150, .bin .lss (.tmp 147) (.tmp 149), none⟩]) (.cond (.tmp 150) (.seq (.ops [⟨some 151, .mov (.tmp 20), none⟩, ⟨some 18, .mov (.tmp 151), none⟩]) (.ops [⟨some 152, .mov (.tmp 14), none⟩, ⟨some 19, .mov (.tmp 152), none⟩])) .skip))) (.seq (.seq (.ops [⟨some 21, .mov (.const (.int .i64 0)), none⟩]) (.block 4 (.loop (.seq (.seq (.ops [⟨some 153, .mov (.tmp 21), none⟩, ⟨some 154, .mov (.tmp 18), none⟩, ⟨some 155, .len (.tmp 154), none⟩, ⟨some 156, .bin .lss (.tmp 153) (.tmp 155), none⟩]) (.cond (.tmp 156) .skip (.exit 4))) (.seq (.block 5 (.seq (.ops [⟨some 22, .mov (.const (.int .i64 0)), none⟩]) (.block 6 (.loop (.seq (.seq (.ops [⟨some 159, .mov (.tmp 22), none⟩, ⟨some 160, .fadr 3 (.tmp 3), none⟩, ⟨some 161, .load 1 false (.tmp 160), none⟩, ⟨some 162, .len (.tmp 161), none⟩, ⟨some 163, .bin .lss (.tmp 159) (.tmp 162), none⟩]) (.cond (.tmp 163) .skip (.exit 6))) (.seq (.block 7 (.seq (.draw [⟨some 166, .fadr 3 (.tmp 3), none⟩, ⟨some 167, .load 1 false (.tmp 166), none⟩, ⟨some 168, .mov (.tmp 22), none⟩, ⟨some 169, .iadr 3 (.tmp 167) (.tmp 168), none⟩, ⟨some 170, .fadr 0 (.tmp 169), none⟩, ⟨some 171, .load 1 false (.tmp 170), none⟩, ⟨some 172, .mov (.tmp 18), none⟩, ⟨some 173, .mov (.tmp 21), none⟩, ⟨some 174, .iadr 2 (.tmp 172) (.tmp 173), none⟩, ⟨some 175, .fadr 0 (.tmp 174), none⟩, ⟨some 176, .load 1 false (.tmp 175), none⟩, ⟨some 177, .bin .eql (.tmp 171) (.tmp 176), none⟩] (.held ⟨some 166, .fadr 3 (.tmp 3), none⟩ (.held ⟨some 167, .load 1 false (.tmp 166), none⟩ (.held ⟨some 168, .mov (.tmp 22), none⟩ (.held ⟨some 169, .iadr 3 (.tmp 167) (.tmp 168), none⟩ (.held ⟨some 170, .fadr 0 (.tmp 169), none⟩ (.held ⟨some 171, .load 1 false (.tmp 170), none⟩ (.held ⟨some 172, .mov (.tmp 18), none⟩ (.held ⟨some 173, .mov (.tmp 21), none⟩ (.held ⟨some 174, .iadr 2 (.tmp 172) (.tmp 173), none⟩ (.held ⟨some 175, .fadr 0 (.tmp 174), none⟩ (.held ⟨some 176, .load 1 false (.tmp 175), none⟩ (.held ⟨some 177, .bin .eql (.tmp 171) (.tmp 176), none⟩ .done))))))))))))) (.cond (.tmp 177) (.draw [⟨some 178, .fadr 3 (.tmp 3), none⟩, ⟨some 179, .load 1 false (.tmp 178), none⟩, ⟨some 180, .mov (.tmp 22), none⟩, ⟨some 181, .mov (.tmp 18), none⟩, ⟨some 182, .mov (.tmp 21), none⟩, ⟨some 183, .iadr 2 (.tmp 181) (.tmp 182), none⟩, ⟨some 184, .fadr 1 (.tmp 183), none⟩, ⟨some 185, .load 1 false (.tmp 184), none⟩, ⟨some 186, .iadr 3 (.tmp 179) (.tmp 180), none⟩, ⟨some 187, .fadr 2 (.tmp 186), none⟩, ⟨none, .store 1 (.tmp 187) (.tmp 185), none⟩] (.held ⟨some 178, .fadr 3 (.tmp 3), none⟩ (.held ⟨some 179, .load 1 false (.tmp 178), none⟩ (.held ⟨some 180, .mov (.tmp 22), none⟩ (.held ⟨some 181, .mov (.tmp 18), none⟩ (.held ⟨some 182, .mov (.tmp 21), none⟩ (.held ⟨some 183, .iadr 2 (.tmp 181) (.tmp 182), none⟩ (.held ⟨some 184, .fadr 1 (.tmp 183), none⟩ (.held ⟨some 185, .load 1 false (.tmp 184), none⟩ (.held ⟨some 186, .iadr 3 (.tmp 179) (.tmp 180), none⟩ (.held ⟨some 187, .fadr 2 (.tmp 186), none⟩ (.alt ⟨none, .store 1 (.tmp 187) (.tmp 185), none⟩ .done .stop)))))))))))) .skip))) (.ops [⟨some 164, .mov (.tmp 22), none⟩, ⟨some 165, .bin .add (.tmp 164) (.const (.int .i64 1)), none⟩, ⟨some 22, .mov (.tmp 165), none⟩]))))))) (.ops [⟨some 157, .mov (.tmp 21), none⟩, ⟨some 158, .bin .add (.tmp 157) (.const (.int .i64 1)), none⟩, ⟨some 21, .mov (.tmp 158), none⟩])))))) (.seq (.ops [⟨some 188, .fadr 3 (.tmp 3), none⟩, ⟨some 189, .load 1 false (.tmp 188), none⟩, ⟨some 190, .mov (.tmp 1), none⟩, ⟨some 191, .mov (.tmp 2), none⟩, ⟨some 192, .mov (.tmp 19), none⟩, ⟨some 193, .bld [(.int .i64 0), (.int .i64 0), (.int .i64 0)] [(0, 1, (.tmp 190)), (1, 1, (.tmp 191)), (2, 1, (.tmp 192))], none⟩, ⟨some 194, .blds .path 1 [(0, 3, (.tmp 193))], none⟩, ⟨some 195, .app .path 24 (.tmp 189) (.tmp 194), none⟩, ⟨some 196, .fadr 3 (.tmp 3), none⟩, ⟨none, .store 1 (.tmp 196) (.tmp 195), none⟩]) (.seq (.ops [⟨some 197, .load 4 true (.tmp 3), none⟩, ⟨some 198, .mov (.tmp 18), none⟩, ⟨none, .store 4 (.tmp 6) (.tmp 197), none⟩, ⟨some 7, .mov (.tmp 198), none⟩, ⟨some 8, .mov (.const (.int .i64 0)), none⟩]) .ret)))))))))))))))
@[reducible] def rv23 : List RV := [.cell 6 4 true, .tmp 7, .tmp 8]
theorem low23 : lowC Try.prog tau Try.f23.ntmps (Try.f23.body.getD .skip) = some (erase ic23) := by kernel_rfl
theorem res23 : lowR Try.prog Try.f23.results.toList = some rv23 := by kernel_rfl
theorem bod23 : Try.f23.body = some (Try.f23.body.getD .skip) := by kernel_rfl
theorem cal23 : callable Try.prog 23 = true := by kernel_rfl

end Go.Proofs.YtgmcijagaielaaaE

/-! A path is put through, in the reference. -/
namespace Go.Proofs.YtgmcijagaielaaaE
open Go Go.RowKit
set_option linter.unusedSimpArgs false
set_option linter.unusedVariables false
set_option maxRecDepth 20000
set_option maxHeartbeats 8000000

theorem recol_src {q : List Pth} {c : Int} {l : List Nat} {k : Nat} (h : k < q.length) : ((recol q c l).getD k Pz).src = (q.getD k Pz).src := by
  rw [recol_get h]; split
  · rfl
  · rfl
theorem mvs_get {q : List Pth} {c : Int} {l : List Nat} {i : Nat} (h : i < l.length) : (mvs q c l).getD i ⟨0, 0⟩ = ⟨(q.getD (l.getD i 0) Pz).src, c - (q.getD (l.getD i 0) Pz).mid⟩ := by
  simp [mvs, List.getD, h]
theorem least_succ {P : Nat → Bool} {n : Nat} : leastI P (n + 1) = if 0 ≤ leastI P n then leastI P n else if P n = true then (n : Int) else -1 := rfl
/-- The chain's contract, with the two switches where it may begin. -/
def spCh (so si : Int) : Spec := ⟨fun _ _ => [], fun args objs K => match args, objs with
  | [.agg [.v (.int .i64 s), .v (.int .i64 p), .v (.int .i64 m), .rs .path q], .v (.int .i64 at_), .v (.int .i64 here), .v (.int .i64 there), .v (.bool out)], [] =>
      (q.length ≤ 1099511627776 ∧ at_ = fidx (atP p out (if out = true then so else si) here) q ∧ ChPre q p out (if out = true then so else si) here there) ∧
      K (.sub 0 2 0 (chain q p (q.length + 1) out (if out = true then so else si) here there).length) [(0, .row .move (mvs q (here + there) (chain q p (q.length + 1) out (if out = true then so else si) here there)))] 1
  | _, _ => False, false⟩
theorem ccS_t {so si : Int} {L : Hp} {a : List AVal} : Spec.take (spCh so si) L a = [] := id rfl
theorem ccS_k {so si : Int} : Spec.keep (spCh so si) = false := id rfl
theorem ccT_f {so si s p m at_ here there : Int} {q : List Pth} {K : AVal → Hp → Nat → Prop} : Spec.f (spCh so si) [.agg [.v (.int .i64 s), .v (.int .i64 p), .v (.int .i64 m), .rs .path q], .v (.int .i64 at_), .v (.int .i64 here), .v (.int .i64 there), .v (.bool true)] [] K =
    ((q.length ≤ 1099511627776 ∧ at_ = fidx (atP p true so here) q ∧ ChPre q p true so here there) ∧ K (.sub 0 2 0 (chain q p (q.length + 1) true so here there).length) [(0, .row .move (mvs q (here + there) (chain q p (q.length + 1) true so here there)))] 1) := id rfl
theorem ccF_f {so si s p m at_ here there : Int} {q : List Pth} {K : AVal → Hp → Nat → Prop} : Spec.f (spCh so si) [.agg [.v (.int .i64 s), .v (.int .i64 p), .v (.int .i64 m), .rs .path q], .v (.int .i64 at_), .v (.int .i64 here), .v (.int .i64 there), .v (.bool false)] [] K =
    ((q.length ≤ 1099511627776 ∧ at_ = fidx (atP p false si here) q ∧ ChPre q p false si here there) ∧ K (.sub 0 2 0 (chain q p (q.length + 1) false si here there).length) [(0, .row .move (mvs q (here + there) (chain q p (q.length + 1) false si here there)))] 1) := id rfl
theorem valid48b (so si : Int) : Valid Try.prog 48 (spCh so si) := fun W C ρ args vals objs K hd hp hf => by
  refine valid48 W C ρ args vals objs K hd hp ?_
  simp only [spCh] at hf
  split at hf
  · exact ⟨_, hf⟩
  · exact hf.elim
theorem valid23 : Valid Try.prog 23 spConn := by
  intro W C ρ args vals objs K hd hp hsf
  have hsf2 := hsf
  simp only [spConn] at hsf2
  split at hsf2
  · rename_i s p m q x y
    refine (show Valid Try.prog 23 ⟨fun _ _ => [], fun args objs K => args = [.agg [.v (.int .i64 s), .v (.int .i64 p), .v (.int .i64 m), .rs .path q], .v (.int .i64 x), .v (.int .i64 y)] ∧ objs = [] ∧ spConn.f args objs K, false⟩ from ?_) W C ρ _ vals _ K hd hp ⟨rfl, rfl, hsf⟩
    refine validI (Γ := lk [(39, spToFb), (10, spFbOk), (36, spEnd), (44, spAt false), (45, spAt true), (48, spCh (y.tdiv p) (x.tdiv p))]) Try.func23 bod23 low23 res23 (good_of ⟨⟨cal39, valid39⟩, ⟨cal10, valid10⟩, ⟨cal36, valid36⟩, ⟨cal44, valid44⟩, ⟨cal45, valid45⟩, ⟨cal48, valid48b _ _⟩, trivial⟩) ?_
    clear hd hp hsf hsf2 vals ρ C W K
    rintro E args objs K ⟨rfl, rfl, h⟩ hE hG hP
    simp only [spConn] at h
    refine ⟨by simp [Try.ntmps23], ?_⟩
    obtain ⟨b1, h⟩ := h
    rcases hok : fbOk ⟨s, p, m, q⟩ with _ | _
    · rw [conn_bad (by rw [hok]; simp)] at h
      simp (config := { maxSteps := 2000000 }) only [go_sem, hG, hP, Nat.reduceEqDiff, ↓reduceIte, reduceCtorEq, Nat.reduceAdd, Nat.reduceSub, Nat.reduceMul, Nat.reduceLT, Nat.reduceLeDiff, Int.reduceAdd, Int.reduceSub, Int.reduceMul, Int.reduceLT, Int.reduceLE, Int.reduceEq, Int.reduceNeg, Int.reduceNe, Int.reduceGE, Int.reduceGT, Nat.reduceBEq, Int.reduceToNat,  spToFb_f, spToFb_t, spToFb_k, spFbOk_f, spFbOk_t, spFbOk_k, spEnd_f, spEnd_t, spEnd_k, hok]
      repeat (refine And.intro (by first | omega | (simp; done) | (simp; omega) | (unfold appRoom; omega)) ?_)
      refine ⟨_, _, _, ?_, h⟩
      simp (config := { maxSteps := 2000000 }) only [go_sem, hG, hP, Nat.reduceEqDiff, ↓reduceIte, reduceCtorEq, Nat.reduceAdd, Nat.reduceSub, Nat.reduceMul, Nat.reduceLT, Nat.reduceLeDiff, Int.reduceAdd, Int.reduceSub, Int.reduceMul, Int.reduceLT, Int.reduceLE, Int.reduceEq, Int.reduceNeg, Int.reduceNe, Int.reduceGE, Int.reduceGT, Nat.reduceBEq, Int.reduceToNat]
      all_goals simp
    obtain ⟨⟨h1, h2, h3⟩, h4⟩ := fbOk_is hok
    have hsp := sp_bd ⟨h1, h2⟩
    have hsm := fbOk_small hok
    dsimp only at hsp h1 h2 h3 hsm
    have pz : (p = 0) = False := eq_false (by omega)
    by_cases hx : 0 ≤ x ∧ x ≤ s * p - 1
    rotate_left
    · have ex : (0 ≤ x ∧ x ≤ s * p - 1) = False := eq_false hx
      rw [@conn_bad ⟨s, p, m, q⟩ x y (fun e => hx e.2.1)] at h
      simp (config := { maxSteps := 2000000 }) only [go_sem, hG, hP, Nat.reduceEqDiff, ↓reduceIte, reduceCtorEq, Nat.reduceAdd, Nat.reduceSub, Nat.reduceMul, Nat.reduceLT, Nat.reduceLeDiff, Int.reduceAdd, Int.reduceSub, Int.reduceMul, Int.reduceLT, Int.reduceLE, Int.reduceEq, Int.reduceNeg, Int.reduceNe, Int.reduceGE, Int.reduceGT, Nat.reduceBEq, Int.reduceToNat,  spToFb_f, spToFb_t, spToFb_k, spFbOk_f, spFbOk_t, spFbOk_k, spEnd_f, spEnd_t, spEnd_k, hok, ex]
      repeat (refine And.intro (by first | omega | (simp; done) | (simp; omega) | (unfold appRoom; omega)) ?_)
      refine ⟨_, _, _, ?_, h⟩
      simp (config := { maxSteps := 2000000 }) only [go_sem, hG, hP, Nat.reduceEqDiff, ↓reduceIte, reduceCtorEq, Nat.reduceAdd, Nat.reduceSub, Nat.reduceMul, Nat.reduceLT, Nat.reduceLeDiff, Int.reduceAdd, Int.reduceSub, Int.reduceMul, Int.reduceLT, Int.reduceLE, Int.reduceEq, Int.reduceNeg, Int.reduceNe, Int.reduceGE, Int.reduceGT, Nat.reduceBEq, Int.reduceToNat]
      all_goals simp
    have ex : (0 ≤ x ∧ x ≤ s * p - 1) = True := eq_true hx
    by_cases hy : 0 ≤ y ∧ y ≤ s * p - 1
    rotate_left
    · have ey : (0 ≤ y ∧ y ≤ s * p - 1) = False := eq_false hy
      rw [@conn_bad ⟨s, p, m, q⟩ x y (fun e => hy e.2.2)] at h
      simp (config := { maxSteps := 2000000 }) only [go_sem, hG, hP, Nat.reduceEqDiff, ↓reduceIte, reduceCtorEq, Nat.reduceAdd, Nat.reduceSub, Nat.reduceMul, Nat.reduceLT, Nat.reduceLeDiff, Int.reduceAdd, Int.reduceSub, Int.reduceMul, Int.reduceLT, Int.reduceLE, Int.reduceEq, Int.reduceNeg, Int.reduceNe, Int.reduceGE, Int.reduceGT, Nat.reduceBEq, Int.reduceToNat,  spToFb_f, spToFb_t, spToFb_k, spFbOk_f, spFbOk_t, spFbOk_k, spEnd_f, spEnd_t, spEnd_k, hok, ex, ey]
      repeat (refine And.intro (by first | omega | (simp; done) | (simp; omega) | (unfold appRoom; omega)) ?_)
      refine ⟨_, _, _, ?_, h⟩
      simp (config := { maxSteps := 2000000 }) only [go_sem, hG, hP, Nat.reduceEqDiff, ↓reduceIte, reduceCtorEq, Nat.reduceAdd, Nat.reduceSub, Nat.reduceMul, Nat.reduceLT, Nat.reduceLeDiff, Int.reduceAdd, Int.reduceSub, Int.reduceMul, Int.reduceLT, Int.reduceLE, Int.reduceEq, Int.reduceNeg, Int.reduceNe, Int.reduceGE, Int.reduceGT, Nat.reduceBEq, Int.reduceToNat]
      all_goals simp
    have ey : (0 ≤ y ∧ y ≤ s * p - 1) = True := eq_true hy
    have hall : fbOk ⟨s, p, m, q⟩ = true ∧ okEnd ⟨s, p, m, q⟩ x ∧ okEnd ⟨s, p, m, q⟩ y := ⟨hok, hx, hy⟩
    have w1 := wq hx.1 (by omega) h2.1
    have w2 := wq hy.1 (by omega) h2.1
    have x0 := (okEnd_q hok hx).1
    have y0 := (okEnd_q hok hy).1
    dsimp only at x0 y0
    simp (config := { maxSteps := 2000000 }) only [go_sem, hG, hP, Nat.reduceEqDiff, ↓reduceIte, reduceCtorEq, Nat.reduceAdd, Nat.reduceSub, Nat.reduceMul, Nat.reduceLT, Nat.reduceLeDiff, Int.reduceAdd, Int.reduceSub, Int.reduceMul, Int.reduceLT, Int.reduceLE, Int.reduceEq, Int.reduceNeg, Int.reduceNe, Int.reduceGE, Int.reduceGT, Nat.reduceBEq, Int.reduceToNat,  spToFb_f, spToFb_t, spToFb_k, spFbOk_f, spFbOk_t, spFbOk_k, spEnd_f, spEnd_t, spEnd_k, hok, ex, ey]
    repeat (refine And.intro (by first | omega | (simp; done) | (simp; omega) | (unfold appRoom; omega)) ?_)
    refine loopI hE (fun i : Nat => ⟨[(1, .v (.int .i64 x)), (2, .v (.int .i64 y)), (3, .ptr 0 0), (6, .ptr 1 0), (9, .sub 3 2 0 0), (10, .v (.int .i64 i))], [(0, .box [.v (.int .i64 s), .v (.int .i64 p), .v (.int .i64 m), .sub 2 3 0 q.length]), (1, .box [.v (.int .i64 0), .v (.int .i64 0), .v (.int .i64 0), .v (.slice none 0 0)]), (2, .row .path q), (3, .row .move [])], 4, Try.f23.ntmps⟩) (fun i => i ≤ q.length ∧ ∀ j, j < i → endP x y (q.getD j Pz) = false) (fun i => q.length - i) ⟨0, ⟨Nat.zero_le _, fun i hi => absurd hi (Nat.not_lt_zero _)⟩, SubS.weak ?_⟩ ?_
    · simp (config := { maxSteps := 2000000 }) only [go_sem, hG, hP, Nat.reduceEqDiff, ↓reduceIte, reduceCtorEq, Nat.reduceAdd, Nat.reduceSub, Nat.reduceMul, Nat.reduceLT, Nat.reduceLeDiff, Int.reduceAdd, Int.reduceSub, Int.reduceMul, Int.reduceLT, Int.reduceLE, Int.reduceEq, Int.reduceNeg, Int.reduceNe, Int.reduceGE, Int.reduceGT, Nat.reduceBEq, Int.reduceToNat]
      repeat' (first | with_reducible rfl | (refine And.intro ?_ ?_) | (refine congrArg (Value.int _) ?_; omega) | omega)
    · intro i ⟨hi, hpre⟩
      by_cases hlt : i < q.length
      · have e0 : ((i : Int) < (q.length : Int)) = True := eq_true (by omega)
        have hit := @fidx_hit (endP x y) q i hlt hpre
        generalize hxx : q.getD i Pz = z at *
        have hbusy : endP x y z = true → 0 ≤ fidx (endP x y) q := fun e => by rw [hit e]; omega
        by_cases hz : endP x y z = true
        · rw [conn_busy hall (hbusy hz)] at h
          simp only [endP, decide_eq_true_eq] at hz
          simp (config := { maxSteps := 2000000 }) only [go_sem, hG, hP, Nat.reduceEqDiff, ↓reduceIte, reduceCtorEq, Nat.reduceAdd, Nat.reduceSub, Nat.reduceMul, Nat.reduceLT, Nat.reduceLeDiff, Int.reduceAdd, Int.reduceSub, Int.reduceMul, Int.reduceLT, Int.reduceLE, Int.reduceEq, Int.reduceNeg, Int.reduceNe, Int.reduceGE, Int.reduceGT, Nat.reduceBEq, Int.reduceToNat,  hxx, e0]
          repeat (refine And.intro (by first | omega | (simp; done) | (simp; omega) | (unfold appRoom; omega)) ?_)
          repeat' (first | (refine And.intro ?_ ?_) | (with_reducible intro _))
          all_goals first
            | omega
            | (refine ⟨_, _, _, ?_, h⟩; simp (config := { maxSteps := 2000000 }) only [go_sem, hG, hP, Nat.reduceEqDiff, ↓reduceIte, reduceCtorEq, Nat.reduceAdd, Nat.reduceSub, Nat.reduceMul, Nat.reduceLT, Nat.reduceLeDiff, Int.reduceAdd, Int.reduceSub, Int.reduceMul, Int.reduceLT, Int.reduceLE, Int.reduceEq, Int.reduceNeg, Int.reduceNe, Int.reduceGE, Int.reduceGT, Nat.reduceBEq, Int.reduceToNat]; all_goals (first | (simp; done) | omega))
            | (exfalso; omega)
        · have hz2 : endP x y z = false := by simpa using hz
          have hz3 := hz2
          simp only [endP, decide_eq_false_iff_not] at hz2
          simp (config := { maxSteps := 2000000 }) only [go_sem, hG, hP, Nat.reduceEqDiff, ↓reduceIte, reduceCtorEq, Nat.reduceAdd, Nat.reduceSub, Nat.reduceMul, Nat.reduceLT, Nat.reduceLeDiff, Int.reduceAdd, Int.reduceSub, Int.reduceMul, Int.reduceLT, Int.reduceLE, Int.reduceEq, Int.reduceNeg, Int.reduceNe, Int.reduceGE, Int.reduceGT, Nat.reduceBEq, Int.reduceToNat,  hxx, e0]
          (try simp (disch := omega) only [wrap_id])
          repeat (refine And.intro (by first | omega | (simp; done) | (simp; omega) | (unfold appRoom; omega)) ?_)
          repeat' (first | (refine And.intro ?_ ?_) | (with_reducible intro _))
          all_goals first
            | omega
            | (exfalso; omega)
            | (refine ⟨i + 1, ⟨⟨by omega, upto_succ hpre (by rw [hxx]; exact hz3)⟩, by omega⟩, SubS.weak ?_⟩; simp (config := { maxSteps := 2000000 }) only [go_sem, hG, hP, Nat.reduceEqDiff, ↓reduceIte, reduceCtorEq, Nat.reduceAdd, Nat.reduceSub, Nat.reduceMul, Nat.reduceLT, Nat.reduceLeDiff, Int.reduceAdd, Int.reduceSub, Int.reduceMul, Int.reduceLT, Int.reduceLE, Int.reduceEq, Int.reduceNeg, Int.reduceNe, Int.reduceGE, Int.reduceGT, Nat.reduceBEq, Int.reduceToNat]; repeat' (first | with_reducible rfl | (refine And.intro ?_ ?_) | (refine congrArg (Value.int _) ?_; omega) | omega))
      · have e0 : ((i : Int) < (q.length : Int)) = False := eq_false (by omega)
        obtain rfl : i = q.length := by omega
        have hf : ¬ 0 ≤ fidx (endP x y) q := by rw [fidx_none hpre]; omega
        simp (config := { maxSteps := 2000000 }) only [go_sem, hG, hP, Nat.reduceEqDiff, ↓reduceIte, reduceCtorEq, Nat.reduceAdd, Nat.reduceSub, Nat.reduceMul, Nat.reduceLT, Nat.reduceLeDiff, Int.reduceAdd, Int.reduceSub, Int.reduceMul, Int.reduceLT, Int.reduceLE, Int.reduceEq, Int.reduceNeg, Int.reduceNe, Int.reduceGE, Int.reduceGT, Nat.reduceBEq, Int.reduceToNat,  e0, w1, w2, pz]
        repeat (refine And.intro (by first | omega | (simp; done) | (simp; omega) | (unfold appRoom; omega)) ?_)
        refine loopI hE (fun k : Nat => ⟨[(1, .v (.int .i64 x)), (2, .v (.int .i64 y)), (3, .ptr 0 0), (6, .ptr 1 0), (9, .sub 3 2 0 0), (11, .v (.int .i64 (x.tdiv p))), (12, .v (.int .i64 (y.tdiv p))), (13, .v (.int .i64 (leastI (freeP p q (x.tdiv p) (-1)) k))), (14, .v (.int .i64 (leastI (freeP p q (-1) (y.tdiv p)) k))), (15, .v (.int .i64 k))], [(0, .box [.v (.int .i64 s), .v (.int .i64 p), .v (.int .i64 m), .sub 2 3 0 q.length]), (1, .box [.v (.int .i64 0), .v (.int .i64 0), .v (.int .i64 0), .v (.slice none 0 0)]), (2, .row .path q), (3, .row .move [])], 4, Try.f23.ntmps⟩) (fun k => (k : Int) ≤ m ∧ ∀ j, j < k → freeP p q (x.tdiv p) (y.tdiv p) j = false) (fun k => m.toNat - k) ⟨0, ⟨by omega, fun i hi => absurd hi (Nat.not_lt_zero _)⟩, SubS.weak ?_⟩ ?_
        · simp (config := { maxSteps := 2000000 }) only [go_sem, hG, hP, Nat.reduceEqDiff, ↓reduceIte, reduceCtorEq, Nat.reduceAdd, Nat.reduceSub, Nat.reduceMul, Nat.reduceLT, Nat.reduceLeDiff, Int.reduceAdd, Int.reduceSub, Int.reduceMul, Int.reduceLT, Int.reduceLE, Int.reduceEq, Int.reduceNeg, Int.reduceNe, Int.reduceGE, Int.reduceGT, Nat.reduceBEq, Int.reduceToNat,  leastI]
          repeat' (first | with_reducible rfl | (refine And.intro ?_ ?_) | (refine congrArg (Value.int _) ?_; omega) | omega)
        · intro k ⟨hk, hno⟩
          by_cases hlk : (k : Int) < m
          · have e3 : ((k : Int) < m) = True := eq_true hlk
            have la := @least_succ (freeP p q (x.tdiv p) (-1)) k
            have lb := @least_succ (freeP p q (-1) (y.tdiv p)) k
            rw [freeI_iff x0] at la
            rw [freeO_iff y0] at lb
            have fb := @freeB_iff p (x.tdiv p) (y.tdiv p) q k x0 y0
            have bA := least_bd (freeP p q (x.tdiv p) (-1)) k
            have bB := least_bd (freeP p q (-1) (y.tdiv p)) k
            generalize hA : leastI (freeP p q (x.tdiv p) (-1)) k = A at *
            generalize hB : leastI (freeP p q (-1) (y.tdiv p)) k = B at *
            by_cases d1 : fidx (atP p false (x.tdiv p) (k : Int)) q < 0
            · have d1' := eq_true d1
              rw [decide_eq_true d1] at la fb
              by_cases d2 : fidx (atP p true (y.tdiv p) (k : Int)) q < 0
              · have d2' := eq_true d2
                rw [decide_eq_true d2] at fb
                have hfm : fmF ⟨s, p, m, q⟩ x y = (k : Int) := least_hit hno fb (by show k < m.toNat; omega)
                rw [conn_free hall hf (by omega), hfm] at h
                simp (config := { maxSteps := 2000000 }) only [go_sem, hG, hP, Nat.reduceEqDiff, ↓reduceIte, reduceCtorEq, Nat.reduceAdd, Nat.reduceSub, Nat.reduceMul, Nat.reduceLT, Nat.reduceLeDiff, Int.reduceAdd, Int.reduceSub, Int.reduceMul, Int.reduceLT, Int.reduceLE, Int.reduceEq, Int.reduceNeg, Int.reduceNe, Int.reduceGE, Int.reduceGT, Nat.reduceBEq, Int.reduceToNat,  e3, atS_t, atS_k, atS_f, d1', d2']
                repeat (refine And.intro (by first | omega | (simp; done) | (simp; omega) | (unfold appRoom; omega)) ?_)
                repeat' (first | (refine And.intro ?_ ?_) | (with_reducible intro _))
                all_goals first
                  | omega
                  | assumption
                  | (unfold appRoom; omega)
                  | (refine ⟨_, _, _, ?_, h⟩; simp (config := { maxSteps := 2000000 }) only [go_sem, hG, hP, Nat.reduceEqDiff, ↓reduceIte, reduceCtorEq, Nat.reduceAdd, Nat.reduceSub, Nat.reduceMul, Nat.reduceLT, Nat.reduceLeDiff, Int.reduceAdd, Int.reduceSub, Int.reduceMul, Int.reduceLT, Int.reduceLE, Int.reduceEq, Int.reduceNeg, Int.reduceNe, Int.reduceGE, Int.reduceGT, Nat.reduceBEq, Int.reduceToNat]; all_goals (first | (simp; done) | omega))
                  | (simp (config := { maxSteps := 2000000 }) only [go_sem, hG, hP, Nat.reduceEqDiff, ↓reduceIte, reduceCtorEq, Nat.reduceAdd, Nat.reduceSub, Nat.reduceMul, Nat.reduceLT, Nat.reduceLeDiff, Int.reduceAdd, Int.reduceSub, Int.reduceMul, Int.reduceLT, Int.reduceLE, Int.reduceEq, Int.reduceNeg, Int.reduceNe, Int.reduceGE, Int.reduceGT, Nat.reduceBEq, Int.reduceToNat]; repeat' (first | with_reducible rfl | (refine And.intro ?_ ?_) | (refine congrArg (Value.int _) ?_; omega) | omega))
              · have d2' := eq_false d2
                rw [decide_eq_false d2] at fb lb
                have lb' : leastI (freeP p q (-1) (y.tdiv p)) (k + 1) = B := by rw [lb]; split <;> first | rfl | (simp; omega)
                have fb' : freeP p q (x.tdiv p) (y.tdiv p) k = false := fb
                by_cases hA0 : A < 0
                · have la' : leastI (freeP p q (x.tdiv p) (-1)) (k + 1) = (k : Int) := by rw [la, if_neg (by omega), if_pos rfl]
                  have d3 := eq_true hA0
                  simp (config := { maxSteps := 2000000 }) only [go_sem, hG, hP, Nat.reduceEqDiff, ↓reduceIte, reduceCtorEq, Nat.reduceAdd, Nat.reduceSub, Nat.reduceMul, Nat.reduceLT, Nat.reduceLeDiff, Int.reduceAdd, Int.reduceSub, Int.reduceMul, Int.reduceLT, Int.reduceLE, Int.reduceEq, Int.reduceNeg, Int.reduceNe, Int.reduceGE, Int.reduceGT, Nat.reduceBEq, Int.reduceToNat,  e3, atS_t, atS_k, atS_f, d1', d2', d3]
                  (try simp (disch := omega) only [wrap_id])
                  repeat (refine And.intro (by first | omega | (simp; done) | (simp; omega) | (unfold appRoom; omega)) ?_)
                  repeat' (first | (refine And.intro ?_ ?_) | (with_reducible intro _))
                  all_goals first
                    | omega
                    | assumption
                    | (refine ⟨k + 1, ⟨⟨by omega, upto_succ hno fb'⟩, by omega⟩, SubS.weak ?_⟩; simp (config := { maxSteps := 2000000 }) only [go_sem, hG, hP, Nat.reduceEqDiff, ↓reduceIte, reduceCtorEq, Nat.reduceAdd, Nat.reduceSub, Nat.reduceMul, Nat.reduceLT, Nat.reduceLeDiff, Int.reduceAdd, Int.reduceSub, Int.reduceMul, Int.reduceLT, Int.reduceLE, Int.reduceEq, Int.reduceNeg, Int.reduceNe, Int.reduceGE, Int.reduceGT, Nat.reduceBEq, Int.reduceToNat,  la', lb']; repeat' (first | with_reducible rfl | (refine And.intro ?_ ?_) | (refine congrArg (Value.int _) ?_; omega) | omega))
                    | (simp (config := { maxSteps := 2000000 }) only [go_sem, hG, hP, Nat.reduceEqDiff, ↓reduceIte, reduceCtorEq, Nat.reduceAdd, Nat.reduceSub, Nat.reduceMul, Nat.reduceLT, Nat.reduceLeDiff, Int.reduceAdd, Int.reduceSub, Int.reduceMul, Int.reduceLT, Int.reduceLE, Int.reduceEq, Int.reduceNeg, Int.reduceNe, Int.reduceGE, Int.reduceGT, Nat.reduceBEq, Int.reduceToNat]; repeat' (first | with_reducible rfl | (refine And.intro ?_ ?_) | (refine congrArg (Value.int _) ?_; omega) | omega))
                · have la' : leastI (freeP p q (x.tdiv p) (-1)) (k + 1) = A := by rw [la, if_pos (by omega)]
                  have d3 := eq_false hA0
                  simp (config := { maxSteps := 2000000 }) only [go_sem, hG, hP, Nat.reduceEqDiff, ↓reduceIte, reduceCtorEq, Nat.reduceAdd, Nat.reduceSub, Nat.reduceMul, Nat.reduceLT, Nat.reduceLeDiff, Int.reduceAdd, Int.reduceSub, Int.reduceMul, Int.reduceLT, Int.reduceLE, Int.reduceEq, Int.reduceNeg, Int.reduceNe, Int.reduceGE, Int.reduceGT, Nat.reduceBEq, Int.reduceToNat,  e3, atS_t, atS_k, atS_f, d1', d2', d3]
                  (try simp (disch := omega) only [wrap_id])
                  repeat (refine And.intro (by first | omega | (simp; done) | (simp; omega) | (unfold appRoom; omega)) ?_)
                  repeat' (first | (refine And.intro ?_ ?_) | (with_reducible intro _))
                  all_goals first
                    | omega
                    | assumption
                    | (refine ⟨k + 1, ⟨⟨by omega, upto_succ hno fb'⟩, by omega⟩, SubS.weak ?_⟩; simp (config := { maxSteps := 2000000 }) only [go_sem, hG, hP, Nat.reduceEqDiff, ↓reduceIte, reduceCtorEq, Nat.reduceAdd, Nat.reduceSub, Nat.reduceMul, Nat.reduceLT, Nat.reduceLeDiff, Int.reduceAdd, Int.reduceSub, Int.reduceMul, Int.reduceLT, Int.reduceLE, Int.reduceEq, Int.reduceNeg, Int.reduceNe, Int.reduceGE, Int.reduceGT, Nat.reduceBEq, Int.reduceToNat,  la', lb']; repeat' (first | with_reducible rfl | (refine And.intro ?_ ?_) | (refine congrArg (Value.int _) ?_; omega) | omega))
                    | (simp (config := { maxSteps := 2000000 }) only [go_sem, hG, hP, Nat.reduceEqDiff, ↓reduceIte, reduceCtorEq, Nat.reduceAdd, Nat.reduceSub, Nat.reduceMul, Nat.reduceLT, Nat.reduceLeDiff, Int.reduceAdd, Int.reduceSub, Int.reduceMul, Int.reduceLT, Int.reduceLE, Int.reduceEq, Int.reduceNeg, Int.reduceNe, Int.reduceGE, Int.reduceGT, Nat.reduceBEq, Int.reduceToNat]; repeat' (first | with_reducible rfl | (refine And.intro ?_ ?_) | (refine congrArg (Value.int _) ?_; omega) | omega))
            · have d1' := eq_false d1
              rw [decide_eq_false d1] at la fb
              have la' : leastI (freeP p q (x.tdiv p) (-1)) (k + 1) = A := by rw [la]; split <;> first | rfl | (simp; omega)
              have fb' : freeP p q (x.tdiv p) (y.tdiv p) k = false := by rw [fb]; rfl
              by_cases d2 : fidx (atP p true (y.tdiv p) (k : Int)) q < 0
              · have d2' := eq_true d2
                rw [decide_eq_true d2] at lb
                by_cases hB0 : B < 0
                · have lb' : leastI (freeP p q (-1) (y.tdiv p)) (k + 1) = (k : Int) := by rw [lb, if_neg (by omega), if_pos rfl]
                  have d3 := eq_true hB0
                  simp (config := { maxSteps := 2000000 }) only [go_sem, hG, hP, Nat.reduceEqDiff, ↓reduceIte, reduceCtorEq, Nat.reduceAdd, Nat.reduceSub, Nat.reduceMul, Nat.reduceLT, Nat.reduceLeDiff, Int.reduceAdd, Int.reduceSub, Int.reduceMul, Int.reduceLT, Int.reduceLE, Int.reduceEq, Int.reduceNeg, Int.reduceNe, Int.reduceGE, Int.reduceGT, Nat.reduceBEq, Int.reduceToNat,  e3, atS_t, atS_k, atS_f, d1', d2', d3]
                  (try simp (disch := omega) only [wrap_id])
                  repeat (refine And.intro (by first | omega | (simp; done) | (simp; omega) | (unfold appRoom; omega)) ?_)
                  repeat' (first | (refine And.intro ?_ ?_) | (with_reducible intro _))
                  all_goals first
                    | omega
                    | assumption
                    | (refine ⟨k + 1, ⟨⟨by omega, upto_succ hno fb'⟩, by omega⟩, SubS.weak ?_⟩; simp (config := { maxSteps := 2000000 }) only [go_sem, hG, hP, Nat.reduceEqDiff, ↓reduceIte, reduceCtorEq, Nat.reduceAdd, Nat.reduceSub, Nat.reduceMul, Nat.reduceLT, Nat.reduceLeDiff, Int.reduceAdd, Int.reduceSub, Int.reduceMul, Int.reduceLT, Int.reduceLE, Int.reduceEq, Int.reduceNeg, Int.reduceNe, Int.reduceGE, Int.reduceGT, Nat.reduceBEq, Int.reduceToNat,  la', lb']; repeat' (first | with_reducible rfl | (refine And.intro ?_ ?_) | (refine congrArg (Value.int _) ?_; omega) | omega))
                    | (simp (config := { maxSteps := 2000000 }) only [go_sem, hG, hP, Nat.reduceEqDiff, ↓reduceIte, reduceCtorEq, Nat.reduceAdd, Nat.reduceSub, Nat.reduceMul, Nat.reduceLT, Nat.reduceLeDiff, Int.reduceAdd, Int.reduceSub, Int.reduceMul, Int.reduceLT, Int.reduceLE, Int.reduceEq, Int.reduceNeg, Int.reduceNe, Int.reduceGE, Int.reduceGT, Nat.reduceBEq, Int.reduceToNat]; repeat' (first | with_reducible rfl | (refine And.intro ?_ ?_) | (refine congrArg (Value.int _) ?_; omega) | omega))
                · have lb' : leastI (freeP p q (-1) (y.tdiv p)) (k + 1) = B := by rw [lb, if_pos (by omega)]
                  have d3 := eq_false hB0
                  simp (config := { maxSteps := 2000000 }) only [go_sem, hG, hP, Nat.reduceEqDiff, ↓reduceIte, reduceCtorEq, Nat.reduceAdd, Nat.reduceSub, Nat.reduceMul, Nat.reduceLT, Nat.reduceLeDiff, Int.reduceAdd, Int.reduceSub, Int.reduceMul, Int.reduceLT, Int.reduceLE, Int.reduceEq, Int.reduceNeg, Int.reduceNe, Int.reduceGE, Int.reduceGT, Nat.reduceBEq, Int.reduceToNat,  e3, atS_t, atS_k, atS_f, d1', d2', d3]
                  (try simp (disch := omega) only [wrap_id])
                  repeat (refine And.intro (by first | omega | (simp; done) | (simp; omega) | (unfold appRoom; omega)) ?_)
                  repeat' (first | (refine And.intro ?_ ?_) | (with_reducible intro _))
                  all_goals first
                    | omega
                    | assumption
                    | (refine ⟨k + 1, ⟨⟨by omega, upto_succ hno fb'⟩, by omega⟩, SubS.weak ?_⟩; simp (config := { maxSteps := 2000000 }) only [go_sem, hG, hP, Nat.reduceEqDiff, ↓reduceIte, reduceCtorEq, Nat.reduceAdd, Nat.reduceSub, Nat.reduceMul, Nat.reduceLT, Nat.reduceLeDiff, Int.reduceAdd, Int.reduceSub, Int.reduceMul, Int.reduceLT, Int.reduceLE, Int.reduceEq, Int.reduceNeg, Int.reduceNe, Int.reduceGE, Int.reduceGT, Nat.reduceBEq, Int.reduceToNat,  la', lb']; repeat' (first | with_reducible rfl | (refine And.intro ?_ ?_) | (refine congrArg (Value.int _) ?_; omega) | omega))
                    | (simp (config := { maxSteps := 2000000 }) only [go_sem, hG, hP, Nat.reduceEqDiff, ↓reduceIte, reduceCtorEq, Nat.reduceAdd, Nat.reduceSub, Nat.reduceMul, Nat.reduceLT, Nat.reduceLeDiff, Int.reduceAdd, Int.reduceSub, Int.reduceMul, Int.reduceLT, Int.reduceLE, Int.reduceEq, Int.reduceNeg, Int.reduceNe, Int.reduceGE, Int.reduceGT, Nat.reduceBEq, Int.reduceToNat]; repeat' (first | with_reducible rfl | (refine And.intro ?_ ?_) | (refine congrArg (Value.int _) ?_; omega) | omega))
              · have d2' := eq_false d2
                rw [decide_eq_false d2] at lb
                have lb' : leastI (freeP p q (-1) (y.tdiv p)) (k + 1) = B := by rw [lb]; split <;> first | rfl | (simp; omega)
                simp (config := { maxSteps := 2000000 }) only [go_sem, hG, hP, Nat.reduceEqDiff, ↓reduceIte, reduceCtorEq, Nat.reduceAdd, Nat.reduceSub, Nat.reduceMul, Nat.reduceLT, Nat.reduceLeDiff, Int.reduceAdd, Int.reduceSub, Int.reduceMul, Int.reduceLT, Int.reduceLE, Int.reduceEq, Int.reduceNeg, Int.reduceNe, Int.reduceGE, Int.reduceGT, Nat.reduceBEq, Int.reduceToNat,  e3, atS_t, atS_k, atS_f, d1', d2']
                (try simp (disch := omega) only [wrap_id])
                repeat (refine And.intro (by first | omega | (simp; done) | (simp; omega) | (unfold appRoom; omega)) ?_)
                repeat' (first | (refine And.intro ?_ ?_) | (with_reducible intro _))
                all_goals first
                  | omega
                  | assumption
                  | (refine ⟨k + 1, ⟨⟨by omega, upto_succ hno fb'⟩, by omega⟩, SubS.weak ?_⟩; simp (config := { maxSteps := 2000000 }) only [go_sem, hG, hP, Nat.reduceEqDiff, ↓reduceIte, reduceCtorEq, Nat.reduceAdd, Nat.reduceSub, Nat.reduceMul, Nat.reduceLT, Nat.reduceLeDiff, Int.reduceAdd, Int.reduceSub, Int.reduceMul, Int.reduceLT, Int.reduceLE, Int.reduceEq, Int.reduceNeg, Int.reduceNe, Int.reduceGE, Int.reduceGT, Nat.reduceBEq, Int.reduceToNat,  la', lb']; repeat' (first | with_reducible rfl | (refine And.intro ?_ ?_) | (refine congrArg (Value.int _) ?_; omega) | omega))
                  | (simp (config := { maxSteps := 2000000 }) only [go_sem, hG, hP, Nat.reduceEqDiff, ↓reduceIte, reduceCtorEq, Nat.reduceAdd, Nat.reduceSub, Nat.reduceMul, Nat.reduceLT, Nat.reduceLeDiff, Int.reduceAdd, Int.reduceSub, Int.reduceMul, Int.reduceLT, Int.reduceLE, Int.reduceEq, Int.reduceNeg, Int.reduceNe, Int.reduceGE, Int.reduceGT, Nat.reduceBEq, Int.reduceToNat]; repeat' (first | with_reducible rfl | (refine And.intro ?_ ?_) | (refine congrArg (Value.int _) ?_; omega) | omega))
          have e3 : ((k : Int) < m) = False := eq_false hlk
          have hk2 : k = m.toNat := by omega
          subst hk2
          have hm : ¬ 0 ≤ fmF ⟨s, p, m, q⟩ x y := by unfold fmF; dsimp only; rw [least_none hno]; omega
          have ca : leastI (freeP p q (x.tdiv p) (-1)) m.toNat = fmA ⟨s, p, m, q⟩ x := rfl
          have cb : leastI (freeP p q (-1) (y.tdiv p)) m.toNat = fmB ⟨s, p, m, q⟩ y := rfl
          rw [ca, cb]
          by_cases ha : fmA ⟨s, p, m, q⟩ x < 0
          · rw [conn_block hall hf hm (.inl ha)] at h
            have ea := eq_true ha
            simp (config := { maxSteps := 2000000 }) only [go_sem, hG, hP, Nat.reduceEqDiff, ↓reduceIte, reduceCtorEq, Nat.reduceAdd, Nat.reduceSub, Nat.reduceMul, Nat.reduceLT, Nat.reduceLeDiff, Int.reduceAdd, Int.reduceSub, Int.reduceMul, Int.reduceLT, Int.reduceLE, Int.reduceEq, Int.reduceNeg, Int.reduceNe, Int.reduceGE, Int.reduceGT, Nat.reduceBEq, Int.reduceToNat,  e3, ea]
            repeat (refine And.intro (by first | omega | (simp; done) | (simp; omega) | (unfold appRoom; omega)) ?_)
            refine ⟨_, _, _, ?_, h⟩
            simp (config := { maxSteps := 2000000 }) only [go_sem, hG, hP, Nat.reduceEqDiff, ↓reduceIte, reduceCtorEq, Nat.reduceAdd, Nat.reduceSub, Nat.reduceMul, Nat.reduceLT, Nat.reduceLeDiff, Int.reduceAdd, Int.reduceSub, Int.reduceMul, Int.reduceLT, Int.reduceLE, Int.reduceEq, Int.reduceNeg, Int.reduceNe, Int.reduceGE, Int.reduceGT, Nat.reduceBEq, Int.reduceToNat]
            all_goals simp
          have ea := eq_false ha
          by_cases hb : fmB ⟨s, p, m, q⟩ y < 0
          · rw [conn_block hall hf hm (.inr hb)] at h
            have eb := eq_true hb
            simp (config := { maxSteps := 2000000 }) only [go_sem, hG, hP, Nat.reduceEqDiff, ↓reduceIte, reduceCtorEq, Nat.reduceAdd, Nat.reduceSub, Nat.reduceMul, Nat.reduceLT, Nat.reduceLeDiff, Int.reduceAdd, Int.reduceSub, Int.reduceMul, Int.reduceLT, Int.reduceLE, Int.reduceEq, Int.reduceNeg, Int.reduceNe, Int.reduceGE, Int.reduceGT, Nat.reduceBEq, Int.reduceToNat,  e3, ea, eb]
            repeat (refine And.intro (by first | omega | (simp; done) | (simp; omega) | (unfold appRoom; omega)) ?_)
            refine ⟨_, _, _, ?_, h⟩
            simp (config := { maxSteps := 2000000 }) only [go_sem, hG, hP, Nat.reduceEqDiff, ↓reduceIte, reduceCtorEq, Nat.reduceAdd, Nat.reduceSub, Nat.reduceMul, Nat.reduceLT, Nat.reduceLeDiff, Int.reduceAdd, Int.reduceSub, Int.reduceMul, Int.reduceLT, Int.reduceLE, Int.reduceEq, Int.reduceNeg, Int.reduceNe, Int.reduceGE, Int.reduceGT, Nat.reduceBEq, Int.reduceToNat]
            all_goals simp
          have eb := eq_false hb
          have hab : ¬ (fmA ⟨s, p, m, q⟩ x < 0 ∨ fmB ⟨s, p, m, q⟩ y < 0) := fun e => e.elim ha hb
          rw [conn_move hall hf hm hab] at h
          have mv := mov_of hall hm hab
          have pre1 := mv.pre1 hok
          have pre2 := mv.pre2 hok
          have lok := chL_ok hok mv
          have c1 : chain q p (q.length + 1) true (y.tdiv p) (fmA ⟨s, p, m, q⟩ x) (fmB ⟨s, p, m, q⟩ y) = ch1 ⟨s, p, m, q⟩ x y := rfl
          have c2 : chain q p (q.length + 1) false (x.tdiv p) (fmB ⟨s, p, m, q⟩ y) (fmA ⟨s, p, m, q⟩ x) = ch2 ⟨s, p, m, q⟩ x y := rfl
          have h1L : chL ⟨s, p, m, q⟩ x y = if (ch2 ⟨s, p, m, q⟩ x y).length < (ch1 ⟨s, p, m, q⟩ x y).length then ch2 ⟨s, p, m, q⟩ x y else ch1 ⟨s, p, m, q⟩ x y := rfl
          have h1M : chM ⟨s, p, m, q⟩ x y = if (ch2 ⟨s, p, m, q⟩ x y).length < (ch1 ⟨s, p, m, q⟩ x y).length then fmB ⟨s, p, m, q⟩ y else fmA ⟨s, p, m, q⟩ x := rfl
          dsimp only at pre1 pre2
          generalize ga : fmA ⟨s, p, m, q⟩ x = a at *
          generalize gb : fmB ⟨s, p, m, q⟩ y = b at *
          generalize g1 : ch1 ⟨s, p, m, q⟩ x y = l1 at *
          generalize g2 : ch2 ⟨s, p, m, q⟩ x y = l2 at *
          have cba : b + a = a + b := Int.add_comm b a
          have pz1 : (a < 0) = False := eq_false (by omega)
          have pz2 : (b < 0) = False := eq_false (by omega)
          by_cases hlt : l2.length < l1.length
          · have elt : ((l2.length : Int) < (l1.length : Int)) = True := eq_true (by omega)
            rw [if_pos hlt] at h1L h1M
            rw [h1L, h1M] at h
            rw [h1L] at lok
            simp (config := { maxSteps := 2000000 }) only [go_sem, hG, hP, Nat.reduceEqDiff, ↓reduceIte, reduceCtorEq, Nat.reduceAdd, Nat.reduceSub, Nat.reduceMul, Nat.reduceLT, Nat.reduceLeDiff, Int.reduceAdd, Int.reduceSub, Int.reduceMul, Int.reduceLT, Int.reduceLE, Int.reduceEq, Int.reduceNeg, Int.reduceNe, Int.reduceGE, Int.reduceGT, Nat.reduceBEq, Int.reduceToNat,  e3, pz1, pz2, atS_t, atS_k, atS_f, ccS_t, ccS_k, ccT_f, ccF_f, c1, c2, elt]
            repeat (refine And.intro (by first | omega | (simp; done) | (simp; omega) | (unfold appRoom; omega)) ?_)
            repeat' (first | (refine And.intro ?_ ?_) | (with_reducible intro _))
            all_goals try (first | omega | assumption | exact pre1 | exact pre2 | (simp (config := { maxSteps := 2000000 }) only [go_sem, hG, hP, Nat.reduceEqDiff, ↓reduceIte, reduceCtorEq, Nat.reduceAdd, Nat.reduceSub, Nat.reduceMul, Nat.reduceLT, Nat.reduceLeDiff, Int.reduceAdd, Int.reduceSub, Int.reduceMul, Int.reduceLT, Int.reduceLE, Int.reduceEq, Int.reduceNeg, Int.reduceNe, Int.reduceGE, Int.reduceGT, Nat.reduceBEq, Int.reduceToNat]; repeat' (first | with_reducible rfl | (refine And.intro ?_ ?_) | (refine congrArg (Value.int _) ?_; omega) | omega)); done)
            refine loopI hE (fun i : Nat => ⟨[(1, .v (.int .i64 x)), (2, .v (.int .i64 y)), (3, .ptr 0 0), (6, .ptr 1 0), (18, .sub 3 2 0 l2.length), (19, .v (.int .i64 b)), (21, .v (.int .i64 i))], [(0, .box [.v (.int .i64 s), .v (.int .i64 p), .v (.int .i64 m), .sub 2 3 0 q.length]), (1, .box [.v (.int .i64 0), .v (.int .i64 0), .v (.int .i64 0), .v (.slice none 0 0)]), (2, .row .path (recol q (a + b) (l2.take i))), (3, .row .move (mvs q (a + b) l2))], 4, Try.f23.ntmps⟩) (fun i => i ≤ l2.length) (fun i => l2.length - i) ⟨0, Nat.zero_le _, SubS.weak ?_⟩ ?_
            · simp (config := { maxSteps := 2000000 }) only [go_sem, hG, hP, Nat.reduceEqDiff, ↓reduceIte, reduceCtorEq, Nat.reduceAdd, Nat.reduceSub, Nat.reduceMul, Nat.reduceLT, Nat.reduceLeDiff, Int.reduceAdd, Int.reduceSub, Int.reduceMul, Int.reduceLT, Int.reduceLE, Int.reduceEq, Int.reduceNeg, Int.reduceNe, Int.reduceGE, Int.reduceGT, Nat.reduceBEq, Int.reduceToNat,  recol_nil, cba]
              repeat' (first | with_reducible rfl | (refine And.intro ?_ ?_) | (refine congrArg (Value.int _) ?_; omega) | omega)
              all_goals (first | (simp [mvs_len, cba]; done) | (rw [cba]; done))
            · intro i hi
              by_cases hli : i < l2.length
              · have e0 : ((i : Int) < (l2.length : Int)) = True := eq_true (by omega)
                have hmg := mvs_get (q := q) (c := a + b) hli
                have hbd := lok.bd i hli
                have hnt := not_in_take lok.di hli
                have hsn := take_snoc hli
                dsimp only at hbd
                generalize l2.getD i 0 = e at *
                simp (config := { maxSteps := 2000000 }) only [go_sem, hG, hP, Nat.reduceEqDiff, ↓reduceIte, reduceCtorEq, Nat.reduceAdd, Nat.reduceSub, Nat.reduceMul, Nat.reduceLT, Nat.reduceLeDiff, Int.reduceAdd, Int.reduceSub, Int.reduceMul, Int.reduceLT, Int.reduceLE, Int.reduceEq, Int.reduceNeg, Int.reduceNe, Int.reduceGE, Int.reduceGT, Nat.reduceBEq, Int.reduceToNat,  e0]
                refine loopI hE (fun k : Nat => ⟨[(1, .v (.int .i64 x)), (2, .v (.int .i64 y)), (3, .ptr 0 0), (6, .ptr 1 0), (18, .sub 3 2 0 l2.length), (19, .v (.int .i64 b)), (21, .v (.int .i64 i)), (22, .v (.int .i64 k))], [(0, .box [.v (.int .i64 s), .v (.int .i64 p), .v (.int .i64 m), .sub 2 3 0 q.length]), (1, .box [.v (.int .i64 0), .v (.int .i64 0), .v (.int .i64 0), .v (.slice none 0 0)]), (2, .row .path (recol q (a + b) (if e < k then l2.take (i + 1) else l2.take i))), (3, .row .move (mvs q (a + b) l2))], 4, Try.f23.ntmps⟩) (fun k => k ≤ q.length) (fun k => q.length - k) ⟨0, Nat.zero_le _, SubS.weak ?_⟩ ?_
                · simp (config := { maxSteps := 2000000 }) only [go_sem, hG, hP, Nat.reduceEqDiff, ↓reduceIte, reduceCtorEq, Nat.reduceAdd, Nat.reduceSub, Nat.reduceMul, Nat.reduceLT, Nat.reduceLeDiff, Int.reduceAdd, Int.reduceSub, Int.reduceMul, Int.reduceLT, Int.reduceLE, Int.reduceEq, Int.reduceNeg, Int.reduceNe, Int.reduceGE, Int.reduceGT, Nat.reduceBEq, Int.reduceToNat,  if_neg (Nat.not_lt_zero e)]
                  repeat' (first | with_reducible rfl | (refine And.intro ?_ ?_) | (refine congrArg (Value.int _) ?_; omega) | omega)
                · intro k hk
                  by_cases hlk : k < q.length
                  · have e1 : ((k : Int) < (q.length : Int)) = True := eq_true (by omega)
                    by_cases hke : k = e
                    · subst hke
                      have n1 : (if k < k then l2.take (i + 1) else l2.take i) = l2.take i := if_neg (by omega)
                      have n2 : (if k < k + 1 then l2.take (i + 1) else l2.take i) = l2.take (i + 1) := if_pos (by omega)
                      have hz : (recol q (a + b) (l2.take i)).getD k Pz = q.getD k Pz := by rw [recol_get hbd, if_neg hnt]
                      have hset := recol_snoc (c := a + b) (l := l2.take i) hbd
                      rw [← hsn] at hset
                      generalize q.getD k Pz = z at *
                      rw [swp_eq] at hset
                      have ez : (z.src = z.src) = True := eq_true rfl
                      simp (config := { maxSteps := 2000000 }) only [go_sem, hG, hP, Nat.reduceEqDiff, ↓reduceIte, reduceCtorEq, Nat.reduceAdd, Nat.reduceSub, Nat.reduceMul, Nat.reduceLT, Nat.reduceLeDiff, Int.reduceAdd, Int.reduceSub, Int.reduceMul, Int.reduceLT, Int.reduceLE, Int.reduceEq, Int.reduceNeg, Int.reduceNe, Int.reduceGE, Int.reduceGT, Nat.reduceBEq, Int.reduceToNat,  e0, e1, hmg, n1, hz, hset, recol_len, mvs_len, ez]
                      (try simp (disch := omega) only [wrap_id])
                      repeat (refine And.intro (by first | omega | (simp; done) | (simp; omega) | (unfold appRoom; omega)) ?_)
                      repeat' (first | (refine And.intro ?_ ?_) | (with_reducible intro _))
                      all_goals first
                        | omega
                        | (refine ⟨k + 1, ⟨by omega, by omega⟩, SubS.weak ?_⟩; simp (config := { maxSteps := 2000000 }) only [go_sem, hG, hP, Nat.reduceEqDiff, ↓reduceIte, reduceCtorEq, Nat.reduceAdd, Nat.reduceSub, Nat.reduceMul, Nat.reduceLT, Nat.reduceLeDiff, Int.reduceAdd, Int.reduceSub, Int.reduceMul, Int.reduceLT, Int.reduceLE, Int.reduceEq, Int.reduceNeg, Int.reduceNe, Int.reduceGE, Int.reduceGT, Nat.reduceBEq, Int.reduceToNat,  n2]; repeat' (first | with_reducible rfl | (refine And.intro ?_ ?_) | (refine congrArg (Value.int _) ?_; omega) | omega); all_goals (first | (simp; done) | omega))
                        | (exfalso; simp_all; done)
                    · have n2 : (if e < k + 1 then l2.take (i + 1) else l2.take i) = (if e < k then l2.take (i + 1) else l2.take i) := by
                        by_cases h5 : e < k
                        · rw [if_pos h5, if_pos (by omega)]
                        · rw [if_neg h5, if_neg (by omega)]
                      generalize (if e < k then l2.take (i + 1) else l2.take i) = cur at *
                      have hs := recol_src (q := q) (c := a + b) (l := cur) hlk
                      have hne : (q.getD k Pz).src ≠ (q.getD e Pz).src := fun e2 => hke (src_of hok hlk hbd e2)
                      generalize hw : (recol q (a + b) cur).getD k Pz = w at *
                      have ez : (w.src = (q.getD e Pz).src) = False := eq_false (by rw [hs]; exact hne)
                      simp (config := { maxSteps := 2000000 }) only [go_sem, hG, hP, Nat.reduceEqDiff, ↓reduceIte, reduceCtorEq, Nat.reduceAdd, Nat.reduceSub, Nat.reduceMul, Nat.reduceLT, Nat.reduceLeDiff, Int.reduceAdd, Int.reduceSub, Int.reduceMul, Int.reduceLT, Int.reduceLE, Int.reduceEq, Int.reduceNeg, Int.reduceNe, Int.reduceGE, Int.reduceGT, Nat.reduceBEq, Int.reduceToNat,  e0, e1, hmg, hw, ez, recol_len, mvs_len]
                      (try simp (disch := omega) only [wrap_id])
                      repeat (refine And.intro (by first | omega | (simp; done) | (simp; omega) | (unfold appRoom; omega)) ?_)
                      repeat' (first | (refine And.intro ?_ ?_) | (with_reducible intro _))
                      all_goals first
                        | omega
                        | (refine ⟨k + 1, ⟨by omega, by omega⟩, SubS.weak ?_⟩; simp (config := { maxSteps := 2000000 }) only [go_sem, hG, hP, Nat.reduceEqDiff, ↓reduceIte, reduceCtorEq, Nat.reduceAdd, Nat.reduceSub, Nat.reduceMul, Nat.reduceLT, Nat.reduceLeDiff, Int.reduceAdd, Int.reduceSub, Int.reduceMul, Int.reduceLT, Int.reduceLE, Int.reduceEq, Int.reduceNeg, Int.reduceNe, Int.reduceGE, Int.reduceGT, Nat.reduceBEq, Int.reduceToNat,  n2]; repeat' (first | with_reducible rfl | (refine And.intro ?_ ?_) | (refine congrArg (Value.int _) ?_; omega) | omega); all_goals (first | (simp; done) | omega))
                  · have e1 : ((k : Int) < (q.length : Int)) = False := eq_false (by omega)
                    have n1 : (if e < k then l2.take (i + 1) else l2.take i) = l2.take (i + 1) := if_pos (by omega)
                    have hlq := lok.le
                    dsimp only at hlq
                    simp (config := { maxSteps := 2000000 }) only [go_sem, hG, hP, Nat.reduceEqDiff, ↓reduceIte, reduceCtorEq, Nat.reduceAdd, Nat.reduceSub, Nat.reduceMul, Nat.reduceLT, Nat.reduceLeDiff, Int.reduceAdd, Int.reduceSub, Int.reduceMul, Int.reduceLT, Int.reduceLE, Int.reduceEq, Int.reduceNeg, Int.reduceNe, Int.reduceGE, Int.reduceGT, Nat.reduceBEq, Int.reduceToNat,  e1, n1]
                    (try simp (disch := omega) only [wrap_id])
                    refine ⟨i + 1, ⟨by omega, by omega⟩, SubS.weak ?_⟩
                    simp (config := { maxSteps := 2000000 }) only [go_sem, hG, hP, Nat.reduceEqDiff, ↓reduceIte, reduceCtorEq, Nat.reduceAdd, Nat.reduceSub, Nat.reduceMul, Nat.reduceLT, Nat.reduceLeDiff, Int.reduceAdd, Int.reduceSub, Int.reduceMul, Int.reduceLT, Int.reduceLE, Int.reduceEq, Int.reduceNeg, Int.reduceNe, Int.reduceGE, Int.reduceGT, Nat.reduceBEq, Int.reduceToNat]
                    repeat' (first | with_reducible rfl | (refine And.intro ?_ ?_) | (refine congrArg (Value.int _) ?_; omega) | omega)
              · have e0 : ((i : Int) < (l2.length : Int)) = False := eq_false (by omega)
                obtain rfl : i = l2.length := by omega
                rw [List.take_length]
                have rtk : (recol q (a + b) l2).take q.length = recol q (a + b) l2 := List.take_of_length_le (by rw [recol_len]; omega)
                have mtk : (mvs q (a + b) l2).take l2.length = mvs q (a + b) l2 := List.take_of_length_le (by rw [mvs_len]; omega)
                simp (config := { maxSteps := 2000000 }) only [go_sem, hG, hP, Nat.reduceEqDiff, ↓reduceIte, reduceCtorEq, Nat.reduceAdd, Nat.reduceSub, Nat.reduceMul, Nat.reduceLT, Nat.reduceLeDiff, Int.reduceAdd, Int.reduceSub, Int.reduceMul, Int.reduceLT, Int.reduceLE, Int.reduceEq, Int.reduceNeg, Int.reduceNe, Int.reduceGE, Int.reduceGT, Nat.reduceBEq, Int.reduceToNat,  e0, recol_len, rtk, mtk]
                repeat (refine And.intro (by first | omega | (simp; done) | (simp; omega) | (unfold appRoom; omega)) ?_)
                refine ⟨_, _, _, ?_, h⟩
                simp (config := { maxSteps := 2000000 }) only [go_sem, hG, hP, Nat.reduceEqDiff, ↓reduceIte, reduceCtorEq, Nat.reduceAdd, Nat.reduceSub, Nat.reduceMul, Nat.reduceLT, Nat.reduceLeDiff, Int.reduceAdd, Int.reduceSub, Int.reduceMul, Int.reduceLT, Int.reduceLE, Int.reduceEq, Int.reduceNeg, Int.reduceNe, Int.reduceGE, Int.reduceGT, Nat.reduceBEq, Int.reduceToNat,  rtk, mtk]
                repeat' (first | with_reducible rfl | (refine And.intro ?_ ?_) | (refine congrArg (Value.int _) ?_; omega) | omega)
                all_goals (first | (simp [mvs_len, recol_len]; done) | (rw [rtk]; done) | exact mtk)
          · have elt : ((l2.length : Int) < (l1.length : Int)) = False := eq_false (by omega)
            rw [if_neg hlt] at h1L h1M
            rw [h1L, h1M] at h
            rw [h1L] at lok
            simp (config := { maxSteps := 2000000 }) only [go_sem, hG, hP, Nat.reduceEqDiff, ↓reduceIte, reduceCtorEq, Nat.reduceAdd, Nat.reduceSub, Nat.reduceMul, Nat.reduceLT, Nat.reduceLeDiff, Int.reduceAdd, Int.reduceSub, Int.reduceMul, Int.reduceLT, Int.reduceLE, Int.reduceEq, Int.reduceNeg, Int.reduceNe, Int.reduceGE, Int.reduceGT, Nat.reduceBEq, Int.reduceToNat,  e3, pz1, pz2, atS_t, atS_k, atS_f, ccS_t, ccS_k, ccT_f, ccF_f, c1, c2, elt]
            repeat (refine And.intro (by first | omega | (simp; done) | (simp; omega) | (unfold appRoom; omega)) ?_)
            repeat' (first | (refine And.intro ?_ ?_) | (with_reducible intro _))
            all_goals try (first | omega | assumption | exact pre1 | exact pre2 | (simp (config := { maxSteps := 2000000 }) only [go_sem, hG, hP, Nat.reduceEqDiff, ↓reduceIte, reduceCtorEq, Nat.reduceAdd, Nat.reduceSub, Nat.reduceMul, Nat.reduceLT, Nat.reduceLeDiff, Int.reduceAdd, Int.reduceSub, Int.reduceMul, Int.reduceLT, Int.reduceLE, Int.reduceEq, Int.reduceNeg, Int.reduceNe, Int.reduceGE, Int.reduceGT, Nat.reduceBEq, Int.reduceToNat]; repeat' (first | with_reducible rfl | (refine And.intro ?_ ?_) | (refine congrArg (Value.int _) ?_; omega) | omega)); done)
            refine loopI hE (fun i : Nat => ⟨[(1, .v (.int .i64 x)), (2, .v (.int .i64 y)), (3, .ptr 0 0), (6, .ptr 1 0), (18, .sub 3 2 0 l1.length), (19, .v (.int .i64 a)), (21, .v (.int .i64 i))], [(0, .box [.v (.int .i64 s), .v (.int .i64 p), .v (.int .i64 m), .sub 2 3 0 q.length]), (1, .box [.v (.int .i64 0), .v (.int .i64 0), .v (.int .i64 0), .v (.slice none 0 0)]), (2, .row .path (recol q (a + b) (l1.take i))), (3, .row .move (mvs q (a + b) l1))], 4, Try.f23.ntmps⟩) (fun i => i ≤ l1.length) (fun i => l1.length - i) ⟨0, Nat.zero_le _, SubS.weak ?_⟩ ?_
            · simp (config := { maxSteps := 2000000 }) only [go_sem, hG, hP, Nat.reduceEqDiff, ↓reduceIte, reduceCtorEq, Nat.reduceAdd, Nat.reduceSub, Nat.reduceMul, Nat.reduceLT, Nat.reduceLeDiff, Int.reduceAdd, Int.reduceSub, Int.reduceMul, Int.reduceLT, Int.reduceLE, Int.reduceEq, Int.reduceNeg, Int.reduceNe, Int.reduceGE, Int.reduceGT, Nat.reduceBEq, Int.reduceToNat,  recol_nil, cba]
              repeat' (first | with_reducible rfl | (refine And.intro ?_ ?_) | (refine congrArg (Value.int _) ?_; omega) | omega)
              all_goals (first | (simp [mvs_len, cba]; done) | (rw [cba]; done))
            · intro i hi
              by_cases hli : i < l1.length
              · have e0 : ((i : Int) < (l1.length : Int)) = True := eq_true (by omega)
                have hmg := mvs_get (q := q) (c := a + b) hli
                have hbd := lok.bd i hli
                have hnt := not_in_take lok.di hli
                have hsn := take_snoc hli
                dsimp only at hbd
                generalize l1.getD i 0 = e at *
                simp (config := { maxSteps := 2000000 }) only [go_sem, hG, hP, Nat.reduceEqDiff, ↓reduceIte, reduceCtorEq, Nat.reduceAdd, Nat.reduceSub, Nat.reduceMul, Nat.reduceLT, Nat.reduceLeDiff, Int.reduceAdd, Int.reduceSub, Int.reduceMul, Int.reduceLT, Int.reduceLE, Int.reduceEq, Int.reduceNeg, Int.reduceNe, Int.reduceGE, Int.reduceGT, Nat.reduceBEq, Int.reduceToNat,  e0]
                refine loopI hE (fun k : Nat => ⟨[(1, .v (.int .i64 x)), (2, .v (.int .i64 y)), (3, .ptr 0 0), (6, .ptr 1 0), (18, .sub 3 2 0 l1.length), (19, .v (.int .i64 a)), (21, .v (.int .i64 i)), (22, .v (.int .i64 k))], [(0, .box [.v (.int .i64 s), .v (.int .i64 p), .v (.int .i64 m), .sub 2 3 0 q.length]), (1, .box [.v (.int .i64 0), .v (.int .i64 0), .v (.int .i64 0), .v (.slice none 0 0)]), (2, .row .path (recol q (a + b) (if e < k then l1.take (i + 1) else l1.take i))), (3, .row .move (mvs q (a + b) l1))], 4, Try.f23.ntmps⟩) (fun k => k ≤ q.length) (fun k => q.length - k) ⟨0, Nat.zero_le _, SubS.weak ?_⟩ ?_
                · simp (config := { maxSteps := 2000000 }) only [go_sem, hG, hP, Nat.reduceEqDiff, ↓reduceIte, reduceCtorEq, Nat.reduceAdd, Nat.reduceSub, Nat.reduceMul, Nat.reduceLT, Nat.reduceLeDiff, Int.reduceAdd, Int.reduceSub, Int.reduceMul, Int.reduceLT, Int.reduceLE, Int.reduceEq, Int.reduceNeg, Int.reduceNe, Int.reduceGE, Int.reduceGT, Nat.reduceBEq, Int.reduceToNat,  if_neg (Nat.not_lt_zero e)]
                  repeat' (first | with_reducible rfl | (refine And.intro ?_ ?_) | (refine congrArg (Value.int _) ?_; omega) | omega)
                · intro k hk
                  by_cases hlk : k < q.length
                  · have e1 : ((k : Int) < (q.length : Int)) = True := eq_true (by omega)
                    by_cases hke : k = e
                    · subst hke
                      have n1 : (if k < k then l1.take (i + 1) else l1.take i) = l1.take i := if_neg (by omega)
                      have n2 : (if k < k + 1 then l1.take (i + 1) else l1.take i) = l1.take (i + 1) := if_pos (by omega)
                      have hz : (recol q (a + b) (l1.take i)).getD k Pz = q.getD k Pz := by rw [recol_get hbd, if_neg hnt]
                      have hset := recol_snoc (c := a + b) (l := l1.take i) hbd
                      rw [← hsn] at hset
                      generalize q.getD k Pz = z at *
                      rw [swp_eq] at hset
                      have ez : (z.src = z.src) = True := eq_true rfl
                      simp (config := { maxSteps := 2000000 }) only [go_sem, hG, hP, Nat.reduceEqDiff, ↓reduceIte, reduceCtorEq, Nat.reduceAdd, Nat.reduceSub, Nat.reduceMul, Nat.reduceLT, Nat.reduceLeDiff, Int.reduceAdd, Int.reduceSub, Int.reduceMul, Int.reduceLT, Int.reduceLE, Int.reduceEq, Int.reduceNeg, Int.reduceNe, Int.reduceGE, Int.reduceGT, Nat.reduceBEq, Int.reduceToNat,  e0, e1, hmg, n1, hz, hset, recol_len, mvs_len, ez]
                      (try simp (disch := omega) only [wrap_id])
                      repeat (refine And.intro (by first | omega | (simp; done) | (simp; omega) | (unfold appRoom; omega)) ?_)
                      repeat' (first | (refine And.intro ?_ ?_) | (with_reducible intro _))
                      all_goals first
                        | omega
                        | (refine ⟨k + 1, ⟨by omega, by omega⟩, SubS.weak ?_⟩; simp (config := { maxSteps := 2000000 }) only [go_sem, hG, hP, Nat.reduceEqDiff, ↓reduceIte, reduceCtorEq, Nat.reduceAdd, Nat.reduceSub, Nat.reduceMul, Nat.reduceLT, Nat.reduceLeDiff, Int.reduceAdd, Int.reduceSub, Int.reduceMul, Int.reduceLT, Int.reduceLE, Int.reduceEq, Int.reduceNeg, Int.reduceNe, Int.reduceGE, Int.reduceGT, Nat.reduceBEq, Int.reduceToNat,  n2]; repeat' (first | with_reducible rfl | (refine And.intro ?_ ?_) | (refine congrArg (Value.int _) ?_; omega) | omega); all_goals (first | (simp; done) | omega))
                        | (exfalso; simp_all; done)
                    · have n2 : (if e < k + 1 then l1.take (i + 1) else l1.take i) = (if e < k then l1.take (i + 1) else l1.take i) := by
                        by_cases h5 : e < k
                        · rw [if_pos h5, if_pos (by omega)]
                        · rw [if_neg h5, if_neg (by omega)]
                      generalize (if e < k then l1.take (i + 1) else l1.take i) = cur at *
                      have hs := recol_src (q := q) (c := a + b) (l := cur) hlk
                      have hne : (q.getD k Pz).src ≠ (q.getD e Pz).src := fun e2 => hke (src_of hok hlk hbd e2)
                      generalize hw : (recol q (a + b) cur).getD k Pz = w at *
                      have ez : (w.src = (q.getD e Pz).src) = False := eq_false (by rw [hs]; exact hne)
                      simp (config := { maxSteps := 2000000 }) only [go_sem, hG, hP, Nat.reduceEqDiff, ↓reduceIte, reduceCtorEq, Nat.reduceAdd, Nat.reduceSub, Nat.reduceMul, Nat.reduceLT, Nat.reduceLeDiff, Int.reduceAdd, Int.reduceSub, Int.reduceMul, Int.reduceLT, Int.reduceLE, Int.reduceEq, Int.reduceNeg, Int.reduceNe, Int.reduceGE, Int.reduceGT, Nat.reduceBEq, Int.reduceToNat,  e0, e1, hmg, hw, ez, recol_len, mvs_len]
                      (try simp (disch := omega) only [wrap_id])
                      repeat (refine And.intro (by first | omega | (simp; done) | (simp; omega) | (unfold appRoom; omega)) ?_)
                      repeat' (first | (refine And.intro ?_ ?_) | (with_reducible intro _))
                      all_goals first
                        | omega
                        | (refine ⟨k + 1, ⟨by omega, by omega⟩, SubS.weak ?_⟩; simp (config := { maxSteps := 2000000 }) only [go_sem, hG, hP, Nat.reduceEqDiff, ↓reduceIte, reduceCtorEq, Nat.reduceAdd, Nat.reduceSub, Nat.reduceMul, Nat.reduceLT, Nat.reduceLeDiff, Int.reduceAdd, Int.reduceSub, Int.reduceMul, Int.reduceLT, Int.reduceLE, Int.reduceEq, Int.reduceNeg, Int.reduceNe, Int.reduceGE, Int.reduceGT, Nat.reduceBEq, Int.reduceToNat,  n2]; repeat' (first | with_reducible rfl | (refine And.intro ?_ ?_) | (refine congrArg (Value.int _) ?_; omega) | omega); all_goals (first | (simp; done) | omega))
                  · have e1 : ((k : Int) < (q.length : Int)) = False := eq_false (by omega)
                    have n1 : (if e < k then l1.take (i + 1) else l1.take i) = l1.take (i + 1) := if_pos (by omega)
                    have hlq := lok.le
                    dsimp only at hlq
                    simp (config := { maxSteps := 2000000 }) only [go_sem, hG, hP, Nat.reduceEqDiff, ↓reduceIte, reduceCtorEq, Nat.reduceAdd, Nat.reduceSub, Nat.reduceMul, Nat.reduceLT, Nat.reduceLeDiff, Int.reduceAdd, Int.reduceSub, Int.reduceMul, Int.reduceLT, Int.reduceLE, Int.reduceEq, Int.reduceNeg, Int.reduceNe, Int.reduceGE, Int.reduceGT, Nat.reduceBEq, Int.reduceToNat,  e1, n1]
                    (try simp (disch := omega) only [wrap_id])
                    refine ⟨i + 1, ⟨by omega, by omega⟩, SubS.weak ?_⟩
                    simp (config := { maxSteps := 2000000 }) only [go_sem, hG, hP, Nat.reduceEqDiff, ↓reduceIte, reduceCtorEq, Nat.reduceAdd, Nat.reduceSub, Nat.reduceMul, Nat.reduceLT, Nat.reduceLeDiff, Int.reduceAdd, Int.reduceSub, Int.reduceMul, Int.reduceLT, Int.reduceLE, Int.reduceEq, Int.reduceNeg, Int.reduceNe, Int.reduceGE, Int.reduceGT, Nat.reduceBEq, Int.reduceToNat]
                    repeat' (first | with_reducible rfl | (refine And.intro ?_ ?_) | (refine congrArg (Value.int _) ?_; omega) | omega)
              · have e0 : ((i : Int) < (l1.length : Int)) = False := eq_false (by omega)
                obtain rfl : i = l1.length := by omega
                rw [List.take_length]
                have rtk : (recol q (a + b) l1).take q.length = recol q (a + b) l1 := List.take_of_length_le (by rw [recol_len]; omega)
                have mtk : (mvs q (a + b) l1).take l1.length = mvs q (a + b) l1 := List.take_of_length_le (by rw [mvs_len]; omega)
                simp (config := { maxSteps := 2000000 }) only [go_sem, hG, hP, Nat.reduceEqDiff, ↓reduceIte, reduceCtorEq, Nat.reduceAdd, Nat.reduceSub, Nat.reduceMul, Nat.reduceLT, Nat.reduceLeDiff, Int.reduceAdd, Int.reduceSub, Int.reduceMul, Int.reduceLT, Int.reduceLE, Int.reduceEq, Int.reduceNeg, Int.reduceNe, Int.reduceGE, Int.reduceGT, Nat.reduceBEq, Int.reduceToNat,  e0, recol_len, rtk, mtk]
                repeat (refine And.intro (by first | omega | (simp; done) | (simp; omega) | (unfold appRoom; omega)) ?_)
                refine ⟨_, _, _, ?_, h⟩
                simp (config := { maxSteps := 2000000 }) only [go_sem, hG, hP, Nat.reduceEqDiff, ↓reduceIte, reduceCtorEq, Nat.reduceAdd, Nat.reduceSub, Nat.reduceMul, Nat.reduceLT, Nat.reduceLeDiff, Int.reduceAdd, Int.reduceSub, Int.reduceMul, Int.reduceLT, Int.reduceLE, Int.reduceEq, Int.reduceNeg, Int.reduceNe, Int.reduceGE, Int.reduceGT, Nat.reduceBEq, Int.reduceToNat,  rtk, mtk]
                repeat' (first | with_reducible rfl | (refine And.intro ?_ ?_) | (refine congrArg (Value.int _) ?_; omega) | omega)
                all_goals (first | (simp [mvs_len, recol_len]; done) | (rw [rtk]; done) | exact mtk)
  · exact hsf2.elim
end Go.Proofs.YtgmcijagaielaaaE

/-! The code of a function, in the engine's words. -/
namespace Go.Proofs.YtgmcijagaielaaaE
open Go Go.RowKit
@[reducible] def ic6 : IC := (.seq (.ops [⟨some 3, .box (.tmp 0), none⟩, ⟨some 6, .mov (.const (.bool false)), none⟩]) (.seq (.ops [⟨some 7, .mov (.const (.int .i64 1048576)), none⟩]) (.seq (.ops [⟨some 21, .load 4 true (.tmp 3), none⟩, ⟨some 22, .mov (.tmp 7), none⟩, ⟨some 23, .call 9 [(.tmp 21), (.tmp 22)], none⟩, ⟨some 7, .mov (.tmp 23), none⟩]) (.seq (.seq (.ops [⟨some 24, .mov (.tmp 7), none⟩, ⟨some 25, .bin .lss (.tmp 24) (.const (.int .i64 0)), none⟩]) (.cond (.tmp 25) (.seq (.ops [⟨some 6, .mov (.const (.bool true)), none⟩]) .ret) .skip)) (.seq (.ops [⟨some 27, .load 4 true (.tmp 3), none⟩, ⟨some 28, .call 11 [(.tmp 27)], none⟩, ⟨some 29, .mov (.tmp 1), none⟩, ⟨some 30, .mov (.tmp 2), none⟩, ⟨some 31, .call 23 [(.tmp 28), (.tmp 29), (.tmp 30)], none⟩, ⟨some 26, .mov (.tmp 31), none⟩, ⟨some 32, .ext (.tmp 26) 0, none⟩, ⟨some 33, .ext (.tmp 26) 1, none⟩, ⟨some 34, .ext (.tmp 26) 2, none⟩, ⟨some 8, .new [(.int .i64 0), (.int .i64 0), (.int .i64 0), (.slice none 0 0)], none⟩, ⟨none, .store 4 (.tmp 8) (.tmp 32), none⟩, ⟨some 9, .mov (.tmp 33), none⟩, ⟨some 10, .mov (.tmp 34), none⟩]) (.seq (.ops [⟨some 35, .load 4 true (.tmp 3), none⟩, ⟨some 36, .call 11 [(.tmp 35)], none⟩, ⟨some 11, .new [(.int .i64 0), (.int .i64 0), (.int .i64 0), (.slice none 0 0)], none⟩, ⟨none, .store 4 (.tmp 11) (.tmp 36), none⟩]) (.seq (.ops [⟨some 38, .load 4 true (.tmp 11), none⟩, ⟨some 39, .mov (.tmp 1), none⟩, ⟨some 40, .mov (.tmp 2), none⟩, ⟨some 41, .call 24 [(.tmp 38), (.tmp 39), (.tmp 40)], none⟩, ⟨some 37, .mov (.tmp 41), none⟩, ⟨some 42, .ext (.tmp 37) 0, none⟩, ⟨some 43, .ext (.tmp 37) 1, none⟩, ⟨some 44, .ext (.tmp 37) 2, none⟩, ⟨some 12, .new [(.int .i64 0), (.int .i64 0), (.int .i64 0), (.slice none 0 0)], none⟩, ⟨none, .store 4 (.tmp 12) (.tmp 42), none⟩, ⟨some 13, .mov (.tmp 43), none⟩, ⟨some 14, .mov (.tmp 44), none⟩]) (.seq (.seq (.ops [⟨some 45, .load 4 true (.tmp 12), none⟩, ⟨some 46, .load 4 true (.tmp 8), none⟩, ⟨some 47, .call 13 [(.tmp 45), (.tmp 46)], none⟩, ⟨some 48, .una .not (.tmp 47), none⟩, ⟨some 49, .mov (.tmp 48), none⟩, ⟨some 50, .mov (.tmp 13), some (49, false)⟩, ⟨some 51, .mov (.tmp 9), some (49, false)⟩, ⟨some 52, .call 25 [(.tmp 50), (.tmp 51)], some (49, false)⟩, ⟨some 53, .una .not (.tmp 52), some (49, false)⟩, ⟨some 54, .pick (.tmp 49) (.const (.bool true)) (.tmp 53), none⟩, ⟨some 55, .mov (.tmp 54), none⟩, ⟨some 56, .mov (.tmp 14), some (55, false)⟩, ⟨some 57, .mov (.tmp 10), some (55, false)⟩, ⟨some 58, .bin .neq (.tmp 56) (.tmp 57), some (55, false)⟩, ⟨some 59, .pick (.tmp 55) (.const (.bool true)) (.tmp 58), none⟩]) (.cond (.tmp 59) (.seq (.ops [⟨some 6, .mov (.const (.bool false)), none⟩]) .ret) .skip)) (.seq (.seq (.draw [⟨some 60, .load 4 true (.tmp 11), none⟩, ⟨some 61, .load 4 true (.tmp 3), none⟩, ⟨some 62, .call 11 [(.tmp 61)], none⟩, ⟨some 63, .call 13 [(.tmp 60), (.tmp 62)], none⟩, ⟨some 64, .una .not (.tmp 63), none⟩] (.held ⟨some 60, .load 4 true (.tmp 11), none⟩ (.held ⟨some 61, .load 4 true (.tmp 3), none⟩ (.alt ⟨some 62, .call 11 [(.tmp 61)], none⟩ (.alt ⟨some 63, .call 13 [(.tmp 60), (.tmp 62)], none⟩ (.held ⟨some 64, .una .not (.tmp 63), none⟩ .done) .stop) .stop)))) (.cond (.tmp 64) (.seq (.ops [⟨some 6, .mov (.const (.bool false)), none⟩]) .ret) .skip)) (.seq (.ops [⟨some 15, .mov (.const (.int .i64 1)), none⟩]) (.seq (.ops [⟨some 65, .load 4 true (.tmp 11), none⟩, ⟨some 66, .mov (.tmp 15), none⟩, ⟨some 67, .call 16 [(.tmp 65), (.tmp 66)], none⟩, ⟨some 15, .mov (.tmp 67), none⟩]) (.seq (.seq (.ops [⟨some 68, .mov (.tmp 15), none⟩, ⟨some 69, .bin .lss (.tmp 68) (.const (.int .i64 0)), none⟩, ⟨some 70, .mov (.tmp 69), none⟩, ⟨some 71, .load 4 true (.tmp 12), some (70, false)⟩, ⟨some 72, .load 4 true (.tmp 8), some (70, false)⟩, ⟨some 73, .call 13 [(.tmp 71), (.tmp 72)], some (70, false)⟩, ⟨some 74, .una .not (.tmp 73), some (70, false)⟩, ⟨some 75, .pick (.tmp 70) (.const (.bool true)) (.tmp 74), none⟩, ⟨some 76, .mov (.tmp 75), none⟩, ⟨some 77, .mov (.tmp 13), some (76, false)⟩, ⟨some 78, .mov (.tmp 9), some (76, false)⟩, ⟨some 79, .call 25 [(.tmp 77), (.tmp 78)], some (76, false)⟩, ⟨some 80, .una .not (.tmp 79), some (76, false)⟩, ⟨some 81, .pick (.tmp 76) (.const (.bool true)) (.tmp 80), none⟩, ⟨some 82, .mov (.tmp 81), none⟩, ⟨some 83, .mov (.tmp 14), some (82, false)⟩, ⟨some 84, .mov (.tmp 10), some (82, false)⟩, ⟨some 85, .bin .neq (.tmp 83) (.tmp 84), some (82, false)⟩, ⟨some 86, .pick (.tmp 82) (.const (.bool true)) (.tmp 85), none⟩]) (.cond (.tmp 86) (.seq (.ops [⟨some 6, .mov (.const (.bool false)), none⟩]) .ret) .skip)) (.seq (.ops [⟨some 16, .mov (.const (.int .i64 1)), none⟩]) (.seq (.ops [⟨some 87, .load 4 true (.tmp 12), none⟩, ⟨some 88, .mov (.tmp 16), none⟩, ⟨some 89, .call 16 [(.tmp 87), (.tmp 88)], none⟩, ⟨some 16, .mov (.tmp 89), none⟩]) (.seq (.ops [⟨some 90, .mov (.tmp 13), none⟩, ⟨some 91, .mov (.tmp 16), none⟩, ⟨some 92, .call 26 [(.tmp 90), (.tmp 91)], none⟩, ⟨some 16, .mov (.tmp 92), none⟩]) (.seq (.ops [⟨some 17, .mov (.const (.int .i64 1)), none⟩]) (.seq (.ops [⟨some 93, .load 4 true (.tmp 12), none⟩, ⟨some 94, .mov (.tmp 17), none⟩, ⟨some 95, .call 17 [(.tmp 93), (.tmp 94)], none⟩, ⟨some 17, .mov (.tmp 95), none⟩]) (.seq (.seq (.ops [⟨some 96, .mov (.tmp 17), none⟩, ⟨some 97, .bin .lss (.tmp 96) (.const (.int .i64 0)), none⟩]) (.cond (.tmp 97) (.seq (.ops [⟨some 6, .mov (.const (.bool false)), none⟩]) .ret) .skip)) (.seq (.ops [⟨some 98, .mov (.tmp 13), none⟩, ⟨some 99, .mov (.tmp 17), none⟩, ⟨some 100, .call 27 [(.tmp 98), (.tmp 99)], none⟩, ⟨some 17, .mov (.tmp 100), none⟩]) (.seq (.seq (.ops [⟨some 101, .mov (.tmp 17), none⟩, ⟨some 102, .bin .lss (.tmp 101) (.const (.int .i64 0)), none⟩]) (.cond (.tmp 102) (.seq (.ops [⟨some 6, .mov (.const (.bool false)), none⟩]) .ret) .skip)) (.seq (.seq (.ops [⟨some 103, .mov (.tmp 17), none⟩, ⟨some 104, .mov (.tmp 16), none⟩, ⟨some 105, .bin .neq (.tmp 103) (.tmp 104), none⟩]) (.cond (.tmp 105) (.seq (.ops [⟨some 6, .mov (.const (.bool false)), none⟩]) .ret) .skip)) (.seq (.ops [⟨some 107, .load 4 true (.tmp 3), none⟩, ⟨some 108, .call 11 [(.tmp 107)], none⟩, ⟨some 109, .mov (.tmp 1), none⟩, ⟨some 110, .mov (.tmp 2), none⟩, ⟨some 111, .call 24 [(.tmp 108), (.tmp 109), (.tmp 110)], none⟩, ⟨some 106, .mov (.tmp 111), none⟩, ⟨some 112, .ext (.tmp 106) 0, none⟩, ⟨some 113, .ext (.tmp 106) 1, none⟩, ⟨some 114, .ext (.tmp 106) 2, none⟩, ⟨some 18, .new [(.int .i64 0), (.int .i64 0), (.int .i64 0), (.slice none 0 0)], none⟩, ⟨none, .store 4 (.tmp 18) (.tmp 112), none⟩, ⟨some 19, .mov (.tmp 113), none⟩, ⟨some 20, .mov (.tmp 114), none⟩]) (.seq (.seq (.ops [⟨some 115, .load 4 true (.tmp 18), none⟩, ⟨some 116, .load 4 true (.tmp 8), none⟩, ⟨some 117, .call 13 [(.tmp 115), (.tmp 116)], none⟩, ⟨some 118, .una .not (.tmp 117), none⟩, ⟨some 119, .mov (.tmp 118), none⟩, ⟨some 120, .mov (.tmp 19), some (119, false)⟩, ⟨some 121, .mov (.tmp 9), some (119, false)⟩, ⟨some 122, .call 25 [(.tmp 120), (.tmp 121)], some (119, false)⟩, ⟨some 123, .una .not (.tmp 122), some (119, false)⟩, ⟨some 124, .pick (.tmp 119) (.const (.bool true)) (.tmp 123), none⟩, ⟨some 125, .mov (.tmp 124), none⟩, ⟨some 126, .mov (.tmp 20), some (125, false)⟩, ⟨some 127, .mov (.tmp 10), some (125, false)⟩, ⟨some 128, .bin .neq (.tmp 126) (.tmp 127), some (125, false)⟩, ⟨some 129, .pick (.tmp 125) (.const (.bool true)) (.tmp 128), none⟩]) (.cond (.tmp 129) (.seq (.ops [⟨some 6, .mov (.const (.bool false)), none⟩]) .ret) .skip)) (.seq (.ops [⟨some 17, .mov (.const (.int .i64 1)), none⟩]) (.seq (.ops [⟨some 130, .load 4 true (.tmp 12), none⟩, ⟨some 131, .mov (.tmp 17), none⟩, ⟨some 132, .call 17 [(.tmp 130), (.tmp 131)], none⟩, ⟨some 17, .mov (.tmp 132), none⟩]) (.seq (.seq (.ops [⟨some 133, .mov (.tmp 17), none⟩, ⟨some 134, .bin .lss (.tmp 133) (.const (.int .i64 0)), none⟩]) (.cond (.tmp 134) (.seq (.ops [⟨some 6, .mov (.const (.bool false)), none⟩]) .ret) .skip)) (.seq (.ops [⟨some 135, .mov (.tmp 13), none⟩, ⟨some 136, .mov (.tmp 17), none⟩, ⟨some 137, .call 27 [(.tmp 135), (.tmp 136)], none⟩, ⟨some 17, .mov (.tmp 137), none⟩]) (.seq (.seq (.ops [⟨some 138, .mov (.tmp 17), none⟩, ⟨some 139, .bin .lss (.tmp 138) (.const (.int .i64 0)), none⟩]) (.cond (.tmp 139) (.seq (.ops [⟨some 6, .mov (.const (.bool false)), none⟩]) .ret) .skip)) (.seq (.seq (.ops [⟨some 140, .mov (.tmp 17), none⟩, ⟨some 141, .mov (.tmp 16), none⟩, ⟨some 142, .bin .neq (.tmp 140) (.tmp 141), none⟩]) (.cond (.tmp 142) (.seq (.ops [⟨some 6, .mov (.const (.bool false)), none⟩]) .ret) .skip)) (.seq (.ops [⟨some 6, .mov (.const (.bool true)), none⟩]) .ret))))))))))))))))))))))))))))))
@[reducible] def rv6 : List RV := [.tmp 6]
theorem low6 : lowC Try.prog tau Try.f6.ntmps (Try.f6.body.getD .skip) = some (erase ic6) := by kernel_rfl
theorem res6 : lowR Try.prog Try.f6.results.toList = some rv6 := by kernel_rfl
theorem bod6 : Try.f6.body = some (Try.f6.body.getD .skip) := by kernel_rfl
theorem cal6 : callable Try.prog 6 = true := by kernel_rfl

end Go.Proofs.YtgmcijagaielaaaE

/-! The law of Connect. -/
namespace Go.Proofs.YtgmcijagaielaaaE
open Go Go.RowKit
set_option linter.unusedSimpArgs false
set_option linter.unusedVariables false
set_option maxRecDepth 20000
set_option maxHeartbeats 4000000

theorem take_mm {k : Int} {n : Nat} : (moveMarks k n).take n = moveMarks k n := List.take_of_length_le (by rw [moveMarks_len]; omega)
theorem held_mm {k : Int} {n : Nat} : heldMv (moveMarks k n) k = k + 2 * n := by unfold heldMv; rw [moveMarks_len, if_pos rfl]
def spLaw6 : Spec := ⟨fun _ _ => [], fun args objs K => match args, objs with
  | [.agg [.v (.int .i64 s), .v (.int .i64 p), .v (.int .i64 m), .rs .path q], .v (.int .i64 x), .v (.int .i64 y)], [] => q.length ≤ 17592186044416 ∧ K (.v (.bool true)) [] 0
  | _, _ => False, false⟩
theorem spLaw6_t {L : Hp} {a : List AVal} : Spec.take spLaw6 L a = [] := id rfl
theorem spLaw6_k : Spec.keep spLaw6 = false := id rfl
theorem spLaw6_f {s} {p} {m} {q} {x} {y} {K : AVal → Hp → Nat → Prop} : Spec.f spLaw6 ([.agg [.v (.int .i64 s), .v (.int .i64 p), .v (.int .i64 m), .rs .path q], .v (.int .i64 x), .v (.int .i64 y)]) ([]) K = (q.length ≤ 17592186044416 ∧ K (.v (.bool true)) [] 0) := id rfl
theorem valid6 : Valid Try.prog 6 spLaw6 := by
  refine validI (Γ := lk [(9, spSzFb), (11, spToFb), (23, spConn), (24, spConn), (25, spEqMvS), (13, spEqFb), (16, spMarkFb), (26, spMarkMvS), (17, spHeldFb), (27, spHeldMvS)]) Try.func6 bod6 low6 res6 (good_of ⟨⟨cal9, valid9⟩, ⟨cal11, valid11⟩, ⟨cal23, valid23⟩, ⟨cal24, valid24⟩, ⟨cal25, valid25⟩, ⟨cal13, valid13⟩, ⟨cal16, valid16⟩, ⟨cal26, valid26⟩, ⟨cal17, valid17⟩, ⟨cal27, valid27⟩, trivial⟩) ?_
  intro E args objs K h hE hG hP
  simp only [spLaw6] at h
  split at h
  · refine ⟨by simp [Try.ntmps6], ?_⟩
    rename_i s p m q x y
    obtain ⟨b1, h⟩ := h
    have hlen := @conn_len ⟨s, p, m, q⟩ x y
    rcases hl : conn ⟨s, p, m, q⟩ x y with ⟨q', mv, c⟩
    rw [hl] at hlen
    dsimp only at hlen
    simp (config := { maxSteps := 2000000 }) only [go_sem, hG, hP, Nat.reduceEqDiff, ↓reduceIte, reduceCtorEq, Nat.reduceAdd, Nat.reduceSub, Nat.reduceMul, Nat.reduceLT, Nat.reduceLeDiff, Int.reduceAdd, Int.reduceSub, Int.reduceMul, Int.reduceLT, Int.reduceLE, Int.reduceEq, Int.reduceNeg, Int.reduceNe, Int.reduceGE, Int.reduceGT, Nat.reduceBEq, Int.reduceToNat,  spSzFb_f, spSzFb_t, spSzFb_k, spToFb_f, spToFb_t, spToFb_k, spConn_f, spConn_t, spConn_k, spEqMvS_f, spEqMvS_t, spEqMvS_k, spEqFb_f, spEqFb_t, spEqFb_k, spMarkFb_f, spMarkFb_t, spMarkFb_k, spMarkMvS_f, spMarkMvS_t, spMarkMvS_k, spHeldFb_f, spHeldFb_t, spHeldFb_k, spHeldMvS_f, spHeldMvS_t, spHeldMvS_k, hl, takeA4_eq, take1_eq, bb_self, take_pm, take_mm, pathMarks_len, moveMarks_len, held_pm, held_mm]
    repeat (refine And.intro (by first | omega | (simp; done) | (simp; omega) | (unfold appRoom; omega)) ?_)
    refine ⟨fun hs => ⟨_, _, _, ?_, h⟩, fun hs => ?_⟩
    · simp (config := { maxSteps := 2000000 }) only [go_sem, hG, hP, Nat.reduceEqDiff, ↓reduceIte, reduceCtorEq, Nat.reduceAdd, Nat.reduceSub, Nat.reduceMul, Nat.reduceLT, Nat.reduceLeDiff, Int.reduceAdd, Int.reduceSub, Int.reduceMul, Int.reduceLT, Int.reduceLE, Int.reduceEq, Int.reduceNeg, Int.reduceNe, Int.reduceGE, Int.reduceGT, Nat.reduceBEq, Int.reduceToNat]
    have hz := szStep_len (by omega) hs
    repeat' (first | (refine And.intro ?_ ?_) | (with_reducible intro _))
    all_goals first | omega | (refine ⟨_, _, _, ?_, h⟩; simp (config := { maxSteps := 2000000 }) only [go_sem, hG, hP, Nat.reduceEqDiff, ↓reduceIte, reduceCtorEq, Nat.reduceAdd, Nat.reduceSub, Nat.reduceMul, Nat.reduceLT, Nat.reduceLeDiff, Int.reduceAdd, Int.reduceSub, Int.reduceMul, Int.reduceLT, Int.reduceLE, Int.reduceEq, Int.reduceNeg, Int.reduceNe, Int.reduceGE, Int.reduceGT, Nat.reduceBEq, Int.reduceToNat]; all_goals (first | (simp; done) | omega))
  · exact h.elim
end Go.Proofs.YtgmcijagaielaaaE

/-! What an argument of a law reads as, in the engine's words; and what a proved function gives a law. -/
namespace Go.Proofs.YtgmcijagaielaaaE
open Go Go.RowKit Go.ChangeShapes Go.WideShapes
set_option linter.unusedSimpArgs false
set_option linter.unusedVariables false

def nm0 : Nm := fun _ => none
def noC : CR := ⟨fun _ => False, fun _ => False, fun _ h => h⟩
/-- What type t's data read as, by d; ok: what is known of it. -/
def Tells (P : Program) (t : TypeId) {α : Type} (n : Nat) (d : α → List AVal) (ok : α → Prop) : Prop :=
  ∀ (H : Type) (enc : TypeId × Value → H) (W : World) (base : Nat) (spare : Nat → Bool) (held : Bool) (fuel : Nat) (cs : List Value) (x : DataW H × List MemPlace),
    DataW.trod enc P W base spare held fuel t cs = some x → (∀ b ∈ x.1.weights P t, b ≤ reachBytes) → ∃ y : α, (DenL W noC nm0 (d y) cs ∧ cs.length = n) ∧ ok y
def TellsF (P : Program) (fs : List Field) (off : Nat) {α : Type} (n : Nat) (d : α → List AVal) (ok : α → Prop) : Prop :=
  ∀ (H : Type) (enc : TypeId × Value → H) (W : World) (base : Nat) (spare : Nat → Bool) (held : Bool) (fuel : Nat) (cs : List Value) (xs : List (DataW H × List MemPlace)),
    (∀ (i : Nat) (f : Field), fs[i]? = some f → DataW.trod enc P W base spare held fuel f.type ((cs.drop f.offset).take (P.cellsOf f.type)) = xs[i]?) → xs.length = fs.length → cs.length = off + n →
    (∀ (i : Nat) (f : Field) x, fs[i]? = some f → xs[i]? = some x → ∀ b ∈ x.1.weights P f.type, b ≤ reachBytes) → ∃ y : α, (DenL W noC nm0 (d y) (cs.drop off)) ∧ ok y

theorem den1 {W : World} (v : Value) : DenL W noC nm0 [.v v] [v] := DenL.cons (.v v) .nil
theorem Tells.int {P : Program} {t : TypeId} {k : IntKind} (ht : P.underlying t = some (.int k)) : Tells P t 1 (fun n : Int => [.v (.int k n)]) (fun n => (Lit.int k n).wf = true) := by
  intro H enc W base spare held fuel cs x h _
  cases fuel with
  | zero => simp [DataW.trod] at h
  | succ m =>
    unfold DataW.trod at h
    rw [ht] at h
    split at h <;> simp_all
    obtain ⟨⟨_, h1⟩, _⟩ := h
    exact ⟨_, den1 _, h1⟩
theorem Tells.bool {P : Program} {t : TypeId} (ht : P.underlying t = some .bool) : Tells P t 1 (fun b : Bool => [.v (.bool b)]) (fun _ => True) := by
  intro H enc W base spare held fuel cs x h _
  cases fuel with
  | zero => simp [DataW.trod] at h
  | succ m =>
    unfold DataW.trod at h
    rw [ht] at h
    split at h <;> simp_all
    rename_i b
    cases b
    · exact .inl (den1 _)
    · exact .inr (den1 _)
theorem Tells.string {P : Program} {t : TypeId} (ht : P.underlying t = some .string) : Tells P t 1 (fun s : ByteArray => [.v (.string s)]) (fun s => s.size ≤ 140737488351232) := by
  intro H enc W base spare held fuel cs x h hw
  cases fuel with
  | zero => simp [DataW.trod] at h
  | succ m =>
    unfold DataW.trod at h
    rw [ht] at h
    split at h <;> simp_all
    obtain ⟨_, h2⟩ := h
    subst h2
    refine ⟨_, den1 _, ?_⟩
    have := hw _ (by simp only [DataW.weights]; exact List.mem_singleton.2 rfl)
    rw [Array.length_toList] at this
    exact this
theorem weights_all {H : Type} {P : Program} {e : TypeId} {ds : List (DataW H)} {d : DataW H} (hd : d ∈ ds) {b : Nat} (hb : b ∈ d.weights P e) : b ∈ DataW.weightsAll P e ds := by
  induction ds with
  | nil => cases hd
  | cons a r ih =>
    simp only [DataW.weightsAll, List.mem_append]
    rcases List.mem_cons.1 hd with rfl | hd
    · exact .inl hb
    · exact .inr (ih hd)
theorem Tells.slice {P : Program} {t e : TypeId} (ht : P.underlying t = some (.slice e)) {τ : Ty} {ok : τ.D → Prop} (he : Tells P e (sz τ) (enc τ) ok) (hs : P.cellsOf e = sz τ) {B : Nat} (hB : P.bytesOf e = B) :
    Tells P t 1 (fun xs : List τ.D => [.rs τ xs]) (fun xs => xs.length * B ≤ 140737488351232 ∧ xs.length ≤ maxLen ∧ ∀ x ∈ xs, ok x) := by
  intro H enc' W base spare held fuel cs x h hw
  rcases Go.Deep.open_slice ht h with ⟨rfl, rfl⟩ | ⟨a, len, cap, m, n, D, Pl, rfl, hb, hl, hm, hmm, rfl, hx⟩
  · exact ⟨[], ⟨DenL.cons (Den.rs (t := τ) (xs := []) (A := none) (c := 0) (fun _ => undef) (.inl (by simp)) (Nat.le_refl _) (fun i f x av hx => by simp at hx)) .nil, rfl⟩, by simp [maxLen]⟩
  · have hlm : len ≤ m := by rw [hmm]; split <;> omega
    have hel : ∀ i, i < len → ∃ y : τ.D, (∃ c, W.cells? base (a.add (i * P.cellsOf e)) (P.cellsOf e) = some c ∧ (DenL W noC nm0 (enc τ y) c ∧ c.length = sz τ)) ∧ ok y := by
      intro i hi
      obtain ⟨c, hc, hd⟩ := hx i (by omega)
      obtain ⟨y, hy, hok⟩ := he H enc' W base spare held n c _ hd (fun b hb => hw b (by
        simp only [DataW.weights, ht, List.mem_cons, List.mem_append]
        exact .inr (.inl (weights_all (List.mem_map.2 ⟨i, List.mem_range.2 hi, rfl⟩) hb))))
      exact ⟨y, ⟨c, hc, hy⟩, hok⟩
    have : Inhabited τ.D := ⟨dflt τ⟩
    obtain ⟨f, hf⟩ := Go.Deep.choose_lt hel
    have hlen : ((List.range len).map f).length = len := by simp
    have hcell : ∀ i, i < len → ∃ c, DenL W noC nm0 (enc τ (f i)) c ∧ c.length = sz τ ∧ ∀ j, j < sz τ → W.cell? (a.add (i * sz τ + j)) = c[j]? := by
      intro i hi
      obtain ⟨⟨c, hc, hd, hcl⟩, _⟩ := hf i hi
      refine ⟨c, hd, hcl, fun j hj => ?_⟩
      have hc' := World.cells?_some hc
      rw [hs] at hc'
      have := hc'.2.2 j hj
      rw [← this, Go.Deep.add_add]
    have hall : ∀ k, k < len * sz τ → ∃ u, W.cell? (a.add k) = some u := by
      intro k hk
      have hz := sz_pos τ
      have hi : k / sz τ < len := Nat.div_lt_of_lt_mul (by rw [Nat.mul_comm]; exact hk)
      have hj : k % sz τ < sz τ := Nat.mod_lt _ hz
      obtain ⟨c, _, hcl, hc⟩ := hcell _ hi
      refine ⟨c[k % sz τ]'(by omega), ?_⟩
      have := hc _ hj
      rw [show k / sz τ * sz τ + k % sz τ = k by rw [Nat.mul_comm]; exact Nat.div_add_mod k (sz τ)] at this
      rw [this, List.getElem?_eq_getElem]
    refine ⟨(List.range len).map f, ⟨DenL.cons ?_ .nil, rfl⟩, ?_, by rw [hlen]; exact Nat.le_trans hl hm, ?_⟩
    · have key : Den W noC nm0 (.rs τ ((List.range len).map f)) (.slice (some a) ((List.range len).map f).length cap) := by
        refine .rs (fun k => (W.cell? (a.add k)).getD undef) ?_ (by rw [hlen]; exact hl) ?_
        · rw [hlen]
          rcases Nat.eq_zero_or_pos (len * sz τ) with h0 | hp
          · exact .inl h0
          · obtain ⟨u, hu⟩ := hall 0 hp
            refine .inr ⟨a, rfl, ?_, fun h => h, fun k hk => ?_⟩
            · have := World.block_lt_of_cell? _ _ hu
              simpa [Addr.add] using this
            · obtain ⟨u, hu⟩ := hall k hk
              simp [hu]
        · intro i j x av hx hav
          have hi : i < len := by
            have := (List.getElem?_eq_some_iff.1 hx).1
            rwa [hlen] at this
          have hx' : f i = x := by simpa [hi] using hx
          subst hx'
          obtain ⟨c, hd, hcl, hc⟩ := hcell i hi
          have hj : j < sz τ := by
            have := (List.getElem?_eq_some_iff.1 hav).1
            rwa [enc_length] at this
          have := hc j hj
          rw [this, List.getElem?_eq_getElem (by omega)]
          exact hd.2 j av _ hav (List.getElem?_eq_getElem (by omega))
      rw [hlen] at key
      exact key
    · rw [hlen]
      have := hw ((((List.range len).map D).length + ((List.range (m - len)).map fun j => D (len + j)).length) * P.bytesOf e) (by simp only [DataW.weights, ht]; exact List.mem_cons_self)
      rw [hB] at this
      simp only [List.length_map, List.length_range] at this
      have h2 : len * B ≤ (len + (m - len)) * B := Nat.mul_le_mul_right _ (by omega)
      unfold reachBytes at this
      omega
    · intro y hy
      obtain ⟨i, hi, rfl⟩ := List.mem_map.1 hy
      exact (hf i (List.mem_range.1 hi)).2
theorem TellsF.one {P : Program} {f : Field} {off n : Nat} {α : Type} {d : α → List AVal} {ok : α → Prop} (h : Tells P f.type n d ok) (ho : f.offset = off) (hc : P.cellsOf f.type = n) : TellsF P [f] off n d ok := by
  intro H enc W base spare held fuel cs xs hx hl hcs hw
  match xs, hl with
  | [x], _ =>
    have h0 := hx 0 f rfl
    rw [ho, hc, List.take_of_length_le (by rw [List.length_drop]; omega)] at h0
    obtain ⟨y, hy, hok⟩ := h H enc W base spare held fuel _ x h0 (hw 0 f x rfl rfl)
    exact ⟨y, hy.1, hok⟩
theorem TellsF.cons {P : Program} {f : Field} {fs : List Field} {off n n' : Nat} {α β : Type} {d : α → List AVal} {d' : β → List AVal} {ok : α → Prop} {ok' : β → Prop} (h : Tells P f.type n d ok) (ho : f.offset = off) (hc : P.cellsOf f.type = n)
    (r : TellsF P fs (off + n) n' d' ok') : TellsF P (f :: fs) off (n + n') (fun x : α × β => d x.1 ++ d' x.2) (fun x => ok x.1 ∧ ok' x.2) := by
  intro H enc W base spare held fuel cs xs hx hl hcs hw
  match xs, hl with
  | x :: xs, hl =>
    have h0 := hx 0 f rfl
    rw [ho, hc] at h0
    obtain ⟨y, hy, hok⟩ := h H enc W base spare held fuel _ x h0 (hw 0 f x rfl rfl)
    obtain ⟨y', hy', hok'⟩ := r H enc W base spare held fuel cs xs (fun i g hg => hx (i + 1) g hg) (by simpa using hl) (by omega) (fun i g z hg hz => hw (i + 1) g z hg hz)
    refine ⟨(y, y'), ?_, hok, hok'⟩
    have := hy.1.append hy'
    rw [← List.drop_drop, List.take_append_drop] at this
    exact this
theorem weights_each {H : Type} {P : Program} {fs : List Field} : ∀ {xs : List (DataW H × List MemPlace)} {i : Nat} {f : Field} {x : DataW H × List MemPlace}, fs[i]? = some f → xs[i]? = some x → ∀ b ∈ x.1.weights P f.type, b ∈ DataW.weightsEach P (fs.map (·.type)) (xs.map (·.1)) := by
  intro xs i f x hf hx b hb
  exact DataW.weights_mem_each (j := i) (t := f.type) (d := x.1) (by simp [hf]) (by simp [hx]) b hb
theorem Tells.struct {P : Program} {t : TypeId} {fs : Array Field} (ht : P.underlying t = some (.struct fs)) {α : Type} {n : Nat} {d : α → List AVal} {ok : α → Prop} (h : TellsF P fs.toList 0 n d ok) (hc : P.cellsOf t = n) : Tells P t n d ok := by
  intro H enc W base spare held fuel cs x hx hw
  obtain ⟨xs, m, _, rfl, hl, hlen, hf⟩ := DataW.trod_struct ht hx
  obtain ⟨y, hy, hok⟩ := h H enc W base spare held m cs xs (fun i f hi => hf i f (by rw [← Array.getElem?_toList]; exact hi)) (by simpa using hlen) (by omega) (fun i f x hi hx b hb => hw b (by
    simp only [DataW.weights, ht]
    exact weights_each hi hx b hb))
  exact ⟨y, ⟨by simpa using hy, by omega⟩, hok⟩
/-- An array's elements in line, as fields. -/
theorem Tells.array {P : Program} {t e : TypeId} {k : Nat} (ht : P.underlying t = some (.array k e)) {α : Type} {n : Nat} {d : α → List AVal} {ok : α → Prop} (h : TellsF P ((List.range k).map fun i => { name := "", type := e, offset := i * P.cellsOf e, embedded := false, tag := "", pkgPath := "", byteOffset := 0 }) 0 n d ok)
    (hc : P.cellsOf t = n) : Tells P t n d ok := by
  intro H enc W base spare held fuel cs x hx hw
  obtain ⟨xs, m, _, rfl, hl, hlen, hf⟩ := DataW.trod_array ht hx
  obtain ⟨y, hy, hok⟩ := h H enc W base spare held m cs xs (fun i f hi => by
      have hin : i < k := by
        rcases Nat.lt_or_ge i k with h | h
        · exact h
        · simp [h] at hi
      simp [hin] at hi
      subst hi
      exact hf i hin) (by simpa using hlen) (by omega) (fun i f x hi hx b hb => hw b (by
    have hin : i < k := by
      rcases Nat.lt_or_ge i k with h | h
      · exact h
      · simp [h] at hi
    simp [hin] at hi
    subst hi
    simp only [DataW.weights, ht]
    exact weights_all (List.mem_map.2 ⟨x, List.mem_iff_getElem?.2 ⟨i, hx⟩, rfl⟩) hb))
  exact ⟨y, ⟨by simpa using hy, by omega⟩, hok⟩
/-- The same data, told by another name. -/
theorem Tells.as {P : Program} {t : TypeId} {α β : Type} {n : Nat} {d : α → List AVal} {ok : α → Prop} (h : Tells P t n d ok) (g : α → β) (d' : β → List AVal) (hd : ∀ a, d' (g a) = d a) (ok' : β → Prop) (hok : ∀ a, ok a → ok' (g a)) : Tells P t n d' ok' := by
  intro H enc W base spare held fuel cs x hx hw
  obtain ⟨y, hy, hk⟩ := h H enc W base spare held fuel cs x hx hw
  exact ⟨g y, by rw [hd]; exact hy, hok y hk⟩
theorem okWide_agg {P : Program} {w : World} {r : Reach} {base : Nat} {t : TypeId} {v : Value} (ht : (∃ fs, P.underlying t = some (.struct fs)) ∨ ∃ n e, P.underlying t = some (.array n e)) (h : Value.okWide P w r base t v) : ∃ cs, v = .agg cs ∧ cs.size = P.cellsOf t := by
  rcases ht with ⟨fs, ht⟩ | ⟨n, e, ht⟩
  all_goals
    simp only [Value.okWide, ht] at h
    obtain ⟨cs, h1, h2, _⟩ := h
    exact ⟨cs, h1, h2⟩
section
variable {P : Program} {t : TypeId} {α : Type} {n : Nat} {d : α → List AVal} {ok : α → Prop} {H : Type} {enc : TypeId × Value → H} {W : World} {base : Nat} {spare : Nat → Bool} {held : Bool} {x : DataW H} {ps : List MemPlace} {ts : List TypeId} {ds : List (DataW H)}
/-- A struct (an array) that came in by value. -/
theorem Tells.agg (h : Tells P t n d ok) {cs : Array Value} (hsz : (DataW.weightsEach P ts ds).all (· ≤ reachBytes) = true) (j : Nat) (ht : ts[j]? = some t) (hd : ds[j]? = some x)
    (hx : DataW.Trod enc P W base spare held t (.agg cs) x ps) : ∃ y : α, Den W noC nm0 (.agg (d y)) (.agg cs) ∧ ok y := by
  obtain ⟨fuel, hf⟩ := hx
  have hf' : DataW.trod enc P W base spare held fuel t cs.toList = some (x, ps) := by simpa [Value.cells] using hf
  obtain ⟨y, ⟨hy, _⟩, hok⟩ := h H enc W base spare held fuel cs.toList (x, ps) hf' (fun b hb => by simpa using List.all_eq_true.1 hsz b (DataW.weights_mem_each ht hd b hb))
  exact ⟨y, .agg cs.toList hy.1 hy.2, hok⟩
/-- A value of one cell that came in. -/
theorem Tells.cell {f : α → AVal} (h : Tells P t 1 (fun y => [f y]) ok) {v : Value} (hv : v.cells = #[v]) (hsz : (DataW.weightsEach P ts ds).all (· ≤ reachBytes) = true) (j : Nat) (ht : ts[j]? = some t) (hd : ds[j]? = some x)
    (hx : DataW.Trod enc P W base spare held t v x ps) : ∃ y : α, Den W noC nm0 (f y) v ∧ ok y := by
  obtain ⟨fuel, hf⟩ := hx
  have hf' : DataW.trod enc P W base spare held fuel t [v] = some (x, ps) := by simpa [hv] using hf
  obtain ⟨y, ⟨hy, _⟩, hok⟩ := h H enc W base spare held fuel [v] (x, ps) hf' (fun b hb => by simpa using List.all_eq_true.1 hsz b (DataW.weights_mem_each ht hd b hb))
  exact ⟨y, hy.2 0 _ v rfl rfl, hok⟩
end
/-- A proved law at arguments that can only be read. -/
theorem law_ok {P : Program} {f : Nat} {sp : Spec} (hv : Valid P f sp) {W : World} {args : List AVal} {vals : List Value} (hd : DenL W noC nm0 args vals) (h : ∀ K : AVal → Hp → Nat → Prop, K (.v (.bool true)) [] 0 → sp.f args [] K) :
    Calls P f ⟨vals⟩ W fun e w' => e = .returned (.bool true) ∧ Below W.heap.size W w' := by
  refine Calls.mono (hv W noC nm0 args vals [] (fun r _ _ => r = .v (.bool true)) hd ?_ (h _ rfl)) ?_
  · exact ⟨fun m o h => (by cases h), fun m o m' o' b x b' x' h => (by cases h), fun m o b x h => (by cases h), fun m _ => rfl, rfl, rfl, rfl, Nat.le_refl _, fun b _ _ => rfl⟩
  · rintro e w' ⟨r, v, L', nx', ρ', rfl, hden, hp, _, hr⟩
    subst hr
    rw [den_v hden]
    exact ⟨rfl, hp.os, hp.tape, hp.output, hp.size, fun k hk => hp.old k hk (fun h => h)⟩
end Go.Proofs.YtgmcijagaielaaaE

/-! The law FnExactConnect, as its row states it: whatever the input the law returns true; no condition. -/
namespace Go.Proofs.Ytgmcijagaielaaa.fnExactConnect
open Go.ChangeShapes Go.WideShapes Go.ChangeAt Go.RowKit Go.Proofs.YtgmcijagaielaaaE
set_option linter.unusedVariables false
theorem own : ownKnob Try.prog.godebug = none := by kernel_rfl
theorem laidOut : laidOutB Try.prog = true := by kernel_rfl
theorem T3 : Tells Try.prog 3 1 (fun n : Int => [.v (.int .i64 n)]) (fun _ => True) := (Tells.int Try.underlying3).as id _ (fun _ => rfl) _ (fun _ _ => trivial)
theorem T84 : Tells Try.prog 84 (sz .path) (enc .path) (fun _ => True) :=
  (Tells.struct (n := 1 + (1 + 1)) Try.underlying84 (TellsF.cons (n := 1) (n' := 1 + 1) T3 (by kernel_rfl) (by kernel_rfl) (TellsF.cons (n := 1) (n' := 1) T3 (by kernel_rfl) (by kernel_rfl) (TellsF.one T3 (by kernel_rfl) (by kernel_rfl)))) (by kernel_rfl)).as (fun x : Int × Int × Int => (⟨x.1, x.2.1, x.2.2⟩ : Pth)) (enc .path) (fun _ => rfl) _ (fun _ _ => trivial)
theorem T22 : Tells Try.prog 22 1 (fun xs : List Pth => [.rs .path xs]) (fun xs => xs.length ≤ 17592186044416) := (Tells.slice (τ := .path) Try.underlying22 T84 (by kernel_rfl) (B := 24) (by kernel_rfl)).as id _ (fun _ => rfl) _ (fun xs h => by have := h.1; simp only [id]; omega)
theorem T24 : Tells Try.prog 24 4 (fun d : Fb => [.v (.int .i64 d.s), .v (.int .i64 d.p), .v (.int .i64 d.m), .rs .path d.q]) (fun d => d.q.length ≤ 17592186044416) :=
  (Tells.struct (n := 1 + (1 + (1 + 1))) Try.underlying24 (TellsF.cons (n := 1) (n' := 1 + (1 + 1)) T3 (by kernel_rfl) (by kernel_rfl) (TellsF.cons (n := 1) (n' := 1 + 1) T3 (by kernel_rfl) (by kernel_rfl) (TellsF.cons (n := 1) (n' := 1) T3 (by kernel_rfl) (by kernel_rfl) (TellsF.one T22 (by kernel_rfl) (by kernel_rfl))))) (by kernel_rfl)).as (fun a => (⟨a.1, a.2.1, a.2.2.1, a.2.2.2⟩ : Fb)) _ (fun _ => rfl) _ (fun a h => h.2.2.2)
set_option maxRecDepth 100000 in
set_option maxHeartbeats 1000000 in
theorem lifted (os : Os) (started : os.Started) (H : Type) (enc : TypeId × Value → H) :
    ReturnsInHanded {} Try.checked os 6 .any (Rows.fnExactConnectSpec.pre6 enc Try.prog Try.f6 Rows.fnExactConnectRow.domain false) (Rows.fnExactConnectSpec.post enc Try.prog Try.f6 false true false false) := by
  refine returnsInHanded_of_change_sized (C := Try.checked) own started (by kernel_rfl) Try.func6
    (ChangeSpec.witness6 (enc := enc) (C := Try.checked) false ⟨#[], #[.agg #[.int .i64 0, .int .i64 0, .int .i64 0, .slice none 0 0], .int .i64 0, .int .i64 0], []⟩ 8 (by kernel_rfl) (by kernel_rfl) (by kernel_rfl) (by kernel_rfl)) ?_
  intro W base args ds gs before hval0 hW hcnd hsz0 _
  have hsz : (DataW.weightsEach Try.prog (Try.f6.params.toList ++ Rows.fnExactConnectSpec.plain.varTypes Try.prog) (ds ++ gs)).all (· ≤ reachBytes) = true := hsz0
  have hval : ∀ (j : Nat) t v, Try.f6.params[j]? = some t → args[j]? = some v → Value.okWide Try.prog W .any base t v := hval0
  have hW' := hW
  obtain ⟨p, q, hA0, hV, rfl, hfz, hnd⟩ := hW
  have hA : DataW.TrodAll enc Try.prog W 0 (fun _ => true) true Try.f6.params.toList args.toList ds p := hA0
  rw [Try.params6] at hA hval hsz
  obtain ⟨v0, vs0, d0, ds0, p0, q0, hargs, rfl, rfl, h0, r0⟩ := trodAll_cons hA
  obtain ⟨v1, vs1, d1, ds1, p1, q1, rfl, rfl, rfl, h1, r1⟩ := trodAll_cons r0
  obtain ⟨v2, vs2, d2, ds2, p2, q2, rfl, rfl, rfl, h2, r2⟩ := trodAll_cons r1
  obtain ⟨rfl, rfl, rfl⟩ := trodAll_nil r2
  obtain rfl : args = #[v0, v1, v2] := by cases args; simp_all
  obtain ⟨rfl, rfl⟩ := trodVars_none hV
  obtain ⟨cs0, rfl, _⟩ := okWide_agg (.inl ⟨_, Try.underlying24⟩) (hval 0 24 v0 rfl rfl)
  have k0 := h0
  have lt0 : ∀ x ∈ p0, x.block < W.heap.size := by obtain ⟨m, hm⟩ := k0; exact DataW.trod_lt m _ _ _ hm
  obtain ⟨y0, hK0, o0⟩ := Tells.agg T24 hsz 0 rfl rfl h0
  obtain ⟨a1, rfl, rfl, rfl, w1⟩ := open_int Try.underlying3 (hval 1 3 v1 rfl rfl) h1
  obtain ⟨a2, rfl, rfl, rfl, w2⟩ := open_int Try.underlying3 (hval 2 3 v2 rfl rfl) h2
  clear hA0 hval0 hsz0 hsz
  refine (law_ok valid6 (DenL.cons hK0 (DenL.cons (.v (.int .i64 a1)) (DenL.cons (.v (.int .i64 a2)) .nil))) (fun K hk => ⟨o0, hk⟩)).mono fun e W' ⟨he, bel⟩ => ?_
  subst he
  exact ⟨_, rfl, _, _, _, [], _, [], hW', trodAll_mk1 (shut_bool Try.underlying4 _), (trodAll_cons_mk (Below.trod laidOut (by kernel_rfl) (of_decide_eq_true (by kernel_rfl)) k0 bel lt0) (trodAll_cons_mk (shut_int Try.underlying3 w1) (trodAll_cons_mk (shut_int Try.underlying3 w2) trodAll_mk0))), rfl, bel.frame _, fun h => by cases h⟩
theorem over : Rows.fnExactConnectRow.holds Try.pinned (OpenSpec.ofChange Rows.fnExactConnectSpec) :=
  OpenClaim.holds_of_wide 6 Try.f6 rfl rfl rfl rfl rfl rfl rfl ⟨rfl, rfl, rfl, rfl, rfl⟩ rfl rfl rfl rfl rfl (by kernel_rfl) Try.func6 (by kernel_rfl)
    (of_decide_eq_true (by kernel_rfl)) (by unfold Func.isWrapper; first | (rw [if_pos (by decide +kernel)]; kernel_rfl) | (rw [if_neg (by decide +kernel)]; exact ⟨rfl, rfl⟩))
    (fun os started H enc _ => lifted os started H enc)
theorem proved : Rows.FnExactConnectSaid := over
#print axioms proved
end Go.Proofs.Ytgmcijagaielaaa.fnExactConnect
namespace Go.Proofs.Ytgmcijagaielaaa
/-- The row, under a short name, for the claim. -/
theorem fnExactConnect_holds : Rows.FnExactConnectSaid := fnExactConnect.proved
end Go.Proofs.Ytgmcijagaielaaa
