/- A part of a proof that a law of the given program holds for every input: no condition. -/
import Derived.Test.YtgmcijagaielaaaProg
import Derived.KernelRfl
import Derived.Test.YtgmcijagaielaaaKFnNeeded32

set_option linter.unusedSimpArgs false
set_option linter.unusedVariables false
/-! The code of a function, in the engine's words. -/
namespace Go.Proofs.YtgmcijagaielaaaE
open Go Go.RowKit
@[reducible] def ic23 : IC := (.seq (.ops [⟨some 3, .box (.tmp 0), none⟩, ⟨some 6, .new [(.int .i64 0), (.int .i64 0), (.int .i64 0), (.slice none 0 0)], none⟩, ⟨some 7, .mov (.const (.slice none 0 0)), none⟩, ⟨some 8, .mov (.const (.int .i64 0)), none⟩]) (.seq (.ops [⟨some 23, .load 4 true (.tmp 3), none⟩, ⟨some 24, .call 39 [(.tmp 23)], none⟩, ⟨none, .store 4 (.tmp 3) (.tmp 24), none⟩]) (.seq (.ops [⟨some 25, .blds .move 0 [], none⟩, ⟨some 9, .mov (.tmp 25), none⟩]) (.seq (.seq (.ops [⟨some 26, .load 4 true (.tmp 3), none⟩, ⟨some 27, .call 10 [(.tmp 26)], none⟩, ⟨some 28, .una .not (.tmp 27), none⟩, ⟨some 29, .mov (.tmp 28), none⟩, ⟨some 30, .load 4 true (.tmp 3), some (29, false)⟩, ⟨some 31, .mov (.tmp 1), some (29, false)⟩, ⟨some 32, .call 36 [(.tmp 30), (.tmp 31)], some (29, false)⟩, ⟨some 33, .una .not (.tmp 32), some (29, false)⟩, ⟨some 34, .pick (.tmp 29) (.const (.bool true)) (.tmp 33), none⟩, ⟨some 35, .mov (.tmp 34), none⟩, ⟨some 36, .load 4 true (.tmp 3), some (35, false)⟩, ⟨some 37, .mov (.tmp 2), some (35, false)⟩, ⟨some 38, .call 36 [(.tmp 36), (.tmp 37)], some (35, false)⟩, ⟨some 39, .una .not (.tmp 38), some (35, false)⟩, ⟨some 40, .pick (.tmp 35) (.const (.bool true)) (.tmp 39), none⟩]) (.cond (.tmp 40) (.seq (.ops [⟨some 41, .load 4 true (.tmp 3), none⟩, ⟨some 42, .mov (.tmp 9), none⟩, ⟨none, .store 4 (.tmp 6) (.tmp 41), none⟩, ⟨some 7, .mov (.tmp 42), none⟩, ⟨some 8, .mov (.const (.int .i64 1)), none⟩]) .ret) .skip)) (.seq (.seq (.ops [⟨some 10, .mov (.const (.int .i64 0)), none⟩]) (.block 0 (.loop (.seq (.seq (.ops [⟨some 43, .mov (.tmp 10), none⟩, ⟨some 44, .fadr 3 (.tmp 3), none⟩, ⟨some 45, .load 1 false (.tmp 44), none⟩, ⟨some 46, .len (.tmp 45), none⟩, ⟨some 47, .bin .lss (.tmp 43) (.tmp 46), none⟩]) (.cond (.tmp 47) .skip (.exit 0))) (.seq (.block 1 (.seq (.ops [⟨some 50, .fadr 3 (.tmp 3), none⟩, ⟨some 51, .load 1 false (.tmp 50), none⟩, ⟨some 52, .mov (.tmp 10), none⟩, ⟨some 53, .iadr 3 (.tmp 51) (.tmp 52), none⟩, ⟨some 54, .fadr 0 (.tmp 53), none⟩, ⟨some 55, .load 1 false (.tmp 54), none⟩, ⟨some 56, .mov (.tmp 1), none⟩, ⟨some 57, .bin .eql (.tmp 55) (.tmp 56), none⟩, ⟨some 58, .mov (.tmp 57), none⟩, ⟨some 59, .fadr 3 (.tmp 3), some (58, false)⟩, ⟨some 60, .load 1 false (.tmp 59), some (58, false)⟩, ⟨some 61, .mov (.tmp 10), some (58, false)⟩, ⟨some 62, .iadr 3 (.tmp 60) (.tmp 61), some (58, false)⟩, ⟨some 63, .fadr 1 (.tmp 62), some (58, false)⟩, ⟨some 64, .load 1 false (.tmp 63), some (58, false)⟩, ⟨some 65, .mov (.tmp 2), some (58, false)⟩, ⟨some 66, .bin .eql (.tmp 64) (.tmp 65), some (58, false)⟩, ⟨some 67, .pick (.tmp 58) (.const (.bool true)) (.tmp 66), none⟩]) (.cond (.tmp 67) (.seq (.ops [⟨some 68, .load 4 true (.tmp 3), none⟩, ⟨some 69, .mov (.tmp 9), none⟩, ⟨none, .store 4 (.tmp 6) (.tmp 68), none⟩, ⟨some 7, .mov (.tmp 69), none⟩, ⟨some 8, .mov (.const (.int .i64 2)), none⟩]) .ret) .skip))) (.ops [⟨some 48, .mov (.tmp 10), none⟩, ⟨some 49, .bin .add (.tmp 48) (.const (.int .i64 1)), none⟩, ⟨some 10, .mov (.tmp 49), none⟩])))))) (.seq (.draw [⟨some 70, .mov (.tmp 1), none⟩, ⟨some 71, .fadr 1 (.tmp 3), none⟩, ⟨some 72, .load 1 false (.tmp 71), none⟩, ⟨some 73, .bin .quo (.tmp 70) (.tmp 72), none⟩, ⟨some 74, .mov (.tmp 2), none⟩, ⟨some 75, .fadr 1 (.tmp 3), none⟩, ⟨some 76, .load 1 false (.tmp 75), none⟩, ⟨some 77, .bin .quo (.tmp 74) (.tmp 76), none⟩, ⟨some 11, .mov (.tmp 73), none⟩, ⟨some 12, .mov (.tmp 77), none⟩] (.held ⟨some 70, .mov (.tmp 1), none⟩ (.held ⟨some 71, .fadr 1 (.tmp 3), none⟩ (.held ⟨some 72, .load 1 false (.tmp 71), none⟩ (.held ⟨some 73, .bin .quo (.tmp 70) (.tmp 72), none⟩ (.held ⟨some 74, .mov (.tmp 2), none⟩ (.held ⟨some 75, .fadr 1 (.tmp 3), none⟩ (.held ⟨some 76, .load 1 false (.tmp 75), none⟩ (.held ⟨some 77, .bin .quo (.tmp 74) (.tmp 76), none⟩ (.held ⟨some 11, .mov (.tmp 73), none⟩ (.held ⟨some 12, .mov (.tmp 77), none⟩ .done))))))))))) (.seq (.ops [⟨some 13, .mov (.const (.int .i64 (-1))), none⟩, ⟨some 14, .mov (.const (.int .i64 (-1))), none⟩]) (.seq (.seq (.ops [⟨some 15, .mov (.const (.int .i64 0)), none⟩]) (.block 2 (.loop (.seq (.seq (.ops [⟨some 78, .mov (.tmp 15), none⟩, ⟨some 79, .fadr 2 (.tmp 3), none⟩, ⟨some 80, .load 1 false (.tmp 79), none⟩, ⟨some 81, .bin .lss (.tmp 78) (.tmp 80), none⟩]) (.cond (.tmp 81) .skip (.exit 2))) (.seq (.block 3 (.seq (.draw [⟨some 84, .load 4 true (.tmp 3), none⟩, ⟨some 85, .mov (.tmp 11), none⟩, ⟨some 86, .mov (.tmp 15), none⟩, ⟨some 87, .call 44 [(.tmp 84), (.tmp 85), (.tmp 86)], none⟩, ⟨some 88, .bin .lss (.tmp 87) (.const (.int .i64 0)), none⟩, ⟨some 89, .load 4 true (.tmp 3), none⟩, ⟨some 90, .mov (.tmp 12), none⟩, ⟨some 91, .mov (.tmp 15), none⟩, ⟨some 92, .call 45 [(.tmp 89), (.tmp 90), (.tmp 91)], none⟩, ⟨some 93, .bin .lss (.tmp 92) (.const (.int .i64 0)), none⟩, ⟨some 16, .mov (.tmp 88), none⟩, ⟨some 17, .mov (.tmp 93), none⟩] (.held ⟨some 84, .load 4 true (.tmp 3), none⟩ (.held ⟨some 85, .mov (.tmp 11), none⟩ (.held ⟨some 86, .mov (.tmp 15), none⟩ (.held ⟨some 89, .load 4 true (.tmp 3), none⟩ (.held ⟨some 90, .mov (.tmp 12), none⟩ (.held ⟨some 91, .mov (.tmp 15), none⟩ (.alt ⟨some 87, .call 44 [(.tmp 84), (.tmp 85), (.tmp 86)], none⟩ (.held ⟨some 88, .bin .lss (.tmp 87) (.const (.int .i64 0)), none⟩ (.alt ⟨some 92, .call 45 [(.tmp 89), (.tmp 90), (.tmp 91)], none⟩ (.held ⟨some 93, .bin .lss (.tmp 92) (.const (.int .i64 0)), none⟩ (.held ⟨some 16, .mov (.tmp 88), none⟩ (.held ⟨some 17, .mov (.tmp 93), none⟩ .done))) .stop)) .stop)))))))) (.seq (.seq (.ops [⟨some 94, .mov (.tmp 16), none⟩, ⟨some 95, .mov (.tmp 94), none⟩, ⟨some 96, .mov (.tmp 17), some (95, true)⟩, ⟨some 97, .pick (.tmp 95) (.tmp 96) (.const (.bool false)), none⟩]) (.cond (.tmp 97) (.seq (.ops [⟨some 98, .fadr 3 (.tmp 3), none⟩, ⟨some 99, .load 1 false (.tmp 98), none⟩, ⟨some 100, .mov (.tmp 1), none⟩, ⟨some 101, .mov (.tmp 2), none⟩, ⟨some 102, .mov (.tmp 15), none⟩, ⟨some 103, .bld [(.int .i64 0), (.int .i64 0), (.int .i64 0)] [(0, 1, (.tmp 100)), (1, 1, (.tmp 101)), (2, 1, (.tmp 102))], none⟩, ⟨some 104, .blds .path 1 [(0, 3, (.tmp 103))], none⟩, ⟨some 105, .app .path 24 (.tmp 99) (.tmp 104), none⟩, ⟨some 106, .fadr 3 (.tmp 3), none⟩, ⟨none, .store 1 (.tmp 106) (.tmp 105), none⟩]) (.seq (.ops [⟨some 107, .load 4 true (.tmp 3), none⟩, ⟨some 108, .mov (.tmp 9), none⟩, ⟨none, .store 4 (.tmp 6) (.tmp 107), none⟩, ⟨some 7, .mov (.tmp 108), none⟩, ⟨some 8, .mov (.const (.int .i64 0)), none⟩]) .ret)) .skip)) (.seq (.seq (.ops [⟨some 109, .mov (.tmp 16), none⟩, ⟨some 110, .mov (.tmp 109), none⟩, ⟨some 111, .mov (.tmp 13), some (110, true)⟩, ⟨some 112, .bin .lss (.tmp 111) (.const (.int .i64 0)), some (110, true)⟩, ⟨some 113, .pick (.tmp 110) (.tmp 112) (.const (.bool false)), none⟩]) (.cond (.tmp 113) (.ops [⟨some 114, .mov (.tmp 15), none⟩, ⟨some 13, .mov (.tmp 114), none⟩]) .skip)) (.seq (.ops [⟨some 115, .mov (.tmp 17), none⟩, ⟨some 116, .mov (.tmp 115), none⟩, ⟨some 117, .mov (.tmp 14), some (116, true)⟩, ⟨some 118, .bin .lss (.tmp 117) (.const (.int .i64 0)), some (116, true)⟩, ⟨some 119, .pick (.tmp 116) (.tmp 118) (.const (.bool false)), none⟩]) (.cond (.tmp 119) (.ops [⟨some 120, .mov (.tmp 15), none⟩, ⟨some 14, .mov (.tmp 120), none⟩]) .skip)))))) (.ops [⟨some 82, .mov (.tmp 15), none⟩, ⟨some 83, .bin .add (.tmp 82) (.const (.int .i64 1)), none⟩, ⟨some 15, .mov (.tmp 83), none⟩])))))) (.seq (.seq (.ops [⟨some 121, .mov (.tmp 13), none⟩, ⟨some 122, .bin .lss (.tmp 121) (.const (.int .i64 0)), none⟩, ⟨some 123, .mov (.tmp 122), none⟩, ⟨some 124, .mov (.tmp 14), some (123, false)⟩, ⟨some 125, .bin .lss (.tmp 124) (.const (.int .i64 0)), some (123, false)⟩, ⟨some 126, .pick (.tmp 123) (.const (.bool true)) (.tmp 125), none⟩]) (.cond (.tmp 126) (.seq (.ops [⟨some 127, .load 4 true (.tmp 3), none⟩, ⟨some 128, .mov (.tmp 9), none⟩, ⟨none, .store 4 (.tmp 6) (.tmp 127), none⟩, ⟨some 7, .mov (.tmp 128), none⟩, ⟨some 8, .mov (.const (.int .i64 3)), none⟩]) .ret) .skip)) (.seq (.draw [⟨some 129, .load 4 true (.tmp 3), none⟩, ⟨some 130, .load 4 true (.tmp 3), none⟩, ⟨some 131, .mov (.tmp 12), none⟩, ⟨some 132, .mov (.tmp 13), none⟩, ⟨some 133, .call 45 [(.tmp 130), (.tmp 131), (.tmp 132)], none⟩, ⟨some 134, .mov (.tmp 13), none⟩, ⟨some 135, .mov (.tmp 14), none⟩, ⟨some 136, .call 48 [(.tmp 129), (.tmp 133), (.tmp 134), (.tmp 135), (.const (.bool true))], none⟩, ⟨some 18, .mov (.tmp 136), none⟩] (.held ⟨some 129, .load 4 true (.tmp 3), none⟩ (.held ⟨some 130, .load 4 true (.tmp 3), none⟩ (.held ⟨some 131, .mov (.tmp 12), none⟩ (.held ⟨some 132, .mov (.tmp 13), none⟩ (.held ⟨some 134, .mov (.tmp 13), none⟩ (.held ⟨some 135, .mov (.tmp 14), none⟩ (.alt ⟨some 133, .call 45 [(.tmp 130), (.tmp 131), (.tmp 132)], none⟩ (.alt ⟨some 136, .call 48 [(.tmp 129), (.tmp 133), (.tmp 134), (.tmp 135), (.const (.bool true))], none⟩ (.held ⟨some 18, .mov (.tmp 136), none⟩ .done) .stop) .stop)))))))) (.seq (.ops [⟨some 137, .mov (.tmp 13), none⟩, ⟨some 19, .mov (.tmp 137), none⟩]) (.seq (.seq (.draw [⟨some 138, .load 4 true (.tmp 3), none⟩, ⟨some 139, .load 4 true (.tmp 3), none⟩, ⟨some 140, .mov (.tmp 11), none⟩, ⟨some 141, .mov (.tmp 14), none⟩, ⟨some 142, .call 44 [(.tmp 139), (.tmp 140), (.tmp 141)], none⟩, ⟨some 143, .mov (.tmp 14), none⟩, ⟨some 144, .mov (.tmp 13), none⟩, ⟨some 145, .call 48 [(.tmp 138), (.tmp 142), (.tmp 143), (.tmp 144), (.const (.bool false))], none⟩, ⟨some 20, .mov (.tmp 145), none⟩] (.held ⟨some 138, .load 4 true (.tmp 3), none⟩ (.held ⟨some 139, .load 4 true (.tmp 3), none⟩ (.held ⟨some 140, .mov (.tmp 11), none⟩ (.held ⟨some 141, .mov (.tmp 14), none⟩ (.held ⟨some 143, .mov (.tmp 14), none⟩ (.held ⟨some 144, .mov (.tmp 13), none⟩ (.alt ⟨some 142, .call 44 [(.tmp 139), (.tmp 140), (.tmp 141)], none⟩ (.alt ⟨some 145, .call 48 [(.tmp 138), (.tmp 142), (.tmp 143), (.tmp 144), (.const (.bool false))], none⟩ (.held ⟨some 20, .mov (.tmp 145), none⟩ .done) .stop) .stop)))))))) (.seq (.ops [⟨some 146, .mov (.tmp 20), none⟩, ⟨some 147, .len (.tmp 146), none⟩, ⟨some 148, .mov (.tmp 18), none⟩, ⟨some 149, .len (.tmp 148), none⟩, ⟨some 150, .bin .lss (.tmp 147) (.tmp 149), none⟩]) (.cond (.tmp 150) (.seq (.ops [⟨some 151, .mov (.tmp 20), none⟩, ⟨some 18, .mov (.tmp 151), none⟩]) (.ops [⟨some 152, .mov (.tmp 14), none⟩, ⟨some 19, .mov (.tmp 152), none⟩])) .skip))) (.seq (.seq (.ops [⟨some 21, .mov (.const (.int .i64 0)), none⟩]) (.block 4 (.loop (.seq (.seq (.ops [⟨some 153, .mov (.tmp 21), none⟩, ⟨some 154, .mov (.tmp 18), none⟩, ⟨some 155, .len (.tmp 154), none⟩, ⟨some 156, .bin .lss (.tmp 153) (.tmp 155), none⟩]) (.cond (.tmp 156) .skip (.exit 4))) (.seq (.block 5 (.seq (.ops [⟨some 22, .mov (.const (.int .i64 0)), none⟩]) (.block 6 (.loop (.seq (.seq (.ops [⟨some 159, .mov (.tmp 22), none⟩, ⟨some 160, .fadr 3 (.tmp 3), none⟩, ⟨some 161, .load 1 false (.tmp 160), none⟩, ⟨some 162, .len (.tmp 161), none⟩, ⟨some 163, .bin .lss (.tmp 159) (.tmp 162), none⟩]) (.cond (.tmp 163) .skip (.exit 6))) (.seq (.block 7 (.seq (.draw [⟨some 166, .fadr 3 (.tmp 3), none⟩, ⟨some 167, .load 1 false (.tmp 166), none⟩, ⟨some 168, .mov (.tmp 22), none⟩, ⟨some 169, .iadr 3 (.tmp 167) (.tmp 168), none⟩, ⟨some 170, .fadr 0 (.tmp 169), none⟩, ⟨some 171, .load 1 false (.tmp 170), none⟩, ⟨some 172, .mov (.tmp 18), none⟩, ⟨some 173, .mov (.tmp 21), none⟩, ⟨some 174, .iadr 2 (.tmp 172) (.tmp 173), none⟩, ⟨some 175, .fadr 0 (.tmp 174), none⟩, ⟨some 176, .load 1 false (.tmp 175), none⟩, ⟨some 177, .bin .eql (.tmp 171) (.tmp 176), none⟩] (.held ⟨some 166, .fadr 3 (.tmp 3), none⟩ (.held ⟨some 167, .load 1 false (.tmp 166), none⟩ (.held ⟨some 168, .mov (.tmp 22), none⟩ (.held ⟨some 169, .iadr 3 (.tmp 167) (.tmp 168), none⟩ (.held ⟨some 170, .fadr 0 (.tmp 169), none⟩ (.held ⟨some 171, .load 1 false (.tmp 170), none⟩ (.held ⟨some 172, .mov (.tmp 18), none⟩ (.held ⟨some 173, .mov (.tmp 21), none⟩ (.held ⟨some 174, .iadr 2 (.tmp 172) (.tmp 173), none⟩ (.held ⟨some 175, .fadr 0 (.tmp 174), none⟩ (.held ⟨some 176, .load 1 false (.tmp 175), none⟩ (.held ⟨some 177, .bin .eql (.tmp 171) (.tmp 176), none⟩ .done))))))))))))) (.cond (.tmp 177) (.draw [⟨some 178, .fadr 3 (.tmp 3), none⟩, ⟨some 179, .load 1 false (.tmp 178), none⟩, ⟨some 180, .mov (.tmp 22), none⟩, ⟨some 181, .mov (.tmp 18), none⟩, ⟨some 182, .mov (.tmp 21), none⟩, ⟨some 183, .iadr 2 (.tmp 181) (.tmp 182), none⟩, ⟨some 184, .fadr 1 (.tmp 183), none⟩, ⟨some 185, .load 1 false (.tmp 184), none⟩, ⟨some 186, .iadr 3 (.tmp 179) (.tmp 180), none⟩, ⟨some 187, .fadr 2 (.tmp 186), none⟩, ⟨none, .store 1 (.tmp 187) (.tmp 185), none⟩] (.held ⟨some 178, .fadr 3 (.tmp 3), none⟩ (.held ⟨some 179, .load 1 false (.tmp 178), none⟩ (.held ⟨some 180, .mov (.tmp 22), none⟩ (.held ⟨some 181, .mov (.tmp 18), none⟩ (.held ⟨some 182, .mov (.tmp 21), none⟩ (.held ⟨some 183, .iadr 2 (.tmp 181) (.tmp 182), none⟩ (.held ⟨some 184, .fadr 1 (.tmp 183), none⟩ (.held ⟨some 185, .load 1 false (.tmp 184), none⟩ (.held ⟨some 186, .iadr 3 (.tmp 179) (.tmp 180), none⟩ (.held ⟨some 187, .fadr 2 (.tmp 186), none⟩ (.alt ⟨none, .store 1 (.tmp 187) (.tmp 185), none⟩ .done .stop)))))))))))) .skip))) (.ops [⟨some 164, .mov (.tmp 22), none⟩, ⟨some 165, .bin .add (.tmp 164) (.const (.int .i64 1)), none⟩, ⟨some 22, .mov (.tmp 165), none⟩]))))))) (.ops [⟨some 157, .mov (.tmp 21), none⟩, ⟨some 158, .bin .add (.tmp 157) (.const (.int .i64 1)), none⟩, ⟨some 21, .mov (.tmp 158), none⟩])))))) (.seq (.ops [⟨some 188, .fadr 3 (.tmp 3), none⟩, ⟨some 189, .load 1 false (.tmp 188), none⟩, ⟨some 190, .mov (.tmp 1), none⟩, ⟨some 191, .mov (.tmp 2), none⟩, ⟨some 192, .mov (.tmp 19), none⟩, ⟨some 193, .bld [(.int .i64 0), (.int .i64 0), (.int .i64 0)] [(0, 1, (.tmp 190)), (1, 1, (.tmp 191)), (2, 1, (.tmp 192))], none⟩, ⟨some 194, .blds .path 1 [(0, 3, (.tmp 193))], none⟩, ⟨some 195, .app .path 24 (.tmp 189) (.tmp 194), none⟩, ⟨some 196, .fadr 3 (.tmp 3), none⟩, ⟨none, .store 1 (.tmp 196) (.tmp 195), none⟩]) (.seq (.ops [⟨some 197, .load 4 true (.tmp 3), none⟩, ⟨some 198, .mov (.tmp 18), none⟩, ⟨none, .store 4 (.tmp 6) (.tmp 197), none⟩, ⟨some 7, .mov (.tmp 198), none⟩, ⟨some 8, .mov (.const (.int .i64 0)), none⟩]) .ret)))))))))))))))
@[reducible] def rv23 : List RV := [.cell 6 4 true, .tmp 7, .tmp 8]
theorem low23 : lowC Try.prog tau Try.f23.ntmps (Try.f23.body.getD .skip) = some (erase ic23) := by kernel_rfl
theorem res23 : lowR Try.prog Try.f23.results.toList = some rv23 := by kernel_rfl
theorem bod23 : Try.f23.body = some (Try.f23.body.getD .skip) := by kernel_rfl
theorem cal23 : callable Try.prog 23 = true := by kernel_rfl

end Go.Proofs.YtgmcijagaielaaaE

/-! A path is put through, in the reference. -/
namespace Go.Proofs.YtgmcijagaielaaaE
open Go Go.RowKit
set_option linter.unusedSimpArgs false
set_option linter.unusedVariables false
set_option maxRecDepth 20000
set_option maxHeartbeats 8000000

theorem recol_src {q : List Pth} {c : Int} {l : List Nat} {k : Nat} (h : k < q.length) : ((recol q c l).getD k Pz).src = (q.getD k Pz).src := by
  rw [recol_get h]; split
  · rfl
  · rfl
theorem mvs_get {q : List Pth} {c : Int} {l : List Nat} {i : Nat} (h : i < l.length) : (mvs q c l).getD i ⟨0, 0⟩ = ⟨(q.getD (l.getD i 0) Pz).src, c - (q.getD (l.getD i 0) Pz).mid⟩ := by
  simp [mvs, List.getD, h]
theorem least_succ {P : Nat → Bool} {n : Nat} : leastI P (n + 1) = if 0 ≤ leastI P n then leastI P n else if P n = true then (n : Int) else -1 := rfl
/-- The chain's contract, with the two switches where it may begin. -/
def spCh (so si : Int) : Spec := ⟨fun _ _ => [], fun args objs K => match args, objs with
  | [.agg [.v (.int .i64 s), .v (.int .i64 p), .v (.int .i64 m), .rs .path q], .v (.int .i64 at_), .v (.int .i64 here), .v (.int .i64 there), .v (.bool out)], [] =>
      (q.length ≤ 1099511627776 ∧ at_ = fidx (atP p out (if out = true then so else si) here) q ∧ ChPre q p out (if out = true then so else si) here there) ∧
      K (.sub 0 2 0 (chain q p (q.length + 1) out (if out = true then so else si) here there).length) [(0, .row .move (mvs q (here + there) (chain q p (q.length + 1) out (if out = true then so else si) here there)))] 1
  | _, _ => False, false⟩
theorem ccS_t {so si : Int} {L : Hp} {a : List AVal} : Spec.take (spCh so si) L a = [] := id rfl
theorem ccS_k {so si : Int} : Spec.keep (spCh so si) = false := id rfl
theorem ccT_f {so si s p m at_ here there : Int} {q : List Pth} {K : AVal → Hp → Nat → Prop} : Spec.f (spCh so si) [.agg [.v (.int .i64 s), .v (.int .i64 p), .v (.int .i64 m), .rs .path q], .v (.int .i64 at_), .v (.int .i64 here), .v (.int .i64 there), .v (.bool true)] [] K =
    ((q.length ≤ 1099511627776 ∧ at_ = fidx (atP p true so here) q ∧ ChPre q p true so here there) ∧ K (.sub 0 2 0 (chain q p (q.length + 1) true so here there).length) [(0, .row .move (mvs q (here + there) (chain q p (q.length + 1) true so here there)))] 1) := id rfl
theorem ccF_f {so si s p m at_ here there : Int} {q : List Pth} {K : AVal → Hp → Nat → Prop} : Spec.f (spCh so si) [.agg [.v (.int .i64 s), .v (.int .i64 p), .v (.int .i64 m), .rs .path q], .v (.int .i64 at_), .v (.int .i64 here), .v (.int .i64 there), .v (.bool false)] [] K =
    ((q.length ≤ 1099511627776 ∧ at_ = fidx (atP p false si here) q ∧ ChPre q p false si here there) ∧ K (.sub 0 2 0 (chain q p (q.length + 1) false si here there).length) [(0, .row .move (mvs q (here + there) (chain q p (q.length + 1) false si here there)))] 1) := id rfl
theorem valid48b (so si : Int) : Valid Try.prog 48 (spCh so si) := fun W C ρ args vals objs K hd hp hf => by
  refine valid48 W C ρ args vals objs K hd hp ?_
  simp only [spCh] at hf
  split at hf
  · exact ⟨_, hf⟩
  · exact hf.elim
theorem valid23 : Valid Try.prog 23 spConn := by
  intro W C ρ args vals objs K hd hp hsf
  have hsf2 := hsf
  simp only [spConn] at hsf2
  split at hsf2
  · rename_i s p m q x y
    refine (show Valid Try.prog 23 ⟨fun _ _ => [], fun args objs K => args = [.agg [.v (.int .i64 s), .v (.int .i64 p), .v (.int .i64 m), .rs .path q], .v (.int .i64 x), .v (.int .i64 y)] ∧ objs = [] ∧ spConn.f args objs K, false⟩ from ?_) W C ρ _ vals _ K hd hp ⟨rfl, rfl, hsf⟩
    refine validI (Γ := lk [(39, spToFb), (10, spFbOk), (36, spEnd), (44, spAt false), (45, spAt true), (48, spCh (y.tdiv p) (x.tdiv p))]) Try.func23 bod23 low23 res23 (good_of ⟨⟨cal39, valid39⟩, ⟨cal10, valid10⟩, ⟨cal36, valid36⟩, ⟨cal44, valid44⟩, ⟨cal45, valid45⟩, ⟨cal48, valid48b _ _⟩, trivial⟩) ?_
    clear hd hp hsf hsf2 vals ρ C W K
    rintro E args objs K ⟨rfl, rfl, h⟩ hE hG hP
    simp only [spConn] at h
    refine ⟨by simp [Try.ntmps23], ?_⟩
    obtain ⟨b1, h⟩ := h
    rcases hok : fbOk ⟨s, p, m, q⟩ with _ | _
    · rw [conn_bad (by rw [hok]; simp)] at h
      simp (config := { maxSteps := 2000000 }) only [go_sem, hG, hP, Nat.reduceEqDiff, ↓reduceIte, reduceCtorEq, Nat.reduceAdd, Nat.reduceSub, Nat.reduceMul, Nat.reduceLT, Nat.reduceLeDiff, Int.reduceAdd, Int.reduceSub, Int.reduceMul, Int.reduceLT, Int.reduceLE, Int.reduceEq, Int.reduceNeg, Int.reduceNe, Int.reduceGE, Int.reduceGT, Nat.reduceBEq, Int.reduceToNat,  spToFb_f, spToFb_t, spToFb_k, spFbOk_f, spFbOk_t, spFbOk_k, spEnd_f, spEnd_t, spEnd_k, hok]
      repeat (refine And.intro (by first | omega | (simp; done) | (simp; omega) | (unfold appRoom; omega)) ?_)
      refine ⟨_, _, _, ?_, h⟩
      simp (config := { maxSteps := 2000000 }) only [go_sem, hG, hP, Nat.reduceEqDiff, ↓reduceIte, reduceCtorEq, Nat.reduceAdd, Nat.reduceSub, Nat.reduceMul, Nat.reduceLT, Nat.reduceLeDiff, Int.reduceAdd, Int.reduceSub, Int.reduceMul, Int.reduceLT, Int.reduceLE, Int.reduceEq, Int.reduceNeg, Int.reduceNe, Int.reduceGE, Int.reduceGT, Nat.reduceBEq, Int.reduceToNat]
      all_goals simp
    obtain ⟨⟨h1, h2, h3⟩, h4⟩ := fbOk_is hok
    have hsp := sp_bd ⟨h1, h2⟩
    have hsm := fbOk_small hok
    dsimp only at hsp h1 h2 h3 hsm
    have pz : (p = 0) = False := eq_false (by omega)
    by_cases hx : 0 ≤ x ∧ x ≤ s * p - 1
    rotate_left
    · have ex : (0 ≤ x ∧ x ≤ s * p - 1) = False := eq_false hx
      rw [@conn_bad ⟨s, p, m, q⟩ x y (fun e => hx e.2.1)] at h
      simp (config := { maxSteps := 2000000 }) only [go_sem, hG, hP, Nat.reduceEqDiff, ↓reduceIte, reduceCtorEq, Nat.reduceAdd, Nat.reduceSub, Nat.reduceMul, Nat.reduceLT, Nat.reduceLeDiff, Int.reduceAdd, Int.reduceSub, Int.reduceMul, Int.reduceLT, Int.reduceLE, Int.reduceEq, Int.reduceNeg, Int.reduceNe, Int.reduceGE, Int.reduceGT, Nat.reduceBEq, Int.reduceToNat,  spToFb_f, spToFb_t, spToFb_k, spFbOk_f, spFbOk_t, spFbOk_k, spEnd_f, spEnd_t, spEnd_k, hok, ex]
      repeat (refine And.intro (by first | omega | (simp; done) | (simp; omega) | (unfold appRoom; omega)) ?_)
      refine ⟨_, _, _, ?_, h⟩
      simp (config := { maxSteps := 2000000 }) only [go_sem, hG, hP, Nat.reduceEqDiff, ↓reduceIte, reduceCtorEq, Nat.reduceAdd, Nat.reduceSub, Nat.reduceMul, Nat.reduceLT, Nat.reduceLeDiff, Int.reduceAdd, Int.reduceSub, Int.reduceMul, Int.reduceLT, Int.reduceLE, Int.reduceEq, Int.reduceNeg, Int.reduceNe, Int.reduceGE, Int.reduceGT, Nat.reduceBEq, Int.reduceToNat]
      all_goals simp
    have ex : (0 ≤ x ∧ x ≤ s * p - 1) = True := eq_true hx
    by_cases hy : 0 ≤ y ∧ y ≤ s * p - 1
    rotate_left
    · have ey : (0 ≤ y ∧ y ≤ s * p - 1) = False := eq_false hy
      rw [@conn_bad ⟨s, p, m, q⟩ x y (fun e => hy e.2.2)] at h
      simp (config := { maxSteps := 2000000 }) only [go_sem, hG, hP, Nat.reduceEqDiff, ↓reduceIte, reduceCtorEq, Nat.reduceAdd, Nat.reduceSub, Nat.reduceMul, Nat.reduceLT, Nat.reduceLeDiff, Int.reduceAdd, Int.reduceSub, Int.reduceMul, Int.reduceLT, Int.reduceLE, Int.reduceEq, Int.reduceNeg, Int.reduceNe, Int.reduceGE, Int.reduceGT, Nat.reduceBEq, Int.reduceToNat,  spToFb_f, spToFb_t, spToFb_k, spFbOk_f, spFbOk_t, spFbOk_k, spEnd_f, spEnd_t, spEnd_k, hok, ex, ey]
      repeat (refine And.intro (by first | omega | (simp; done) | (simp; omega) | (unfold appRoom; omega)) ?_)
      refine ⟨_, _, _, ?_, h⟩
      simp (config := { maxSteps := 2000000 }) only [go_sem, hG, hP, Nat.reduceEqDiff, ↓reduceIte, reduceCtorEq, Nat.reduceAdd, Nat.reduceSub, Nat.reduceMul, Nat.reduceLT, Nat.reduceLeDiff, Int.reduceAdd, Int.reduceSub, Int.reduceMul, Int.reduceLT, Int.reduceLE, Int.reduceEq, Int.reduceNeg, Int.reduceNe, Int.reduceGE, Int.reduceGT, Nat.reduceBEq, Int.reduceToNat]
      all_goals simp
    have ey : (0 ≤ y ∧ y ≤ s * p - 1) = True := eq_true hy
    have hall : fbOk ⟨s, p, m, q⟩ = true ∧ okEnd ⟨s, p, m, q⟩ x ∧ okEnd ⟨s, p, m, q⟩ y := ⟨hok, hx, hy⟩
    have w1 := wq hx.1 (by omega) h2.1
    have w2 := wq hy.1 (by omega) h2.1
    have x0 := (okEnd_q hok hx).1
    have y0 := (okEnd_q hok hy).1
    dsimp only at x0 y0
    simp (config := { maxSteps := 2000000 }) only [go_sem, hG, hP, Nat.reduceEqDiff, ↓reduceIte, reduceCtorEq, Nat.reduceAdd, Nat.reduceSub, Nat.reduceMul, Nat.reduceLT, Nat.reduceLeDiff, Int.reduceAdd, Int.reduceSub, Int.reduceMul, Int.reduceLT, Int.reduceLE, Int.reduceEq, Int.reduceNeg, Int.reduceNe, Int.reduceGE, Int.reduceGT, Nat.reduceBEq, Int.reduceToNat,  spToFb_f, spToFb_t, spToFb_k, spFbOk_f, spFbOk_t, spFbOk_k, spEnd_f, spEnd_t, spEnd_k, hok, ex, ey]
    repeat (refine And.intro (by first | omega | (simp; done) | (simp; omega) | (unfold appRoom; omega)) ?_)
    refine loopI hE (fun i : Nat => ⟨[(1, .v (.int .i64 x)), (2, .v (.int .i64 y)), (3, .ptr 0 0), (6, .ptr 1 0), (9, .sub 3 2 0 0), (10, .v (.int .i64 i))], [(0, .box [.v (.int .i64 s), .v (.int .i64 p), .v (.int .i64 m), .sub 2 3 0 q.length]), (1, .box [.v (.int .i64 0), .v (.int .i64 0), .v (.int .i64 0), .v (.slice none 0 0)]), (2, .row .path q), (3, .row .move [])], 4, Try.f23.ntmps⟩) (fun i => i ≤ q.length ∧ ∀ j, j < i → endP x y (q.getD j Pz) = false) (fun i => q.length - i) ⟨0, ⟨Nat.zero_le _, fun i hi => absurd hi (Nat.not_lt_zero _)⟩, SubS.weak ?_⟩ ?_
    · simp (config := { maxSteps := 2000000 }) only [go_sem, hG, hP, Nat.reduceEqDiff, ↓reduceIte, reduceCtorEq, Nat.reduceAdd, Nat.reduceSub, Nat.reduceMul, Nat.reduceLT, Nat.reduceLeDiff, Int.reduceAdd, Int.reduceSub, Int.reduceMul, Int.reduceLT, Int.reduceLE, Int.reduceEq, Int.reduceNeg, Int.reduceNe, Int.reduceGE, Int.reduceGT, Nat.reduceBEq, Int.reduceToNat]
      repeat' (first | with_reducible rfl | (refine And.intro ?_ ?_) | (refine congrArg (Value.int _) ?_; omega) | omega)
    · intro i ⟨hi, hpre⟩
      by_cases hlt : i < q.length
      · have e0 : ((i : Int) < (q.length : Int)) = True := eq_true (by omega)
        have hit := @fidx_hit (endP x y) q i hlt hpre
        generalize hxx : q.getD i Pz = z at *
        have hbusy : endP x y z = true → 0 ≤ fidx (endP x y) q := fun e => by rw [hit e]; omega
        by_cases hz : endP x y z = true
        · rw [conn_busy hall (hbusy hz)] at h
          simp only [endP, decide_eq_true_eq] at hz
          simp (config := { maxSteps := 2000000 }) only [go_sem, hG, hP, Nat.reduceEqDiff, ↓reduceIte, reduceCtorEq, Nat.reduceAdd, Nat.reduceSub, Nat.reduceMul, Nat.reduceLT, Nat.reduceLeDiff, Int.reduceAdd, Int.reduceSub, Int.reduceMul, Int.reduceLT, Int.reduceLE, Int.reduceEq, Int.reduceNeg, Int.reduceNe, Int.reduceGE, Int.reduceGT, Nat.reduceBEq, Int.reduceToNat,  hxx, e0]
          repeat (refine And.intro (by first | omega | (simp; done) | (simp; omega) | (unfold appRoom; omega)) ?_)
          repeat' (first | (refine And.intro ?_ ?_) | (with_reducible intro _))
          all_goals first
            | omega
            | (refine ⟨_, _, _, ?_, h⟩; simp (config := { maxSteps := 2000000 }) only [go_sem, hG, hP, Nat.reduceEqDiff, ↓reduceIte, reduceCtorEq, Nat.reduceAdd, Nat.reduceSub, Nat.reduceMul, Nat.reduceLT, Nat.reduceLeDiff, Int.reduceAdd, Int.reduceSub, Int.reduceMul, Int.reduceLT, Int.reduceLE, Int.reduceEq, Int.reduceNeg, Int.reduceNe, Int.reduceGE, Int.reduceGT, Nat.reduceBEq, Int.reduceToNat]; all_goals (first | (simp; done) | omega))
            | (exfalso; omega)
        · have hz2 : endP x y z = false := by simpa using hz
          have hz3 := hz2
          simp only [endP, decide_eq_false_iff_not] at hz2
          simp (config := { maxSteps := 2000000 }) only [go_sem, hG, hP, Nat.reduceEqDiff, ↓reduceIte, reduceCtorEq, Nat.reduceAdd, Nat.reduceSub, Nat.reduceMul, Nat.reduceLT, Nat.reduceLeDiff, Int.reduceAdd, Int.reduceSub, Int.reduceMul, Int.reduceLT, Int.reduceLE, Int.reduceEq, Int.reduceNeg, Int.reduceNe, Int.reduceGE, Int.reduceGT, Nat.reduceBEq, Int.reduceToNat,  hxx, e0]
          (try simp (disch := omega) only [wrap_id])
          repeat (refine And.intro (by first | omega | (simp; done) | (simp; omega) | (unfold appRoom; omega)) ?_)
          repeat' (first | (refine And.intro ?_ ?_) | (with_reducible intro _))
          all_goals first
            | omega
            | (exfalso; omega)
            | (refine ⟨i + 1, ⟨⟨by omega, upto_succ hpre (by rw [hxx]; exact hz3)⟩, by omega⟩, SubS.weak ?_⟩; simp (config := { maxSteps := 2000000 }) only [go_sem, hG, hP, Nat.reduceEqDiff, ↓reduceIte, reduceCtorEq, Nat.reduceAdd, Nat.reduceSub, Nat.reduceMul, Nat.reduceLT, Nat.reduceLeDiff, Int.reduceAdd, Int.reduceSub, Int.reduceMul, Int.reduceLT, Int.reduceLE, Int.reduceEq, Int.reduceNeg, Int.reduceNe, Int.reduceGE, Int.reduceGT, Nat.reduceBEq, Int.reduceToNat]; repeat' (first | with_reducible rfl | (refine And.intro ?_ ?_) | (refine congrArg (Value.int _) ?_; omega) | omega))
      · have e0 : ((i : Int) < (q.length : Int)) = False := eq_false (by omega)
        obtain rfl : i = q.length := by omega
        have hf : ¬ 0 ≤ fidx (endP x y) q := by rw [fidx_none hpre]; omega
        simp (config := { maxSteps := 2000000 }) only [go_sem, hG, hP, Nat.reduceEqDiff, ↓reduceIte, reduceCtorEq, Nat.reduceAdd, Nat.reduceSub, Nat.reduceMul, Nat.reduceLT, Nat.reduceLeDiff, Int.reduceAdd, Int.reduceSub, Int.reduceMul, Int.reduceLT, Int.reduceLE, Int.reduceEq, Int.reduceNeg, Int.reduceNe, Int.reduceGE, Int.reduceGT, Nat.reduceBEq, Int.reduceToNat,  e0, w1, w2, pz]
        repeat (refine And.intro (by first | omega | (simp; done) | (simp; omega) | (unfold appRoom; omega)) ?_)
        refine loopI hE (fun k : Nat => ⟨[(1, .v (.int .i64 x)), (2, .v (.int .i64 y)), (3, .ptr 0 0), (6, .ptr 1 0), (9, .sub 3 2 0 0), (11, .v (.int .i64 (x.tdiv p))), (12, .v (.int .i64 (y.tdiv p))), (13, .v (.int .i64 (leastI (freeP p q (x.tdiv p) (-1)) k))), (14, .v (.int .i64 (leastI (freeP p q (-1) (y.tdiv p)) k))), (15, .v (.int .i64 k))], [(0, .box [.v (.int .i64 s), .v (.int .i64 p), .v (.int .i64 m), .sub 2 3 0 q.length]), (1, .box [.v (.int .i64 0), .v (.int .i64 0), .v (.int .i64 0), .v (.slice none 0 0)]), (2, .row .path q), (3, .row .move [])], 4, Try.f23.ntmps⟩) (fun k => (k : Int) ≤ m ∧ ∀ j, j < k → freeP p q (x.tdiv p) (y.tdiv p) j = false) (fun k => m.toNat - k) ⟨0, ⟨by omega, fun i hi => absurd hi (Nat.not_lt_zero _)⟩, SubS.weak ?_⟩ ?_
        · simp (config := { maxSteps := 2000000 }) only [go_sem, hG, hP, Nat.reduceEqDiff, ↓reduceIte, reduceCtorEq, Nat.reduceAdd, Nat.reduceSub, Nat.reduceMul, Nat.reduceLT, Nat.reduceLeDiff, Int.reduceAdd, Int.reduceSub, Int.reduceMul, Int.reduceLT, Int.reduceLE, Int.reduceEq, Int.reduceNeg, Int.reduceNe, Int.reduceGE, Int.reduceGT, Nat.reduceBEq, Int.reduceToNat,  leastI]
          repeat' (first | with_reducible rfl | (refine And.intro ?_ ?_) | (refine congrArg (Value.int _) ?_; omega) | omega)
        · intro k ⟨hk, hno⟩
          by_cases hlk : (k : Int) < m
          · have e3 : ((k : Int) < m) = True := eq_true hlk
            have la := @least_succ (freeP p q (x.tdiv p) (-1)) k
            have lb := @least_succ (freeP p q (-1) (y.tdiv p)) k
            rw [freeI_iff x0] at la
            rw [freeO_iff y0] at lb
            have fb := @freeB_iff p (x.tdiv p) (y.tdiv p) q k x0 y0
            have bA := least_bd (freeP p q (x.tdiv p) (-1)) k
            have bB := least_bd (freeP p q (-1) (y.tdiv p)) k
            generalize hA : leastI (freeP p q (x.tdiv p) (-1)) k = A at *
            generalize hB : leastI (freeP p q (-1) (y.tdiv p)) k = B at *
            by_cases d1 : fidx (atP p false (x.tdiv p) (k : Int)) q < 0
            · have d1' := eq_true d1
              rw [decide_eq_true d1] at la fb
              by_cases d2 : fidx (atP p true (y.tdiv p) (k : Int)) q < 0
              · have d2' := eq_true d2
                rw [decide_eq_true d2] at fb
                have hfm : fmF ⟨s, p, m, q⟩ x y = (k : Int) := least_hit hno fb (by show k < m.toNat; omega)
                rw [conn_free hall hf (by omega), hfm] at h
                simp (config := { maxSteps := 2000000 }) only [go_sem, hG, hP, Nat.reduceEqDiff, ↓reduceIte, reduceCtorEq, Nat.reduceAdd, Nat.reduceSub, Nat.reduceMul, Nat.reduceLT, Nat.reduceLeDiff, Int.reduceAdd, Int.reduceSub, Int.reduceMul, Int.reduceLT, Int.reduceLE, Int.reduceEq, Int.reduceNeg, Int.reduceNe, Int.reduceGE, Int.reduceGT, Nat.reduceBEq, Int.reduceToNat,  e3, atS_t, atS_k, atS_f, d1', d2']
                repeat (refine And.intro (by first | omega | (simp; done) | (simp; omega) | (unfold appRoom; omega)) ?_)
                repeat' (first | (refine And.intro ?_ ?_) | (with_reducible intro _))
                all_goals first
                  | omega
                  | assumption
                  | (unfold appRoom; omega)
                  | (refine ⟨_, _, _, ?_, h⟩; simp (config := { maxSteps := 2000000 }) only [go_sem, hG, hP, Nat.reduceEqDiff, ↓reduceIte, reduceCtorEq, Nat.reduceAdd, Nat.reduceSub, Nat.reduceMul, Nat.reduceLT, Nat.reduceLeDiff, Int.reduceAdd, Int.reduceSub, Int.reduceMul, Int.reduceLT, Int.reduceLE, Int.reduceEq, Int.reduceNeg, Int.reduceNe, Int.reduceGE, Int.reduceGT, Nat.reduceBEq, Int.reduceToNat]; all_goals (first | (simp; done) | omega))
                  | (simp (config := { maxSteps := 2000000 }) only [go_sem, hG, hP, Nat.reduceEqDiff, ↓reduceIte, reduceCtorEq, Nat.reduceAdd, Nat.reduceSub, Nat.reduceMul, Nat.reduceLT, Nat.reduceLeDiff, Int.reduceAdd, Int.reduceSub, Int.reduceMul, Int.reduceLT, Int.reduceLE, Int.reduceEq, Int.reduceNeg, Int.reduceNe, Int.reduceGE, Int.reduceGT, Nat.reduceBEq, Int.reduceToNat]; repeat' (first | with_reducible rfl | (refine And.intro ?_ ?_) | (refine congrArg (Value.int _) ?_; omega) | omega))
              · have d2' := eq_false d2
                rw [decide_eq_false d2] at fb lb
                have lb' : leastI (freeP p q (-1) (y.tdiv p)) (k + 1) = B := by rw [lb]; split <;> first | rfl | (simp; omega)
                have fb' : freeP p q (x.tdiv p) (y.tdiv p) k = false := fb
                by_cases hA0 : A < 0
                · have la' : leastI (freeP p q (x.tdiv p) (-1)) (k + 1) = (k : Int) := by rw [la, if_neg (by omega), if_pos rfl]
                  have d3 := eq_true hA0
                  simp (config := { maxSteps := 2000000 }) only [go_sem, hG, hP, Nat.reduceEqDiff, ↓reduceIte, reduceCtorEq, Nat.reduceAdd, Nat.reduceSub, Nat.reduceMul, Nat.reduceLT, Nat.reduceLeDiff, Int.reduceAdd, Int.reduceSub, Int.reduceMul, Int.reduceLT, Int.reduceLE, Int.reduceEq, Int.reduceNeg, Int.reduceNe, Int.reduceGE, Int.reduceGT, Nat.reduceBEq, Int.reduceToNat,  e3, atS_t, atS_k, atS_f, d1', d2', d3]
                  (try simp (disch := omega) only [wrap_id])
                  repeat (refine And.intro (by first | omega | (simp; done) | (simp; omega) | (unfold appRoom; omega)) ?_)
                  repeat' (first | (refine And.intro ?_ ?_) | (with_reducible intro _))
                  all_goals first
                    | omega
                    | assumption
                    | (refine ⟨k + 1, ⟨⟨by omega, upto_succ hno fb'⟩, by omega⟩, SubS.weak ?_⟩; simp (config := { maxSteps := 2000000 }) only [go_sem, hG, hP, Nat.reduceEqDiff, ↓reduceIte, reduceCtorEq, Nat.reduceAdd, Nat.reduceSub, Nat.reduceMul, Nat.reduceLT, Nat.reduceLeDiff, Int.reduceAdd, Int.reduceSub, Int.reduceMul, Int.reduceLT, Int.reduceLE, Int.reduceEq, Int.reduceNeg, Int.reduceNe, Int.reduceGE, Int.reduceGT, Nat.reduceBEq, Int.reduceToNat,  la', lb']; repeat' (first | with_reducible rfl | (refine And.intro ?_ ?_) | (refine congrArg (Value.int _) ?_; omega) | omega))
                    | (simp (config := { maxSteps := 2000000 }) only [go_sem, hG, hP, Nat.reduceEqDiff, ↓reduceIte, reduceCtorEq, Nat.reduceAdd, Nat.reduceSub, Nat.reduceMul, Nat.reduceLT, Nat.reduceLeDiff, Int.reduceAdd, Int.reduceSub, Int.reduceMul, Int.reduceLT, Int.reduceLE, Int.reduceEq, Int.reduceNeg, Int.reduceNe, Int.reduceGE, Int.reduceGT, Nat.reduceBEq, Int.reduceToNat]; repeat' (first | with_reducible rfl | (refine And.intro ?_ ?_) | (refine congrArg (Value.int _) ?_; omega) | omega))
                · have la' : leastI (freeP p q (x.tdiv p) (-1)) (k + 1) = A := by rw [la, if_pos (by omega)]
                  have d3 := eq_false hA0
                  simp (config := { maxSteps := 2000000 }) only [go_sem, hG, hP, Nat.reduceEqDiff, ↓reduceIte, reduceCtorEq, Nat.reduceAdd, Nat.reduceSub, Nat.reduceMul, Nat.reduceLT, Nat.reduceLeDiff, Int.reduceAdd, Int.reduceSub, Int.reduceMul, Int.reduceLT, Int.reduceLE, Int.reduceEq, Int.reduceNeg, Int.reduceNe, Int.reduceGE, Int.reduceGT, Nat.reduceBEq, Int.reduceToNat,  e3, atS_t, atS_k, atS_f, d1', d2', d3]
                  (try simp (disch := omega) only [wrap_id])
                  repeat (refine And.intro (by first | omega | (simp; done) | (simp; omega) | (unfold appRoom; omega)) ?_)
                  repeat' (first | (refine And.intro ?_ ?_) | (with_reducible intro _))
                  all_goals first
                    | omega
                    | assumption
                    | (refine ⟨k + 1, ⟨⟨by omega, upto_succ hno fb'⟩, by omega⟩, SubS.weak ?_⟩; simp (config := { maxSteps := 2000000 }) only [go_sem, hG, hP, Nat.reduceEqDiff, ↓reduceIte, reduceCtorEq, Nat.reduceAdd, Nat.reduceSub, Nat.reduceMul, Nat.reduceLT, Nat.reduceLeDiff, Int.reduceAdd, Int.reduceSub, Int.reduceMul, Int.reduceLT, Int.reduceLE, Int.reduceEq, Int.reduceNeg, Int.reduceNe, Int.reduceGE, Int.reduceGT, Nat.reduceBEq, Int.reduceToNat,  la', lb']; repeat' (first | with_reducible rfl | (refine And.intro ?_ ?_) | (refine congrArg (Value.int _) ?_; omega) | omega))
                    | (simp (config := { maxSteps := 2000000 }) only [go_sem, hG, hP, Nat.reduceEqDiff, ↓reduceIte, reduceCtorEq, Nat.reduceAdd, Nat.reduceSub, Nat.reduceMul, Nat.reduceLT, Nat.reduceLeDiff, Int.reduceAdd, Int.reduceSub, Int.reduceMul, Int.reduceLT, Int.reduceLE, Int.reduceEq, Int.reduceNeg, Int.reduceNe, Int.reduceGE, Int.reduceGT, Nat.reduceBEq, Int.reduceToNat]; repeat' (first | with_reducible rfl | (refine And.intro ?_ ?_) | (refine congrArg (Value.int _) ?_; omega) | omega))
            · have d1' := eq_false d1
              rw [decide_eq_false d1] at la fb
              have la' : leastI (freeP p q (x.tdiv p) (-1)) (k + 1) = A := by rw [la]; split <;> first | rfl | (simp; omega)
              have fb' : freeP p q (x.tdiv p) (y.tdiv p) k = false := by rw [fb]; rfl
              by_cases d2 : fidx (atP p true (y.tdiv p) (k : Int)) q < 0
              · have d2' := eq_true d2
                rw [decide_eq_true d2] at lb
                by_cases hB0 : B < 0
                · have lb' : leastI (freeP p q (-1) (y.tdiv p)) (k + 1) = (k : Int) := by rw [lb, if_neg (by omega), if_pos rfl]
                  have d3 := eq_true hB0
                  simp (config := { maxSteps := 2000000 }) only [go_sem, hG, hP, Nat.reduceEqDiff, ↓reduceIte, reduceCtorEq, Nat.reduceAdd, Nat.reduceSub, Nat.reduceMul, Nat.reduceLT, Nat.reduceLeDiff, Int.reduceAdd, Int.reduceSub, Int.reduceMul, Int.reduceLT, Int.reduceLE, Int.reduceEq, Int.reduceNeg, Int.reduceNe, Int.reduceGE, Int.reduceGT, Nat.reduceBEq, Int.reduceToNat,  e3, atS_t, atS_k, atS_f, d1', d2', d3]
                  (try simp (disch := omega) only [wrap_id])
                  repeat (refine And.intro (by first | omega | (simp; done) | (simp; omega) | (unfold appRoom; omega)) ?_)
                  repeat' (first | (refine And.intro ?_ ?_) | (with_reducible intro _))
                  all_goals first
                    | omega
                    | assumption
                    | (refine ⟨k + 1, ⟨⟨by omega, upto_succ hno fb'⟩, by omega⟩, SubS.weak ?_⟩; simp (config := { maxSteps := 2000000 }) only [go_sem, hG, hP, Nat.reduceEqDiff, ↓reduceIte, reduceCtorEq, Nat.reduceAdd, Nat.reduceSub, Nat.reduceMul, Nat.reduceLT, Nat.reduceLeDiff, Int.reduceAdd, Int.reduceSub, Int.reduceMul, Int.reduceLT, Int.reduceLE, Int.reduceEq, Int.reduceNeg, Int.reduceNe, Int.reduceGE, Int.reduceGT, Nat.reduceBEq, Int.reduceToNat,  la', lb']; repeat' (first | with_reducible rfl | (refine And.intro ?_ ?_) | (refine congrArg (Value.int _) ?_; omega) | omega))
                    | (simp (config := { maxSteps := 2000000 }) only [go_sem, hG, hP, Nat.reduceEqDiff, ↓reduceIte, reduceCtorEq, Nat.reduceAdd, Nat.reduceSub, Nat.reduceMul, Nat.reduceLT, Nat.reduceLeDiff, Int.reduceAdd, Int.reduceSub, Int.reduceMul, Int.reduceLT, Int.reduceLE, Int.reduceEq, Int.reduceNeg, Int.reduceNe, Int.reduceGE, Int.reduceGT, Nat.reduceBEq, Int.reduceToNat]; repeat' (first | with_reducible rfl | (refine And.intro ?_ ?_) | (refine congrArg (Value.int _) ?_; omega) | omega))
                · have lb' : leastI (freeP p q (-1) (y.tdiv p)) (k + 1) = B := by rw [lb, if_pos (by omega)]
                  have d3 := eq_false hB0
                  simp (config := { maxSteps := 2000000 }) only [go_sem, hG, hP, Nat.reduceEqDiff, ↓reduceIte, reduceCtorEq, Nat.reduceAdd, Nat.reduceSub, Nat.reduceMul, Nat.reduceLT, Nat.reduceLeDiff, Int.reduceAdd, Int.reduceSub, Int.reduceMul, Int.reduceLT, Int.reduceLE, Int.reduceEq, Int.reduceNeg, Int.reduceNe, Int.reduceGE, Int.reduceGT, Nat.reduceBEq, Int.reduceToNat,  e3, atS_t, atS_k, atS_f, d1', d2', d3]
                  (try simp (disch := omega) only [wrap_id])
                  repeat (refine And.intro (by first | omega | (simp; done) | (simp; omega) | (unfold appRoom; omega)) ?_)
                  repeat' (first | (refine And.intro ?_ ?_) | (with_reducible intro _))
                  all_goals first
                    | omega
                    | assumption
                    | (refine ⟨k + 1, ⟨⟨by omega, upto_succ hno fb'⟩, by omega⟩, SubS.weak ?_⟩; simp (config := { maxSteps := 2000000 }) only [go_sem, hG, hP, Nat.reduceEqDiff, ↓reduceIte, reduceCtorEq, Nat.reduceAdd, Nat.reduceSub, Nat.reduceMul, Nat.reduceLT, Nat.reduceLeDiff, Int.reduceAdd, Int.reduceSub, Int.reduceMul, Int.reduceLT, Int.reduceLE, Int.reduceEq, Int.reduceNeg, Int.reduceNe, Int.reduceGE, Int.reduceGT, Nat.reduceBEq, Int.reduceToNat,  la', lb']; repeat' (first | with_reducible rfl | (refine And.intro ?_ ?_) | (refine congrArg (Value.int _) ?_; omega) | omega))
                    | (simp (config := { maxSteps := 2000000 }) only [go_sem, hG, hP, Nat.reduceEqDiff, ↓reduceIte, reduceCtorEq, Nat.reduceAdd, Nat.reduceSub, Nat.reduceMul, Nat.reduceLT, Nat.reduceLeDiff, Int.reduceAdd, Int.reduceSub, Int.reduceMul, Int.reduceLT, Int.reduceLE, Int.reduceEq, Int.reduceNeg, Int.reduceNe, Int.reduceGE, Int.reduceGT, Nat.reduceBEq, Int.reduceToNat]; repeat' (first | with_reducible rfl | (refine And.intro ?_ ?_) | (refine congrArg (Value.int _) ?_; omega) | omega))
              · have d2' := eq_false d2
                rw [decide_eq_false d2] at lb
                have lb' : leastI (freeP p q (-1) (y.tdiv p)) (k + 1) = B := by rw [lb]; split <;> first | rfl | (simp; omega)
                simp (config := { maxSteps := 2000000 }) only [go_sem, hG, hP, Nat.reduceEqDiff, ↓reduceIte, reduceCtorEq, Nat.reduceAdd, Nat.reduceSub, Nat.reduceMul, Nat.reduceLT, Nat.reduceLeDiff, Int.reduceAdd, Int.reduceSub, Int.reduceMul, Int.reduceLT, Int.reduceLE, Int.reduceEq, Int.reduceNeg, Int.reduceNe, Int.reduceGE, Int.reduceGT, Nat.reduceBEq, Int.reduceToNat,  e3, atS_t, atS_k, atS_f, d1', d2']
                (try simp (disch := omega) only [wrap_id])
                repeat (refine And.intro (by first | omega | (simp; done) | (simp; omega) | (unfold appRoom; omega)) ?_)
                repeat' (first | (refine And.intro ?_ ?_) | (with_reducible intro _))
                all_goals first
                  | omega
                  | assumption
                  | (refine ⟨k + 1, ⟨⟨by omega, upto_succ hno fb'⟩, by omega⟩, SubS.weak ?_⟩; simp (config := { maxSteps := 2000000 }) only [go_sem, hG, hP, Nat.reduceEqDiff, ↓reduceIte, reduceCtorEq, Nat.reduceAdd, Nat.reduceSub, Nat.reduceMul, Nat.reduceLT, Nat.reduceLeDiff, Int.reduceAdd, Int.reduceSub, Int.reduceMul, Int.reduceLT, Int.reduceLE, Int.reduceEq, Int.reduceNeg, Int.reduceNe, Int.reduceGE, Int.reduceGT, Nat.reduceBEq, Int.reduceToNat,  la', lb']; repeat' (first | with_reducible rfl | (refine And.intro ?_ ?_) | (refine congrArg (Value.int _) ?_; omega) | omega))
                  | (simp (config := { maxSteps := 2000000 }) only [go_sem, hG, hP, Nat.reduceEqDiff, ↓reduceIte, reduceCtorEq, Nat.reduceAdd, Nat.reduceSub, Nat.reduceMul, Nat.reduceLT, Nat.reduceLeDiff, Int.reduceAdd, Int.reduceSub, Int.reduceMul, Int.reduceLT, Int.reduceLE, Int.reduceEq, Int.reduceNeg, Int.reduceNe, Int.reduceGE, Int.reduceGT, Nat.reduceBEq, Int.reduceToNat]; repeat' (first | with_reducible rfl | (refine And.intro ?_ ?_) | (refine congrArg (Value.int _) ?_; omega) | omega))
          have e3 : ((k : Int) < m) = False := eq_false hlk
          have hk2 : k = m.toNat := by omega
          subst hk2
          have hm : ¬ 0 ≤ fmF ⟨s, p, m, q⟩ x y := by unfold fmF; dsimp only; rw [least_none hno]; omega
          have ca : leastI (freeP p q (x.tdiv p) (-1)) m.toNat = fmA ⟨s, p, m, q⟩ x := rfl
          have cb : leastI (freeP p q (-1) (y.tdiv p)) m.toNat = fmB ⟨s, p, m, q⟩ y := rfl
          rw [ca, cb]
          by_cases ha : fmA ⟨s, p, m, q⟩ x < 0
          · rw [conn_block hall hf hm (.inl ha)] at h
            have ea := eq_true ha
            simp (config := { maxSteps := 2000000 }) only [go_sem, hG, hP, Nat.reduceEqDiff, ↓reduceIte, reduceCtorEq, Nat.reduceAdd, Nat.reduceSub, Nat.reduceMul, Nat.reduceLT, Nat.reduceLeDiff, Int.reduceAdd, Int.reduceSub, Int.reduceMul, Int.reduceLT, Int.reduceLE, Int.reduceEq, Int.reduceNeg, Int.reduceNe, Int.reduceGE, Int.reduceGT, Nat.reduceBEq, Int.reduceToNat,  e3, ea]
            repeat (refine And.intro (by first | omega | (simp; done) | (simp; omega) | (unfold appRoom; omega)) ?_)
            refine ⟨_, _, _, ?_, h⟩
            simp (config := { maxSteps := 2000000 }) only [go_sem, hG, hP, Nat.reduceEqDiff, ↓reduceIte, reduceCtorEq, Nat.reduceAdd, Nat.reduceSub, Nat.reduceMul, Nat.reduceLT, Nat.reduceLeDiff, Int.reduceAdd, Int.reduceSub, Int.reduceMul, Int.reduceLT, Int.reduceLE, Int.reduceEq, Int.reduceNeg, Int.reduceNe, Int.reduceGE, Int.reduceGT, Nat.reduceBEq, Int.reduceToNat]
            all_goals simp
          have ea := eq_false ha
          by_cases hb : fmB ⟨s, p, m, q⟩ y < 0
          · rw [conn_block hall hf hm (.inr hb)] at h
            have eb := eq_true hb
            simp (config := { maxSteps := 2000000 }) only [go_sem, hG, hP, Nat.reduceEqDiff, ↓reduceIte, reduceCtorEq, Nat.reduceAdd, Nat.reduceSub, Nat.reduceMul, Nat.reduceLT, Nat.reduceLeDiff, Int.reduceAdd, Int.reduceSub, Int.reduceMul, Int.reduceLT, Int.reduceLE, Int.reduceEq, Int.reduceNeg, Int.reduceNe, Int.reduceGE, Int.reduceGT, Nat.reduceBEq, Int.reduceToNat,  e3, ea, eb]
            repeat (refine And.intro (by first | omega | (simp; done) | (simp; omega) | (unfold appRoom; omega)) ?_)
            refine ⟨_, _, _, ?_, h⟩
            simp (config := { maxSteps := 2000000 }) only [go_sem, hG, hP, Nat.reduceEqDiff, ↓reduceIte, reduceCtorEq, Nat.reduceAdd, Nat.reduceSub, Nat.reduceMul, Nat.reduceLT, Nat.reduceLeDiff, Int.reduceAdd, Int.reduceSub, Int.reduceMul, Int.reduceLT, Int.reduceLE, Int.reduceEq, Int.reduceNeg, Int.reduceNe, Int.reduceGE, Int.reduceGT, Nat.reduceBEq, Int.reduceToNat]
            all_goals simp
          have eb := eq_false hb
          have hab : ¬ (fmA ⟨s, p, m, q⟩ x < 0 ∨ fmB ⟨s, p, m, q⟩ y < 0) := fun e => e.elim ha hb
          rw [conn_move hall hf hm hab] at h
          have mv := mov_of hall hm hab
          have pre1 := mv.pre1 hok
          have pre2 := mv.pre2 hok
          have lok := chL_ok hok mv
          have c1 : chain q p (q.length + 1) true (y.tdiv p) (fmA ⟨s, p, m, q⟩ x) (fmB ⟨s, p, m, q⟩ y) = ch1 ⟨s, p, m, q⟩ x y := rfl
          have c2 : chain q p (q.length + 1) false (x.tdiv p) (fmB ⟨s, p, m, q⟩ y) (fmA ⟨s, p, m, q⟩ x) = ch2 ⟨s, p, m, q⟩ x y := rfl
          have h1L : chL ⟨s, p, m, q⟩ x y = if (ch2 ⟨s, p, m, q⟩ x y).length < (ch1 ⟨s, p, m, q⟩ x y).length then ch2 ⟨s, p, m, q⟩ x y else ch1 ⟨s, p, m, q⟩ x y := rfl
          have h1M : chM ⟨s, p, m, q⟩ x y = if (ch2 ⟨s, p, m, q⟩ x y).length < (ch1 ⟨s, p, m, q⟩ x y).length then fmB ⟨s, p, m, q⟩ y else fmA ⟨s, p, m, q⟩ x := rfl
          dsimp only at pre1 pre2
          generalize ga : fmA ⟨s, p, m, q⟩ x = a at *
          generalize gb : fmB ⟨s, p, m, q⟩ y = b at *
          generalize g1 : ch1 ⟨s, p, m, q⟩ x y = l1 at *
          generalize g2 : ch2 ⟨s, p, m, q⟩ x y = l2 at *
          have cba : b + a = a + b := Int.add_comm b a
          have pz1 : (a < 0) = False := eq_false (by omega)
          have pz2 : (b < 0) = False := eq_false (by omega)
          by_cases hlt : l2.length < l1.length
          · have elt : ((l2.length : Int) < (l1.length : Int)) = True := eq_true (by omega)
            rw [if_pos hlt] at h1L h1M
            rw [h1L, h1M] at h
            rw [h1L] at lok
            simp (config := { maxSteps := 2000000 }) only [go_sem, hG, hP, Nat.reduceEqDiff, ↓reduceIte, reduceCtorEq, Nat.reduceAdd, Nat.reduceSub, Nat.reduceMul, Nat.reduceLT, Nat.reduceLeDiff, Int.reduceAdd, Int.reduceSub, Int.reduceMul, Int.reduceLT, Int.reduceLE, Int.reduceEq, Int.reduceNeg, Int.reduceNe, Int.reduceGE, Int.reduceGT, Nat.reduceBEq, Int.reduceToNat,  e3, pz1, pz2, atS_t, atS_k, atS_f, ccS_t, ccS_k, ccT_f, ccF_f, c1, c2, elt]
            repeat (refine And.intro (by first | omega | (simp; done) | (simp; omega) | (unfold appRoom; omega)) ?_)
            repeat' (first | (refine And.intro ?_ ?_) | (with_reducible intro _))
            all_goals try (first | omega | assumption | exact pre1 | exact pre2 | (simp (config := { maxSteps := 2000000 }) only [go_sem, hG, hP, Nat.reduceEqDiff, ↓reduceIte, reduceCtorEq, Nat.reduceAdd, Nat.reduceSub, Nat.reduceMul, Nat.reduceLT, Nat.reduceLeDiff, Int.reduceAdd, Int.reduceSub, Int.reduceMul, Int.reduceLT, Int.reduceLE, Int.reduceEq, Int.reduceNeg, Int.reduceNe, Int.reduceGE, Int.reduceGT, Nat.reduceBEq, Int.reduceToNat]; repeat' (first | with_reducible rfl | (refine And.intro ?_ ?_) | (refine congrArg (Value.int _) ?_; omega) | omega)); done)
            refine loopI hE (fun i : Nat => ⟨[(1, .v (.int .i64 x)), (2, .v (.int .i64 y)), (3, .ptr 0 0), (6, .ptr 1 0), (18, .sub 3 2 0 l2.length), (19, .v (.int .i64 b)), (21, .v (.int .i64 i))], [(0, .box [.v (.int .i64 s), .v (.int .i64 p), .v (.int .i64 m), .sub 2 3 0 q.length]), (1, .box [.v (.int .i64 0), .v (.int .i64 0), .v (.int .i64 0), .v (.slice none 0 0)]), (2, .row .path (recol q (a + b) (l2.take i))), (3, .row .move (mvs q (a + b) l2))], 4, Try.f23.ntmps⟩) (fun i => i ≤ l2.length) (fun i => l2.length - i) ⟨0, Nat.zero_le _, SubS.weak ?_⟩ ?_
            · simp (config := { maxSteps := 2000000 }) only [go_sem, hG, hP, Nat.reduceEqDiff, ↓reduceIte, reduceCtorEq, Nat.reduceAdd, Nat.reduceSub, Nat.reduceMul, Nat.reduceLT, Nat.reduceLeDiff, Int.reduceAdd, Int.reduceSub, Int.reduceMul, Int.reduceLT, Int.reduceLE, Int.reduceEq, Int.reduceNeg, Int.reduceNe, Int.reduceGE, Int.reduceGT, Nat.reduceBEq, Int.reduceToNat,  recol_nil, cba]
              repeat' (first | with_reducible rfl | (refine And.intro ?_ ?_) | (refine congrArg (Value.int _) ?_; omega) | omega)
              all_goals (first | (simp [mvs_len, cba]; done) | (rw [cba]; done))
            · intro i hi
              by_cases hli : i < l2.length
              · have e0 : ((i : Int) < (l2.length : Int)) = True := eq_true (by omega)
                have hmg := mvs_get (q := q) (c := a + b) hli
                have hbd := lok.bd i hli
                have hnt := not_in_take lok.di hli
                have hsn := take_snoc hli
                dsimp only at hbd
                generalize l2.getD i 0 = e at *
                simp (config := { maxSteps := 2000000 }) only [go_sem, hG, hP, Nat.reduceEqDiff, ↓reduceIte, reduceCtorEq, Nat.reduceAdd, Nat.reduceSub, Nat.reduceMul, Nat.reduceLT, Nat.reduceLeDiff, Int.reduceAdd, Int.reduceSub, Int.reduceMul, Int.reduceLT, Int.reduceLE, Int.reduceEq, Int.reduceNeg, Int.reduceNe, Int.reduceGE, Int.reduceGT, Nat.reduceBEq, Int.reduceToNat,  e0]
                refine loopI hE (fun k : Nat => ⟨[(1, .v (.int .i64 x)), (2, .v (.int .i64 y)), (3, .ptr 0 0), (6, .ptr 1 0), (18, .sub 3 2 0 l2.length), (19, .v (.int .i64 b)), (21, .v (.int .i64 i)), (22, .v (.int .i64 k))], [(0, .box [.v (.int .i64 s), .v (.int .i64 p), .v (.int .i64 m), .sub 2 3 0 q.length]), (1, .box [.v (.int .i64 0), .v (.int .i64 0), .v (.int .i64 0), .v (.slice none 0 0)]), (2, .row .path (recol q (a + b) (if e < k then l2.take (i + 1) else l2.take i))), (3, .row .move (mvs q (a + b) l2))], 4, Try.f23.ntmps⟩) (fun k => k ≤ q.length) (fun k => q.length - k) ⟨0, Nat.zero_le _, SubS.weak ?_⟩ ?_
                · simp (config := { maxSteps := 2000000 }) only [go_sem, hG, hP, Nat.reduceEqDiff, ↓reduceIte, reduceCtorEq, Nat.reduceAdd, Nat.reduceSub, Nat.reduceMul, Nat.reduceLT, Nat.reduceLeDiff, Int.reduceAdd, Int.reduceSub, Int.reduceMul, Int.reduceLT, Int.reduceLE, Int.reduceEq, Int.reduceNeg, Int.reduceNe, Int.reduceGE, Int.reduceGT, Nat.reduceBEq, Int.reduceToNat,  if_neg (Nat.not_lt_zero e)]
                  repeat' (first | with_reducible rfl | (refine And.intro ?_ ?_) | (refine congrArg (Value.int _) ?_; omega) | omega)
                · intro k hk
                  by_cases hlk : k < q.length
                  · have e1 : ((k : Int) < (q.length : Int)) = True := eq_true (by omega)
                    by_cases hke : k = e
                    · subst hke
                      have n1 : (if k < k then l2.take (i + 1) else l2.take i) = l2.take i := if_neg (by omega)
                      have n2 : (if k < k + 1 then l2.take (i + 1) else l2.take i) = l2.take (i + 1) := if_pos (by omega)
                      have hz : (recol q (a + b) (l2.take i)).getD k Pz = q.getD k Pz := by rw [recol_get hbd, if_neg hnt]
                      have hset := recol_snoc (c := a + b) (l := l2.take i) hbd
                      rw [← hsn] at hset
                      generalize q.getD k Pz = z at *
                      rw [swp_eq] at hset
                      have ez : (z.src = z.src) = True := eq_true rfl
                      simp (config := { maxSteps := 2000000 }) only [go_sem, hG, hP, Nat.reduceEqDiff, ↓reduceIte, reduceCtorEq, Nat.reduceAdd, Nat.reduceSub, Nat.reduceMul, Nat.reduceLT, Nat.reduceLeDiff, Int.reduceAdd, Int.reduceSub, Int.reduceMul, Int.reduceLT, Int.reduceLE, Int.reduceEq, Int.reduceNeg, Int.reduceNe, Int.reduceGE, Int.reduceGT, Nat.reduceBEq, Int.reduceToNat,  e0, e1, hmg, n1, hz, hset, recol_len, mvs_len, ez]
                      (try simp (disch := omega) only [wrap_id])
                      repeat (refine And.intro (by first | omega | (simp; done) | (simp; omega) | (unfold appRoom; omega)) ?_)
                      repeat' (first | (refine And.intro ?_ ?_) | (with_reducible intro _))
                      all_goals first
                        | omega
                        | (refine ⟨k + 1, ⟨by omega, by omega⟩, SubS.weak ?_⟩; simp (config := { maxSteps := 2000000 }) only [go_sem, hG, hP, Nat.reduceEqDiff, ↓reduceIte, reduceCtorEq, Nat.reduceAdd, Nat.reduceSub, Nat.reduceMul, Nat.reduceLT, Nat.reduceLeDiff, Int.reduceAdd, Int.reduceSub, Int.reduceMul, Int.reduceLT, Int.reduceLE, Int.reduceEq, Int.reduceNeg, Int.reduceNe, Int.reduceGE, Int.reduceGT, Nat.reduceBEq, Int.reduceToNat,  n2]; repeat' (first | with_reducible rfl | (refine And.intro ?_ ?_) | (refine congrArg (Value.int _) ?_; omega) | omega); all_goals (first | (simp; done) | omega))
                        | (exfalso; simp_all; done)
                    · have n2 : (if e < k + 1 then l2.take (i + 1) else l2.take i) = (if e < k then l2.take (i + 1) else l2.take i) := by
                        by_cases h5 : e < k
                        · rw [if_pos h5, if_pos (by omega)]
                        · rw [if_neg h5, if_neg (by omega)]
                      generalize (if e < k then l2.take (i + 1) else l2.take i) = cur at *
                      have hs := recol_src (q := q) (c := a + b) (l := cur) hlk
                      have hne : (q.getD k Pz).src ≠ (q.getD e Pz).src := fun e2 => hke (src_of hok hlk hbd e2)
                      generalize hw : (recol q (a + b) cur).getD k Pz = w at *
                      have ez : (w.src = (q.getD e Pz).src) = False := eq_false (by rw [hs]; exact hne)
                      simp (config := { maxSteps := 2000000 }) only [go_sem, hG, hP, Nat.reduceEqDiff, ↓reduceIte, reduceCtorEq, Nat.reduceAdd, Nat.reduceSub, Nat.reduceMul, Nat.reduceLT, Nat.reduceLeDiff, Int.reduceAdd, Int.reduceSub, Int.reduceMul, Int.reduceLT, Int.reduceLE, Int.reduceEq, Int.reduceNeg, Int.reduceNe, Int.reduceGE, Int.reduceGT, Nat.reduceBEq, Int.reduceToNat,  e0, e1, hmg, hw, ez, recol_len, mvs_len]
                      (try simp (disch := omega) only [wrap_id])
                      repeat (refine And.intro (by first | omega | (simp; done) | (simp; omega) | (unfold appRoom; omega)) ?_)
                      repeat' (first | (refine And.intro ?_ ?_) | (with_reducible intro _))
                      all_goals first
                        | omega
                        | (refine ⟨k + 1, ⟨by omega, by omega⟩, SubS.weak ?_⟩; simp (config := { maxSteps := 2000000 }) only [go_sem, hG, hP, Nat.reduceEqDiff, ↓reduceIte, reduceCtorEq, Nat.reduceAdd, Nat.reduceSub, Nat.reduceMul, Nat.reduceLT, Nat.reduceLeDiff, Int.reduceAdd, Int.reduceSub, Int.reduceMul, Int.reduceLT, Int.reduceLE, Int.reduceEq, Int.reduceNeg, Int.reduceNe, Int.reduceGE, Int.reduceGT, Nat.reduceBEq, Int.reduceToNat,  n2]; repeat' (first | with_reducible rfl | (refine And.intro ?_ ?_) | (refine congrArg (Value.int _) ?_; omega) | omega); all_goals (first | (simp; done) | omega))
                  · have e1 : ((k : Int) < (q.length : Int)) = False := eq_false (by omega)
                    have n1 : (if e < k then l2.take (i + 1) else l2.take i) = l2.take (i + 1) := if_pos (by omega)
                    have hlq := lok.le
                    dsimp only at hlq
                    simp (config := { maxSteps := 2000000 }) only [go_sem, hG, hP, Nat.reduceEqDiff, ↓reduceIte, reduceCtorEq, Nat.reduceAdd, Nat.reduceSub, Nat.reduceMul, Nat.reduceLT, Nat.reduceLeDiff, Int.reduceAdd, Int.reduceSub, Int.reduceMul, Int.reduceLT, Int.reduceLE, Int.reduceEq, Int.reduceNeg, Int.reduceNe, Int.reduceGE, Int.reduceGT, Nat.reduceBEq, Int.reduceToNat,  e1, n1]
                    (try simp (disch := omega) only [wrap_id])
                    refine ⟨i + 1, ⟨by omega, by omega⟩, SubS.weak ?_⟩
                    simp (config := { maxSteps := 2000000 }) only [go_sem, hG, hP, Nat.reduceEqDiff, ↓reduceIte, reduceCtorEq, Nat.reduceAdd, Nat.reduceSub, Nat.reduceMul, Nat.reduceLT, Nat.reduceLeDiff, Int.reduceAdd, Int.reduceSub, Int.reduceMul, Int.reduceLT, Int.reduceLE, Int.reduceEq, Int.reduceNeg, Int.reduceNe, Int.reduceGE, Int.reduceGT, Nat.reduceBEq, Int.reduceToNat]
                    repeat' (first | with_reducible rfl | (refine And.intro ?_ ?_) | (refine congrArg (Value.int _) ?_; omega) | omega)
              · have e0 : ((i : Int) < (l2.length : Int)) = False := eq_false (by omega)
                obtain rfl : i = l2.length := by omega
                rw [List.take_length]
                have rtk : (recol q (a + b) l2).take q.length = recol q (a + b) l2 := List.take_of_length_le (by rw [recol_len]; omega)
                have mtk : (mvs q (a + b) l2).take l2.length = mvs q (a + b) l2 := List.take_of_length_le (by rw [mvs_len]; omega)
                simp (config := { maxSteps := 2000000 }) only [go_sem, hG, hP, Nat.reduceEqDiff, ↓reduceIte, reduceCtorEq, Nat.reduceAdd, Nat.reduceSub, Nat.reduceMul, Nat.reduceLT, Nat.reduceLeDiff, Int.reduceAdd, Int.reduceSub, Int.reduceMul, Int.reduceLT, Int.reduceLE, Int.reduceEq, Int.reduceNeg, Int.reduceNe, Int.reduceGE, Int.reduceGT, Nat.reduceBEq, Int.reduceToNat,  e0, recol_len, rtk, mtk]
                repeat (refine And.intro (by first | omega | (simp; done) | (simp; omega) | (unfold appRoom; omega)) ?_)
                refine ⟨_, _, _, ?_, h⟩
                simp (config := { maxSteps := 2000000 }) only [go_sem, hG, hP, Nat.reduceEqDiff, ↓reduceIte, reduceCtorEq, Nat.reduceAdd, Nat.reduceSub, Nat.reduceMul, Nat.reduceLT, Nat.reduceLeDiff, Int.reduceAdd, Int.reduceSub, Int.reduceMul, Int.reduceLT, Int.reduceLE, Int.reduceEq, Int.reduceNeg, Int.reduceNe, Int.reduceGE, Int.reduceGT, Nat.reduceBEq, Int.reduceToNat,  rtk, mtk]
                repeat' (first | with_reducible rfl | (refine And.intro ?_ ?_) | (refine congrArg (Value.int _) ?_; omega) | omega)
                all_goals (first | (simp [mvs_len, recol_len]; done) | (rw [rtk]; done) | exact mtk)
          · have elt : ((l2.length : Int) < (l1.length : Int)) = False := eq_false (by omega)
            rw [if_neg hlt] at h1L h1M
            rw [h1L, h1M] at h
            rw [h1L] at lok
            simp (config := { maxSteps := 2000000 }) only [go_sem, hG, hP, Nat.reduceEqDiff, ↓reduceIte, reduceCtorEq, Nat.reduceAdd, Nat.reduceSub, Nat.reduceMul, Nat.reduceLT, Nat.reduceLeDiff, Int.reduceAdd, Int.reduceSub, Int.reduceMul, Int.reduceLT, Int.reduceLE, Int.reduceEq, Int.reduceNeg, Int.reduceNe, Int.reduceGE, Int.reduceGT, Nat.reduceBEq, Int.reduceToNat,  e3, pz1, pz2, atS_t, atS_k, atS_f, ccS_t, ccS_k, ccT_f, ccF_f, c1, c2, elt]
            repeat (refine And.intro (by first | omega | (simp; done) | (simp; omega) | (unfold appRoom; omega)) ?_)
            repeat' (first | (refine And.intro ?_ ?_) | (with_reducible intro _))
            all_goals try (first | omega | assumption | exact pre1 | exact pre2 | (simp (config := { maxSteps := 2000000 }) only [go_sem, hG, hP, Nat.reduceEqDiff, ↓reduceIte, reduceCtorEq, Nat.reduceAdd, Nat.reduceSub, Nat.reduceMul, Nat.reduceLT, Nat.reduceLeDiff, Int.reduceAdd, Int.reduceSub, Int.reduceMul, Int.reduceLT, Int.reduceLE, Int.reduceEq, Int.reduceNeg, Int.reduceNe, Int.reduceGE, Int.reduceGT, Nat.reduceBEq, Int.reduceToNat]; repeat' (first | with_reducible rfl | (refine And.intro ?_ ?_) | (refine congrArg (Value.int _) ?_; omega) | omega)); done)
            refine loopI hE (fun i : Nat => ⟨[(1, .v (.int .i64 x)), (2, .v (.int .i64 y)), (3, .ptr 0 0), (6, .ptr 1 0), (18, .sub 3 2 0 l1.length), (19, .v (.int .i64 a)), (21, .v (.int .i64 i))], [(0, .box [.v (.int .i64 s), .v (.int .i64 p), .v (.int .i64 m), .sub 2 3 0 q.length]), (1, .box [.v (.int .i64 0), .v (.int .i64 0), .v (.int .i64 0), .v (.slice none 0 0)]), (2, .row .path (recol q (a + b) (l1.take i))), (3, .row .move (mvs q (a + b) l1))], 4, Try.f23.ntmps⟩) (fun i => i ≤ l1.length) (fun i => l1.length - i) ⟨0, Nat.zero_le _, SubS.weak ?_⟩ ?_
            · simp (config := { maxSteps := 2000000 }) only [go_sem, hG, hP, Nat.reduceEqDiff, ↓reduceIte, reduceCtorEq, Nat.reduceAdd, Nat.reduceSub, Nat.reduceMul, Nat.reduceLT, Nat.reduceLeDiff, Int.reduceAdd, Int.reduceSub, Int.reduceMul, Int.reduceLT, Int.reduceLE, Int.reduceEq, Int.reduceNeg, Int.reduceNe, Int.reduceGE, Int.reduceGT, Nat.reduceBEq, Int.reduceToNat,  recol_nil, cba]
              repeat' (first | with_reducible rfl | (refine And.intro ?_ ?_) | (refine congrArg (Value.int _) ?_; omega) | omega)
              all_goals (first | (simp [mvs_len, cba]; done) | (rw [cba]; done))
            · intro i hi
              by_cases hli : i < l1.length
              · have e0 : ((i : Int) < (l1.length : Int)) = True := eq_true (by omega)
                have hmg := mvs_get (q := q) (c := a + b) hli
                have hbd := lok.bd i hli
                have hnt := not_in_take lok.di hli
                have hsn := take_snoc hli
                dsimp only at hbd
                generalize l1.getD i 0 = e at *
                simp (config := { maxSteps := 2000000 }) only [go_sem, hG, hP, Nat.reduceEqDiff, ↓reduceIte, reduceCtorEq, Nat.reduceAdd, Nat.reduceSub, Nat.reduceMul, Nat.reduceLT, Nat.reduceLeDiff, Int.reduceAdd, Int.reduceSub, Int.reduceMul, Int.reduceLT, Int.reduceLE, Int.reduceEq, Int.reduceNeg, Int.reduceNe, Int.reduceGE, Int.reduceGT, Nat.reduceBEq, Int.reduceToNat,  e0]
                refine loopI hE (fun k : Nat => ⟨[(1, .v (.int .i64 x)), (2, .v (.int .i64 y)), (3, .ptr 0 0), (6, .ptr 1 0), (18, .sub 3 2 0 l1.length), (19, .v (.int .i64 a)), (21, .v (.int .i64 i)), (22, .v (.int .i64 k))], [(0, .box [.v (.int .i64 s), .v (.int .i64 p), .v (.int .i64 m), .sub 2 3 0 q.length]), (1, .box [.v (.int .i64 0), .v (.int .i64 0), .v (.int .i64 0), .v (.slice none 0 0)]), (2, .row .path (recol q (a + b) (if e < k then l1.take (i + 1) else l1.take i))), (3, .row .move (mvs q (a + b) l1))], 4, Try.f23.ntmps⟩) (fun k => k ≤ q.length) (fun k => q.length - k) ⟨0, Nat.zero_le _, SubS.weak ?_⟩ ?_
                · simp (config := { maxSteps := 2000000 }) only [go_sem, hG, hP, Nat.reduceEqDiff, ↓reduceIte, reduceCtorEq, Nat.reduceAdd, Nat.reduceSub, Nat.reduceMul, Nat.reduceLT, Nat.reduceLeDiff, Int.reduceAdd, Int.reduceSub, Int.reduceMul, Int.reduceLT, Int.reduceLE, Int.reduceEq, Int.reduceNeg, Int.reduceNe, Int.reduceGE, Int.reduceGT, Nat.reduceBEq, Int.reduceToNat,  if_neg (Nat.not_lt_zero e)]
                  repeat' (first | with_reducible rfl | (refine And.intro ?_ ?_) | (refine congrArg (Value.int _) ?_; omega) | omega)
                · intro k hk
                  by_cases hlk : k < q.length
                  · have e1 : ((k : Int) < (q.length : Int)) = True := eq_true (by omega)
                    by_cases hke : k = e
                    · subst hke
                      have n1 : (if k < k then l1.take (i + 1) else l1.take i) = l1.take i := if_neg (by omega)
                      have n2 : (if k < k + 1 then l1.take (i + 1) else l1.take i) = l1.take (i + 1) := if_pos (by omega)
                      have hz : (recol q (a + b) (l1.take i)).getD k Pz = q.getD k Pz := by rw [recol_get hbd, if_neg hnt]
                      have hset := recol_snoc (c := a + b) (l := l1.take i) hbd
                      rw [← hsn] at hset
                      generalize q.getD k Pz = z at *
                      rw [swp_eq] at hset
                      have ez : (z.src = z.src) = True := eq_true rfl
                      simp (config := { maxSteps := 2000000 }) only [go_sem, hG, hP, Nat.reduceEqDiff, ↓reduceIte, reduceCtorEq, Nat.reduceAdd, Nat.reduceSub, Nat.reduceMul, Nat.reduceLT, Nat.reduceLeDiff, Int.reduceAdd, Int.reduceSub, Int.reduceMul, Int.reduceLT, Int.reduceLE, Int.reduceEq, Int.reduceNeg, Int.reduceNe, Int.reduceGE, Int.reduceGT, Nat.reduceBEq, Int.reduceToNat,  e0, e1, hmg, n1, hz, hset, recol_len, mvs_len, ez]
                      (try simp (disch := omega) only [wrap_id])
                      repeat (refine And.intro (by first | omega | (simp; done) | (simp; omega) | (unfold appRoom; omega)) ?_)
                      repeat' (first | (refine And.intro ?_ ?_) | (with_reducible intro _))
                      all_goals first
                        | omega
                        | (refine ⟨k + 1, ⟨by omega, by omega⟩, SubS.weak ?_⟩; simp (config := { maxSteps := 2000000 }) only [go_sem, hG, hP, Nat.reduceEqDiff, ↓reduceIte, reduceCtorEq, Nat.reduceAdd, Nat.reduceSub, Nat.reduceMul, Nat.reduceLT, Nat.reduceLeDiff, Int.reduceAdd, Int.reduceSub, Int.reduceMul, Int.reduceLT, Int.reduceLE, Int.reduceEq, Int.reduceNeg, Int.reduceNe, Int.reduceGE, Int.reduceGT, Nat.reduceBEq, Int.reduceToNat,  n2]; repeat' (first | with_reducible rfl | (refine And.intro ?_ ?_) | (refine congrArg (Value.int _) ?_; omega) | omega); all_goals (first | (simp; done) | omega))
                        | (exfalso; simp_all; done)
                    · have n2 : (if e < k + 1 then l1.take (i + 1) else l1.take i) = (if e < k then l1.take (i + 1) else l1.take i) := by
                        by_cases h5 : e < k
                        · rw [if_pos h5, if_pos (by omega)]
                        · rw [if_neg h5, if_neg (by omega)]
                      generalize (if e < k then l1.take (i + 1) else l1.take i) = cur at *
                      have hs := recol_src (q := q) (c := a + b) (l := cur) hlk
                      have hne : (q.getD k Pz).src ≠ (q.getD e Pz).src := fun e2 => hke (src_of hok hlk hbd e2)
                      generalize hw : (recol q (a + b) cur).getD k Pz = w at *
                      have ez : (w.src = (q.getD e Pz).src) = False := eq_false (by rw [hs]; exact hne)
                      simp (config := { maxSteps := 2000000 }) only [go_sem, hG, hP, Nat.reduceEqDiff, ↓reduceIte, reduceCtorEq, Nat.reduceAdd, Nat.reduceSub, Nat.reduceMul, Nat.reduceLT, Nat.reduceLeDiff, Int.reduceAdd, Int.reduceSub, Int.reduceMul, Int.reduceLT, Int.reduceLE, Int.reduceEq, Int.reduceNeg, Int.reduceNe, Int.reduceGE, Int.reduceGT, Nat.reduceBEq, Int.reduceToNat,  e0, e1, hmg, hw, ez, recol_len, mvs_len]
                      (try simp (disch := omega) only [wrap_id])
                      repeat (refine And.intro (by first | omega | (simp; done) | (simp; omega) | (unfold appRoom; omega)) ?_)
                      repeat' (first | (refine And.intro ?_ ?_) | (with_reducible intro _))
                      all_goals first
                        | omega
                        | (refine ⟨k + 1, ⟨by omega, by omega⟩, SubS.weak ?_⟩; simp (config := { maxSteps := 2000000 }) only [go_sem, hG, hP, Nat.reduceEqDiff, ↓reduceIte, reduceCtorEq, Nat.reduceAdd, Nat.reduceSub, Nat.reduceMul, Nat.reduceLT, Nat.reduceLeDiff, Int.reduceAdd, Int.reduceSub, Int.reduceMul, Int.reduceLT, Int.reduceLE, Int.reduceEq, Int.reduceNeg, Int.reduceNe, Int.reduceGE, Int.reduceGT, Nat.reduceBEq, Int.reduceToNat,  n2]; repeat' (first | with_reducible rfl | (refine And.intro ?_ ?_) | (refine congrArg (Value.int _) ?_; omega) | omega); all_goals (first | (simp; done) | omega))
                  · have e1 : ((k : Int) < (q.length : Int)) = False := eq_false (by omega)
                    have n1 : (if e < k then l1.take (i + 1) else l1.take i) = l1.take (i + 1) := if_pos (by omega)
                    have hlq := lok.le
                    dsimp only at hlq
                    simp (config := { maxSteps := 2000000 }) only [go_sem, hG, hP, Nat.reduceEqDiff, ↓reduceIte, reduceCtorEq, Nat.reduceAdd, Nat.reduceSub, Nat.reduceMul, Nat.reduceLT, Nat.reduceLeDiff, Int.reduceAdd, Int.reduceSub, Int.reduceMul, Int.reduceLT, Int.reduceLE, Int.reduceEq, Int.reduceNeg, Int.reduceNe, Int.reduceGE, Int.reduceGT, Nat.reduceBEq, Int.reduceToNat,  e1, n1]
                    (try simp (disch := omega) only [wrap_id])
                    refine ⟨i + 1, ⟨by omega, by omega⟩, SubS.weak ?_⟩
                    simp (config := { maxSteps := 2000000 }) only [go_sem, hG, hP, Nat.reduceEqDiff, ↓reduceIte, reduceCtorEq, Nat.reduceAdd, Nat.reduceSub, Nat.reduceMul, Nat.reduceLT, Nat.reduceLeDiff, Int.reduceAdd, Int.reduceSub, Int.reduceMul, Int.reduceLT, Int.reduceLE, Int.reduceEq, Int.reduceNeg, Int.reduceNe, Int.reduceGE, Int.reduceGT, Nat.reduceBEq, Int.reduceToNat]
                    repeat' (first | with_reducible rfl | (refine And.intro ?_ ?_) | (refine congrArg (Value.int _) ?_; omega) | omega)
              · have e0 : ((i : Int) < (l1.length : Int)) = False := eq_false (by omega)
                obtain rfl : i = l1.length := by omega
                rw [List.take_length]
                have rtk : (recol q (a + b) l1).take q.length = recol q (a + b) l1 := List.take_of_length_le (by rw [recol_len]; omega)
                have mtk : (mvs q (a + b) l1).take l1.length = mvs q (a + b) l1 := List.take_of_length_le (by rw [mvs_len]; omega)
                simp (config := { maxSteps := 2000000 }) only [go_sem, hG, hP, Nat.reduceEqDiff, ↓reduceIte, reduceCtorEq, Nat.reduceAdd, Nat.reduceSub, Nat.reduceMul, Nat.reduceLT, Nat.reduceLeDiff, Int.reduceAdd, Int.reduceSub, Int.reduceMul, Int.reduceLT, Int.reduceLE, Int.reduceEq, Int.reduceNeg, Int.reduceNe, Int.reduceGE, Int.reduceGT, Nat.reduceBEq, Int.reduceToNat,  e0, recol_len, rtk, mtk]
                repeat (refine And.intro (by first | omega | (simp; done) | (simp; omega) | (unfold appRoom; omega)) ?_)
                refine ⟨_, _, _, ?_, h⟩
                simp (config := { maxSteps := 2000000 }) only [go_sem, hG, hP, Nat.reduceEqDiff, ↓reduceIte, reduceCtorEq, Nat.reduceAdd, Nat.reduceSub, Nat.reduceMul, Nat.reduceLT, Nat.reduceLeDiff, Int.reduceAdd, Int.reduceSub, Int.reduceMul, Int.reduceLT, Int.reduceLE, Int.reduceEq, Int.reduceNeg, Int.reduceNe, Int.reduceGE, Int.reduceGT, Nat.reduceBEq, Int.reduceToNat,  rtk, mtk]
                repeat' (first | with_reducible rfl | (refine And.intro ?_ ?_) | (refine congrArg (Value.int _) ?_; omega) | omega)
                all_goals (first | (simp [mvs_len, recol_len]; done) | (rw [rtk]; done) | exact mtk)
  · exact hsf2.elim
end Go.Proofs.YtgmcijagaielaaaE

/-! The code of a function, in the engine's words. -/
namespace Go.Proofs.YtgmcijagaielaaaE
open Go Go.RowKit
@[reducible] def ic6 : IC := (.seq (.ops [⟨some 3, .box (.tmp 0), none⟩, ⟨some 6, .mov (.const (.bool false)), none⟩]) (.seq (.ops [⟨some 7, .mov (.const (.int .i64 1048576)), none⟩]) (.seq (.ops [⟨some 21, .load 4 true (.tmp 3), none⟩, ⟨some 22, .mov (.tmp 7), none⟩, ⟨some 23, .call 9 [(.tmp 21), (.tmp 22)], none⟩, ⟨some 7, .mov (.tmp 23), none⟩]) (.seq (.seq (.ops [⟨some 24, .mov (.tmp 7), none⟩, ⟨some 25, .bin .lss (.tmp 24) (.const (.int .i64 0)), none⟩]) (.cond (.tmp 25) (.seq (.ops [⟨some 6, .mov (.const (.bool true)), none⟩]) .ret) .skip)) (.seq (.ops [⟨some 27, .load 4 true (.tmp 3), none⟩, ⟨some 28, .call 11 [(.tmp 27)], none⟩, ⟨some 29, .mov (.tmp 1), none⟩, ⟨some 30, .mov (.tmp 2), none⟩, ⟨some 31, .call 23 [(.tmp 28), (.tmp 29), (.tmp 30)], none⟩, ⟨some 26, .mov (.tmp 31), none⟩, ⟨some 32, .ext (.tmp 26) 0, none⟩, ⟨some 33, .ext (.tmp 26) 1, none⟩, ⟨some 34, .ext (.tmp 26) 2, none⟩, ⟨some 8, .new [(.int .i64 0), (.int .i64 0), (.int .i64 0), (.slice none 0 0)], none⟩, ⟨none, .store 4 (.tmp 8) (.tmp 32), none⟩, ⟨some 9, .mov (.tmp 33), none⟩, ⟨some 10, .mov (.tmp 34), none⟩]) (.seq (.ops [⟨some 35, .load 4 true (.tmp 3), none⟩, ⟨some 36, .call 11 [(.tmp 35)], none⟩, ⟨some 11, .new [(.int .i64 0), (.int .i64 0), (.int .i64 0), (.slice none 0 0)], none⟩, ⟨none, .store 4 (.tmp 11) (.tmp 36), none⟩]) (.seq (.ops [⟨some 38, .load 4 true (.tmp 11), none⟩, ⟨some 39, .mov (.tmp 1), none⟩, ⟨some 40, .mov (.tmp 2), none⟩, ⟨some 41, .call 24 [(.tmp 38), (.tmp 39), (.tmp 40)], none⟩, ⟨some 37, .mov (.tmp 41), none⟩, ⟨some 42, .ext (.tmp 37) 0, none⟩, ⟨some 43, .ext (.tmp 37) 1, none⟩, ⟨some 44, .ext (.tmp 37) 2, none⟩, ⟨some 12, .new [(.int .i64 0), (.int .i64 0), (.int .i64 0), (.slice none 0 0)], none⟩, ⟨none, .store 4 (.tmp 12) (.tmp 42), none⟩, ⟨some 13, .mov (.tmp 43), none⟩, ⟨some 14, .mov (.tmp 44), none⟩]) (.seq (.seq (.ops [⟨some 45, .load 4 true (.tmp 12), none⟩, ⟨some 46, .load 4 true (.tmp 8), none⟩, ⟨some 47, .call 13 [(.tmp 45), (.tmp 46)], none⟩, ⟨some 48, .una .not (.tmp 47), none⟩, ⟨some 49, .mov (.tmp 48), none⟩, ⟨some 50, .mov (.tmp 13), some (49, false)⟩, ⟨some 51, .mov (.tmp 9), some (49, false)⟩, ⟨some 52, .call 25 [(.tmp 50), (.tmp 51)], some (49, false)⟩, ⟨some 53, .una .not (.tmp 52), some (49, false)⟩, ⟨some 54, .pick (.tmp 49) (.const (.bool true)) (.tmp 53), none⟩, ⟨some 55, .mov (.tmp 54), none⟩, ⟨some 56, .mov (.tmp 14), some (55, false)⟩, ⟨some 57, .mov (.tmp 10), some (55, false)⟩, ⟨some 58, .bin .neq (.tmp 56) (.tmp 57), some (55, false)⟩, ⟨some 59, .pick (.tmp 55) (.const (.bool true)) (.tmp 58), none⟩]) (.cond (.tmp 59) (.seq (.ops [⟨some 6, .mov (.const (.bool false)), none⟩]) .ret) .skip)) (.seq (.seq (.draw [⟨some 60, .load 4 true (.tmp 11), none⟩, ⟨some 61, .load 4 true (.tmp 3), none⟩, ⟨some 62, .call 11 [(.tmp 61)], none⟩, ⟨some 63, .call 13 [(.tmp 60), (.tmp 62)], none⟩, ⟨some 64, .una .not (.tmp 63), none⟩] (.held ⟨some 60, .load 4 true (.tmp 11), none⟩ (.held ⟨some 61, .load 4 true (.tmp 3), none⟩ (.alt ⟨some 62, .call 11 [(.tmp 61)], none⟩ (.alt ⟨some 63, .call 13 [(.tmp 60), (.tmp 62)], none⟩ (.held ⟨some 64, .una .not (.tmp 63), none⟩ .done) .stop) .stop)))) (.cond (.tmp 64) (.seq (.ops [⟨some 6, .mov (.const (.bool false)), none⟩]) .ret) .skip)) (.seq (.ops [⟨some 15, .mov (.const (.int .i64 1)), none⟩]) (.seq (.ops [⟨some 65, .load 4 true (.tmp 11), none⟩, ⟨some 66, .mov (.tmp 15), none⟩, ⟨some 67, .call 16 [(.tmp 65), (.tmp 66)], none⟩, ⟨some 15, .mov (.tmp 67), none⟩]) (.seq (.seq (.ops [⟨some 68, .mov (.tmp 15), none⟩, ⟨some 69, .bin .lss (.tmp 68) (.const (.int .i64 0)), none⟩, ⟨some 70, .mov (.tmp 69), none⟩, ⟨some 71, .load 4 true (.tmp 12), some (70, false)⟩, ⟨some 72, .load 4 true (.tmp 8), some (70, false)⟩, ⟨some 73, .call 13 [(.tmp 71), (.tmp 72)], some (70, false)⟩, ⟨some 74, .una .not (.tmp 73), some (70, false)⟩, ⟨some 75, .pick (.tmp 70) (.const (.bool true)) (.tmp 74), none⟩, ⟨some 76, .mov (.tmp 75), none⟩, ⟨some 77, .mov (.tmp 13), some (76, false)⟩, ⟨some 78, .mov (.tmp 9), some (76, false)⟩, ⟨some 79, .call 25 [(.tmp 77), (.tmp 78)], some (76, false)⟩, ⟨some 80, .una .not (.tmp 79), some (76, false)⟩, ⟨some 81, .pick (.tmp 76) (.const (.bool true)) (.tmp 80), none⟩, ⟨some 82, .mov (.tmp 81), none⟩, ⟨some 83, .mov (.tmp 14), some (82, false)⟩, ⟨some 84, .mov (.tmp 10), some (82, false)⟩, ⟨some 85, .bin .neq (.tmp 83) (.tmp 84), some (82, false)⟩, ⟨some 86, .pick (.tmp 82) (.const (.bool true)) (.tmp 85), none⟩]) (.cond (.tmp 86) (.seq (.ops [⟨some 6, .mov (.const (.bool false)), none⟩]) .ret) .skip)) (.seq (.ops [⟨some 16, .mov (.const (.int .i64 1)), none⟩]) (.seq (.ops [⟨some 87, .load 4 true (.tmp 12), none⟩, ⟨some 88, .mov (.tmp 16), none⟩, ⟨some 89, .call 16 [(.tmp 87), (.tmp 88)], none⟩, ⟨some 16, .mov (.tmp 89), none⟩]) (.seq (.ops [⟨some 90, .mov (.tmp 13), none⟩, ⟨some 91, .mov (.tmp 16), none⟩, ⟨some 92, .call 26 [(.tmp 90), (.tmp 91)], none⟩, ⟨some 16, .mov (.tmp 92), none⟩]) (.seq (.ops [⟨some 17, .mov (.const (.int .i64 1)), none⟩]) (.seq (.ops [⟨some 93, .load 4 true (.tmp 12), none⟩, ⟨some 94, .mov (.tmp 17), none⟩, ⟨some 95, .call 17 [(.tmp 93), (.tmp 94)], none⟩, ⟨some 17, .mov (.tmp 95), none⟩]) (.seq (.seq (.ops [⟨some 96, .mov (.tmp 17), none⟩, ⟨some 97, .bin .lss (.tmp 96) (.const (.int .i64 0)), none⟩]) (.cond (.tmp 97) (.seq (.ops [⟨some 6, .mov (.const (.bool false)), none⟩]) .ret) .skip)) (.seq (.ops [⟨some 98, .mov (.tmp 13), none⟩, ⟨some 99, .mov (.tmp 17), none⟩, ⟨some 100, .call 27 [(.tmp 98), (.tmp 99)], none⟩, ⟨some 17, .mov (.tmp 100), none⟩]) (.seq (.seq (.ops [⟨some 101, .mov (.tmp 17), none⟩, ⟨some 102, .bin .lss (.tmp 101) (.const (.int .i64 0)), none⟩]) (.cond (.tmp 102) (.seq (.ops [⟨some 6, .mov (.const (.bool false)), none⟩]) .ret) .skip)) (.seq (.seq (.ops [⟨some 103, .mov (.tmp 17), none⟩, ⟨some 104, .mov (.tmp 16), none⟩, ⟨some 105, .bin .neq (.tmp 103) (.tmp 104), none⟩]) (.cond (.tmp 105) (.seq (.ops [⟨some 6, .mov (.const (.bool false)), none⟩]) .ret) .skip)) (.seq (.ops [⟨some 107, .load 4 true (.tmp 3), none⟩, ⟨some 108, .call 11 [(.tmp 107)], none⟩, ⟨some 109, .mov (.tmp 1), none⟩, ⟨some 110, .mov (.tmp 2), none⟩, ⟨some 111, .call 24 [(.tmp 108), (.tmp 109), (.tmp 110)], none⟩, ⟨some 106, .mov (.tmp 111), none⟩, ⟨some 112, .ext (.tmp 106) 0, none⟩, ⟨some 113, .ext (.tmp 106) 1, none⟩, ⟨some 114, .ext (.tmp 106) 2, none⟩, ⟨some 18, .new [(.int .i64 0), (.int .i64 0), (.int .i64 0), (.slice none 0 0)], none⟩, ⟨none, .store 4 (.tmp 18) (.tmp 112), none⟩, ⟨some 19, .mov (.tmp 113), none⟩, ⟨some 20, .mov (.tmp 114), none⟩]) (.seq (.seq (.ops [⟨some 115, .load 4 true (.tmp 18), none⟩, ⟨some 116, .load 4 true (.tmp 8), none⟩, ⟨some 117, .call 13 [(.tmp 115), (.tmp 116)], none⟩, ⟨some 118, .una .not (.tmp 117), none⟩, ⟨some 119, .mov (.tmp 118), none⟩, ⟨some 120, .mov (.tmp 19), some (119, false)⟩, ⟨some 121, .mov (.tmp 9), some (119, false)⟩, ⟨some 122, .call 25 [(.tmp 120), (.tmp 121)], some (119, false)⟩, ⟨some 123, .una .not (.tmp 122), some (119, false)⟩, ⟨some 124, .pick (.tmp 119) (.const (.bool true)) (.tmp 123), none⟩, ⟨some 125, .mov (.tmp 124), none⟩, ⟨some 126, .mov (.tmp 20), some (125, false)⟩, ⟨some 127, .mov (.tmp 10), some (125, false)⟩, ⟨some 128, .bin .neq (.tmp 126) (.tmp 127), some (125, false)⟩, ⟨some 129, .pick (.tmp 125) (.const (.bool true)) (.tmp 128), none⟩]) (.cond (.tmp 129) (.seq (.ops [⟨some 6, .mov (.const (.bool false)), none⟩]) .ret) .skip)) (.seq (.ops [⟨some 17, .mov (.const (.int .i64 1)), none⟩]) (.seq (.ops [⟨some 130, .load 4 true (.tmp 12), none⟩, ⟨some 131, .mov (.tmp 17), none⟩, ⟨some 132, .call 17 [(.tmp 130), (.tmp 131)], none⟩, ⟨some 17, .mov (.tmp 132), none⟩]) (.seq (.seq (.ops [⟨some 133, .mov (.tmp 17), none⟩, ⟨some 134, .bin .lss (.tmp 133) (.const (.int .i64 0)), none⟩]) (.cond (.tmp 134) (.seq (.ops [⟨some 6, .mov (.const (.bool false)), none⟩]) .ret) .skip)) (.seq (.ops [⟨some 135, .mov (.tmp 13), none⟩, ⟨some 136, .mov (.tmp 17), none⟩, ⟨some 137, .call 27 [(.tmp 135), (.tmp 136)], none⟩, ⟨some 17, .mov (.tmp 137), none⟩]) (.seq (.seq (.ops [⟨some 138, .mov (.tmp 17), none⟩, ⟨some 139, .bin .lss (.tmp 138) (.const (.int .i64 0)), none⟩]) (.cond (.tmp 139) (.seq (.ops [⟨some 6, .mov (.const (.bool false)), none⟩]) .ret) .skip)) (.seq (.seq (.ops [⟨some 140, .mov (.tmp 17), none⟩, ⟨some 141, .mov (.tmp 16), none⟩, ⟨some 142, .bin .neq (.tmp 140) (.tmp 141), none⟩]) (.cond (.tmp 142) (.seq (.ops [⟨some 6, .mov (.const (.bool false)), none⟩]) .ret) .skip)) (.seq (.ops [⟨some 6, .mov (.const (.bool true)), none⟩]) .ret))))))))))))))))))))))))))))))
@[reducible] def rv6 : List RV := [.tmp 6]
theorem low6 : lowC Try.prog tau Try.f6.ntmps (Try.f6.body.getD .skip) = some (erase ic6) := by kernel_rfl
theorem res6 : lowR Try.prog Try.f6.results.toList = some rv6 := by kernel_rfl
theorem bod6 : Try.f6.body = some (Try.f6.body.getD .skip) := by kernel_rfl
theorem cal6 : callable Try.prog 6 = true := by kernel_rfl

end Go.Proofs.YtgmcijagaielaaaE

/-! The law of Connect. -/
namespace Go.Proofs.YtgmcijagaielaaaE
open Go Go.RowKit
set_option linter.unusedSimpArgs false
set_option linter.unusedVariables false
set_option maxRecDepth 20000
set_option maxHeartbeats 4000000

theorem take_mm {k : Int} {n : Nat} : (moveMarks k n).take n = moveMarks k n := List.take_of_length_le (by rw [moveMarks_len]; omega)
theorem held_mm {k : Int} {n : Nat} : heldMv (moveMarks k n) k = k + 2 * n := by unfold heldMv; rw [moveMarks_len, if_pos rfl]
def spLaw6 : Spec := ⟨fun _ _ => [], fun args objs K => match args, objs with
  | [.agg [.v (.int .i64 s), .v (.int .i64 p), .v (.int .i64 m), .rs .path q], .v (.int .i64 x), .v (.int .i64 y)], [] => q.length ≤ 17592186044416 ∧ K (.v (.bool true)) [] 0
  | _, _ => False, false⟩
theorem spLaw6_t {L : Hp} {a : List AVal} : Spec.take spLaw6 L a = [] := id rfl
theorem spLaw6_k : Spec.keep spLaw6 = false := id rfl
theorem spLaw6_f {s} {p} {m} {q} {x} {y} {K : AVal → Hp → Nat → Prop} : Spec.f spLaw6 ([.agg [.v (.int .i64 s), .v (.int .i64 p), .v (.int .i64 m), .rs .path q], .v (.int .i64 x), .v (.int .i64 y)]) ([]) K = (q.length ≤ 17592186044416 ∧ K (.v (.bool true)) [] 0) := id rfl
theorem valid6 : Valid Try.prog 6 spLaw6 := by
  refine validI (Γ := lk [(9, spSzFb), (11, spToFb), (23, spConn), (24, spConn), (25, spEqMvS), (13, spEqFb), (16, spMarkFb), (26, spMarkMvS), (17, spHeldFb), (27, spHeldMvS)]) Try.func6 bod6 low6 res6 (good_of ⟨⟨cal9, valid9⟩, ⟨cal11, valid11⟩, ⟨cal23, valid23⟩, ⟨cal24, valid24⟩, ⟨cal25, valid25⟩, ⟨cal13, valid13⟩, ⟨cal16, valid16⟩, ⟨cal26, valid26⟩, ⟨cal17, valid17⟩, ⟨cal27, valid27⟩, trivial⟩) ?_
  intro E args objs K h hE hG hP
  simp only [spLaw6] at h
  split at h
  · refine ⟨by simp [Try.ntmps6], ?_⟩
    rename_i s p m q x y
    obtain ⟨b1, h⟩ := h
    have hlen := @conn_len ⟨s, p, m, q⟩ x y
    rcases hl : conn ⟨s, p, m, q⟩ x y with ⟨q', mv, c⟩
    rw [hl] at hlen
    dsimp only at hlen
    simp (config := { maxSteps := 2000000 }) only [go_sem, hG, hP, Nat.reduceEqDiff, ↓reduceIte, reduceCtorEq, Nat.reduceAdd, Nat.reduceSub, Nat.reduceMul, Nat.reduceLT, Nat.reduceLeDiff, Int.reduceAdd, Int.reduceSub, Int.reduceMul, Int.reduceLT, Int.reduceLE, Int.reduceEq, Int.reduceNeg, Int.reduceNe, Int.reduceGE, Int.reduceGT, Nat.reduceBEq, Int.reduceToNat,  spSzFb_f, spSzFb_t, spSzFb_k, spToFb_f, spToFb_t, spToFb_k, spConn_f, spConn_t, spConn_k, spEqMvS_f, spEqMvS_t, spEqMvS_k, spEqFb_f, spEqFb_t, spEqFb_k, spMarkFb_f, spMarkFb_t, spMarkFb_k, spMarkMvS_f, spMarkMvS_t, spMarkMvS_k, spHeldFb_f, spHeldFb_t, spHeldFb_k, spHeldMvS_f, spHeldMvS_t, spHeldMvS_k, hl, takeA4_eq, take1_eq, bb_self, take_pm, take_mm, pathMarks_len, moveMarks_len, held_pm, held_mm]
    repeat (refine And.intro (by first | omega | (simp; done) | (simp; omega) | (unfold appRoom; omega)) ?_)
    refine ⟨fun hs => ⟨_, _, _, ?_, h⟩, fun hs => ?_⟩
    · simp (config := { maxSteps := 2000000 }) only [go_sem, hG, hP, Nat.reduceEqDiff, ↓reduceIte, reduceCtorEq, Nat.reduceAdd, Nat.reduceSub, Nat.reduceMul, Nat.reduceLT, Nat.reduceLeDiff, Int.reduceAdd, Int.reduceSub, Int.reduceMul, Int.reduceLT, Int.reduceLE, Int.reduceEq, Int.reduceNeg, Int.reduceNe, Int.reduceGE, Int.reduceGT, Nat.reduceBEq, Int.reduceToNat]
    have hz := szStep_len (by omega) hs
    repeat' (first | (refine And.intro ?_ ?_) | (with_reducible intro _))
    all_goals first | omega | (refine ⟨_, _, _, ?_, h⟩; simp (config := { maxSteps := 2000000 }) only [go_sem, hG, hP, Nat.reduceEqDiff, ↓reduceIte, reduceCtorEq, Nat.reduceAdd, Nat.reduceSub, Nat.reduceMul, Nat.reduceLT, Nat.reduceLeDiff, Int.reduceAdd, Int.reduceSub, Int.reduceMul, Int.reduceLT, Int.reduceLE, Int.reduceEq, Int.reduceNeg, Int.reduceNe, Int.reduceGE, Int.reduceGT, Nat.reduceBEq, Int.reduceToNat]; all_goals (first | (simp; done) | omega))
  · exact h.elim
end Go.Proofs.YtgmcijagaielaaaE

/-! The code of a function, in the engine's words. -/
namespace Go.Proofs.YtgmcijagaielaaaE
open Go Go.RowKit
@[reducible] def ic28 : IC := (.seq (.ops [⟨some 2, .mov (.const (.bool false)), none⟩]) (.seq (.ops [⟨some 3, .mov (.tmp 0), none⟩, ⟨some 4, .len (.tmp 3), none⟩, ⟨some 5, .bin .gtr (.tmp 4) (.const (.int .i64 1048576)), none⟩, ⟨some 2, .mov (.tmp 5), none⟩]) .ret))
@[reducible] def rv28 : List RV := [.tmp 2]
theorem low28 : lowC Try.prog tau Try.f28.ntmps (Try.f28.body.getD .skip) = some (erase ic28) := by kernel_rfl
theorem res28 : lowR Try.prog Try.f28.results.toList = some rv28 := by kernel_rfl
theorem bod28 : Try.f28.body = some (Try.f28.body.getD .skip) := by kernel_rfl
theorem cal28 : callable Try.prog 28 = true := by kernel_rfl

end Go.Proofs.YtgmcijagaielaaaE

/-! The code of a function, in the engine's words. -/
namespace Go.Proofs.YtgmcijagaielaaaE
open Go Go.RowKit
@[reducible] def ic54 : IC := (.seq (.ops [⟨some 2, .mov (.const (.pointer none)), none⟩]) (.seq (.ops [⟨some 5, .mov (.tmp 0), none⟩, ⟨some 6, .len (.tmp 5), none⟩, ⟨some 7, .bin .add (.const (.int .i64 71933)) (.tmp 6), none⟩, ⟨some 3, .mov (.tmp 7), none⟩]) (.seq (.seq (.ops [⟨some 4, .mov (.const (.int .i64 0)), none⟩]) (.block 0 (.loop (.seq (.seq (.ops [⟨some 8, .mov (.tmp 4), none⟩, ⟨some 9, .mov (.tmp 0), none⟩, ⟨some 10, .len (.tmp 9), none⟩, ⟨some 11, .bin .lss (.tmp 8) (.tmp 10), none⟩, ⟨some 12, .mov (.tmp 11), none⟩, ⟨some 13, .mov (.tmp 4), some (12, true)⟩, ⟨some 14, .bin .lss (.tmp 13) (.const (.int .i64 4000)), some (12, true)⟩, ⟨some 15, .pick (.tmp 12) (.tmp 14) (.const (.bool false)), none⟩]) (.cond (.tmp 15) .skip (.exit 0))) (.seq (.block 1 (.ops [⟨some 18, .mov (.tmp 3), none⟩, ⟨some 19, .bin .mul (.tmp 18) (.const (.int .i64 131)), none⟩, ⟨some 20, .mov (.tmp 0), none⟩, ⟨some 21, .mov (.tmp 4), none⟩, ⟨some 22, .iadr 1 (.tmp 20) (.tmp 21), none⟩, ⟨some 23, .load 1 false (.tmp 22), none⟩, ⟨some 24, .cvi .i64 (.tmp 23), none⟩, ⟨some 25, .bin .add (.tmp 19) (.tmp 24), none⟩, ⟨some 26, .bin .add (.tmp 25) (.const (.int .i64 7)), none⟩, ⟨some 27, .bin .and (.tmp 26) (.const (.int .i64 1073741823)), none⟩, ⟨some 3, .mov (.tmp 27), none⟩])) (.ops [⟨some 16, .mov (.tmp 4), none⟩, ⟨some 17, .bin .add (.tmp 16) (.const (.int .i64 1)), none⟩, ⟨some 4, .mov (.tmp 17), none⟩])))))) (.seq (.ops [⟨some 28, .mov (.tmp 0), none⟩, ⟨some 29, .mov (.tmp 3), none⟩, ⟨some 30, .bld [(.slice none 0 0), (.int .i64 0), (.int .i64 0)] [(0, 1, (.tmp 28)), (2, 1, (.tmp 29))], none⟩, ⟨some 31, .box (.tmp 30), none⟩, ⟨some 2, .mov (.tmp 31), none⟩]) .ret))))
@[reducible] def rv54 : List RV := [.tmp 2]
theorem low54 : lowC Try.prog tau Try.f54.ntmps (Try.f54.body.getD .skip) = some (erase ic54) := by kernel_rfl
theorem res54 : lowR Try.prog Try.f54.results.toList = some rv54 := by kernel_rfl
theorem bod54 : Try.f54.body = some (Try.f54.body.getD .skip) := by kernel_rfl
theorem cal54 : callable Try.prog 54 = true := by kernel_rfl

end Go.Proofs.YtgmcijagaielaaaE

/-! The code of a function, in the engine's words. -/
namespace Go.Proofs.YtgmcijagaielaaaE
open Go Go.RowKit
@[reducible] def ic56 : IC := (.seq (.ops [⟨some 4, .mov (.const (.int .i64 0)), none⟩]) (.seq (.seq (.ops [⟨some 9, .mov (.tmp 1), none⟩, ⟨some 10, .bin .leq (.tmp 9) (.const (.int .i64 0)), none⟩]) (.cond (.tmp 10) (.seq (.ops [⟨some 4, .mov (.const (.int .i64 0)), none⟩]) .ret) .skip)) (.seq (.seq (.ops [⟨some 11, .mov (.tmp 1), none⟩, ⟨some 12, .bin .leq (.tmp 11) (.const (.int .i64 256)), none⟩]) (.cond (.tmp 12) (.seq (.ops [⟨some 13, .mov (.tmp 0), none⟩, ⟨some 14, .call 62 [(.tmp 13)], none⟩, ⟨some 15, .mov (.tmp 1), none⟩, ⟨some 16, .bin .rem (.tmp 14) (.tmp 15), none⟩, ⟨some 4, .mov (.tmp 16), none⟩]) .ret) .skip)) (.seq (.ops [⟨some 17, .mov (.tmp 0), none⟩, ⟨some 18, .call 62 [(.tmp 17)], none⟩, ⟨some 5, .mov (.tmp 18), none⟩]) (.seq (.ops [⟨some 19, .mov (.tmp 0), none⟩, ⟨some 20, .call 62 [(.tmp 19)], none⟩, ⟨some 6, .mov (.tmp 20), none⟩]) (.seq (.ops [⟨some 21, .mov (.tmp 0), none⟩, ⟨some 22, .call 62 [(.tmp 21)], none⟩, ⟨some 7, .mov (.tmp 22), none⟩]) (.seq (.ops [⟨some 23, .mov (.tmp 0), none⟩, ⟨some 24, .call 62 [(.tmp 23)], none⟩, ⟨some 8, .mov (.tmp 24), none⟩]) (.seq (.ops [⟨some 25, .mov (.tmp 5), none⟩, ⟨some 26, .bin .mul (.tmp 25) (.const (.int .i64 16777216)), none⟩, ⟨some 27, .mov (.tmp 6), none⟩, ⟨some 28, .bin .mul (.tmp 27) (.const (.int .i64 65536)), none⟩, ⟨some 29, .bin .add (.tmp 26) (.tmp 28), none⟩, ⟨some 30, .mov (.tmp 7), none⟩, ⟨some 31, .bin .mul (.tmp 30) (.const (.int .i64 256)), none⟩, ⟨some 32, .bin .add (.tmp 29) (.tmp 31), none⟩, ⟨some 33, .mov (.tmp 8), none⟩, ⟨some 34, .bin .add (.tmp 32) (.tmp 33), none⟩, ⟨some 35, .mov (.tmp 1), none⟩, ⟨some 36, .bin .rem (.tmp 34) (.tmp 35), none⟩, ⟨some 4, .mov (.tmp 36), none⟩]) .ret))))))))
@[reducible] def rv56 : List RV := [.tmp 4]
theorem low56 : lowC Try.prog tau Try.f56.ntmps (Try.f56.body.getD .skip) = some (erase ic56) := by kernel_rfl
theorem res56 : lowR Try.prog Try.f56.results.toList = some rv56 := by kernel_rfl
theorem bod56 : Try.f56.body = some (Try.f56.body.getD .skip) := by kernel_rfl
theorem cal56 : callable Try.prog 56 = true := by kernel_rfl

end Go.Proofs.YtgmcijagaielaaaE

/-! The code of a function, in the engine's words. -/
namespace Go.Proofs.YtgmcijagaielaaaE
open Go Go.RowKit
@[reducible] def ic61 : IC := (.seq (.ops [⟨some 4, .mov (.const (.int .i64 0)), none⟩]) (.seq (.ops [⟨some 5, .mov (.tmp 1), none⟩, ⟨some 6, .mov (.tmp 0), none⟩, ⟨some 7, .mov (.tmp 1), none⟩, ⟨some 8, .len (.tmp 7), none⟩, ⟨some 9, .call 56 [(.tmp 6), (.tmp 8)], none⟩, ⟨some 10, .iadr 1 (.tmp 5) (.tmp 9), none⟩, ⟨some 11, .load 1 false (.tmp 10), none⟩, ⟨some 4, .mov (.tmp 11), none⟩]) .ret))
@[reducible] def rv61 : List RV := [.tmp 4]
theorem low61 : lowC Try.prog tau Try.f61.ntmps (Try.f61.body.getD .skip) = some (erase ic61) := by kernel_rfl
theorem res61 : lowR Try.prog Try.f61.results.toList = some rv61 := by kernel_rfl
theorem bod61 : Try.f61.body = some (Try.f61.body.getD .skip) := by kernel_rfl
theorem cal61 : callable Try.prog 61 = true := by kernel_rfl

end Go.Proofs.YtgmcijagaielaaaE

/-! The code of a function, in the engine's words. -/
namespace Go.Proofs.YtgmcijagaielaaaE
open Go Go.RowKit
@[reducible] def ic62 : IC := (.seq (.ops [⟨some 2, .mov (.const (.int .i64 0)), none⟩]) (.seq (.ops [⟨some 4, .mov (.tmp 0), none⟩, ⟨some 5, .mov (.tmp 0), none⟩, ⟨some 6, .nilc (.tmp 5), none⟩, ⟨some 7, .fadr 2 (.tmp 6), none⟩, ⟨some 8, .load 1 false (.tmp 7), none⟩, ⟨some 9, .bin .mul (.tmp 8) (.const (.int .i64 6364136223846793005)), none⟩, ⟨some 10, .bin .add (.tmp 9) (.const (.int .i64 1442695040888963407)), none⟩, ⟨some 11, .nilc (.tmp 4), none⟩, ⟨some 12, .fadr 2 (.tmp 11), none⟩, ⟨none, .store 1 (.tmp 12) (.tmp 10), none⟩]) (.seq (.draw [⟨some 13, .mov (.tmp 0), none⟩, ⟨some 14, .nilc (.tmp 13), none⟩, ⟨some 15, .fadr 2 (.tmp 14), none⟩, ⟨some 16, .load 1 false (.tmp 15), none⟩, ⟨some 17, .bin .shr (.tmp 16) (.const (.int .u64 33)), none⟩, ⟨some 18, .mov (.tmp 0), none⟩, ⟨some 19, .nilc (.tmp 18), none⟩, ⟨some 20, .fadr 2 (.tmp 19), none⟩, ⟨some 21, .load 1 false (.tmp 20), none⟩, ⟨some 22, .bin .shr (.tmp 21) (.const (.int .u64 45)), none⟩, ⟨some 23, .bin .xor (.tmp 17) (.tmp 22), none⟩, ⟨some 24, .bin .and (.tmp 23) (.const (.int .i64 255)), none⟩, ⟨some 3, .mov (.tmp 24), none⟩] (.held ⟨some 13, .mov (.tmp 0), none⟩ (.held ⟨some 14, .nilc (.tmp 13), none⟩ (.held ⟨some 15, .fadr 2 (.tmp 14), none⟩ (.held ⟨some 16, .load 1 false (.tmp 15), none⟩ (.held ⟨some 17, .bin .shr (.tmp 16) (.const (.int .u64 33)), none⟩ (.held ⟨some 18, .mov (.tmp 0), none⟩ (.held ⟨some 19, .nilc (.tmp 18), none⟩ (.held ⟨some 20, .fadr 2 (.tmp 19), none⟩ (.held ⟨some 21, .load 1 false (.tmp 20), none⟩ (.held ⟨some 22, .bin .shr (.tmp 21) (.const (.int .u64 45)), none⟩ (.held ⟨some 23, .bin .xor (.tmp 17) (.tmp 22), none⟩ (.held ⟨some 24, .bin .and (.tmp 23) (.const (.int .i64 255)), none⟩ (.held ⟨some 3, .mov (.tmp 24), none⟩ .done)))))))))))))) (.seq (.seq (.draw [⟨some 25, .mov (.tmp 0), none⟩, ⟨some 26, .nilc (.tmp 25), none⟩, ⟨some 27, .fadr 1 (.tmp 26), none⟩, ⟨some 28, .load 1 false (.tmp 27), none⟩, ⟨some 29, .mov (.tmp 0), none⟩, ⟨some 30, .nilc (.tmp 29), none⟩, ⟨some 31, .fadr 0 (.tmp 30), none⟩, ⟨some 32, .load 1 false (.tmp 31), none⟩, ⟨some 33, .len (.tmp 32), none⟩, ⟨some 34, .bin .lss (.tmp 28) (.tmp 33), none⟩] (.held ⟨some 25, .mov (.tmp 0), none⟩ (.held ⟨some 26, .nilc (.tmp 25), none⟩ (.held ⟨some 27, .fadr 1 (.tmp 26), none⟩ (.held ⟨some 28, .load 1 false (.tmp 27), none⟩ (.held ⟨some 29, .mov (.tmp 0), none⟩ (.held ⟨some 30, .nilc (.tmp 29), none⟩ (.held ⟨some 31, .fadr 0 (.tmp 30), none⟩ (.held ⟨some 32, .load 1 false (.tmp 31), none⟩ (.held ⟨some 33, .len (.tmp 32), none⟩ (.held ⟨some 34, .bin .lss (.tmp 28) (.tmp 33), none⟩ .done))))))))))) (.cond (.tmp 34) (.seq (.draw [⟨some 35, .mov (.tmp 3), none⟩, ⟨some 36, .mov (.tmp 0), none⟩, ⟨some 37, .nilc (.tmp 36), none⟩, ⟨some 38, .fadr 0 (.tmp 37), none⟩, ⟨some 39, .load 1 false (.tmp 38), none⟩, ⟨some 40, .mov (.tmp 0), none⟩, ⟨some 41, .nilc (.tmp 40), none⟩, ⟨some 42, .fadr 1 (.tmp 41), none⟩, ⟨some 43, .load 1 false (.tmp 42), none⟩, ⟨some 44, .iadr 1 (.tmp 39) (.tmp 43), none⟩, ⟨some 45, .load 1 false (.tmp 44), none⟩, ⟨some 46, .cvi .i64 (.tmp 45), none⟩, ⟨some 47, .bin .add (.tmp 35) (.tmp 46), none⟩, ⟨some 48, .bin .and (.tmp 47) (.const (.int .i64 255)), none⟩, ⟨some 3, .mov (.tmp 48), none⟩] (.held ⟨some 35, .mov (.tmp 3), none⟩ (.held ⟨some 36, .mov (.tmp 0), none⟩ (.held ⟨some 37, .nilc (.tmp 36), none⟩ (.held ⟨some 38, .fadr 0 (.tmp 37), none⟩ (.held ⟨some 39, .load 1 false (.tmp 38), none⟩ (.held ⟨some 40, .mov (.tmp 0), none⟩ (.held ⟨some 41, .nilc (.tmp 40), none⟩ (.held ⟨some 42, .fadr 1 (.tmp 41), none⟩ (.held ⟨some 43, .load 1 false (.tmp 42), none⟩ (.held ⟨some 44, .iadr 1 (.tmp 39) (.tmp 43), none⟩ (.held ⟨some 45, .load 1 false (.tmp 44), none⟩ (.held ⟨some 46, .cvi .i64 (.tmp 45), none⟩ (.held ⟨some 47, .bin .add (.tmp 35) (.tmp 46), none⟩ (.held ⟨some 48, .bin .and (.tmp 47) (.const (.int .i64 255)), none⟩ (.held ⟨some 3, .mov (.tmp 48), none⟩ .done)))))))))))))))) (.ops [⟨some 49, .mov (.tmp 0), none⟩, ⟨some 50, .mov (.tmp 0), none⟩, ⟨some 51, .nilc (.tmp 50), none⟩, ⟨some 52, .fadr 1 (.tmp 51), none⟩, ⟨some 53, .load 1 false (.tmp 52), none⟩, ⟨some 54, .bin .add (.tmp 53) (.const (.int .i64 1)), none⟩, ⟨some 55, .nilc (.tmp 49), none⟩, ⟨some 56, .fadr 1 (.tmp 55), none⟩, ⟨none, .store 1 (.tmp 56) (.tmp 54), none⟩])) .skip)) (.seq (.ops [⟨some 57, .mov (.tmp 3), none⟩, ⟨some 2, .mov (.tmp 57), none⟩]) .ret)))))
@[reducible] def rv62 : List RV := [.tmp 2]
theorem low62 : lowC Try.prog tau Try.f62.ntmps (Try.f62.body.getD .skip) = some (erase ic62) := by kernel_rfl
theorem res62 : lowR Try.prog Try.f62.results.toList = some rv62 := by kernel_rfl
theorem bod62 : Try.f62.body = some (Try.f62.body.getD .skip) := by kernel_rfl
theorem cal62 : callable Try.prog 62 = true := by kernel_rfl

end Go.Proofs.YtgmcijagaielaaaE

/-! The code of a function, in the engine's words. -/
namespace Go.Proofs.YtgmcijagaielaaaE
open Go Go.RowKit
@[reducible] def ic63 : IC := (.seq (.ops [⟨some 4, .mov (.const (.bool false)), none⟩]) (.seq (.ops [⟨some 5, .mov (.tmp 0), none⟩, ⟨some 6, .mov (.tmp 1), none⟩, ⟨some 7, .call 56 [(.tmp 5), (.tmp 6)], none⟩, ⟨some 8, .bin .eql (.tmp 7) (.const (.int .i64 0)), none⟩, ⟨some 4, .mov (.tmp 8), none⟩]) .ret))
@[reducible] def rv63 : List RV := [.tmp 4]
theorem low63 : lowC Try.prog tau Try.f63.ntmps (Try.f63.body.getD .skip) = some (erase ic63) := by kernel_rfl
theorem res63 : lowR Try.prog Try.f63.results.toList = some rv63 := by kernel_rfl
theorem bod63 : Try.f63.body = some (Try.f63.body.getD .skip) := by kernel_rfl
theorem cal63 : callable Try.prog 63 = true := by kernel_rfl

end Go.Proofs.YtgmcijagaielaaaE

/-! The code of a function, in the engine's words. -/
namespace Go.Proofs.YtgmcijagaielaaaE
open Go Go.RowKit
@[reducible] def ic64 : IC := (.seq (.ops [⟨some 4, .mov (.const (.int .i64 0)), none⟩]) (.seq (.ops [⟨some 6, .mov (.tmp 0), none⟩, ⟨some 7, .len (.tmp 6), none⟩, ⟨some 8, .bin .quo (.tmp 7) (.const (.int .i64 20)), none⟩, ⟨some 9, .bin .add (.const (.int .i64 2)) (.tmp 8), none⟩, ⟨some 5, .mov (.tmp 9), none⟩]) (.seq (.seq (.ops [⟨some 10, .mov (.tmp 5), none⟩, ⟨some 11, .mov (.tmp 1), none⟩, ⟨some 12, .bin .gtr (.tmp 10) (.tmp 11), none⟩]) (.cond (.tmp 12) (.seq (.ops [⟨some 13, .mov (.tmp 1), none⟩, ⟨some 4, .mov (.tmp 13), none⟩]) .ret) .skip)) (.seq (.ops [⟨some 14, .mov (.tmp 5), none⟩, ⟨some 4, .mov (.tmp 14), none⟩]) .ret))))
@[reducible] def rv64 : List RV := [.tmp 4]
theorem low64 : lowC Try.prog tau Try.f64.ntmps (Try.f64.body.getD .skip) = some (erase ic64) := by kernel_rfl
theorem res64 : lowR Try.prog Try.f64.results.toList = some rv64 := by kernel_rfl
theorem bod64 : Try.f64.body = some (Try.f64.body.getD .skip) := by kernel_rfl
theorem cal64 : callable Try.prog 64 = true := by kernel_rfl

end Go.Proofs.YtgmcijagaielaaaE

/-! The cursor over a draw: of what it draws only the bounds are told. -/
namespace Go.Proofs.YtgmcijagaielaaaE
open Go Go.RowKit
set_option linter.unusedSimpArgs false
set_option linter.unusedVariables false
set_option maxRecDepth 20000
set_option maxHeartbeats 4000000

def takeP : List AVal → List Nat
  | .ptr m _ :: _ => [m]
  | _ => []
theorem takeP_eq {m off : Nat} {r : List AVal} : takeP (.ptr m off :: r) = [m] := id rfl
/-- A cursor's three cells. -/
def cur (b : List Int) (i h : Int) : List AVal := [.rs .byte b, .v (.int .i64 i), .v (.int .i64 h)]
noncomputable def curH (h : Int) : Int := wr .i64 (wr .i64 (h * 6364136223846793005) + 1442695040888963407)
noncomputable def curX0 (h : Int) : Int := andV .i64 (xorV .i64 (shrV .i64 (curH h) 33) (shrV .i64 (curH h) 45)) 255
noncomputable def curX (b : List Int) (i h : Int) : Int := if i < b.length then andV .i64 (wr .i64 (curX0 h + wr .i64 (b.getD i.toNat 0))) 255 else curX0 h
def curI (b : List Int) (i : Int) : Int := if i < b.length then i + 1 else i
theorem curH_eq {h : Int} : curH h = wr .i64 (wr .i64 (h * 6364136223846793005) + 1442695040888963407) := id rfl
theorem curX0_eq {h : Int} : curX0 h = andV .i64 (xorV .i64 (shrV .i64 (curH h) 33) (shrV .i64 (curH h) 45)) 255 := id rfl
def spByte : Spec := ⟨fun _ => takeP, fun args objs K => match args, objs with
  | [.ptr 0 0], [.box [.rs .byte b, .v (.int .i64 i), .v (.int .i64 h)]] => (0 ≤ i ∧ i ≤ b.length ∧ b.length ≤ 1099511627776) ∧
      K (.v (.int .i64 (curX b i h))) [(0, .box [.rs .byte b, .v (.int .i64 (curI b i)), .v (.int .i64 (curH h))])] 1
  | _, _ => False, true⟩
theorem spByte_t {L : Hp} {a : List AVal} : Spec.take spByte L a = takeP a := id rfl
theorem spByte_k : Spec.keep spByte = true := id rfl
theorem spByte_f {b} {i} {h} {K : AVal → Hp → Nat → Prop} : Spec.f spByte ([.ptr 0 0]) ([.box [.rs .byte b, .v (.int .i64 i), .v (.int .i64 h)]]) K = ((0 ≤ i ∧ i ≤ b.length ∧ b.length ≤ 1099511627776) ∧
      K (.v (.int .i64 (curX b i h))) [(0, .box [.rs .byte b, .v (.int .i64 (curI b i)), .v (.int .i64 (curH h))])] 1) := id rfl
theorem valid62 : Valid Try.prog 62 spByte := by
  refine validI (Γ := lk []) Try.func62 bod62 low62 res62 (good_of trivial) ?_
  intro E args objs K h0 hE hG hP
  simp only [spByte] at h0
  split at h0
  · refine ⟨by simp [Try.ntmps62], ?_⟩
    rename_i b i h
    obtain ⟨⟨b1, b2, b3⟩, h0⟩ := h0
    have hw : wr .i64 (i + 1) = i + 1 := wrap_id (by omega) (by omega)
    by_cases hi : i < b.length
    · simp only [curX, curI, if_pos hi] at h0
      simp (config := { maxSteps := 2000000 }) only [go_sem, hG, hP, Nat.reduceEqDiff, ↓reduceIte, reduceCtorEq, Nat.reduceAdd, Nat.reduceSub, Nat.reduceMul, Nat.reduceLT, Nat.reduceLeDiff, Int.reduceAdd, Int.reduceSub, Int.reduceMul, Int.reduceLT, Int.reduceLE, Int.reduceEq, Int.reduceNeg, Int.reduceNe, Int.reduceGE, Int.reduceGT, Nat.reduceBEq, Int.reduceToNat,  hi, hw, ← curH_eq, ← curX0_eq]
      repeat (refine And.intro (by first | omega | (simp; done) | (simp; omega) | (unfold appRoom; omega)) ?_)
      refine ⟨_, _, _, ?_, h0⟩
      simp (config := { maxSteps := 2000000 }) only [go_sem, hG, hP, Nat.reduceEqDiff, ↓reduceIte, reduceCtorEq, Nat.reduceAdd, Nat.reduceSub, Nat.reduceMul, Nat.reduceLT, Nat.reduceLeDiff, Int.reduceAdd, Int.reduceSub, Int.reduceMul, Int.reduceLT, Int.reduceLE, Int.reduceEq, Int.reduceNeg, Int.reduceNe, Int.reduceGE, Int.reduceGT, Nat.reduceBEq, Int.reduceToNat]
      all_goals simp
    · simp only [curX, curI, if_neg hi] at h0
      simp (config := { maxSteps := 2000000 }) only [go_sem, hG, hP, Nat.reduceEqDiff, ↓reduceIte, reduceCtorEq, Nat.reduceAdd, Nat.reduceSub, Nat.reduceMul, Nat.reduceLT, Nat.reduceLeDiff, Int.reduceAdd, Int.reduceSub, Int.reduceMul, Int.reduceLT, Int.reduceLE, Int.reduceEq, Int.reduceNeg, Int.reduceNe, Int.reduceGE, Int.reduceGT, Nat.reduceBEq, Int.reduceToNat,  hi, ← curH_eq, ← curX0_eq]
      repeat (refine And.intro (by first | omega | (simp; done) | (simp; omega) | (unfold appRoom; omega)) ?_)
      refine ⟨_, _, _, ?_, h0⟩
      simp (config := { maxSteps := 2000000 }) only [go_sem, hG, hP, Nat.reduceEqDiff, ↓reduceIte, reduceCtorEq, Nat.reduceAdd, Nat.reduceSub, Nat.reduceMul, Nat.reduceLT, Nat.reduceLeDiff, Int.reduceAdd, Int.reduceSub, Int.reduceMul, Int.reduceLT, Int.reduceLE, Int.reduceEq, Int.reduceNeg, Int.reduceNe, Int.reduceGE, Int.reduceGT, Nat.reduceBEq, Int.reduceToNat]
      all_goals simp
  · exact h0.elim
theorem andV_255 (a : Int) : 0 ≤ andV .i64 a 255 ∧ andV .i64 a 255 ≤ 255 := by
  unfold andV
  have h : (BitVec.ofInt (IntKind.bits .i64) a &&& BitVec.ofInt (IntKind.bits .i64) 255).toNat ≤ 255 := by
    rw [BitVec.toNat_and]
    exact Nat.le_trans Nat.and_le_right (by decide)
  rw [wrap_id (by omega) (by omega)]
  omega
theorem curX_bd (b : List Int) (i h : Int) : 0 ≤ curX b i h ∧ curX b i h ≤ 255 := by
  unfold curX; split
  · exact andV_255 _
  · exact andV_255 _
theorem curI_bd {b : List Int} {i : Int} (h : 0 ≤ i ∧ i ≤ b.length) : 0 ≤ curI b i ∧ curI b i ≤ b.length := by
  unfold curI; split <;> omega
/-- The same, of which only the bounds are told. -/
def spByteA : Spec := ⟨fun _ => takeP, fun args objs K => match args, objs with
  | [.ptr 0 0], [.box [.rs .byte b, .v (.int .i64 i), .v (.int .i64 h)]] => (0 ≤ i ∧ i ≤ b.length ∧ b.length ≤ 1099511627776) ∧
      ∀ x i' h' : Int, (0 ≤ x ∧ x ≤ 255) ∧ (0 ≤ i' ∧ i' ≤ b.length) → K (.v (.int .i64 x)) [(0, .box [.rs .byte b, .v (.int .i64 i'), .v (.int .i64 h')])] 1
  | _, _ => False, true⟩
theorem spByteA_t {L : Hp} {a : List AVal} : Spec.take spByteA L a = takeP a := id rfl
theorem spByteA_k : Spec.keep spByteA = true := id rfl
theorem spByteA_f {b} {i} {h} {K : AVal → Hp → Nat → Prop} : Spec.f spByteA ([.ptr 0 0]) ([.box [.rs .byte b, .v (.int .i64 i), .v (.int .i64 h)]]) K = ((0 ≤ i ∧ i ≤ b.length ∧ b.length ≤ 1099511627776) ∧
      ∀ x i' h' : Int, (0 ≤ x ∧ x ≤ 255) ∧ (0 ≤ i' ∧ i' ≤ b.length) → K (.v (.int .i64 x)) [(0, .box [.rs .byte b, .v (.int .i64 i'), .v (.int .i64 h')])] 1) := id rfl
theorem valid62A : Valid Try.prog 62 spByteA := by
  intro W C ρ args vals objs K hd hp h
  refine valid62 W C ρ args vals objs K hd hp ?_
  simp only [spByteA] at h
  split at h
  · exact ⟨h.1, h.2 _ _ _ ⟨curX_bd _ _ _, curI_bd ⟨h.1.1, h.1.2.1⟩⟩⟩
  · exact h.elim
/-- A number below another, or 0; and where the cursor stands behind it. -/
noncomputable def belV (b : List Int) (i h n : Int) : Int :=
  if n ≤ 0 then 0 else if n ≤ 256 then (curX b i h).tmod n
  else (curX b i h * 16777216 + curX b (curI b i) (curH h) * 65536 + curX b (curI b (curI b i)) (curH (curH h)) * 256 + curX b (curI b (curI b (curI b i))) (curH (curH (curH h)))).tmod n
def belI (b : List Int) (i n : Int) : Int := if n ≤ 0 then i else if n ≤ 256 then curI b i else curI b (curI b (curI b (curI b i)))
noncomputable def belH (h n : Int) : Int := if n ≤ 0 then h else if n ≤ 256 then curH h else curH (curH (curH (curH h)))
theorem belI_bd {b : List Int} {i n : Int} (h : 0 ≤ i ∧ i ≤ b.length) : 0 ≤ belI b i n ∧ belI b i n ≤ b.length := by
  unfold belI
  split
  · exact h
  · split
    · exact curI_bd h
    · exact curI_bd (curI_bd (curI_bd (curI_bd h)))
theorem belV_bd {b : List Int} {i h n : Int} (hn : 0 < n) : 0 ≤ belV b i h n ∧ belV b i h n < n := by
  unfold belV
  rw [if_neg (by omega)]
  split
  · exact ⟨Int.tmod_nonneg _ (curX_bd _ _ _).1, Int.tmod_lt_of_pos _ hn⟩
  · have h1 := curX_bd b i h
    have h2 := curX_bd b (curI b i) (curH h)
    have h3 := curX_bd b (curI b (curI b i)) (curH (curH h))
    have h4 := curX_bd b (curI b (curI b (curI b i))) (curH (curH (curH h)))
    exact ⟨Int.tmod_nonneg _ (by omega), Int.tmod_lt_of_pos _ hn⟩
def spBelow : Spec := ⟨fun _ => takeP, fun args objs K => match args, objs with
  | [.ptr 0 0, .v (.int .i64 n)], [.box [.rs .byte b, .v (.int .i64 i), .v (.int .i64 h)]] => (0 ≤ i ∧ i ≤ b.length ∧ b.length ≤ 1099511627776) ∧
      K (.v (.int .i64 (belV b i h n))) [(0, .box [.rs .byte b, .v (.int .i64 (belI b i n)), .v (.int .i64 (belH h n))])] 1
  | _, _ => False, true⟩
theorem spBelow_t {L : Hp} {a : List AVal} : Spec.take spBelow L a = takeP a := id rfl
theorem spBelow_k : Spec.keep spBelow = true := id rfl
theorem spBelow_f {n} {b} {i} {h} {K : AVal → Hp → Nat → Prop} : Spec.f spBelow ([.ptr 0 0, .v (.int .i64 n)]) ([.box [.rs .byte b, .v (.int .i64 i), .v (.int .i64 h)]]) K = ((0 ≤ i ∧ i ≤ b.length ∧ b.length ≤ 1099511627776) ∧
      K (.v (.int .i64 (belV b i h n))) [(0, .box [.rs .byte b, .v (.int .i64 (belI b i n)), .v (.int .i64 (belH h n))])] 1) := id rfl
theorem valid56 : Valid Try.prog 56 spBelow := by
  refine validI (Γ := lk [(62, spByte)]) Try.func56 bod56 low56 res56 (good_of ⟨⟨cal62, valid62⟩, trivial⟩) ?_
  intro E args objs K h0 hE hG hP
  simp only [spBelow] at h0
  split at h0
  · refine ⟨by simp [Try.ntmps56], ?_⟩
    rename_i n b i h
    obtain ⟨⟨b1, b2, b3⟩, h0⟩ := h0
    by_cases hn : n ≤ 0
    · simp only [belV, belI, belH, if_pos hn] at h0
      simp (config := { maxSteps := 2000000 }) only [go_sem, hG, hP, Nat.reduceEqDiff, ↓reduceIte, reduceCtorEq, Nat.reduceAdd, Nat.reduceSub, Nat.reduceMul, Nat.reduceLT, Nat.reduceLeDiff, Int.reduceAdd, Int.reduceSub, Int.reduceMul, Int.reduceLT, Int.reduceLE, Int.reduceEq, Int.reduceNeg, Int.reduceNe, Int.reduceGE, Int.reduceGT, Nat.reduceBEq, Int.reduceToNat,  spByte_f, spByte_t, spByte_k, takeP_eq, hn]
      refine ⟨_, _, _, ?_, h0⟩
      simp (config := { maxSteps := 2000000 }) only [go_sem, hG, hP, Nat.reduceEqDiff, ↓reduceIte, reduceCtorEq, Nat.reduceAdd, Nat.reduceSub, Nat.reduceMul, Nat.reduceLT, Nat.reduceLeDiff, Int.reduceAdd, Int.reduceSub, Int.reduceMul, Int.reduceLT, Int.reduceLE, Int.reduceEq, Int.reduceNeg, Int.reduceNe, Int.reduceGE, Int.reduceGT, Nat.reduceBEq, Int.reduceToNat]
      all_goals simp
    · have nz : (n = 0) = False := eq_false (by omega)
      have p1 := curI_bd (b := b) (i := i) ⟨b1, b2⟩
      have p2 := curI_bd p1
      have p3 := curI_bd p2
      have x1 := curX_bd b i h
      have x2 := curX_bd b (curI b i) (curH h)
      have x3 := curX_bd b (curI b (curI b i)) (curH (curH h))
      have x4 := curX_bd b (curI b (curI b (curI b i))) (curH (curH (curH h)))
      by_cases hl : n ≤ 256
      · simp only [belV, belI, belH, if_neg hn, if_pos hl] at h0
        simp (config := { maxSteps := 2000000 }) only [go_sem, hG, hP, Nat.reduceEqDiff, ↓reduceIte, reduceCtorEq, Nat.reduceAdd, Nat.reduceSub, Nat.reduceMul, Nat.reduceLT, Nat.reduceLeDiff, Int.reduceAdd, Int.reduceSub, Int.reduceMul, Int.reduceLT, Int.reduceLE, Int.reduceEq, Int.reduceNeg, Int.reduceNe, Int.reduceGE, Int.reduceGT, Nat.reduceBEq, Int.reduceToNat,  spByte_f, spByte_t, spByte_k, takeP_eq, hn, hl, nz]
        repeat (refine And.intro (by first | omega | (simp; done) | (simp; omega) | (unfold appRoom; omega)) ?_)
        refine ⟨_, _, _, ?_, h0⟩
        simp (config := { maxSteps := 2000000 }) only [go_sem, hG, hP, Nat.reduceEqDiff, ↓reduceIte, reduceCtorEq, Nat.reduceAdd, Nat.reduceSub, Nat.reduceMul, Nat.reduceLT, Nat.reduceLeDiff, Int.reduceAdd, Int.reduceSub, Int.reduceMul, Int.reduceLT, Int.reduceLE, Int.reduceEq, Int.reduceNeg, Int.reduceNe, Int.reduceGE, Int.reduceGT, Nat.reduceBEq, Int.reduceToNat]
        all_goals simp
      · simp only [belV, belI, belH, if_neg hn, if_neg hl] at h0
        simp (config := { maxSteps := 2000000 }) only [go_sem, hG, hP, Nat.reduceEqDiff, ↓reduceIte, reduceCtorEq, Nat.reduceAdd, Nat.reduceSub, Nat.reduceMul, Nat.reduceLT, Nat.reduceLeDiff, Int.reduceAdd, Int.reduceSub, Int.reduceMul, Int.reduceLT, Int.reduceLE, Int.reduceEq, Int.reduceNeg, Int.reduceNe, Int.reduceGE, Int.reduceGT, Nat.reduceBEq, Int.reduceToNat,  spByte_f, spByte_t, spByte_k, takeP_eq, hn, hl, nz]
        (try simp (disch := omega) only [wrap_id])
        repeat (refine And.intro (by first | omega | (simp; done) | (simp; omega) | (unfold appRoom; omega)) ?_)
        refine ⟨_, _, _, ?_, h0⟩
        simp (config := { maxSteps := 2000000 }) only [go_sem, hG, hP, Nat.reduceEqDiff, ↓reduceIte, reduceCtorEq, Nat.reduceAdd, Nat.reduceSub, Nat.reduceMul, Nat.reduceLT, Nat.reduceLeDiff, Int.reduceAdd, Int.reduceSub, Int.reduceMul, Int.reduceLT, Int.reduceLE, Int.reduceEq, Int.reduceNeg, Int.reduceNe, Int.reduceGE, Int.reduceGT, Nat.reduceBEq, Int.reduceToNat]
        all_goals simp
  · exact h0.elim
noncomputable def hashN (code : List Int) : Nat → Int
  | 0 => wr .i64 (71933 + (code.length : Int))
  | k + 1 => andV .i64 (wr .i64 (wr .i64 (wr .i64 (hashN code k * 131) + wr .i64 (code.getD k 0)) + 7)) 1073741823
def spNew : Spec := ⟨fun _ _ => [], fun args objs K => match args, objs with
  | [.rs .byte code], [] => code.length ≤ 1099511627776 ∧ K (.ptr 0 0) [(0, .box [.rs .byte code, .v (.int .i64 0), .v (.int .i64 (hashN code (min code.length 4000)))])] 1
  | _, _ => False, true⟩
theorem spNew_t {L : Hp} {a : List AVal} : Spec.take spNew L a = [] := id rfl
theorem spNew_k : Spec.keep spNew = true := id rfl
theorem spNew_f {code} {K : AVal → Hp → Nat → Prop} : Spec.f spNew ([.rs .byte code]) ([]) K = (code.length ≤ 1099511627776 ∧ K (.ptr 0 0) [(0, .box [.rs .byte code, .v (.int .i64 0), .v (.int .i64 (hashN code (min code.length 4000)))])] 1) := id rfl
theorem valid54 : Valid Try.prog 54 spNew := by
  refine validI (Γ := lk []) Try.func54 bod54 low54 res54 (good_of trivial) ?_
  intro E args objs K h hE hG hP
  simp only [spNew] at h
  split at h
  · refine ⟨by simp [Try.ntmps54], ?_⟩
    rename_i code
    obtain ⟨b1, h⟩ := h
    simp (config := { maxSteps := 2000000 }) only [go_sem, hG, hP, Nat.reduceEqDiff, ↓reduceIte, reduceCtorEq, Nat.reduceAdd, Nat.reduceSub, Nat.reduceMul, Nat.reduceLT, Nat.reduceLeDiff, Int.reduceAdd, Int.reduceSub, Int.reduceMul, Int.reduceLT, Int.reduceLE, Int.reduceEq, Int.reduceNeg, Int.reduceNe, Int.reduceGE, Int.reduceGT, Nat.reduceBEq, Int.reduceToNat]
    refine loopI hE (fun k : Nat => ⟨[(0, .rs .byte code), (2, .v (.pointer none)), (3, .v (.int .i64 (hashN code k))), (4, .v (.int .i64 k))], [], 0, Try.f54.ntmps⟩) (fun k => k ≤ min code.length 4000) (fun k => code.length - k) ⟨0, Nat.zero_le _, SubS.weak ?_⟩ ?_
    · simp (config := { maxSteps := 2000000 }) only [go_sem, hG, hP, Nat.reduceEqDiff, ↓reduceIte, reduceCtorEq, Nat.reduceAdd, Nat.reduceSub, Nat.reduceMul, Nat.reduceLT, Nat.reduceLeDiff, Int.reduceAdd, Int.reduceSub, Int.reduceMul, Int.reduceLT, Int.reduceLE, Int.reduceEq, Int.reduceNeg, Int.reduceNe, Int.reduceGE, Int.reduceGT, Nat.reduceBEq, Int.reduceToNat,  hashN]
      all_goals (first | simp | (with_reducible rfl))
    · intro k hk
      by_cases hk2 : k < min code.length 4000
      · have e1 : ((k : Int) < code.length) = True := by apply eq_true; omega
        have e2 : ((k : Int) < 4000) = True := by apply eq_true; omega
        simp (config := { maxSteps := 2000000 }) only [go_sem, hG, hP, Nat.reduceEqDiff, ↓reduceIte, reduceCtorEq, Nat.reduceAdd, Nat.reduceSub, Nat.reduceMul, Nat.reduceLT, Nat.reduceLeDiff, Int.reduceAdd, Int.reduceSub, Int.reduceMul, Int.reduceLT, Int.reduceLE, Int.reduceEq, Int.reduceNeg, Int.reduceNe, Int.reduceGE, Int.reduceGT, Nat.reduceBEq, Int.reduceToNat,  e1, e2]
        (try simp (disch := omega) only [wrap_id])
        repeat (refine And.intro (by first | omega | (simp; done) | (simp; omega) | (unfold appRoom; omega)) ?_)
        refine ⟨k + 1, ⟨by omega, by omega⟩, SubS.weak ?_⟩
        simp (config := { maxSteps := 2000000 }) only [go_sem, hG, hP, Nat.reduceEqDiff, ↓reduceIte, reduceCtorEq, Nat.reduceAdd, Nat.reduceSub, Nat.reduceMul, Nat.reduceLT, Nat.reduceLeDiff, Int.reduceAdd, Int.reduceSub, Int.reduceMul, Int.reduceLT, Int.reduceLE, Int.reduceEq, Int.reduceNeg, Int.reduceNe, Int.reduceGE, Int.reduceGT, Nat.reduceBEq, Int.reduceToNat,  hashN]
        all_goals simp
      · have hk3 : k = min code.length 4000 := by omega
        by_cases e1 : (k : Int) < code.length
        · have e2 : ((k : Int) < 4000) = False := by apply eq_false; omega
          simp (config := { maxSteps := 2000000 }) only [go_sem, hG, hP, Nat.reduceEqDiff, ↓reduceIte, reduceCtorEq, Nat.reduceAdd, Nat.reduceSub, Nat.reduceMul, Nat.reduceLT, Nat.reduceLeDiff, Int.reduceAdd, Int.reduceSub, Int.reduceMul, Int.reduceLT, Int.reduceLE, Int.reduceEq, Int.reduceNeg, Int.reduceNe, Int.reduceGE, Int.reduceGT, Nat.reduceBEq, Int.reduceToNat,  e1, e2]
          rw [← hk3] at h
          refine ⟨_, _, _, ?_, h⟩
          simp (config := { maxSteps := 2000000 }) only [go_sem, hG, hP, Nat.reduceEqDiff, ↓reduceIte, reduceCtorEq, Nat.reduceAdd, Nat.reduceSub, Nat.reduceMul, Nat.reduceLT, Nat.reduceLeDiff, Int.reduceAdd, Int.reduceSub, Int.reduceMul, Int.reduceLT, Int.reduceLE, Int.reduceEq, Int.reduceNeg, Int.reduceNe, Int.reduceGE, Int.reduceGT, Nat.reduceBEq, Int.reduceToNat]
          all_goals simp
        · simp (config := { maxSteps := 2000000 }) only [go_sem, hG, hP, Nat.reduceEqDiff, ↓reduceIte, reduceCtorEq, Nat.reduceAdd, Nat.reduceSub, Nat.reduceMul, Nat.reduceLT, Nat.reduceLeDiff, Int.reduceAdd, Int.reduceSub, Int.reduceMul, Int.reduceLT, Int.reduceLE, Int.reduceEq, Int.reduceNeg, Int.reduceNe, Int.reduceGE, Int.reduceGT, Nat.reduceBEq, Int.reduceToNat,  e1]
          rw [← hk3] at h
          refine ⟨_, _, _, ?_, h⟩
          simp (config := { maxSteps := 2000000 }) only [go_sem, hG, hP, Nat.reduceEqDiff, ↓reduceIte, reduceCtorEq, Nat.reduceAdd, Nat.reduceSub, Nat.reduceMul, Nat.reduceLT, Nat.reduceLeDiff, Int.reduceAdd, Int.reduceSub, Int.reduceMul, Int.reduceLT, Int.reduceLE, Int.reduceEq, Int.reduceNeg, Int.reduceNe, Int.reduceGE, Int.reduceGT, Nat.reduceBEq, Int.reduceToNat]
          all_goals simp
  · exact h.elim
def sizeV (n : Nat) (m : Int) : Int := if 2 + (n : Int).tdiv 20 > m then m else 2 + (n : Int).tdiv 20
def spSize : Spec := ⟨fun _ _ => [], fun args objs K => match args, objs with
  | [.rs .byte b, .v (.int .i64 m)], [] => b.length ≤ 1099511627776 ∧ K (.v (.int .i64 (sizeV b.length m))) [] 0
  | _, _ => False, false⟩
theorem spSize_t {L : Hp} {a : List AVal} : Spec.take spSize L a = [] := id rfl
theorem spSize_k : Spec.keep spSize = false := id rfl
theorem spSize_f {b} {m} {K : AVal → Hp → Nat → Prop} : Spec.f spSize ([.rs .byte b, .v (.int .i64 m)]) ([]) K = (b.length ≤ 1099511627776 ∧ K (.v (.int .i64 (sizeV b.length m))) [] 0) := id rfl
theorem valid64 : Valid Try.prog 64 spSize := by
  refine validI (Γ := lk []) Try.func64 bod64 low64 res64 (good_of trivial) ?_
  intro E args objs K h hE hG hP
  simp only [spSize, sizeV] at h
  split at h
  · refine ⟨by simp [Try.ntmps64], ?_⟩
    rename_i b m
    obtain ⟨b1, h⟩ := h
    have e1 : wr .i64 ((b.length : Int).tdiv 20) = (b.length : Int).tdiv 20 := wrap_id (by rw [Int.tdiv_eq_ediv_of_nonneg (by omega)]; omega) (by rw [Int.tdiv_eq_ediv_of_nonneg (by omega)]; omega)
    have e2 : wr .i64 (2 + (b.length : Int).tdiv 20) = 2 + (b.length : Int).tdiv 20 := wrap_id (by rw [Int.tdiv_eq_ediv_of_nonneg (by omega)]; omega) (by rw [Int.tdiv_eq_ediv_of_nonneg (by omega)]; omega)
    simp (config := { maxSteps := 2000000 }) only [go_sem, hG, hP, Nat.reduceEqDiff, ↓reduceIte, reduceCtorEq, Nat.reduceAdd, Nat.reduceSub, Nat.reduceMul, Nat.reduceLT, Nat.reduceLeDiff, Int.reduceAdd, Int.reduceSub, Int.reduceMul, Int.reduceLT, Int.reduceLE, Int.reduceEq, Int.reduceNeg, Int.reduceNe, Int.reduceGE, Int.reduceGT, Nat.reduceBEq, Int.reduceToNat,  e1, e2]
    repeat (refine And.intro (by first | omega | (simp; done) | (simp; omega) | (unfold appRoom; omega)) ?_)
    refine ⟨fun h1 => ⟨_, _, _, ?_, h⟩, fun h1 => ⟨_, _, _, ?_, h⟩⟩
    · simp (config := { maxSteps := 2000000 }) only [go_sem, hG, hP, Nat.reduceEqDiff, ↓reduceIte, reduceCtorEq, Nat.reduceAdd, Nat.reduceSub, Nat.reduceMul, Nat.reduceLT, Nat.reduceLeDiff, Int.reduceAdd, Int.reduceSub, Int.reduceMul, Int.reduceLT, Int.reduceLE, Int.reduceEq, Int.reduceNeg, Int.reduceNe, Int.reduceGE, Int.reduceGT, Nat.reduceBEq, Int.reduceToNat]
      rw [if_pos h1]
    · simp (config := { maxSteps := 2000000 }) only [go_sem, hG, hP, Nat.reduceEqDiff, ↓reduceIte, reduceCtorEq, Nat.reduceAdd, Nat.reduceSub, Nat.reduceMul, Nat.reduceLT, Nat.reduceLeDiff, Int.reduceAdd, Int.reduceSub, Int.reduceMul, Int.reduceLT, Int.reduceLE, Int.reduceEq, Int.reduceNeg, Int.reduceNe, Int.reduceGE, Int.reduceGT, Nat.reduceBEq, Int.reduceToNat]
      rw [if_neg h1]
  · exact h.elim
def spBig : Spec := ⟨fun _ _ => [], fun args objs K => match args, objs with
  | [.rs .byte b], [] => K (.v (.bool (decide ((b.length : Int) > 1048576)))) [] 0
  | _, _ => False, false⟩
theorem spBig_t {L : Hp} {a : List AVal} : Spec.take spBig L a = [] := id rfl
theorem spBig_k : Spec.keep spBig = false := id rfl
theorem spBig_f {b} {K : AVal → Hp → Nat → Prop} : Spec.f spBig ([.rs .byte b]) ([]) K = (K (.v (.bool (decide ((b.length : Int) > 1048576)))) [] 0) := id rfl
theorem valid28 : Valid Try.prog 28 spBig := by
  refine validI (Γ := lk []) Try.func28 bod28 low28 res28 (good_of trivial) ?_
  intro E args objs K h hE hG hP
  simp only [spBig] at h
  split at h
  · refine ⟨by simp [Try.ntmps28], ?_⟩
    simp (config := { maxSteps := 2000000 }) only [go_sem, hG, hP, Nat.reduceEqDiff, ↓reduceIte, reduceCtorEq, Nat.reduceAdd, Nat.reduceSub, Nat.reduceMul, Nat.reduceLT, Nat.reduceLeDiff, Int.reduceAdd, Int.reduceSub, Int.reduceMul, Int.reduceLT, Int.reduceLE, Int.reduceEq, Int.reduceNeg, Int.reduceNe, Int.reduceGE, Int.reduceGT, Nat.reduceBEq, Int.reduceToNat]
    refine ⟨_, _, _, ?_, h⟩
    simp (config := { maxSteps := 2000000 }) only [go_sem, hG, hP, Nat.reduceEqDiff, ↓reduceIte, reduceCtorEq, Nat.reduceAdd, Nat.reduceSub, Nat.reduceMul, Nat.reduceLT, Nat.reduceLeDiff, Int.reduceAdd, Int.reduceSub, Int.reduceMul, Int.reduceLT, Int.reduceLE, Int.reduceEq, Int.reduceNeg, Int.reduceNe, Int.reduceGE, Int.reduceGT, Nat.reduceBEq, Int.reduceToNat]
  · exact h.elim


end Go.Proofs.YtgmcijagaielaaaE

/-! What Connect keeps right: two Mids that change along a chain; enough Mids are never all taken. -/
namespace Go.Proofs.YtgmcijagaielaaaE
open Go Go.RowKit
set_option linter.unusedSimpArgs false
set_option linter.unusedVariables false
set_option maxRecDepth 20000

theorem mem_getD {l : List Nat} {e : Nat} (h : e ∈ l) : ∃ t, t < l.length ∧ l.getD t 0 = e := by
  obtain ⟨t, ht, rfl⟩ := List.getElem_of_mem h
  exact ⟨t, ht, by simp [List.getD, ht]⟩
theorem getD_mem {l : List Nat} {t : Nat} (h : t < l.length) : l.getD t 0 ∈ l := by simp [List.getD, h]
theorem par_cases (b : Bool) (t : Nat) : (b ^^ par t) = b ∨ (b ^^ par t) = !b := by cases b <;> rcases Bool.eq_false_or_eq_true (par t) with h | h <;> simp [h]
/-- A chain as it is found: nothing goes on behind it, nothing stands ahead of it. -/
structure Full (q : List Pth) (p : Int) (out : Bool) (side mid oth : Int) (l : List Nat) : Prop extends Wk q p out side mid oth l where
  pr : Proper q p
  ne : mid ≠ oth
  no : ∀ k, k < q.length → atP p out side oth (q.getD k Pz) = false
  lastE : l.length = 0 → ∀ k, k < q.length → atP p out side mid (q.getD k Pz) = false
  last : ∀ t, t + 1 = l.length → ∀ k, k < q.length → ¬ (sideAt p (out ^^ par (t + 1)) (q.getD k Pz) = sideAt p (out ^^ par (t + 1)) (q.getD (l.getD t 0) Pz) ∧ (q.getD k Pz).mid = if par (t + 1) = true then oth else mid)
theorem ChPre.full {q : List Pth} {p : Int} {out : Bool} {side mid oth : Int} (h : ChPre q p out side mid oth) : Full q p out side mid oth (chain q p (q.length + 1) out side mid oth) := by
  have hl := (chain_wk (n := q.length + 1) (out := out) (side := side) (mid := mid) (oth := oth)).len h.pr h.ne h.no
  obtain ⟨h1, h2⟩ := chain_end (q := q) (p := p) (n := q.length + 1) (out := out) (side := side) (mid := mid) (oth := oth) (by omega)
  exact ⟨chain_wk, h.pr, h.ne, h.no, h1, h2⟩
section
variable {q : List Pth} {p : Int} {out : Bool} {side mid oth : Int} {l : List Nat}
theorem Full.colM (h : Full q p out side mid oth l) {e : Nat} (he : e ∈ l) : (q.getD e Pz).mid = mid ∨ (q.getD e Pz).mid = oth := by
  obtain ⟨t, ht, rfl⟩ := mem_getD he
  have := h.col t ht
  rcases Bool.eq_false_or_eq_true (par t) with hp | hp
  · rw [hp, if_pos rfl] at this; exact .inr this
  · rw [hp, if_neg (by simp)] at this; exact .inl this
/-- Who shares a switch with a path of the chain, with the other Mid, is of the chain. -/
theorem Full.closed (h : Full q p out side mid oth l) {e k : Nat} (he : e ∈ l) (hk : k < q.length) (o : Bool) (hs : sideAt p o (q.getD k Pz) = sideAt p o (q.getD e Pz)) (hm : (q.getD k Pz).mid = mid + oth - (q.getD e Pz).mid) : k ∈ l := by
  obtain ⟨t, ht, rfl⟩ := mem_getD he
  have hc := h.col t ht
  -- the end at which the chain goes on, or the one where it came in
  by_cases ho : o = (out ^^ par (t + 1))
  · by_cases hl : t + 1 < l.length
    · have hn := h.next t hl
      have hc2 := h.col (t + 1) hl
      rw [← ho] at hn
      by_cases e1 : k = l.getD (t + 1) 0
      · rw [e1]; exact getD_mem hl
      · exfalso
        refine h.pr k (l.getD (t + 1) 0) hk (h.bd _ hl) e1 o (hs.trans hn) ?_
        rw [hm, hc, hc2]
        rcases Bool.eq_false_or_eq_true (par t) with hp | hp <;> simp [par, hp] <;> omega
    · exfalso
      refine h.last t (by omega) k hk ⟨by rw [← ho]; exact hs, ?_⟩
      rw [hm, hc]
      rcases Bool.eq_false_or_eq_true (par t) with hp | hp <;> simp [par, hp] <;> omega
  · have ho2 : o = (out ^^ par t) := by
      simp only [par] at ho
      cases o <;> cases out <;> rcases Bool.eq_false_or_eq_true (par t) with hp | hp <;> simp [hp] at ho ⊢
    cases t with
    | zero =>
      exfalso
      simp only [par, Bool.xor_false] at ho2
      subst ho2
      have hf := h.first ht
      have := h.no k hk
      rw [atP_iff_f] at this
      apply this
      refine ⟨hs.trans hf, ?_⟩
      rw [hm, hc]; simp [par]; omega
    | succ t =>
      have hn := h.next t ht
      have hc2 := h.col t (by omega)
      rw [← ho2] at hn
      by_cases e1 : k = l.getD t 0
      · rw [e1]; exact getD_mem (by omega)
      · exfalso
        refine h.pr k (l.getD t 0) hk (h.bd _ (by omega)) e1 o (hs.trans hn.symm) ?_
        rw [hm, hc, hc2]
        rcases Bool.eq_false_or_eq_true (par t) with hp | hp <;> simp [par, hp] <;> omega
/-- A path of the chain with the other Mid is come to over one with the first Mid, at the end where the chain does not begin. -/
theorem Full.over (h : Full q p out side mid oth l) {e : Nat} (he : e ∈ l) (hc : (q.getD e Pz).mid = oth) : ∃ k, k < q.length ∧ sideAt p (!out) (q.getD k Pz) = sideAt p (!out) (q.getD e Pz) ∧ (q.getD k Pz).mid = mid := by
  obtain ⟨t, ht, rfl⟩ := mem_getD he
  have hct := h.col t ht
  rw [hct] at hc
  have hp : par t = true := by
    rcases Bool.eq_false_or_eq_true (par t) with hp | hp
    · exact hp
    · rw [hp, if_neg (by simp)] at hc; exact absurd hc h.ne
  cases t with
  | zero => simp [par] at hp
  | succ t =>
    have hn := h.next t ht
    have hc2 := h.col t (by omega)
    rw [hp, Bool.xor_true] at hn
    refine ⟨_, h.bd t (by omega), hn, ?_⟩
    rw [hc2]
    simp only [par, Bool.not_eq_true'] at hp
    rw [hp]; simp
theorem Full.proper (h : Full q p out side mid oth l) : Proper (recol q (mid + oth) l) p := by
  intro i j hi hj hne o hs hm
  rw [recol_len] at hi hj
  rw [recol_get hi, recol_get hj] at hs hm
  have sw : ∀ x : Pth, ∀ b, sideAt p b (swp (mid + oth) x) = sideAt p b x := fun x b => rfl
  have mw : ∀ x : Pth, (swp (mid + oth) x).mid = mid + oth - x.mid := fun x => rfl
  by_cases h1 : i ∈ l <;> by_cases h2 : j ∈ l
  · rw [if_pos h1, if_pos h2] at hs hm
    rw [sw, sw] at hs; rw [mw, mw] at hm
    exact h.pr i j hi hj hne o hs (by omega)
  · rw [if_pos h1, if_neg h2] at hs hm
    rw [sw] at hs; rw [mw] at hm
    exact h2 (h.closed h1 hj o hs.symm hm.symm)
  · rw [if_neg h1, if_pos h2] at hs hm
    rw [sw] at hs; rw [mw] at hm
    exact h1 (h.closed h2 hi o hs hm)
  · rw [if_neg h1, if_neg h2] at hs hm
    exact h.pr i j hi hj hne o hs hm
/-- Behind the change nothing has the first Mid where the chain began. -/
theorem Full.free (h : Full q p out side mid oth l) {k : Nat} (hk : k < q.length) : atP p out side mid ((recol q (mid + oth) l).getD k Pz) = false := by
  rw [recol_get hk, atP_iff_f]
  rintro ⟨hs, hm⟩
  split at hs
  · rename_i hkl
    rw [if_pos hkl] at hm
    have : (q.getD k Pz).mid = oth := by have : mid + oth - (q.getD k Pz).mid = mid := hm; omega
    have h2 := h.no k hk
    rw [atP_iff_f] at h2
    exact h2 ⟨hs, this⟩
  · rename_i hkl
    rw [if_neg hkl] at hm
    by_cases hl : l.length = 0
    · have h2 := h.lastE hl k hk
      rw [atP_iff_f] at h2
      exact h2 ⟨hs, hm⟩
    · have hf := h.first (by omega)
      have hc := h.col 0 (by omega)
      simp only [par] at hc
      by_cases e : k = l.getD 0 0
      · exact hkl (e ▸ getD_mem (by omega))
      · exact h.pr k (l.getD 0 0) hk (h.bd 0 (by omega)) e out (hs.trans hf.symm) (by rw [hm, hc]; simp)
/-- .. nor at a switch at the other end that had none with it. -/
theorem Full.free2 (h : Full q p out side mid oth l) {s2 : Int} (hn : ∀ k, k < q.length → atP p (!out) s2 mid (q.getD k Pz) = false) {k : Nat} (hk : k < q.length) : atP p (!out) s2 mid ((recol q (mid + oth) l).getD k Pz) = false := by
  rw [recol_get hk, atP_iff_f]
  rintro ⟨hs, hm⟩
  split at hs
  · rename_i hkl
    rw [if_pos hkl] at hm
    have hko : (q.getD k Pz).mid = oth := by have : mid + oth - (q.getD k Pz).mid = mid := hm; omega
    obtain ⟨k2, hk2, h3, h4⟩ := h.over hkl hko
    have h5 := hn k2 hk2
    rw [atP_iff_f] at h5
    exact h5 ⟨h3.trans hs, h4⟩
  · rename_i hkl
    rw [if_neg hkl] at hm
    have h5 := hn k hk
    rw [atP_iff_f] at h5
    exact h5 ⟨hs, hm⟩
end
/-- fbOk out of its parts. -/
theorem fbOk_of {d : Fb} (hh : fbHead d.s d.p d.m) (hb : ∀ i, i < d.q.length → okP (d.s * d.p) d.m (d.q.getD i Pz)) (hs : ∀ i j, i < j → j < d.q.length → (d.q.getD i Pz).src ≠ (d.q.getD j Pz).src)
    (hd : ∀ i j, i < j → j < d.q.length → (d.q.getD i Pz).dst ≠ (d.q.getD j Pz).dst) (hp : Proper d.q d.p) : fbOk d = true := by
  refine fbOk_yes hh fun j hj => ⟨hb j hj, fun i hi hc => ?_⟩
  rcases hc with h | h | ⟨h, h' | h'⟩
  · exact hs i j hi hj h
  · exact hd i j hi hj h
  · exact hp i j (by omega) hj (by omega) false h' h
  · exact hp i j (by omega) hj (by omega) true h' h
theorem fbOk_src {d : Fb} (h : fbOk d = true) {i j : Nat} (hi : i < j) (hj : j < d.q.length) : (d.q.getD i Pz).src ≠ (d.q.getD j Pz).src ∧ (d.q.getD i Pz).dst ≠ (d.q.getD j Pz).dst := by
  have := ((fbOk_is h).2 j hj).2 i hi
  exact ⟨fun e => this (.inl e), fun e => this (.inr (.inl e))⟩
theorem app_getD {q : List Pth} {z : Pth} {i : Nat} : (q ++ [z]).getD i Pz = if i < q.length then q.getD i Pz else if i = q.length then z else Pz := by
  by_cases h : i < q.length
  · simp [List.getD, h, List.getElem?_append_left h]
  · by_cases e : i = q.length
    · subst e; simp [List.getD]
    · have : q.length < i := by omega
      simp [List.getD, h, e, List.getElem?_append_right (show q.length ≤ i by omega), show ¬ i - q.length = 0 by omega]
/-- A path more, with a Mid that is free at both its switches. -/
theorem fbOk_add {d : Fb} {x y m : Int} (h : fbOk d = true) (hx : okEnd d x) (hy : okEnd d y) (hm : 0 ≤ m ∧ m ≤ d.m - 1) (hf : fidx (endP x y) d.q < 0)
    (h1 : ∀ k, k < d.q.length → atP d.p false (x.tdiv d.p) m (d.q.getD k Pz) = false) (h2 : ∀ k, k < d.q.length → atP d.p true (y.tdiv d.p) m (d.q.getD k Pz) = false) : fbOk ⟨d.s, d.p, d.m, d.q ++ [⟨x, y, m⟩]⟩ = true := by
  obtain ⟨hh, hall⟩ := fbOk_is h
  have hno := fidx_no hf
  have hl : (d.q ++ [(⟨x, y, m⟩ : Pth)]).length = d.q.length + 1 := by simp
  refine fbOk_of hh (fun i hi => ?_) (fun i j hij hj => ?_) (fun i j hij hj => ?_) ?_
  · dsimp only at hi ⊢
    rw [hl] at hi
    rw [app_getD]
    by_cases e : i < d.q.length
    · rw [if_pos e]; exact (hall i e).1
    · rw [if_neg e, if_pos (by omega)]; exact ⟨hx, hy, hm⟩
  · dsimp only at hj ⊢
    rw [hl] at hj
    rw [app_getD, app_getD, if_pos (show i < d.q.length by omega)]
    by_cases e : j < d.q.length
    · rw [if_pos e]; exact (fbOk_src h hij e).1
    · rw [if_neg e, if_pos (by omega)]
      have := hno i (by omega)
      simp only [endP, decide_eq_false_iff_not] at this
      exact fun e2 => this (.inl e2)
  · dsimp only at hj ⊢
    rw [hl] at hj
    rw [app_getD, app_getD, if_pos (show i < d.q.length by omega)]
    by_cases e : j < d.q.length
    · rw [if_pos e]; exact (fbOk_src h hij e).2
    · rw [if_neg e, if_pos (by omega)]
      have := hno i (by omega)
      simp only [endP, decide_eq_false_iff_not] at this
      exact fun e2 => this (.inr e2)
  · have hp := proper_of h
    have key : ∀ k, k < d.q.length → ∀ o : Bool, sideAt d.p o (d.q.getD k Pz) = sideAt d.p o ⟨x, y, m⟩ → (d.q.getD k Pz).mid ≠ m := fun k hk o hs hmm => by
      cases o with
      | false => exact (atP_iff_f.1 (h1 k hk)) ⟨hs, hmm⟩
      | true => exact (atP_iff_f.1 (h2 k hk)) ⟨hs, hmm⟩
    intro i j hi hj hne o
    dsimp only at hi hj ⊢
    rw [hl] at hi hj
    rw [app_getD, app_getD]
    by_cases e1 : i < d.q.length <;> by_cases e2 : j < d.q.length
    · rw [if_pos e1, if_pos e2]; exact hp i j e1 e2 hne o
    · rw [if_pos e1, if_neg e2, if_pos (by omega)]; exact key i e1 o
    · rw [if_neg e1, if_pos e2, if_pos (by omega)]
      intro hs hm2
      exact key j e2 o hs.symm hm2.symm
    · omega
theorem fbOk_recol {d : Fb} {c : Int} {l : List Nat} (h : fbOk d = true) (hp : Proper (recol d.q c l) d.p) (hm : ∀ e ∈ l, 0 ≤ c - (d.q.getD e Pz).mid ∧ c - (d.q.getD e Pz).mid ≤ d.m - 1) : fbOk ⟨d.s, d.p, d.m, recol d.q c l⟩ = true := by
  obtain ⟨hh, hall⟩ := fbOk_is h
  have s1 : ∀ i, i < d.q.length → ((recol d.q c l).getD i Pz).src = (d.q.getD i Pz).src ∧ ((recol d.q c l).getD i Pz).dst = (d.q.getD i Pz).dst := fun i hi => by
    rw [recol_get hi]; split <;> exact ⟨rfl, rfl⟩
  refine fbOk_of hh (fun i hi => ?_) (fun i j hij hj => ?_) (fun i j hij hj => ?_) hp
  · dsimp only at hi ⊢
    rw [recol_len] at hi
    have := (hall i hi).1
    obtain ⟨a1, a2, a3⟩ := this
    rw [recol_get hi]
    split
    · rename_i he; exact ⟨a1, a2, hm i he⟩
    · exact ⟨a1, a2, a3⟩
  · dsimp only at hj ⊢
    rw [recol_len] at hj
    rw [(s1 i (by omega)).1, (s1 j hj).1]; exact (fbOk_src h hij hj).1
  · dsimp only at hj ⊢
    rw [recol_len] at hj
    rw [(s1 i (by omega)).2, (s1 j hj).2]; exact (fbOk_src h hij hj).2
theorem recol_end {q : List Pth} {c x y : Int} {l : List Nat} (h : fidx (endP x y) q < 0) : fidx (endP x y) (recol q c l) < 0 := by
  have := fidx_no h
  rw [fidx_none (q := recol q c l) fun i hi => ?_]
  · omega
  · rw [recol_len] at hi
    have := this i hi
    rw [recol_get hi]
    split
    · exact this
    · exact this
/-- What Connect does leaves a right fabric right. -/
theorem conn_ok {d : Fb} {x y : Int} (h : (conn d x y).2.2 = 0) : fbOk d = true ∧ okEnd d x ∧ okEnd d y ∧ fidx (endP x y) d.q < 0 ∧ fbOk ⟨d.s, d.p, d.m, (conn d x y).1⟩ = true := by
  unfold conn at h ⊢
  split at h
  · rename_i hall
    rw [if_pos hall]
    split at h
    · simp at h
    · rename_i h2
      rw [if_neg h2]
      have hx0 := okEnd_q hall.1 hall.2.1
      have hy0 := okEnd_q hall.1 hall.2.2
      split at h
      · rename_i h3
        rw [if_pos h3]
        refine ⟨hall.1, hall.2.1, hall.2.2, by omega, ?_⟩
        obtain ⟨j, j1, j2, j3, _⟩ := least_is h3
        have j2' : fmF d x y = j := j2
        rw [freeB_iff hx0.1 hy0.1] at j3
        simp only [Bool.and_eq_true, decide_eq_true_eq] at j3
        refine fbOk_add hall.1 hall.2.1 hall.2.2 (by omega) (by omega) ?_ ?_
        · rw [j2']; exact fidx_no j3.1
        · rw [j2']; exact fidx_no j3.2
      · rename_i h3
        rw [if_neg h3]
        split at h
        · simp at h
        · rename_i h4
          rw [if_neg h4]
          refine ⟨hall.1, hall.2.1, hall.2.2, by omega, ?_⟩
          have mv := mov_of hall h3 h4
          have f1 := (mv.pre1 hall.1).full
          have f2 := (mv.pre2 hall.1).full
          have := mv.a0; have := mv.b0; have := mv.am; have := mv.bm
          have e1 : ch1 d x y = chain d.q d.p (d.q.length + 1) true (y.tdiv d.p) (fmA d x) (fmB d y) := rfl
          have e2 : ch2 d x y = chain d.q d.p (d.q.length + 1) false (x.tdiv d.p) (fmB d y) (fmA d x) := rfl
          rw [← e1] at f1
          rw [← e2] at f2
          unfold chL chM
          split
          · have ok := fbOk_recol (c := fmB d y + fmA d x) hall.1 f2.proper (fun e he => by rcases f2.colM he with h | h <;> rw [h] <;> omega)
            have := fbOk_add (d := ⟨d.s, d.p, d.m, recol d.q (fmB d y + fmA d x) (ch2 d x y)⟩) (x := x) (y := y) (m := fmB d y) ok hall.2.1 hall.2.2 (by dsimp only; omega) (recol_end (by omega))
              (fun k hk => by dsimp only at hk ⊢; rw [recol_len] at hk; exact f2.free hk) (fun k hk => by dsimp only at hk ⊢; rw [recol_len] at hk; exact f2.free2 mv.bF hk)
            rw [Int.add_comm]; exact this
          · have ok := fbOk_recol (c := fmA d x + fmB d y) hall.1 f1.proper (fun e he => by rcases f1.colM he with h | h <;> rw [h] <;> omega)
            exact fbOk_add (d := ⟨d.s, d.p, d.m, recol d.q (fmA d x + fmB d y) (ch1 d x y)⟩) (x := x) (y := y) (m := fmA d x) ok hall.2.1 hall.2.2 (by dsimp only; omega) (recol_end (by omega))
              (fun k hk => by dsimp only at hk ⊢; rw [recol_len] at hk; exact f1.free2 mv.aF hk) (fun k hk => by dsimp only at hk ⊢; rw [recol_len] at hk; exact f1.free hk)
  · simp at h
end Go.Proofs.YtgmcijagaielaaaE

/-! How many Mids are taken; how many paths move; a path that was put through is released again. -/
namespace Go.Proofs.YtgmcijagaielaaaE
open Go Go.RowKit
set_option linter.unusedSimpArgs false
set_option linter.unusedVariables false
set_option maxRecDepth 20000

def endOf (out : Bool) (x : Pth) : Int := if out = true then x.dst else x.src
theorem sideAt_end {p : Int} {out : Bool} {x : Pth} : sideAt p out x = (endOf out x).tdiv p := rfl
/-- The Mids that are taken at a switch of which one end is free are fewer than its ends. -/
theorem cap {d : Fb} (hok : fbOk d = true) (out : Bool) {x : Int} (hx : okEnd d x) (hfree : ∀ j, j < d.q.length → endOf out (d.q.getD j Pz) ≠ x) (C : List Nat) (hC : C.Nodup)
    (hu : ∀ k ∈ C, 0 ≤ fidx (atP d.p out (x.tdiv d.p) (k : Nat)) d.q) : (C.length : Int) + 1 ≤ d.p := by
  obtain ⟨⟨h1, h2, h3⟩, hall⟩ := fbOk_is hok
  have hp : 0 < d.p := by omega
  let pl : Nat → Nat := fun k => (fidx (atP d.p out (x.tdiv d.p) (k : Nat)) d.q).toNat
  let f : Nat → Nat := fun k => ((endOf out (d.q.getD (pl k) Pz)).tmod d.p).toNat
  have hpl : ∀ k ∈ C, pl k < d.q.length ∧ (endOf out (d.q.getD (pl k) Pz)).tdiv d.p = x.tdiv d.p ∧ (d.q.getD (pl k) Pz).mid = (k : Nat) := fun k hk => by
    obtain ⟨a1, a2, _⟩ := fidx_is (hu k hk)
    obtain ⟨a3, a4⟩ := atP_iff.1 a2
    exact ⟨a1, a3, a4⟩
  have hnn : ∀ k ∈ C, 0 ≤ endOf out (d.q.getD (pl k) Pz) := fun k hk => by
    have := (hall (pl k) (hpl k hk).1).1
    obtain ⟨b1, b2, _⟩ := this
    cases out
    · exact b1.1
    · exact b2.1
  have hnd : ((x.tmod d.p).toNat :: C.map f).Nodup := by
    rw [List.nodup_cons]
    refine ⟨fun hm => ?_, ?_⟩
    · obtain ⟨k, hk, he⟩ := List.mem_map.1 hm
      obtain ⟨a1, a2, a3⟩ := hpl k hk
      have he' : ((endOf out (d.q.getD (pl k) Pz)).tmod d.p).toNat = (x.tmod d.p).toNat := he
      have m1 := Int.tmod_nonneg d.p (hnn k hk)
      have m2 := Int.tmod_nonneg d.p hx.1
      have q1 := Int.mul_tdiv_add_tmod (endOf out (d.q.getD (pl k) Pz)) d.p
      have q2 := Int.mul_tdiv_add_tmod x d.p
      rw [a2] at q1
      exact hfree _ a1 (by omega)
    · have : (C.map f).Nodup := by
        rw [List.nodup_iff_pairwise_ne, List.pairwise_map]
        rw [List.nodup_iff_pairwise_ne] at hC
        refine hC.imp_of_mem fun {k k'} hk hk' hne he => ?_
        obtain ⟨a1, a2, a3⟩ := hpl k hk
        obtain ⟨b1, b2, b3⟩ := hpl k' hk'
        have he' : ((endOf out (d.q.getD (pl k) Pz)).tmod d.p).toNat = ((endOf out (d.q.getD (pl k') Pz)).tmod d.p).toNat := he
        have m1 := Int.tmod_nonneg d.p (hnn k hk)
        have m2 := Int.tmod_nonneg d.p (hnn k' hk')
        have q1 := Int.mul_tdiv_add_tmod (endOf out (d.q.getD (pl k) Pz)) d.p
        have q2 := Int.mul_tdiv_add_tmod (endOf out (d.q.getD (pl k') Pz)) d.p
        rw [a2] at q1
        rw [b2] at q2
        have hend : endOf out (d.q.getD (pl k) Pz) = endOf out (d.q.getD (pl k') Pz) := by omega
        have hij : pl k = pl k' := by
          rcases Nat.lt_trichotomy (pl k) (pl k') with h | h | h
          · exfalso
            have := fbOk_src hok h b1
            cases out
            · exact this.1 hend
            · exact this.2 hend
          · exact h
          · exfalso
            have := fbOk_src hok h a1
            cases out
            · exact this.1 hend.symm
            · exact this.2 hend.symm
        rw [hij] at a3
        apply hne
        have : (k : Int) = (k' : Int) := a3.symm.trans b3
        omega
      exact this
  have := nodup_len d.p.toNat _ hnd fun v hv => by
    rcases List.mem_cons.1 hv with rfl | hv
    · have := Int.tmod_lt_of_pos x hp
      have := Int.tmod_nonneg d.p hx.1
      omega
    · obtain ⟨k, hk, rfl⟩ := List.mem_map.1 hv
      show ((endOf out (d.q.getD (pl k) Pz)).tmod d.p).toNat < d.p.toNat
      have := Int.tmod_lt_of_pos (endOf out (d.q.getD (pl k) Pz)) hp
      have := Int.tmod_nonneg d.p (hnn k hk)
      omega
  simp at this
  omega
def strV (p m : Int) : Int := if 1 ≤ p ∧ p ≤ 4 then if 2 * p - 1 ≤ m then 2 else if p ≤ m then 1 else 0 else 0
theorem ends_free {d : Fb} {x y : Int} (hf : fidx (endP x y) d.q < 0) : (∀ j, j < d.q.length → endOf false (d.q.getD j Pz) ≠ x) ∧ (∀ j, j < d.q.length → endOf true (d.q.getD j Pz) ≠ y) := by
  have := fidx_no hf
  refine ⟨fun j hj e => ?_, fun j hj e => ?_⟩
  · have h := this j hj
    simp only [endP, decide_eq_false_iff_not] at h
    exact h (.inl e)
  · have h := this j hj
    simp only [endP, decide_eq_false_iff_not] at h
    exact h (.inr e)
/-- With as many Mids as ports nothing is blocked. -/
theorem not_blocked {d : Fb} {x y : Int} (h : (conn d x y).2.2 = 3) : ¬ 0 < strV d.p d.m := by
  unfold conn at h
  split at h
  · rename_i hall
    split at h
    · simp at h
    · rename_i h2
      split at h
      · simp at h
      · split at h
        · rename_i h4
          obtain ⟨e1, e2⟩ := ends_free (d := d) (x := x) (y := y) (by omega)
          obtain ⟨⟨_, hp, hm⟩, _⟩ := fbOk_is hall.1
          have x0 := (okEnd_q hall.1 hall.2.1).1
          have y0 := (okEnd_q hall.1 hall.2.2).1
          intro hs
          have hpm : d.p ≤ d.m := by
            unfold strV at hs
            rw [if_pos hp] at hs
            split at hs
            · omega
            · split at hs
              · assumption
              · omega
          rcases h4 with h4 | h4
          · have := cap hall.1 false hall.2.1 e1 (List.range d.m.toNat) List.nodup_range (fun k hk => by
              have := least_no h4 k (List.mem_range.1 hk)
              rw [freeI_iff x0, decide_eq_false_iff_not] at this; omega)
            simp at this; omega
          · have := cap hall.1 true hall.2.2 e2 (List.range d.m.toNat) List.nodup_range (fun k hk => by
              have := least_no h4 k (List.mem_range.1 hk)
              rw [freeO_iff y0, decide_eq_false_iff_not] at this; omega)
            simp at this; omega
        · simp at h
  · simp at h
theorem filter_split {α : Type} (P : α → Bool) : ∀ l : List α, (l.filter P).length + (l.filter fun x => !P x).length = l.length
  | [] => rfl
  | x :: l => by
    have := filter_split P l
    cases h : P x <;> simp [h] <;> omega
/-- With so many Mids that no switch can take half nothing moves. -/
theorem no_moves {d : Fb} {x y : Int} (h : (conn d x y).2.2 = 0) (hs : strV d.p d.m = 2) : (conn d x y).2.1 = [] := by
  unfold conn at h ⊢
  split at h
  · rename_i hall
    rw [if_pos hall]
    split at h
    · simp at h
    · rename_i h2
      rw [if_neg h2]
      split at h
      · rename_i h3; rw [if_pos h3]
      · rename_i h3
        exfalso
        obtain ⟨e1, e2⟩ := ends_free (d := d) (x := x) (y := y) (by omega)
        obtain ⟨⟨_, hp, hm⟩, _⟩ := fbOk_is hall.1
        have x0 := (okEnd_q hall.1 hall.2.1).1
        have y0 := (okEnd_q hall.1 hall.2.2).1
        have hpm : 2 * d.p - 1 ≤ d.m := by
          unfold strV at hs
          rw [if_pos hp] at hs
          split at hs
          · assumption
          · split at hs <;> omega
        have nof := least_no (P := freeP d.p d.q (x.tdiv d.p) (y.tdiv d.p)) (n := d.m.toNat) (by exact Int.not_le.1 h3)
        let P : Nat → Bool := fun k => decide (0 ≤ fidx (atP d.p false (x.tdiv d.p) (k : Nat)) d.q)
        have c1 := cap hall.1 false hall.2.1 e1 ((List.range d.m.toNat).filter P) (List.nodup_range.sublist List.filter_sublist) (fun k hk => by
          have := (List.mem_filter.1 hk).2; simpa [P] using this)
        have c2 := cap hall.1 true hall.2.2 e2 ((List.range d.m.toNat).filter fun k => !P k) (List.nodup_range.sublist List.filter_sublist) (fun k hk => by
          obtain ⟨h5, h6⟩ := List.mem_filter.1 hk
          have := nof k (List.mem_range.1 h5)
          rw [freeB_iff x0 y0] at this
          simp only [P, Bool.not_eq_true', decide_eq_false_iff_not] at h6
          rw [decide_eq_true (by omega), Bool.true_and, decide_eq_false_iff_not] at this
          omega)
        have := filter_split P (List.range d.m.toNat)
        simp only [List.length_range] at this
        omega
  · simp at h
theorem conn_not {d : Fb} {x y : Int} (h : (conn d x y).2.2 ≠ 0) : (conn d x y).1 = d.q ∧ (conn d x y).2.1 = [] := by
  unfold conn at h ⊢
  split at h
  · rename_i hall
    rw [if_pos hall]
    split at h
    · rename_i h2; rw [if_pos h2]; exact ⟨rfl, rfl⟩
    · rename_i h2
      rw [if_neg h2]
      split at h
      · simp at h
      · rename_i h3
        rw [if_neg h3]
        split at h
        · rename_i h4; rw [if_pos h4]; exact ⟨rfl, rfl⟩
        · simp at h
  · rename_i hall; rw [if_neg hall]; exact ⟨rfl, rfl⟩
/-- How many of the first n paths have another Mid. -/
def movN (a b : List Pth) : Nat → Nat
  | 0 => 0
  | n + 1 => movN a b n + if (a.getD n Pz).mid = (b.getD n Pz).mid then 0 else 1
theorem movN_same {a b : List Pth} : ∀ {n : Nat}, (∀ i, i < n → (a.getD i Pz).mid = (b.getD i Pz).mid) → movN a b n = 0
  | 0, _ => rfl
  | n + 1, h => by rw [movN, movN_same (fun i hi => h i (by omega)), if_pos (h n (by omega))]
theorem cnt_one {l : List Nat} (h : l.Nodup) (n : Nat) : (l.filter fun e => decide (e < n + 1)).length = (l.filter fun e => decide (e < n)).length + if n ∈ l then 1 else 0 := by
  induction l with
  | nil => simp
  | cons x l ih =>
    rw [List.nodup_cons] at h
    have ih := ih h.2
    by_cases e : x = n
    · subst e
      rw [if_neg h.1] at ih
      simp at ih ⊢
      exact ih
    · have hm : (n ∈ x :: l) = (n ∈ l) := by simp; intro e2; exact absurd e2.symm e
      simp only [hm]
      by_cases h1 : x < n
      · simp [h1, show x < n + 1 by omega]; omega
      · simp [h1, show ¬ x < n + 1 by omega]; exact ih
theorem movN_in {a b : List Pth} {l : List Nat} (hl : l.Nodup) : ∀ {n : Nat}, (∀ i, i < n → ((a.getD i Pz).mid = (b.getD i Pz).mid ↔ i ∉ l)) → movN a b n = (l.filter fun e => decide (e < n)).length
  | 0, _ => by
    rw [movN]; symm; rw [List.length_eq_zero_iff, List.filter_eq_nil_iff]; intro a _; simp
  | n + 1, h => by
    rw [movN, movN_in hl (fun i hi => h i (by omega)), cnt_one hl]
    have := h n (by omega)
    by_cases e : n ∈ l
    · rw [if_pos e, if_neg (fun e2 => (this.1 e2) e)]
    · rw [if_neg e, if_pos (this.2 e)]
/-- What Connect leaves of each path, and how many moved. -/
theorem conn_kept {d : Fb} {x y : Int} (h : (conn d x y).2.2 = 0) : (conn d x y).1.length = d.q.length + 1 ∧ (∀ i, i < d.q.length → ((conn d x y).1.getD i Pz).src = (d.q.getD i Pz).src ∧ ((conn d x y).1.getD i Pz).dst = (d.q.getD i Pz).dst) ∧
    movN (conn d x y).1 d.q d.q.length = (conn d x y).2.1.length ∧ ((conn d x y).1.getD d.q.length Pz).src = x := by
  unfold conn at h ⊢
  split at h
  · rename_i hall
    rw [if_pos hall]
    split at h
    · simp at h
    · rename_i h2
      rw [if_neg h2]
      split at h
      · rename_i h3
        rw [if_pos h3]
        refine ⟨by simp, fun i hi => ?_, movN_same fun i hi => ?_, ?_⟩
        · dsimp only; rw [app_getD, if_pos hi]; exact ⟨rfl, rfl⟩
        · dsimp only; rw [app_getD, if_pos hi]
        · dsimp only; rw [app_getD, if_neg (by omega), if_pos rfl]
      · rename_i h3
        rw [if_neg h3]
        split at h
        · simp at h
        · rename_i h4
          rw [if_neg h4]
          have mv := mov_of hall h3 h4
          have f1 := (mv.pre1 hall.1).full
          have f2 := (mv.pre2 hall.1).full
          have lok := chL_ok hall.1 mv
          have hcol : ∀ e ∈ chL d x y, (d.q.getD e Pz).mid = fmA d x ∨ (d.q.getD e Pz).mid = fmB d y := fun e he => by
            unfold chL at he
            split at he
            · exact (f2.colM he).symm
            · exact f1.colM he
          refine ⟨by simp [recol_len], fun i hi => ?_, ?_, ?_⟩
          · dsimp only
            rw [app_getD, if_pos (by rw [recol_len]; exact hi), recol_get hi]
            split <;> exact ⟨rfl, rfl⟩
          · dsimp only
            rw [movN_in (nodup_getD lok.di) (l := chL d x y) fun i hi => ?_]
            · rw [mvs_len, List.filter_eq_self.2]
              intro e he
              obtain ⟨t, ht, rfl⟩ := mem_getD he
              simpa using lok.bd t ht
            · rw [app_getD, if_pos (by rw [recol_len]; exact hi), recol_get hi]
              by_cases e : i ∈ chL d x y
              · rw [if_pos e]
                refine ⟨fun hm => ?_, fun hn => absurd e hn⟩
                exfalso
                have hm : fmA d x + fmB d y - (d.q.getD i Pz).mid = (d.q.getD i Pz).mid := hm
                have := mv.ne
                rcases hcol i e with h5 | h5 <;> rw [h5] at hm <;> omega
              · rw [if_neg e]; exact ⟨fun _ => e, fun _ => rfl⟩
          · dsimp only
            rw [app_getD, recol_len, if_neg (by omega), if_pos rfl]
  · simp at h
theorem delAt_getD {q : List Pth} {k i : Nat} (hk : k < q.length) : (delAt q k).getD i Pz = if i < k then q.getD i Pz else q.getD (i + 1) Pz := by
  unfold delAt
  simp only [List.getD, List.getElem?_append, List.length_take, List.getElem?_take, List.getElem?_drop]
  have hm : min k q.length = k := by omega
  rw [hm]
  by_cases h : i < k
  · simp [h]
  · simp [h]; congr 2; omega
theorem fbOk_del {d : Fb} {k : Nat} (h : fbOk d = true) (hk : k < d.q.length) : fbOk ⟨d.s, d.p, d.m, delAt d.q k⟩ = true := by
  obtain ⟨hh, hall⟩ := fbOk_is h
  have hl := delAt_len d.q k hk
  refine fbOk_yes hh fun j hj => ?_
  dsimp only at hj
  have up : ∀ i, i < (delAt d.q k).length → ∃ i', i' < d.q.length ∧ (delAt d.q k).getD i Pz = d.q.getD i' Pz ∧ (i' = i ∧ i < k ∨ i' = i + 1 ∧ k ≤ i) := fun i hi => by
    rw [delAt_getD hk]
    by_cases e : i < k
    · exact ⟨i, by omega, by rw [if_pos e], .inl ⟨rfl, e⟩⟩
    · exact ⟨i + 1, by omega, by rw [if_neg e], .inr ⟨rfl, by omega⟩⟩
  obtain ⟨j', j1, j2, j3⟩ := up j hj
  refine ⟨?_, fun i hi hc => ?_⟩
  · dsimp only; rw [j2]; exact (hall j' j1).1
  · obtain ⟨i', i1, i2, i3⟩ := up i (by omega)
    dsimp only at hc
    rw [j2, i2] at hc
    exact (hall j' j1).2 i' (by omega) hc
/-- What was put through is released again. -/
theorem conn_rel {d : Fb} {x y : Int} (h : (conn d x y).2.2 = 0) : (rel ⟨d.s, d.p, d.m, (conn d x y).1⟩ x).2 = 0 ∧ (rel ⟨d.s, d.p, d.m, (conn d x y).1⟩ x).1.length = d.q.length ∧ fbOk ⟨d.s, d.p, d.m, (rel ⟨d.s, d.p, d.m, (conn d x y).1⟩ x).1⟩ = true := by
  obtain ⟨h1, h2, h3, h4, h5⟩ := conn_ok h
  obtain ⟨k1, k2, k3, k4⟩ := conn_kept h
  have hi : 0 ≤ fidx (srcP x) (conn d x y).1 := by
    apply Classical.byContradiction
    intro hn
    have := fidx_no (q := (conn d x y).1) (P := srcP x) (by omega) d.q.length (by omega)
    simp only [srcP, decide_eq_false_iff_not] at this
    exact this k4
  have hlt := (fidx_is hi).1
  rw [rel_done (d := ⟨d.s, d.p, d.m, (conn d x y).1⟩) ⟨h5, h2⟩ hi]
  refine ⟨rfl, ?_, ?_⟩
  · have := delAt_len (conn d x y).1 _ hlt
    dsimp only; omega
  · exact fbOk_del (d := ⟨d.s, d.p, d.m, (conn d x y).1⟩) h5 hlt
end Go.Proofs.YtgmcijagaielaaaE

/-! The code of a function, in the engine's words. -/
namespace Go.Proofs.YtgmcijagaielaaaE
open Go Go.RowKit
@[reducible] def ic29 : IC := (.seq (.ops [⟨some 2, .new [(.int .i64 0), (.int .i64 0), (.int .i64 0), (.slice none 0 0)], none⟩, ⟨some 3, .mov (.const (.int .i64 0)), none⟩, ⟨some 4, .mov (.const (.int .i64 0)), none⟩]) (.seq (.ops [⟨some 8, .mov (.tmp 0), none⟩, ⟨some 9, .call 54 [(.tmp 8)], none⟩, ⟨some 5, .mov (.tmp 9), none⟩]) (.seq (.ops [⟨some 10, .mov (.tmp 5), none⟩, ⟨some 11, .mov (.tmp 0), none⟩, ⟨some 12, .call 55 [(.tmp 10), (.tmp 11)], none⟩, ⟨some 6, .new [(.int .i64 0), (.int .i64 0), (.int .i64 0), (.slice none 0 0)], none⟩, ⟨none, .store 4 (.tmp 6) (.tmp 12), none⟩]) (.seq (.ops [⟨some 13, .fadr 0 (.tmp 6), none⟩, ⟨some 14, .load 1 false (.tmp 13), none⟩, ⟨some 15, .fadr 1 (.tmp 6), none⟩, ⟨some 16, .load 1 false (.tmp 15), none⟩, ⟨some 17, .bin .mul (.tmp 14) (.tmp 16), none⟩, ⟨some 7, .mov (.tmp 17), none⟩]) (.seq (.draw [⟨some 18, .load 4 true (.tmp 6), none⟩, ⟨some 19, .mov (.tmp 5), none⟩, ⟨some 20, .mov (.tmp 7), none⟩, ⟨some 21, .bin .add (.tmp 20) (.const (.int .i64 2)), none⟩, ⟨some 22, .call 56 [(.tmp 19), (.tmp 21)], none⟩, ⟨some 23, .mov (.tmp 5), none⟩, ⟨some 24, .call 56 [(.tmp 23), (.const (.int .i64 20))], none⟩, ⟨some 25, .bin .quo (.tmp 24) (.const (.int .i64 19)), none⟩, ⟨some 26, .bin .sub (.tmp 22) (.tmp 25), none⟩, ⟨some 27, .mov (.tmp 5), none⟩, ⟨some 28, .mov (.tmp 7), none⟩, ⟨some 29, .bin .add (.tmp 28) (.const (.int .i64 1)), none⟩, ⟨some 30, .call 56 [(.tmp 27), (.tmp 29)], none⟩, ⟨none, .store 4 (.tmp 2) (.tmp 18), none⟩, ⟨some 3, .mov (.tmp 26), none⟩, ⟨some 4, .mov (.tmp 30), none⟩] (.held ⟨some 19, .mov (.tmp 5), none⟩ (.held ⟨some 20, .mov (.tmp 7), none⟩ (.held ⟨some 21, .bin .add (.tmp 20) (.const (.int .i64 2)), none⟩ (.held ⟨some 23, .mov (.tmp 5), none⟩ (.held ⟨some 27, .mov (.tmp 5), none⟩ (.held ⟨some 28, .mov (.tmp 7), none⟩ (.held ⟨some 29, .bin .add (.tmp 28) (.const (.int .i64 1)), none⟩ (.alt ⟨some 18, .load 4 true (.tmp 6), none⟩ (.alt ⟨some 22, .call 56 [(.tmp 19), (.tmp 21)], none⟩ (.alt ⟨some 24, .call 56 [(.tmp 23), (.const (.int .i64 20))], none⟩ (.held ⟨some 25, .bin .quo (.tmp 24) (.const (.int .i64 19)), none⟩ (.held ⟨some 26, .bin .sub (.tmp 22) (.tmp 25), none⟩ (.alt ⟨some 30, .call 56 [(.tmp 27), (.tmp 29)], none⟩ (.alt ⟨none, .store 4 (.tmp 2) (.tmp 18), none⟩ (.held ⟨some 3, .mov (.tmp 26), none⟩ (.held ⟨some 4, .mov (.tmp 30), none⟩ .done)) .stop) .stop))) .stop) .stop) (.alt ⟨some 22, .call 56 [(.tmp 19), (.tmp 21)], none⟩ (.alt ⟨some 18, .load 4 true (.tmp 6), none⟩ (.alt ⟨some 24, .call 56 [(.tmp 23), (.const (.int .i64 20))], none⟩ (.held ⟨some 25, .bin .quo (.tmp 24) (.const (.int .i64 19)), none⟩ (.held ⟨some 26, .bin .sub (.tmp 22) (.tmp 25), none⟩ (.alt ⟨some 30, .call 56 [(.tmp 27), (.tmp 29)], none⟩ (.alt ⟨none, .store 4 (.tmp 2) (.tmp 18), none⟩ (.held ⟨some 3, .mov (.tmp 26), none⟩ (.held ⟨some 4, .mov (.tmp 30), none⟩ .done)) .stop) .stop))) .stop) (.alt ⟨some 24, .call 56 [(.tmp 23), (.const (.int .i64 20))], none⟩ (.held ⟨some 25, .bin .quo (.tmp 24) (.const (.int .i64 19)), none⟩ (.held ⟨some 26, .bin .sub (.tmp 22) (.tmp 25), none⟩ (.alt ⟨some 18, .load 4 true (.tmp 6), none⟩ (.alt ⟨some 30, .call 56 [(.tmp 27), (.tmp 29)], none⟩ (.alt ⟨none, .store 4 (.tmp 2) (.tmp 18), none⟩ (.held ⟨some 3, .mov (.tmp 26), none⟩ (.held ⟨some 4, .mov (.tmp 30), none⟩ .done)) .stop) .stop) (.alt ⟨some 30, .call 56 [(.tmp 27), (.tmp 29)], none⟩ (.held ⟨some 18, .load 4 true (.tmp 6), none⟩ (.alt ⟨none, .store 4 (.tmp 2) (.tmp 18), none⟩ (.held ⟨some 3, .mov (.tmp 26), none⟩ (.held ⟨some 4, .mov (.tmp 30), none⟩ .done)) .stop)) .stop)))) .stop)) .stop)))))))))) .ret)))))
@[reducible] def rv29 : List RV := [.cell 2 4 true, .tmp 3, .tmp 4]
theorem low29 : lowC Try.prog tau Try.f29.ntmps (Try.f29.body.getD .skip) = some (erase ic29) := by kernel_rfl
theorem res29 : lowR Try.prog Try.f29.results.toList = some rv29 := by kernel_rfl
theorem bod29 : Try.f29.body = some (Try.f29.body.getD .skip) := by kernel_rfl
theorem cal29 : callable Try.prog 29 = true := by kernel_rfl

end Go.Proofs.YtgmcijagaielaaaE

/-! The code of a function, in the engine's words. -/
namespace Go.Proofs.YtgmcijagaielaaaE
open Go Go.RowKit
@[reducible] def ic30 : IC := (.seq (.ops [⟨some 4, .mov (.const (.int .i64 0)), none⟩]) (.seq (.block 0 (.seq (.ops [⟨some 6, .mov (.tmp 0), none⟩, ⟨some 7, .call 38 [(.tmp 6), (.const (.int .i64 1)), (.const (.int .i64 4))], none⟩, ⟨some 8, .una .not (.tmp 7), none⟩, ⟨some 5, .mov (.tmp 8), none⟩]) (.cond (.tmp 5) (.seq (.ops [⟨some 4, .mov (.const (.int .i64 0)), none⟩]) .ret) (.seq (.ops [⟨some 10, .mov (.tmp 1), none⟩, ⟨some 11, .mov (.tmp 0), none⟩, ⟨some 12, .bin .mul (.const (.int .i64 2)) (.tmp 11), none⟩, ⟨some 13, .bin .sub (.tmp 12) (.const (.int .i64 1)), none⟩, ⟨some 14, .bin .geq (.tmp 10) (.tmp 13), none⟩, ⟨some 9, .mov (.tmp 14), none⟩]) (.cond (.tmp 9) (.seq (.ops [⟨some 4, .mov (.const (.int .i64 2)), none⟩]) .ret) (.seq (.ops [⟨some 16, .mov (.tmp 1), none⟩, ⟨some 17, .mov (.tmp 0), none⟩, ⟨some 18, .bin .geq (.tmp 16) (.tmp 17), none⟩, ⟨some 15, .mov (.tmp 18), none⟩]) (.cond (.tmp 15) (.seq (.ops [⟨some 4, .mov (.const (.int .i64 1)), none⟩]) .ret) .skip))))))) (.seq (.ops [⟨some 4, .mov (.const (.int .i64 0)), none⟩]) .ret)))
@[reducible] def rv30 : List RV := [.tmp 4]
theorem low30 : lowC Try.prog tau Try.f30.ntmps (Try.f30.body.getD .skip) = some (erase ic30) := by kernel_rfl
theorem res30 : lowR Try.prog Try.f30.results.toList = some rv30 := by kernel_rfl
theorem bod30 : Try.f30.body = some (Try.f30.body.getD .skip) := by kernel_rfl
theorem cal30 : callable Try.prog 30 = true := by kernel_rfl

end Go.Proofs.YtgmcijagaielaaaE

/-! The code of a function, in the engine's words. -/
namespace Go.Proofs.YtgmcijagaielaaaE
open Go Go.RowKit
@[reducible] def ic31 : IC := (.seq (.ops [⟨some 4, .mov (.const (.int .i64 0)), none⟩]) (.seq (.block 0 (.seq (.ops [⟨some 6, .mov (.tmp 0), none⟩, ⟨some 7, .call 35 [(.tmp 6), (.const (.int .i64 1)), (.const (.int .i64 4))], none⟩, ⟨some 8, .una .not (.tmp 7), none⟩, ⟨some 5, .mov (.tmp 8), none⟩]) (.cond (.tmp 5) (.seq (.ops [⟨some 4, .mov (.const (.int .i64 0)), none⟩]) .ret) (.seq (.ops [⟨some 10, .mov (.tmp 1), none⟩, ⟨some 11, .mov (.tmp 0), none⟩, ⟨some 12, .bin .mul (.const (.int .i64 2)) (.tmp 11), none⟩, ⟨some 13, .bin .sub (.tmp 12) (.const (.int .i64 1)), none⟩, ⟨some 14, .bin .geq (.tmp 10) (.tmp 13), none⟩, ⟨some 9, .mov (.tmp 14), none⟩]) (.cond (.tmp 9) (.seq (.ops [⟨some 4, .mov (.const (.int .i64 2)), none⟩]) .ret) (.seq (.ops [⟨some 16, .mov (.tmp 1), none⟩, ⟨some 17, .mov (.tmp 0), none⟩, ⟨some 18, .bin .geq (.tmp 16) (.tmp 17), none⟩, ⟨some 15, .mov (.tmp 18), none⟩]) (.cond (.tmp 15) (.seq (.ops [⟨some 4, .mov (.const (.int .i64 1)), none⟩]) .ret) .skip))))))) (.seq (.ops [⟨some 4, .mov (.const (.int .i64 0)), none⟩]) .ret)))
@[reducible] def rv31 : List RV := [.tmp 4]
theorem low31 : lowC Try.prog tau Try.f31.ntmps (Try.f31.body.getD .skip) = some (erase ic31) := by kernel_rfl
theorem res31 : lowR Try.prog Try.f31.results.toList = some rv31 := by kernel_rfl
theorem bod31 : Try.f31.body = some (Try.f31.body.getD .skip) := by kernel_rfl
theorem cal31 : callable Try.prog 31 = true := by kernel_rfl

end Go.Proofs.YtgmcijagaielaaaE

/-! The code of a function, in the engine's words. -/
namespace Go.Proofs.YtgmcijagaielaaaE
open Go Go.RowKit
@[reducible] def ic32 : IC := (.seq (.ops [⟨some 2, .new [(.int .i64 0), (.int .i64 0), (.int .i64 0), (.slice none 0 0)], none⟩]) (.seq (.ops [⟨some 3, .mov (.tmp 0), none⟩, ⟨some 4, .call 54 [(.tmp 3)], none⟩, ⟨some 5, .mov (.tmp 0), none⟩, ⟨some 6, .call 55 [(.tmp 4), (.tmp 5)], none⟩, ⟨none, .store 4 (.tmp 2) (.tmp 6), none⟩]) .ret))
@[reducible] def rv32 : List RV := [.cell 2 4 true]
theorem low32 : lowC Try.prog tau Try.f32.ntmps (Try.f32.body.getD .skip) = some (erase ic32) := by kernel_rfl
theorem res32 : lowR Try.prog Try.f32.results.toList = some rv32 := by kernel_rfl
theorem bod32 : Try.f32.body = some (Try.f32.body.getD .skip) := by kernel_rfl
theorem cal32 : callable Try.prog 32 = true := by kernel_rfl

end Go.Proofs.YtgmcijagaielaaaE

/-! The code of a function, in the engine's words. -/
namespace Go.Proofs.YtgmcijagaielaaaE
open Go Go.RowKit
@[reducible] def ic33 : IC := (.seq (.ops [⟨some 4, .mov (.const (.int .i64 0)), none⟩]) (.seq (.seq (.ops [⟨some 5, .mov (.tmp 1), none⟩, ⟨some 6, .mov (.tmp 0), none⟩, ⟨some 7, .len (.tmp 6), none⟩, ⟨some 8, .bin .lss (.tmp 5) (.tmp 7), none⟩]) (.cond (.tmp 8) (.seq (.ops [⟨some 9, .mov (.tmp 0), none⟩, ⟨some 10, .mov (.tmp 1), none⟩, ⟨some 11, .iadr 1 (.tmp 9) (.tmp 10), none⟩, ⟨some 12, .load 1 false (.tmp 11), none⟩, ⟨some 13, .cvi .i64 (.tmp 12), none⟩, ⟨some 4, .mov (.tmp 13), none⟩]) .ret) .skip)) (.seq (.ops [⟨some 14, .mov (.tmp 1), none⟩, ⟨some 15, .bin .mul (.tmp 14) (.const (.int .i64 7)), none⟩, ⟨some 16, .mov (.tmp 0), none⟩, ⟨some 17, .len (.tmp 16), none⟩, ⟨some 18, .bin .add (.tmp 15) (.tmp 17), none⟩, ⟨some 19, .bin .rem (.tmp 18) (.const (.int .i64 256)), none⟩, ⟨some 4, .mov (.tmp 19), none⟩]) .ret)))
@[reducible] def rv33 : List RV := [.tmp 4]
theorem low33 : lowC Try.prog tau Try.f33.ntmps (Try.f33.body.getD .skip) = some (erase ic33) := by kernel_rfl
theorem res33 : lowR Try.prog Try.f33.results.toList = some rv33 := by kernel_rfl
theorem bod33 : Try.f33.body = some (Try.f33.body.getD .skip) := by kernel_rfl
theorem cal33 : callable Try.prog 33 = true := by kernel_rfl

end Go.Proofs.YtgmcijagaielaaaE

/-! The code of a function, in the engine's words. -/
namespace Go.Proofs.YtgmcijagaielaaaE
open Go Go.RowKit
@[reducible] def ic55 : IC := (.seq (.ops [⟨some 4, .new [(.int .i64 0), (.int .i64 0), (.int .i64 0), (.slice none 0 0)], none⟩]) (.seq (.ops [⟨some 6, .mov (.tmp 0), none⟩, ⟨some 7, .mov (.tmp 1), none⟩, ⟨some 8, .call 60 [(.tmp 6), (.tmp 7)], none⟩, ⟨some 5, .new [(.int .i64 0), (.int .i64 0), (.int .i64 0), (.slice none 0 0)], none⟩, ⟨none, .store 4 (.tmp 5) (.tmp 8), none⟩]) (.seq (.seq (.ops [⟨some 9, .mov (.tmp 0), none⟩, ⟨some 10, .call 56 [(.tmp 9), (.const (.int .i64 25))], none⟩]) (.block 0 (.seq (.ops [⟨some 12, .bin .eql (.tmp 10) (.const (.int .i64 0)), none⟩, ⟨some 11, .mov (.tmp 12), none⟩]) (.cond (.tmp 11) (.ops [⟨some 13, .mov (.tmp 0), none⟩, ⟨some 14, .blds .int 4 [(0, 1, (.const (.int .i64 0))), (1, 1, (.const (.int .i64 1))), (2, 1, (.const (.int .i64 12))), (3, 1, (.const (.int .i64 13)))], none⟩, ⟨some 15, .call 61 [(.tmp 13), (.tmp 14)], none⟩, ⟨some 16, .fadr 2 (.tmp 5), none⟩, ⟨none, .store 1 (.tmp 16) (.tmp 15), none⟩]) (.seq (.ops [⟨some 18, .bin .eql (.tmp 10) (.const (.int .i64 1)), none⟩, ⟨some 17, .mov (.tmp 18), none⟩]) (.cond (.tmp 17) (.ops [⟨some 19, .mov (.tmp 0), none⟩, ⟨some 20, .blds .int 4 [(0, 1, (.const (.int .i64 0))), (1, 1, (.const (.int .i64 1))), (2, 1, (.const (.int .i64 6))), (3, 1, (.const (.int .i64 7)))], none⟩, ⟨some 21, .call 61 [(.tmp 19), (.tmp 20)], none⟩, ⟨some 22, .fadr 0 (.tmp 5), none⟩, ⟨none, .store 1 (.tmp 22) (.tmp 21), none⟩]) (.seq (.ops [⟨some 24, .bin .eql (.tmp 10) (.const (.int .i64 2)), none⟩, ⟨some 23, .mov (.tmp 24), none⟩]) (.cond (.tmp 23) (.draw [⟨some 25, .fadr 3 (.tmp 5), none⟩, ⟨some 26, .load 1 false (.tmp 25), none⟩, ⟨some 27, .mov (.tmp 0), none⟩, ⟨some 28, .call 56 [(.tmp 27), (.const (.int .i64 9))], none⟩, ⟨some 29, .mov (.tmp 0), none⟩, ⟨some 30, .call 56 [(.tmp 29), (.const (.int .i64 9))], none⟩, ⟨some 31, .mov (.tmp 0), none⟩, ⟨some 32, .fadr 2 (.tmp 5), none⟩, ⟨some 33, .load 1 false (.tmp 32), none⟩, ⟨some 34, .bin .add (.tmp 33) (.const (.int .i64 1)), none⟩, ⟨some 35, .call 56 [(.tmp 31), (.tmp 34)], none⟩, ⟨some 36, .bld [(.int .i64 0), (.int .i64 0), (.int .i64 0)] [(0, 1, (.tmp 28)), (1, 1, (.tmp 30)), (2, 1, (.tmp 35))], none⟩, ⟨some 37, .blds .path 1 [(0, 3, (.tmp 36))], none⟩, ⟨some 38, .app .path 24 (.tmp 26) (.tmp 37), none⟩, ⟨some 39, .fadr 3 (.tmp 5), none⟩, ⟨none, .store 1 (.tmp 39) (.tmp 38), none⟩] (.held ⟨some 25, .fadr 3 (.tmp 5), none⟩ (.held ⟨some 27, .mov (.tmp 0), none⟩ (.held ⟨some 29, .mov (.tmp 0), none⟩ (.held ⟨some 31, .mov (.tmp 0), none⟩ (.held ⟨some 32, .fadr 2 (.tmp 5), none⟩ (.alt ⟨some 26, .load 1 false (.tmp 25), none⟩ (.alt ⟨some 28, .call 56 [(.tmp 27), (.const (.int .i64 9))], none⟩ (.alt ⟨some 30, .call 56 [(.tmp 29), (.const (.int .i64 9))], none⟩ (.held ⟨some 33, .load 1 false (.tmp 32), none⟩ (.held ⟨some 34, .bin .add (.tmp 33) (.const (.int .i64 1)), none⟩ (.alt ⟨some 35, .call 56 [(.tmp 31), (.tmp 34)], none⟩ (.held ⟨some 36, .bld [(.int .i64 0), (.int .i64 0), (.int .i64 0)] [(0, 1, (.tmp 28)), (1, 1, (.tmp 30)), (2, 1, (.tmp 35))], none⟩ (.alt ⟨some 37, .blds .path 1 [(0, 3, (.tmp 36))], none⟩ (.alt ⟨some 38, .app .path 24 (.tmp 26) (.tmp 37), none⟩ (.held ⟨some 39, .fadr 3 (.tmp 5), none⟩ (.alt ⟨none, .store 1 (.tmp 39) (.tmp 38), none⟩ .done .stop)) .stop) .stop)) .stop))) (.alt ⟨some 33, .load 1 false (.tmp 32), none⟩ (.held ⟨some 34, .bin .add (.tmp 33) (.const (.int .i64 1)), none⟩ (.alt ⟨some 30, .call 56 [(.tmp 29), (.const (.int .i64 9))], none⟩ (.alt ⟨some 35, .call 56 [(.tmp 31), (.tmp 34)], none⟩ (.held ⟨some 36, .bld [(.int .i64 0), (.int .i64 0), (.int .i64 0)] [(0, 1, (.tmp 28)), (1, 1, (.tmp 30)), (2, 1, (.tmp 35))], none⟩ (.alt ⟨some 37, .blds .path 1 [(0, 3, (.tmp 36))], none⟩ (.alt ⟨some 38, .app .path 24 (.tmp 26) (.tmp 37), none⟩ (.held ⟨some 39, .fadr 3 (.tmp 5), none⟩ (.alt ⟨none, .store 1 (.tmp 39) (.tmp 38), none⟩ .done .stop)) .stop) .stop)) .stop) .stop)) .stop)) (.alt ⟨some 33, .load 1 false (.tmp 32), none⟩ (.held ⟨some 34, .bin .add (.tmp 33) (.const (.int .i64 1)), none⟩ (.alt ⟨some 28, .call 56 [(.tmp 27), (.const (.int .i64 9))], none⟩ (.alt ⟨some 30, .call 56 [(.tmp 29), (.const (.int .i64 9))], none⟩ (.alt ⟨some 35, .call 56 [(.tmp 31), (.tmp 34)], none⟩ (.held ⟨some 36, .bld [(.int .i64 0), (.int .i64 0), (.int .i64 0)] [(0, 1, (.tmp 28)), (1, 1, (.tmp 30)), (2, 1, (.tmp 35))], none⟩ (.alt ⟨some 37, .blds .path 1 [(0, 3, (.tmp 36))], none⟩ (.alt ⟨some 38, .app .path 24 (.tmp 26) (.tmp 37), none⟩ (.held ⟨some 39, .fadr 3 (.tmp 5), none⟩ (.alt ⟨none, .store 1 (.tmp 39) (.tmp 38), none⟩ .done .stop)) .stop) .stop)) .stop) .stop) .stop)) .stop)) (.alt ⟨some 28, .call 56 [(.tmp 27), (.const (.int .i64 9))], none⟩ (.alt ⟨some 26, .load 1 false (.tmp 25), none⟩ (.alt ⟨some 30, .call 56 [(.tmp 29), (.const (.int .i64 9))], none⟩ (.held ⟨some 33, .load 1 false (.tmp 32), none⟩ (.held ⟨some 34, .bin .add (.tmp 33) (.const (.int .i64 1)), none⟩ (.alt ⟨some 35, .call 56 [(.tmp 31), (.tmp 34)], none⟩ (.held ⟨some 36, .bld [(.int .i64 0), (.int .i64 0), (.int .i64 0)] [(0, 1, (.tmp 28)), (1, 1, (.tmp 30)), (2, 1, (.tmp 35))], none⟩ (.alt ⟨some 37, .blds .path 1 [(0, 3, (.tmp 36))], none⟩ (.alt ⟨some 38, .app .path 24 (.tmp 26) (.tmp 37), none⟩ (.held ⟨some 39, .fadr 3 (.tmp 5), none⟩ (.alt ⟨none, .store 1 (.tmp 39) (.tmp 38), none⟩ .done .stop)) .stop) .stop)) .stop))) (.alt ⟨some 33, .load 1 false (.tmp 32), none⟩ (.held ⟨some 34, .bin .add (.tmp 33) (.const (.int .i64 1)), none⟩ (.alt ⟨some 30, .call 56 [(.tmp 29), (.const (.int .i64 9))], none⟩ (.alt ⟨some 35, .call 56 [(.tmp 31), (.tmp 34)], none⟩ (.held ⟨some 36, .bld [(.int .i64 0), (.int .i64 0), (.int .i64 0)] [(0, 1, (.tmp 28)), (1, 1, (.tmp 30)), (2, 1, (.tmp 35))], none⟩ (.alt ⟨some 37, .blds .path 1 [(0, 3, (.tmp 36))], none⟩ (.alt ⟨some 38, .app .path 24 (.tmp 26) (.tmp 37), none⟩ (.held ⟨some 39, .fadr 3 (.tmp 5), none⟩ (.alt ⟨none, .store 1 (.tmp 39) (.tmp 38), none⟩ .done .stop)) .stop) .stop)) .stop) .stop)) .stop)) (.alt ⟨some 30, .call 56 [(.tmp 29), (.const (.int .i64 9))], none⟩ (.held ⟨some 33, .load 1 false (.tmp 32), none⟩ (.held ⟨some 34, .bin .add (.tmp 33) (.const (.int .i64 1)), none⟩ (.alt ⟨some 26, .load 1 false (.tmp 25), none⟩ (.alt ⟨some 35, .call 56 [(.tmp 31), (.tmp 34)], none⟩ (.held ⟨some 36, .bld [(.int .i64 0), (.int .i64 0), (.int .i64 0)] [(0, 1, (.tmp 28)), (1, 1, (.tmp 30)), (2, 1, (.tmp 35))], none⟩ (.alt ⟨some 37, .blds .path 1 [(0, 3, (.tmp 36))], none⟩ (.alt ⟨some 38, .app .path 24 (.tmp 26) (.tmp 37), none⟩ (.held ⟨some 39, .fadr 3 (.tmp 5), none⟩ (.alt ⟨none, .store 1 (.tmp 39) (.tmp 38), none⟩ .done .stop)) .stop) .stop)) .stop) (.alt ⟨some 35, .call 56 [(.tmp 31), (.tmp 34)], none⟩ (.held ⟨some 26, .load 1 false (.tmp 25), none⟩ (.held ⟨some 36, .bld [(.int .i64 0), (.int .i64 0), (.int .i64 0)] [(0, 1, (.tmp 28)), (1, 1, (.tmp 30)), (2, 1, (.tmp 35))], none⟩ (.alt ⟨some 37, .blds .path 1 [(0, 3, (.tmp 36))], none⟩ (.alt ⟨some 38, .app .path 24 (.tmp 26) (.tmp 37), none⟩ (.held ⟨some 39, .fadr 3 (.tmp 5), none⟩ (.alt ⟨none, .store 1 (.tmp 39) (.tmp 38), none⟩ .done .stop)) .stop) .stop))) .stop)))) (.alt ⟨some 33, .load 1 false (.tmp 32), none⟩ (.held ⟨some 34, .bin .add (.tmp 33) (.const (.int .i64 1)), none⟩ (.alt ⟨some 26, .load 1 false (.tmp 25), none⟩ (.alt ⟨some 30, .call 56 [(.tmp 29), (.const (.int .i64 9))], none⟩ (.alt ⟨some 35, .call 56 [(.tmp 31), (.tmp 34)], none⟩ (.held ⟨some 36, .bld [(.int .i64 0), (.int .i64 0), (.int .i64 0)] [(0, 1, (.tmp 28)), (1, 1, (.tmp 30)), (2, 1, (.tmp 35))], none⟩ (.alt ⟨some 37, .blds .path 1 [(0, 3, (.tmp 36))], none⟩ (.alt ⟨some 38, .app .path 24 (.tmp 26) (.tmp 37), none⟩ (.held ⟨some 39, .fadr 3 (.tmp 5), none⟩ (.alt ⟨none, .store 1 (.tmp 39) (.tmp 38), none⟩ .done .stop)) .stop) .stop)) .stop) .stop) (.alt ⟨some 30, .call 56 [(.tmp 29), (.const (.int .i64 9))], none⟩ (.alt ⟨some 26, .load 1 false (.tmp 25), none⟩ (.alt ⟨some 35, .call 56 [(.tmp 31), (.tmp 34)], none⟩ (.held ⟨some 36, .bld [(.int .i64 0), (.int .i64 0), (.int .i64 0)] [(0, 1, (.tmp 28)), (1, 1, (.tmp 30)), (2, 1, (.tmp 35))], none⟩ (.alt ⟨some 37, .blds .path 1 [(0, 3, (.tmp 36))], none⟩ (.alt ⟨some 38, .app .path 24 (.tmp 26) (.tmp 37), none⟩ (.held ⟨some 39, .fadr 3 (.tmp 5), none⟩ (.alt ⟨none, .store 1 (.tmp 39) (.tmp 38), none⟩ .done .stop)) .stop) .stop)) .stop) (.alt ⟨some 35, .call 56 [(.tmp 31), (.tmp 34)], none⟩ (.held ⟨some 26, .load 1 false (.tmp 25), none⟩ (.held ⟨some 36, .bld [(.int .i64 0), (.int .i64 0), (.int .i64 0)] [(0, 1, (.tmp 28)), (1, 1, (.tmp 30)), (2, 1, (.tmp 35))], none⟩ (.alt ⟨some 37, .blds .path 1 [(0, 3, (.tmp 36))], none⟩ (.alt ⟨some 38, .app .path 24 (.tmp 26) (.tmp 37), none⟩ (.held ⟨some 39, .fadr 3 (.tmp 5), none⟩ (.alt ⟨none, .store 1 (.tmp 39) (.tmp 38), none⟩ .done .stop)) .stop) .stop))) .stop)) .stop))) .stop))) (.alt ⟨some 33, .load 1 false (.tmp 32), none⟩ (.held ⟨some 34, .bin .add (.tmp 33) (.const (.int .i64 1)), none⟩ (.alt ⟨some 26, .load 1 false (.tmp 25), none⟩ (.alt ⟨some 28, .call 56 [(.tmp 27), (.const (.int .i64 9))], none⟩ (.alt ⟨some 30, .call 56 [(.tmp 29), (.const (.int .i64 9))], none⟩ (.alt ⟨some 35, .call 56 [(.tmp 31), (.tmp 34)], none⟩ (.held ⟨some 36, .bld [(.int .i64 0), (.int .i64 0), (.int .i64 0)] [(0, 1, (.tmp 28)), (1, 1, (.tmp 30)), (2, 1, (.tmp 35))], none⟩ (.alt ⟨some 37, .blds .path 1 [(0, 3, (.tmp 36))], none⟩ (.alt ⟨some 38, .app .path 24 (.tmp 26) (.tmp 37), none⟩ (.held ⟨some 39, .fadr 3 (.tmp 5), none⟩ (.alt ⟨none, .store 1 (.tmp 39) (.tmp 38), none⟩ .done .stop)) .stop) .stop)) .stop) .stop) .stop) (.alt ⟨some 28, .call 56 [(.tmp 27), (.const (.int .i64 9))], none⟩ (.alt ⟨some 26, .load 1 false (.tmp 25), none⟩ (.alt ⟨some 30, .call 56 [(.tmp 29), (.const (.int .i64 9))], none⟩ (.alt ⟨some 35, .call 56 [(.tmp 31), (.tmp 34)], none⟩ (.held ⟨some 36, .bld [(.int .i64 0), (.int .i64 0), (.int .i64 0)] [(0, 1, (.tmp 28)), (1, 1, (.tmp 30)), (2, 1, (.tmp 35))], none⟩ (.alt ⟨some 37, .blds .path 1 [(0, 3, (.tmp 36))], none⟩ (.alt ⟨some 38, .app .path 24 (.tmp 26) (.tmp 37), none⟩ (.held ⟨some 39, .fadr 3 (.tmp 5), none⟩ (.alt ⟨none, .store 1 (.tmp 39) (.tmp 38), none⟩ .done .stop)) .stop) .stop)) .stop) .stop) (.alt ⟨some 30, .call 56 [(.tmp 29), (.const (.int .i64 9))], none⟩ (.alt ⟨some 26, .load 1 false (.tmp 25), none⟩ (.alt ⟨some 35, .call 56 [(.tmp 31), (.tmp 34)], none⟩ (.held ⟨some 36, .bld [(.int .i64 0), (.int .i64 0), (.int .i64 0)] [(0, 1, (.tmp 28)), (1, 1, (.tmp 30)), (2, 1, (.tmp 35))], none⟩ (.alt ⟨some 37, .blds .path 1 [(0, 3, (.tmp 36))], none⟩ (.alt ⟨some 38, .app .path 24 (.tmp 26) (.tmp 37), none⟩ (.held ⟨some 39, .fadr 3 (.tmp 5), none⟩ (.alt ⟨none, .store 1 (.tmp 39) (.tmp 38), none⟩ .done .stop)) .stop) .stop)) .stop) (.alt ⟨some 35, .call 56 [(.tmp 31), (.tmp 34)], none⟩ (.held ⟨some 26, .load 1 false (.tmp 25), none⟩ (.held ⟨some 36, .bld [(.int .i64 0), (.int .i64 0), (.int .i64 0)] [(0, 1, (.tmp 28)), (1, 1, (.tmp 30)), (2, 1, (.tmp 35))], none⟩ (.alt ⟨some 37, .blds .path 1 [(0, 3, (.tmp 36))], none⟩ (.alt ⟨some 38, .app .path 24 (.tmp 26) (.tmp 37), none⟩ (.held ⟨some 39, .fadr 3 (.tmp 5), none⟩ (.alt ⟨none, .store 1 (.tmp 39) (.tmp 38), none⟩ .done .stop)) .stop) .stop))) .stop)) .stop)) .stop))) .stop))))))))) (.seq (.ops [⟨some 41, .bin .eql (.tmp 10) (.const (.int .i64 3)), none⟩, ⟨some 40, .mov (.tmp 41), none⟩]) (.cond (.tmp 40) (.seq (.ops [⟨some 42, .fadr 3 (.tmp 5), none⟩, ⟨some 43, .load 1 false (.tmp 42), none⟩, ⟨some 44, .len (.tmp 43), none⟩, ⟨some 45, .bin .gtr (.tmp 44) (.const (.int .i64 0)), none⟩]) (.cond (.tmp 45) (.draw [⟨some 46, .fadr 3 (.tmp 5), none⟩, ⟨some 47, .load 1 false (.tmp 46), none⟩, ⟨some 48, .mov (.tmp 0), none⟩, ⟨some 49, .fadr 2 (.tmp 5), none⟩, ⟨some 50, .load 1 false (.tmp 49), none⟩, ⟨some 51, .bin .add (.tmp 50) (.const (.int .i64 2)), none⟩, ⟨some 52, .call 56 [(.tmp 48), (.tmp 51)], none⟩, ⟨some 53, .bin .sub (.tmp 52) (.const (.int .i64 1)), none⟩, ⟨some 54, .iadr 3 (.tmp 47) (.const (.int .i64 0)), none⟩, ⟨some 55, .fadr 2 (.tmp 54), none⟩, ⟨none, .store 1 (.tmp 55) (.tmp 53), none⟩] (.held ⟨some 46, .fadr 3 (.tmp 5), none⟩ (.held ⟨some 48, .mov (.tmp 0), none⟩ (.held ⟨some 49, .fadr 2 (.tmp 5), none⟩ (.held ⟨some 50, .load 1 false (.tmp 49), none⟩ (.held ⟨some 51, .bin .add (.tmp 50) (.const (.int .i64 2)), none⟩ (.alt ⟨some 47, .load 1 false (.tmp 46), none⟩ (.alt ⟨some 52, .call 56 [(.tmp 48), (.tmp 51)], none⟩ (.held ⟨some 53, .bin .sub (.tmp 52) (.const (.int .i64 1)), none⟩ (.held ⟨some 54, .iadr 3 (.tmp 47) (.const (.int .i64 0)), none⟩ (.held ⟨some 55, .fadr 2 (.tmp 54), none⟩ (.alt ⟨none, .store 1 (.tmp 55) (.tmp 53), none⟩ .done .stop)))) .stop) (.alt ⟨some 52, .call 56 [(.tmp 48), (.tmp 51)], none⟩ (.held ⟨some 47, .load 1 false (.tmp 46), none⟩ (.held ⟨some 53, .bin .sub (.tmp 52) (.const (.int .i64 1)), none⟩ (.held ⟨some 54, .iadr 3 (.tmp 47) (.const (.int .i64 0)), none⟩ (.held ⟨some 55, .fadr 2 (.tmp 54), none⟩ (.alt ⟨none, .store 1 (.tmp 55) (.tmp 53), none⟩ .done .stop))))) .stop)))))))) .skip)) .skip)))))))))) (.seq (.ops [⟨some 56, .load 4 true (.tmp 5), none⟩, ⟨none, .store 4 (.tmp 4) (.tmp 56), none⟩]) .ret))))
@[reducible] def rv55 : List RV := [.cell 4 4 true]
theorem low55 : lowC Try.prog tau Try.f55.ntmps (Try.f55.body.getD .skip) = some (erase ic55) := by kernel_rfl
theorem res55 : lowR Try.prog Try.f55.results.toList = some rv55 := by kernel_rfl
theorem bod55 : Try.f55.body = some (Try.f55.body.getD .skip) := by kernel_rfl
theorem cal55 : callable Try.prog 55 = true := by kernel_rfl

end Go.Proofs.YtgmcijagaielaaaE

/-! The code of a function, in the engine's words. -/
namespace Go.Proofs.YtgmcijagaielaaaE
open Go Go.RowKit
@[reducible] def ic60 : IC := (.seq (.ops [⟨some 4, .new [(.int .i64 0), (.int .i64 0), (.int .i64 0), (.slice none 0 0)], none⟩]) (.seq (.ops [⟨some 8, .mov (.tmp 0), none⟩, ⟨some 9, .call 56 [(.tmp 8), (.const (.int .i64 4))], none⟩, ⟨some 10, .bin .add (.const (.int .i64 1)) (.tmp 9), none⟩, ⟨some 11, .mov (.tmp 0), none⟩, ⟨some 12, .call 56 [(.tmp 11), (.const (.int .i64 4))], none⟩, ⟨some 13, .bin .add (.const (.int .i64 1)) (.tmp 12), none⟩, ⟨some 14, .mov (.tmp 0), none⟩, ⟨some 15, .call 56 [(.tmp 14), (.const (.int .i64 7))], none⟩, ⟨some 16, .bin .add (.const (.int .i64 1)) (.tmp 15), none⟩, ⟨some 17, .bld [(.int .i64 0), (.int .i64 0), (.int .i64 0), (.slice none 0 0)] [(0, 1, (.tmp 10)), (1, 1, (.tmp 13)), (2, 1, (.tmp 16))], none⟩, ⟨some 5, .new [(.int .i64 0), (.int .i64 0), (.int .i64 0), (.slice none 0 0)], none⟩, ⟨none, .store 4 (.tmp 5) (.tmp 17), none⟩]) (.seq (.seq (.ops [⟨some 18, .mov (.tmp 0), none⟩, ⟨some 19, .call 63 [(.tmp 18), (.const (.int .i64 2))], none⟩]) (.cond (.tmp 19) (.ops [⟨some 20, .fadr 1 (.tmp 5), none⟩, ⟨some 21, .load 1 false (.tmp 20), none⟩, ⟨some 22, .fadr 2 (.tmp 5), none⟩, ⟨none, .store 1 (.tmp 22) (.tmp 21), none⟩]) .skip)) (.seq (.ops [⟨some 23, .fadr 0 (.tmp 5), none⟩, ⟨some 24, .load 1 false (.tmp 23), none⟩, ⟨some 25, .fadr 1 (.tmp 5), none⟩, ⟨some 26, .load 1 false (.tmp 25), none⟩, ⟨some 27, .bin .mul (.tmp 24) (.tmp 26), none⟩, ⟨some 6, .mov (.tmp 27), none⟩]) (.seq (.seq (.ops [⟨some 28, .mov (.tmp 0), none⟩, ⟨some 29, .mov (.tmp 1), none⟩, ⟨some 30, .call 64 [(.tmp 29), (.const (.int .i64 14))], none⟩, ⟨some 31, .bin .mul (.const (.int .i64 2)) (.tmp 30), none⟩, ⟨some 32, .call 56 [(.tmp 28), (.tmp 31)], none⟩, ⟨some 7, .mov (.tmp 32), none⟩]) (.block 0 (.loop (.seq (.seq (.ops [⟨some 33, .mov (.tmp 7), none⟩, ⟨some 34, .bin .gtr (.tmp 33) (.const (.int .i64 0)), none⟩]) (.cond (.tmp 34) .skip (.exit 0))) (.seq (.block 1 (.seq (.seq (.ops [⟨some 37, .mov (.tmp 0), none⟩, ⟨some 38, .call 63 [(.tmp 37), (.const (.int .i64 5))], none⟩]) (.cond (.tmp 38) (.seq (.draw [⟨some 40, .load 4 true (.tmp 5), none⟩, ⟨some 41, .mov (.tmp 0), none⟩, ⟨some 42, .mov (.tmp 6), none⟩, ⟨some 43, .call 56 [(.tmp 41), (.tmp 42)], none⟩, ⟨some 44, .call 14 [(.tmp 40), (.tmp 43)], none⟩, ⟨some 39, .mov (.tmp 44), none⟩, ⟨some 45, .ext (.tmp 39) 0, none⟩, ⟨some 46, .ext (.tmp 39) 1, none⟩, ⟨none, .store 4 (.tmp 5) (.tmp 45), none⟩] (.held ⟨some 41, .mov (.tmp 0), none⟩ (.held ⟨some 42, .mov (.tmp 6), none⟩ (.alt ⟨some 40, .load 4 true (.tmp 5), none⟩ (.alt ⟨some 43, .call 56 [(.tmp 41), (.tmp 42)], none⟩ (.alt ⟨some 44, .call 14 [(.tmp 40), (.tmp 43)], none⟩ (.held ⟨some 39, .mov (.tmp 44), none⟩ (.held ⟨some 45, .ext (.tmp 39) 0, none⟩ (.held ⟨some 46, .ext (.tmp 39) 1, none⟩ (.alt ⟨none, .store 4 (.tmp 5) (.tmp 45), none⟩ .done .stop)))) .stop) .stop) (.alt ⟨some 43, .call 56 [(.tmp 41), (.tmp 42)], none⟩ (.held ⟨some 40, .load 4 true (.tmp 5), none⟩ (.alt ⟨some 44, .call 14 [(.tmp 40), (.tmp 43)], none⟩ (.held ⟨some 39, .mov (.tmp 44), none⟩ (.held ⟨some 45, .ext (.tmp 39) 0, none⟩ (.held ⟨some 46, .ext (.tmp 39) 1, none⟩ (.alt ⟨none, .store 4 (.tmp 5) (.tmp 45), none⟩ .done .stop)))) .stop)) .stop))))) (.exit 1)) .skip)) (.draw [⟨some 48, .load 4 true (.tmp 5), none⟩, ⟨some 49, .mov (.tmp 0), none⟩, ⟨some 50, .mov (.tmp 6), none⟩, ⟨some 51, .call 56 [(.tmp 49), (.tmp 50)], none⟩, ⟨some 52, .mov (.tmp 0), none⟩, ⟨some 53, .mov (.tmp 6), none⟩, ⟨some 54, .call 56 [(.tmp 52), (.tmp 53)], none⟩, ⟨some 55, .call 23 [(.tmp 48), (.tmp 51), (.tmp 54)], none⟩, ⟨some 47, .mov (.tmp 55), none⟩, ⟨some 56, .ext (.tmp 47) 0, none⟩, ⟨some 57, .ext (.tmp 47) 1, none⟩, ⟨some 58, .ext (.tmp 47) 2, none⟩, ⟨none, .store 4 (.tmp 5) (.tmp 56), none⟩] (.held ⟨some 49, .mov (.tmp 0), none⟩ (.held ⟨some 50, .mov (.tmp 6), none⟩ (.held ⟨some 52, .mov (.tmp 0), none⟩ (.held ⟨some 53, .mov (.tmp 6), none⟩ (.alt ⟨some 48, .load 4 true (.tmp 5), none⟩ (.alt ⟨some 51, .call 56 [(.tmp 49), (.tmp 50)], none⟩ (.alt ⟨some 54, .call 56 [(.tmp 52), (.tmp 53)], none⟩ (.alt ⟨some 55, .call 23 [(.tmp 48), (.tmp 51), (.tmp 54)], none⟩ (.held ⟨some 47, .mov (.tmp 55), none⟩ (.held ⟨some 56, .ext (.tmp 47) 0, none⟩ (.held ⟨some 57, .ext (.tmp 47) 1, none⟩ (.held ⟨some 58, .ext (.tmp 47) 2, none⟩ (.alt ⟨none, .store 4 (.tmp 5) (.tmp 56), none⟩ .done .stop))))) .stop) .stop) .stop) (.alt ⟨some 51, .call 56 [(.tmp 49), (.tmp 50)], none⟩ (.alt ⟨some 48, .load 4 true (.tmp 5), none⟩ (.alt ⟨some 54, .call 56 [(.tmp 52), (.tmp 53)], none⟩ (.alt ⟨some 55, .call 23 [(.tmp 48), (.tmp 51), (.tmp 54)], none⟩ (.held ⟨some 47, .mov (.tmp 55), none⟩ (.held ⟨some 56, .ext (.tmp 47) 0, none⟩ (.held ⟨some 57, .ext (.tmp 47) 1, none⟩ (.held ⟨some 58, .ext (.tmp 47) 2, none⟩ (.alt ⟨none, .store 4 (.tmp 5) (.tmp 56), none⟩ .done .stop))))) .stop) .stop) (.alt ⟨some 54, .call 56 [(.tmp 52), (.tmp 53)], none⟩ (.held ⟨some 48, .load 4 true (.tmp 5), none⟩ (.alt ⟨some 55, .call 23 [(.tmp 48), (.tmp 51), (.tmp 54)], none⟩ (.held ⟨some 47, .mov (.tmp 55), none⟩ (.held ⟨some 56, .ext (.tmp 47) 0, none⟩ (.held ⟨some 57, .ext (.tmp 47) 1, none⟩ (.held ⟨some 58, .ext (.tmp 47) 2, none⟩ (.alt ⟨none, .store 4 (.tmp 5) (.tmp 56), none⟩ .done .stop))))) .stop)) .stop)) .stop))))))))) (.ops [⟨some 35, .mov (.tmp 7), none⟩, ⟨some 36, .bin .sub (.tmp 35) (.const (.int .i64 1)), none⟩, ⟨some 7, .mov (.tmp 36), none⟩])))))) (.seq (.ops [⟨some 59, .load 4 true (.tmp 5), none⟩, ⟨none, .store 4 (.tmp 4) (.tmp 59), none⟩]) .ret))))))
@[reducible] def rv60 : List RV := [.cell 4 4 true]
theorem low60 : lowC Try.prog tau Try.f60.ntmps (Try.f60.body.getD .skip) = some (erase ic60) := by kernel_rfl
theorem res60 : lowR Try.prog Try.f60.results.toList = some rv60 := by kernel_rfl
theorem bod60 : Try.f60.body = some (Try.f60.body.getD .skip) := by kernel_rfl
theorem cal60 : callable Try.prog 60 = true := by kernel_rfl

end Go.Proofs.YtgmcijagaielaaaE

/-! Fabrics are drawn. -/
namespace Go.Proofs.YtgmcijagaielaaaE
open Go Go.RowKit
set_option linter.unusedSimpArgs false
set_option linter.unusedVariables false
set_option maxRecDepth 20000
set_option maxHeartbeats 4000000

def spOnce : Spec := ⟨fun _ => takeP, fun args objs K => match args, objs with
  | [.ptr 0 0, .v (.int .i64 n)], [.box [.rs .byte b, .v (.int .i64 i), .v (.int .i64 h)]] => (0 ≤ i ∧ i ≤ b.length ∧ b.length ≤ 1099511627776) ∧
      ∀ (c : Bool) (i' h' : Int), (0 ≤ i' ∧ i' ≤ b.length) → K (.v (.bool c)) [(0, .box [.rs .byte b, .v (.int .i64 i'), .v (.int .i64 h')])] 1
  | _, _ => False, true⟩
theorem spOnce_t {L : Hp} {a : List AVal} : Spec.take spOnce L a = takeP a := id rfl
theorem spOnce_k : Spec.keep spOnce = true := id rfl
theorem spOnce_f {n} {b} {i} {h} {K : AVal → Hp → Nat → Prop} : Spec.f spOnce ([.ptr 0 0, .v (.int .i64 n)]) ([.box [.rs .byte b, .v (.int .i64 i), .v (.int .i64 h)]]) K = ((0 ≤ i ∧ i ≤ b.length ∧ b.length ≤ 1099511627776) ∧
      ∀ (c : Bool) (i' h' : Int), (0 ≤ i' ∧ i' ≤ b.length) → K (.v (.bool c)) [(0, .box [.rs .byte b, .v (.int .i64 i'), .v (.int .i64 h')])] 1) := id rfl
theorem valid63 : Valid Try.prog 63 spOnce := by
  refine validI (Γ := lk [(56, spBelow)]) Try.func63 bod63 low63 res63 (good_of ⟨⟨cal56, valid56⟩, trivial⟩) ?_
  intro E args objs K h0 hE hG hP
  simp only [spOnce] at h0
  split at h0
  · refine ⟨by simp [Try.ntmps63], ?_⟩
    rename_i n b i h
    obtain ⟨⟨b1, b2, b3⟩, h0⟩ := h0
    simp (config := { maxSteps := 2000000 }) only [go_sem, hG, hP, Nat.reduceEqDiff, ↓reduceIte, reduceCtorEq, Nat.reduceAdd, Nat.reduceSub, Nat.reduceMul, Nat.reduceLT, Nat.reduceLeDiff, Int.reduceAdd, Int.reduceSub, Int.reduceMul, Int.reduceLT, Int.reduceLE, Int.reduceEq, Int.reduceNeg, Int.reduceNe, Int.reduceGE, Int.reduceGT, Nat.reduceBEq, Int.reduceToNat,  spBelow_f, spBelow_t, spBelow_k, takeP_eq]
    repeat (refine And.intro (by first | omega | (simp; done) | (simp; omega) | (unfold appRoom; omega)) ?_)
    refine ⟨_, _, _, ?_, h0 (decide (belV b i h n = 0)) (belI b i n) (belH h n) (belI_bd ⟨b1, b2⟩)⟩
    simp (config := { maxSteps := 2000000 }) only [go_sem, hG, hP, Nat.reduceEqDiff, ↓reduceIte, reduceCtorEq, Nat.reduceAdd, Nat.reduceSub, Nat.reduceMul, Nat.reduceLT, Nat.reduceLeDiff, Int.reduceAdd, Int.reduceSub, Int.reduceMul, Int.reduceLT, Int.reduceLE, Int.reduceEq, Int.reduceNeg, Int.reduceNe, Int.reduceGE, Int.reduceGT, Nat.reduceBEq, Int.reduceToNat]
    all_goals simp
  · exact h0.elim
def takePR : List AVal → List Nat
  | .ptr m _ :: .sub r _ _ _ :: _ => [m, r]
  | _ => []
theorem takePR_eq {m off k z lo n : Nat} {r : List AVal} : takePR (.ptr m off :: .sub k z lo n :: r) = [m, k] := id rfl
def spPickA : Spec := ⟨fun _ => takePR, fun args objs K => match args, objs with
  | [.ptr 0 0, .sub 1 1 0 n], [.box [.rs .byte b, .v (.int .i64 i), .v (.int .i64 h)], .row .int l] => ((0 ≤ i ∧ i ≤ b.length ∧ b.length ≤ 1099511627776) ∧ n = l.length ∧ 0 < l.length) ∧
      ∀ x i' h' : Int, (0 ≤ i' ∧ i' ≤ b.length) → K (.v (.int .i64 x)) [(0, .box [.rs .byte b, .v (.int .i64 i'), .v (.int .i64 h')]), (1, .row .int l)] 2
  | _, _ => False, true⟩
theorem spPickA_t {L : Hp} {a : List AVal} : Spec.take spPickA L a = takePR a := id rfl
theorem spPickA_k : Spec.keep spPickA = true := id rfl
theorem spPickA_f {n} {b} {i} {h} {l} {K : AVal → Hp → Nat → Prop} : Spec.f spPickA ([.ptr 0 0, .sub 1 1 0 n]) ([.box [.rs .byte b, .v (.int .i64 i), .v (.int .i64 h)], .row .int l]) K = (((0 ≤ i ∧ i ≤ b.length ∧ b.length ≤ 1099511627776) ∧ n = l.length ∧ 0 < l.length) ∧
      ∀ x i' h' : Int, (0 ≤ i' ∧ i' ≤ b.length) → K (.v (.int .i64 x)) [(0, .box [.rs .byte b, .v (.int .i64 i'), .v (.int .i64 h')]), (1, .row .int l)] 2) := id rfl
theorem valid61 : Valid Try.prog 61 spPickA := by
  refine validI (Γ := lk [(56, spBelow)]) Try.func61 bod61 low61 res61 (good_of ⟨⟨cal56, valid56⟩, trivial⟩) ?_
  intro E args objs K h0 hE hG hP
  simp only [spPickA] at h0
  split at h0
  · refine ⟨by simp [Try.ntmps61], ?_⟩
    rename_i n b i h l
    obtain ⟨⟨⟨b1, b2, b3⟩, rfl, b4⟩, h0⟩ := h0
    simp (config := { maxSteps := 2000000 }) only [go_sem, hG, hP, Nat.reduceEqDiff, ↓reduceIte, reduceCtorEq, Nat.reduceAdd, Nat.reduceSub, Nat.reduceMul, Nat.reduceLT, Nat.reduceLeDiff, Int.reduceAdd, Int.reduceSub, Int.reduceMul, Int.reduceLT, Int.reduceLE, Int.reduceEq, Int.reduceNeg, Int.reduceNe, Int.reduceGE, Int.reduceGT, Nat.reduceBEq, Int.reduceToNat,  spBelow_f, spBelow_t, spBelow_k, takeP_eq]
    have hbv := belV_bd (b := b) (i := i) (h := h) (n := (l.length : Int)) (by omega)
    repeat (refine And.intro (by first | omega | (simp; done) | (simp; omega) | (unfold appRoom; omega)) ?_)
    refine ⟨_, _, _, ?_, h0 (l.getD (belV b i h l.length).toNat 0) (belI b i l.length) (belH h l.length) (belI_bd ⟨b1, b2⟩)⟩
    simp (config := { maxSteps := 2000000 }) only [go_sem, hG, hP, Nat.reduceEqDiff, ↓reduceIte, reduceCtorEq, Nat.reduceAdd, Nat.reduceSub, Nat.reduceMul, Nat.reduceLT, Nat.reduceLeDiff, Int.reduceAdd, Int.reduceSub, Int.reduceMul, Int.reduceLT, Int.reduceLE, Int.reduceEq, Int.reduceNeg, Int.reduceNe, Int.reduceGE, Int.reduceGT, Nat.reduceBEq, Int.reduceToNat]
    all_goals simp
  · exact h0.elim
def spStr : Spec := ⟨fun _ _ => [], fun args objs K => match args, objs with
  | [.v (.int .i64 p), .v (.int .i64 m)], [] => K (.v (.int .i64 (strV p m))) [] 0
  | _, _ => False, false⟩
theorem spStr_t {L : Hp} {a : List AVal} : Spec.take spStr L a = [] := id rfl
theorem spStr_k : Spec.keep spStr = false := id rfl
theorem spStr_f {p} {m} {K : AVal → Hp → Nat → Prop} : Spec.f spStr ([.v (.int .i64 p), .v (.int .i64 m)]) ([]) K = (K (.v (.int .i64 (strV p m))) [] 0) := id rfl
theorem valid30 : Valid Try.prog 30 spStr := by
  refine validI (Γ := lk [(38, spIn)]) Try.func30 bod30 low30 res30 (good_of ⟨⟨cal38, valid38⟩, trivial⟩) ?_
  intro E args objs K h hE hG hP
  simp only [spStr] at h
  split at h
  · refine ⟨by simp [Try.ntmps30], ?_⟩
    rename_i p m
    unfold strV at h
    by_cases hp : 1 ≤ p ∧ p ≤ 4
    · have e1 := eq_true hp
      have w1 : wr .i64 (2 * p) = 2 * p := wrap_id (by omega) (by omega)
      have w2 : wr .i64 (2 * p - 1) = 2 * p - 1 := wrap_id (by omega) (by omega)
      rw [if_pos hp] at h
      simp (config := { maxSteps := 2000000 }) only [go_sem, hG, hP, Nat.reduceEqDiff, ↓reduceIte, reduceCtorEq, Nat.reduceAdd, Nat.reduceSub, Nat.reduceMul, Nat.reduceLT, Nat.reduceLeDiff, Int.reduceAdd, Int.reduceSub, Int.reduceMul, Int.reduceLT, Int.reduceLE, Int.reduceEq, Int.reduceNeg, Int.reduceNe, Int.reduceGE, Int.reduceGT, Nat.reduceBEq, Int.reduceToNat,  spIn_f, spIn_t, spIn_k, e1, w1, w2]
      repeat' (first | (refine And.intro ?_ ?_) | (with_reducible intro _))
      · rename_i c; rw [if_pos c] at h; refine ⟨_, _, _, ?_, h⟩; simp (config := { maxSteps := 2000000 }) only [go_sem, hG, hP, Nat.reduceEqDiff, ↓reduceIte, reduceCtorEq, Nat.reduceAdd, Nat.reduceSub, Nat.reduceMul, Nat.reduceLT, Nat.reduceLeDiff, Int.reduceAdd, Int.reduceSub, Int.reduceMul, Int.reduceLT, Int.reduceLE, Int.reduceEq, Int.reduceNeg, Int.reduceNe, Int.reduceGE, Int.reduceGT, Nat.reduceBEq, Int.reduceToNat]
      · rename_i c c2; rw [if_neg c, if_pos c2] at h; refine ⟨_, _, _, ?_, h⟩; simp (config := { maxSteps := 2000000 }) only [go_sem, hG, hP, Nat.reduceEqDiff, ↓reduceIte, reduceCtorEq, Nat.reduceAdd, Nat.reduceSub, Nat.reduceMul, Nat.reduceLT, Nat.reduceLeDiff, Int.reduceAdd, Int.reduceSub, Int.reduceMul, Int.reduceLT, Int.reduceLE, Int.reduceEq, Int.reduceNeg, Int.reduceNe, Int.reduceGE, Int.reduceGT, Nat.reduceBEq, Int.reduceToNat]
      · rename_i c c2; rw [if_neg c, if_neg c2] at h; refine ⟨_, _, _, ?_, h⟩; simp (config := { maxSteps := 2000000 }) only [go_sem, hG, hP, Nat.reduceEqDiff, ↓reduceIte, reduceCtorEq, Nat.reduceAdd, Nat.reduceSub, Nat.reduceMul, Nat.reduceLT, Nat.reduceLeDiff, Int.reduceAdd, Int.reduceSub, Int.reduceMul, Int.reduceLT, Int.reduceLE, Int.reduceEq, Int.reduceNeg, Int.reduceNe, Int.reduceGE, Int.reduceGT, Nat.reduceBEq, Int.reduceToNat]
    · have e1 := eq_false hp
      rw [if_neg hp] at h
      simp (config := { maxSteps := 2000000 }) only [go_sem, hG, hP, Nat.reduceEqDiff, ↓reduceIte, reduceCtorEq, Nat.reduceAdd, Nat.reduceSub, Nat.reduceMul, Nat.reduceLT, Nat.reduceLeDiff, Int.reduceAdd, Int.reduceSub, Int.reduceMul, Int.reduceLT, Int.reduceLE, Int.reduceEq, Int.reduceNeg, Int.reduceNe, Int.reduceGE, Int.reduceGT, Nat.reduceBEq, Int.reduceToNat,  spIn_f, spIn_t, spIn_k, e1]
      refine ⟨_, _, _, ?_, h⟩; simp (config := { maxSteps := 2000000 }) only [go_sem, hG, hP, Nat.reduceEqDiff, ↓reduceIte, reduceCtorEq, Nat.reduceAdd, Nat.reduceSub, Nat.reduceMul, Nat.reduceLT, Nat.reduceLeDiff, Int.reduceAdd, Int.reduceSub, Int.reduceMul, Int.reduceLT, Int.reduceLE, Int.reduceEq, Int.reduceNeg, Int.reduceNe, Int.reduceGE, Int.reduceGT, Nat.reduceBEq, Int.reduceToNat]
  · exact h.elim
theorem valid31 : Valid Try.prog 31 spStr := by
  refine validI (Γ := lk [(35, spIn)]) Try.func31 bod31 low31 res31 (good_of ⟨⟨cal35, valid35⟩, trivial⟩) ?_
  intro E args objs K h hE hG hP
  simp only [spStr] at h
  split at h
  · refine ⟨by simp [Try.ntmps31], ?_⟩
    rename_i p m
    unfold strV at h
    by_cases hp : 1 ≤ p ∧ p ≤ 4
    · have e1 := eq_true hp
      have w1 : wr .i64 (2 * p) = 2 * p := wrap_id (by omega) (by omega)
      have w2 : wr .i64 (2 * p - 1) = 2 * p - 1 := wrap_id (by omega) (by omega)
      rw [if_pos hp] at h
      simp (config := { maxSteps := 2000000 }) only [go_sem, hG, hP, Nat.reduceEqDiff, ↓reduceIte, reduceCtorEq, Nat.reduceAdd, Nat.reduceSub, Nat.reduceMul, Nat.reduceLT, Nat.reduceLeDiff, Int.reduceAdd, Int.reduceSub, Int.reduceMul, Int.reduceLT, Int.reduceLE, Int.reduceEq, Int.reduceNeg, Int.reduceNe, Int.reduceGE, Int.reduceGT, Nat.reduceBEq, Int.reduceToNat,  spIn_f, spIn_t, spIn_k, e1, w1, w2]
      repeat' (first | (refine And.intro ?_ ?_) | (with_reducible intro _))
      · rename_i c; rw [if_pos c] at h; refine ⟨_, _, _, ?_, h⟩; simp (config := { maxSteps := 2000000 }) only [go_sem, hG, hP, Nat.reduceEqDiff, ↓reduceIte, reduceCtorEq, Nat.reduceAdd, Nat.reduceSub, Nat.reduceMul, Nat.reduceLT, Nat.reduceLeDiff, Int.reduceAdd, Int.reduceSub, Int.reduceMul, Int.reduceLT, Int.reduceLE, Int.reduceEq, Int.reduceNeg, Int.reduceNe, Int.reduceGE, Int.reduceGT, Nat.reduceBEq, Int.reduceToNat]
      · rename_i c c2; rw [if_neg c, if_pos c2] at h; refine ⟨_, _, _, ?_, h⟩; simp (config := { maxSteps := 2000000 }) only [go_sem, hG, hP, Nat.reduceEqDiff, ↓reduceIte, reduceCtorEq, Nat.reduceAdd, Nat.reduceSub, Nat.reduceMul, Nat.reduceLT, Nat.reduceLeDiff, Int.reduceAdd, Int.reduceSub, Int.reduceMul, Int.reduceLT, Int.reduceLE, Int.reduceEq, Int.reduceNeg, Int.reduceNe, Int.reduceGE, Int.reduceGT, Nat.reduceBEq, Int.reduceToNat]
      · rename_i c c2; rw [if_neg c, if_neg c2] at h; refine ⟨_, _, _, ?_, h⟩; simp (config := { maxSteps := 2000000 }) only [go_sem, hG, hP, Nat.reduceEqDiff, ↓reduceIte, reduceCtorEq, Nat.reduceAdd, Nat.reduceSub, Nat.reduceMul, Nat.reduceLT, Nat.reduceLeDiff, Int.reduceAdd, Int.reduceSub, Int.reduceMul, Int.reduceLT, Int.reduceLE, Int.reduceEq, Int.reduceNeg, Int.reduceNe, Int.reduceGE, Int.reduceGT, Nat.reduceBEq, Int.reduceToNat]
    · have e1 := eq_false hp
      rw [if_neg hp] at h
      simp (config := { maxSteps := 2000000 }) only [go_sem, hG, hP, Nat.reduceEqDiff, ↓reduceIte, reduceCtorEq, Nat.reduceAdd, Nat.reduceSub, Nat.reduceMul, Nat.reduceLT, Nat.reduceLeDiff, Int.reduceAdd, Int.reduceSub, Int.reduceMul, Int.reduceLT, Int.reduceLE, Int.reduceEq, Int.reduceNeg, Int.reduceNe, Int.reduceGE, Int.reduceGT, Nat.reduceBEq, Int.reduceToNat,  spIn_f, spIn_t, spIn_k, e1]
      refine ⟨_, _, _, ?_, h⟩; simp (config := { maxSteps := 2000000 }) only [go_sem, hG, hP, Nat.reduceEqDiff, ↓reduceIte, reduceCtorEq, Nat.reduceAdd, Nat.reduceSub, Nat.reduceMul, Nat.reduceLT, Nat.reduceLeDiff, Int.reduceAdd, Int.reduceSub, Int.reduceMul, Int.reduceLT, Int.reduceLE, Int.reduceEq, Int.reduceNeg, Int.reduceNe, Int.reduceGE, Int.reduceGT, Nat.reduceBEq, Int.reduceToNat]
  · exact h.elim
def spDraw : Spec := ⟨fun _ => takeP, fun args objs K => match args, objs with
  | [.ptr 0 0, .rs .byte code], [.box [.rs .byte b, .v (.int .i64 i), .v (.int .i64 h)]] => ((0 ≤ i ∧ i ≤ b.length ∧ b.length ≤ 1099511627776) ∧ code.length ≤ 1099511627776) ∧
      ∀ (s p m : Int) (q : List Pth) (i' h' : Int), (0 ≤ i' ∧ i' ≤ b.length) ∧ q.length ≤ 1000 → K (.agg [.v (.int .i64 s), .v (.int .i64 p), .v (.int .i64 m), .sub 1 3 0 q.length]) [(0, .box [.rs .byte b, .v (.int .i64 i'), .v (.int .i64 h')]), (1, .row .path q)] 2
  | _, _ => False, true⟩
theorem spDraw_t {L : Hp} {a : List AVal} : Spec.take spDraw L a = takeP a := id rfl
theorem spDraw_k : Spec.keep spDraw = true := id rfl
theorem spDraw_f {code} {b} {i} {h} {K : AVal → Hp → Nat → Prop} : Spec.f spDraw ([.ptr 0 0, .rs .byte code]) ([.box [.rs .byte b, .v (.int .i64 i), .v (.int .i64 h)]]) K = (((0 ≤ i ∧ i ≤ b.length ∧ b.length ≤ 1099511627776) ∧ code.length ≤ 1099511627776) ∧
      ∀ (s p m : Int) (q : List Pth) (i' h' : Int), (0 ≤ i' ∧ i' ≤ b.length) ∧ q.length ≤ 1000 → K (.agg [.v (.int .i64 s), .v (.int .i64 p), .v (.int .i64 m), .sub 1 3 0 q.length]) [(0, .box [.rs .byte b, .v (.int .i64 i'), .v (.int .i64 h')]), (1, .row .path q)] 2) := id rfl
theorem sizeV_bd (n : Nat) : 2 ≤ sizeV n 14 ∧ sizeV n 14 ≤ 14 := by
  unfold sizeV
  have : 0 ≤ (n : Int).tdiv 20 := Int.tdiv_nonneg (by omega) (by omega)
  split <;> omega
theorem valid60 : Valid Try.prog 60 spDraw := by
  refine validI (Γ := lk [(56, spBelow), (63, spOnce), (64, spSize), (14, spRel), (23, spConn)]) Try.func60 bod60 low60 res60 (good_of ⟨⟨cal56, valid56⟩, ⟨cal63, valid63⟩, ⟨cal64, valid64⟩, ⟨cal14, valid14⟩, ⟨cal23, valid23⟩, trivial⟩) ?_
  intro E args objs K h0 hE hG hP
  simp only [spDraw] at h0
  split at h0
  · refine ⟨by simp [Try.ntmps60], ?_⟩
    rename_i code b i h
    obtain ⟨⟨⟨b1, b2, b3⟩, b4⟩, h0⟩ := h0
    have hsz := sizeV_bd code.length
    have w2 : wr .i64 (2 * sizeV code.length 14) = 2 * sizeV code.length 14 := wrap_id (by omega) (by omega)
    have p1 := belI_bd (b := b) (i := i) (n := 4) ⟨b1, b2⟩
    have p2 := belI_bd (n := 4) p1
    have p3 := belI_bd (n := 7) p2
    simp (config := { maxSteps := 2000000 }) only [go_sem, hG, hP, Nat.reduceEqDiff, ↓reduceIte, reduceCtorEq, Nat.reduceAdd, Nat.reduceSub, Nat.reduceMul, Nat.reduceLT, Nat.reduceLeDiff, Int.reduceAdd, Int.reduceSub, Int.reduceMul, Int.reduceLT, Int.reduceLE, Int.reduceEq, Int.reduceNeg, Int.reduceNe, Int.reduceGE, Int.reduceGT, Nat.reduceBEq, Int.reduceToNat,  spBelow_f, spBelow_t, spBelow_k, spOnce_f, spOnce_t, spOnce_k, spSize_f, spSize_t, spSize_k, takeP_eq, w2]
    repeat (refine And.intro (by first | omega | (simp; done) | (simp; omega) | (unfold appRoom; omega)) ?_)
    generalize wr .i64 (1 + belV b i h 4) = s
    generalize wr .i64 (1 + belV b (belI b i 4) (belH h 4) 4) = p
    generalize wr .i64 (1 + belV b (belI b (belI b i 4) 4) (belH (belH h 4) 4) 7) = m0
    intro c i4 h4
    rintro ⟨s1, s2⟩
    have hb4 := belI_bd (n := 2 * sizeV code.length 14) ⟨s1, s2⟩
    have hv4 := belV_bd (b := b) (i := i4) (h := h4) (n := 2 * sizeV code.length 14) (by omega)
    refine ⟨fun _ => ?_, fun _ => ?_⟩
    · refine ⟨b4, ⟨s1, s2, b3⟩, ?_⟩
      refine loopI hE (fun z : Int × List Pth × Int × Int => ⟨[(0, .ptr 0 0), (1, .rs .byte code), (4, .ptr 1 0), (5, .ptr 2 0), (6, .v (.int .i64 (wr .i64 (s * p)))), (7, .v (.int .i64 z.1))], [(0, .box [.rs .byte b, .v (.int .i64 z.2.2.1), .v (.int .i64 z.2.2.2)]), (1, .box [.v (.int .i64 0), .v (.int .i64 0), .v (.int .i64 0), .v (.slice none 0 0)]), (2, .box [.v (.int .i64 s), .v (.int .i64 p), .v (.int .i64 p), .sub 3 3 0 z.2.1.length]), (3, .row .path z.2.1)], 4, Try.f60.ntmps⟩) (fun z => (0 ≤ z.1 ∧ z.1 ≤ 28) ∧ (z.2.1.length : Int) + z.1 ≤ 28 ∧ (0 ≤ z.2.2.1 ∧ z.2.2.1 ≤ b.length)) (fun z => z.1.toNat) ⟨(belV b i4 h4 (2 * sizeV code.length 14), [], belI b i4 (2 * sizeV code.length 14), belH h4 (2 * sizeV code.length 14)), ⟨by dsimp only; omega, by simp; omega, hb4⟩, SubS.weak ?_⟩ ?_
      · simp (config := { maxSteps := 2000000 }) only [go_sem, hG, hP, Nat.reduceEqDiff, ↓reduceIte, reduceCtorEq, Nat.reduceAdd, Nat.reduceSub, Nat.reduceMul, Nat.reduceLT, Nat.reduceLeDiff, Int.reduceAdd, Int.reduceSub, Int.reduceMul, Int.reduceLT, Int.reduceLE, Int.reduceEq, Int.reduceNeg, Int.reduceNe, Int.reduceGE, Int.reduceGT, Nat.reduceBEq, Int.reduceToNat]
        repeat' (first | with_reducible rfl | (refine And.intro ?_ ?_) | (refine congrArg (Value.int _) ?_; omega) | omega)
      · rintro ⟨k, q, i, h⟩ ⟨⟨k0, k1⟩, k2, k3, k4⟩
        dsimp only at k0 k1 k2 k3 k4 ⊢
        by_cases hk : k > 0
        · have e0 := eq_true hk
          generalize wr .i64 (s * p) = N
          simp (config := { maxSteps := 2000000 }) only [go_sem, hG, hP, Nat.reduceEqDiff, ↓reduceIte, reduceCtorEq, Nat.reduceAdd, Nat.reduceSub, Nat.reduceMul, Nat.reduceLT, Nat.reduceLeDiff, Int.reduceAdd, Int.reduceSub, Int.reduceMul, Int.reduceLT, Int.reduceLE, Int.reduceEq, Int.reduceNeg, Int.reduceNe, Int.reduceGE, Int.reduceGT, Nat.reduceBEq, Int.reduceToNat,  spBelow_f, spBelow_t, spBelow_k, spOnce_f, spOnce_t, spOnce_k, spRel_f, spRel_t, spRel_k, spConn_f, spConn_t, spConn_k, takeP_eq, e0]
          repeat (refine And.intro (by first | omega | (simp; done) | (simp; omega) | (unfold appRoom; omega)) ?_)
          rintro c2 j1 jh ⟨u1, u2⟩
          have g1 := belI_bd (b := b) (i := j1) (n := N) ⟨u1, u2⟩
          have g2 := belI_bd (n := N) g1
          have hl1 := rel_len ⟨s, p, p, q⟩ (belV b j1 jh N)
          have hl2 := (@conn_len ⟨s, p, p, q⟩ (belV b j1 jh N) (belV b (belI b j1 N) (belH jh N) N)).1
          dsimp only at hl1 hl2
          (try simp (disch := omega) only [wrap_id])
          refine ⟨fun _ => ?_, fun _ => ?_⟩
          · repeat' (first | (refine And.intro ?_ ?_) | (with_reducible intro _))
            all_goals first
              | omega
              | (refine ⟨(k - 1, (rel ⟨s, p, p, q⟩ (belV b j1 jh N)).1, belI b j1 N, belH jh N), ⟨⟨⟨by omega, by omega⟩, by dsimp only; omega, g1⟩, by dsimp only; omega⟩, SubS.weak ?_⟩; simp (config := { maxSteps := 2000000 }) only [go_sem, hG, hP, Nat.reduceEqDiff, ↓reduceIte, reduceCtorEq, Nat.reduceAdd, Nat.reduceSub, Nat.reduceMul, Nat.reduceLT, Nat.reduceLeDiff, Int.reduceAdd, Int.reduceSub, Int.reduceMul, Int.reduceLT, Int.reduceLE, Int.reduceEq, Int.reduceNeg, Int.reduceNe, Int.reduceGE, Int.reduceGT, Nat.reduceBEq, Int.reduceToNat]; repeat' (first | with_reducible rfl | (refine And.intro ?_ ?_) | (refine congrArg (Value.int _) ?_; omega) | omega); done)
              | (simp (config := { maxSteps := 2000000 }) only [go_sem, hG, hP, Nat.reduceEqDiff, ↓reduceIte, reduceCtorEq, Nat.reduceAdd, Nat.reduceSub, Nat.reduceMul, Nat.reduceLT, Nat.reduceLeDiff, Int.reduceAdd, Int.reduceSub, Int.reduceMul, Int.reduceLT, Int.reduceLE, Int.reduceEq, Int.reduceNeg, Int.reduceNe, Int.reduceGE, Int.reduceGT, Nat.reduceBEq, Int.reduceToNat]; repeat' (first | with_reducible rfl | (refine And.intro ?_ ?_) | (refine congrArg (Value.int _) ?_; omega) | omega); done)
              | skip
          · repeat' (first | (refine And.intro ?_ ?_) | (with_reducible intro _))
            all_goals first
              | omega
              | (refine ⟨(k - 1, (conn ⟨s, p, p, q⟩ (belV b j1 jh N) (belV b (belI b j1 N) (belH jh N) N)).1, belI b (belI b j1 N) N, belH (belH jh N) N), ⟨⟨⟨by omega, by omega⟩, by dsimp only; omega, g2⟩, by dsimp only; omega⟩, SubS.weak ?_⟩; simp (config := { maxSteps := 2000000 }) only [go_sem, hG, hP, Nat.reduceEqDiff, ↓reduceIte, reduceCtorEq, Nat.reduceAdd, Nat.reduceSub, Nat.reduceMul, Nat.reduceLT, Nat.reduceLeDiff, Int.reduceAdd, Int.reduceSub, Int.reduceMul, Int.reduceLT, Int.reduceLE, Int.reduceEq, Int.reduceNeg, Int.reduceNe, Int.reduceGE, Int.reduceGT, Nat.reduceBEq, Int.reduceToNat]; repeat' (first | with_reducible rfl | (refine And.intro ?_ ?_) | (refine congrArg (Value.int _) ?_; omega) | omega); done)
              | (simp (config := { maxSteps := 2000000 }) only [go_sem, hG, hP, Nat.reduceEqDiff, ↓reduceIte, reduceCtorEq, Nat.reduceAdd, Nat.reduceSub, Nat.reduceMul, Nat.reduceLT, Nat.reduceLeDiff, Int.reduceAdd, Int.reduceSub, Int.reduceMul, Int.reduceLT, Int.reduceLE, Int.reduceEq, Int.reduceNeg, Int.reduceNe, Int.reduceGE, Int.reduceGT, Nat.reduceBEq, Int.reduceToNat]; repeat' (first | with_reducible rfl | (refine And.intro ?_ ?_) | (refine congrArg (Value.int _) ?_; omega) | omega); done)
              | skip
        · have e0 := eq_false hk
          simp (config := { maxSteps := 2000000 }) only [go_sem, hG, hP, Nat.reduceEqDiff, ↓reduceIte, reduceCtorEq, Nat.reduceAdd, Nat.reduceSub, Nat.reduceMul, Nat.reduceLT, Nat.reduceLeDiff, Int.reduceAdd, Int.reduceSub, Int.reduceMul, Int.reduceLT, Int.reduceLE, Int.reduceEq, Int.reduceNeg, Int.reduceNe, Int.reduceGE, Int.reduceGT, Nat.reduceBEq, Int.reduceToNat,  e0]
          refine ⟨_, _, _, ?_, h0 s p p q i h ⟨⟨k3, k4⟩, by omega⟩⟩
          simp (config := { maxSteps := 2000000 }) only [go_sem, hG, hP, Nat.reduceEqDiff, ↓reduceIte, reduceCtorEq, Nat.reduceAdd, Nat.reduceSub, Nat.reduceMul, Nat.reduceLT, Nat.reduceLeDiff, Int.reduceAdd, Int.reduceSub, Int.reduceMul, Int.reduceLT, Int.reduceLE, Int.reduceEq, Int.reduceNeg, Int.reduceNe, Int.reduceGE, Int.reduceGT, Nat.reduceBEq, Int.reduceToNat]
          repeat' (first | with_reducible rfl | (refine And.intro ?_ ?_) | (refine congrArg (Value.int _) ?_; omega) | omega)
    · refine ⟨b4, ⟨s1, s2, b3⟩, ?_⟩
      refine loopI hE (fun z : Int × List Pth × Int × Int => ⟨[(0, .ptr 0 0), (1, .rs .byte code), (4, .ptr 1 0), (5, .ptr 2 0), (6, .v (.int .i64 (wr .i64 (s * p)))), (7, .v (.int .i64 z.1))], [(0, .box [.rs .byte b, .v (.int .i64 z.2.2.1), .v (.int .i64 z.2.2.2)]), (1, .box [.v (.int .i64 0), .v (.int .i64 0), .v (.int .i64 0), .v (.slice none 0 0)]), (2, .box [.v (.int .i64 s), .v (.int .i64 p), .v (.int .i64 m0), .sub 3 3 0 z.2.1.length]), (3, .row .path z.2.1)], 4, Try.f60.ntmps⟩) (fun z => (0 ≤ z.1 ∧ z.1 ≤ 28) ∧ (z.2.1.length : Int) + z.1 ≤ 28 ∧ (0 ≤ z.2.2.1 ∧ z.2.2.1 ≤ b.length)) (fun z => z.1.toNat) ⟨(belV b i4 h4 (2 * sizeV code.length 14), [], belI b i4 (2 * sizeV code.length 14), belH h4 (2 * sizeV code.length 14)), ⟨by dsimp only; omega, by simp; omega, hb4⟩, SubS.weak ?_⟩ ?_
      · simp (config := { maxSteps := 2000000 }) only [go_sem, hG, hP, Nat.reduceEqDiff, ↓reduceIte, reduceCtorEq, Nat.reduceAdd, Nat.reduceSub, Nat.reduceMul, Nat.reduceLT, Nat.reduceLeDiff, Int.reduceAdd, Int.reduceSub, Int.reduceMul, Int.reduceLT, Int.reduceLE, Int.reduceEq, Int.reduceNeg, Int.reduceNe, Int.reduceGE, Int.reduceGT, Nat.reduceBEq, Int.reduceToNat]
        repeat' (first | with_reducible rfl | (refine And.intro ?_ ?_) | (refine congrArg (Value.int _) ?_; omega) | omega)
      · rintro ⟨k, q, i, h⟩ ⟨⟨k0, k1⟩, k2, k3, k4⟩
        dsimp only at k0 k1 k2 k3 k4 ⊢
        by_cases hk : k > 0
        · have e0 := eq_true hk
          generalize wr .i64 (s * p) = N
          simp (config := { maxSteps := 2000000 }) only [go_sem, hG, hP, Nat.reduceEqDiff, ↓reduceIte, reduceCtorEq, Nat.reduceAdd, Nat.reduceSub, Nat.reduceMul, Nat.reduceLT, Nat.reduceLeDiff, Int.reduceAdd, Int.reduceSub, Int.reduceMul, Int.reduceLT, Int.reduceLE, Int.reduceEq, Int.reduceNeg, Int.reduceNe, Int.reduceGE, Int.reduceGT, Nat.reduceBEq, Int.reduceToNat,  spBelow_f, spBelow_t, spBelow_k, spOnce_f, spOnce_t, spOnce_k, spRel_f, spRel_t, spRel_k, spConn_f, spConn_t, spConn_k, takeP_eq, e0]
          repeat (refine And.intro (by first | omega | (simp; done) | (simp; omega) | (unfold appRoom; omega)) ?_)
          rintro c2 j1 jh ⟨u1, u2⟩
          have g1 := belI_bd (b := b) (i := j1) (n := N) ⟨u1, u2⟩
          have g2 := belI_bd (n := N) g1
          have hl1 := rel_len ⟨s, p, m0, q⟩ (belV b j1 jh N)
          have hl2 := (@conn_len ⟨s, p, m0, q⟩ (belV b j1 jh N) (belV b (belI b j1 N) (belH jh N) N)).1
          dsimp only at hl1 hl2
          (try simp (disch := omega) only [wrap_id])
          refine ⟨fun _ => ?_, fun _ => ?_⟩
          · repeat' (first | (refine And.intro ?_ ?_) | (with_reducible intro _))
            all_goals first
              | omega
              | (refine ⟨(k - 1, (rel ⟨s, p, m0, q⟩ (belV b j1 jh N)).1, belI b j1 N, belH jh N), ⟨⟨⟨by omega, by omega⟩, by dsimp only; omega, g1⟩, by dsimp only; omega⟩, SubS.weak ?_⟩; simp (config := { maxSteps := 2000000 }) only [go_sem, hG, hP, Nat.reduceEqDiff, ↓reduceIte, reduceCtorEq, Nat.reduceAdd, Nat.reduceSub, Nat.reduceMul, Nat.reduceLT, Nat.reduceLeDiff, Int.reduceAdd, Int.reduceSub, Int.reduceMul, Int.reduceLT, Int.reduceLE, Int.reduceEq, Int.reduceNeg, Int.reduceNe, Int.reduceGE, Int.reduceGT, Nat.reduceBEq, Int.reduceToNat]; repeat' (first | with_reducible rfl | (refine And.intro ?_ ?_) | (refine congrArg (Value.int _) ?_; omega) | omega); done)
              | (simp (config := { maxSteps := 2000000 }) only [go_sem, hG, hP, Nat.reduceEqDiff, ↓reduceIte, reduceCtorEq, Nat.reduceAdd, Nat.reduceSub, Nat.reduceMul, Nat.reduceLT, Nat.reduceLeDiff, Int.reduceAdd, Int.reduceSub, Int.reduceMul, Int.reduceLT, Int.reduceLE, Int.reduceEq, Int.reduceNeg, Int.reduceNe, Int.reduceGE, Int.reduceGT, Nat.reduceBEq, Int.reduceToNat]; repeat' (first | with_reducible rfl | (refine And.intro ?_ ?_) | (refine congrArg (Value.int _) ?_; omega) | omega); done)
              | skip
          · repeat' (first | (refine And.intro ?_ ?_) | (with_reducible intro _))
            all_goals first
              | omega
              | (refine ⟨(k - 1, (conn ⟨s, p, m0, q⟩ (belV b j1 jh N) (belV b (belI b j1 N) (belH jh N) N)).1, belI b (belI b j1 N) N, belH (belH jh N) N), ⟨⟨⟨by omega, by omega⟩, by dsimp only; omega, g2⟩, by dsimp only; omega⟩, SubS.weak ?_⟩; simp (config := { maxSteps := 2000000 }) only [go_sem, hG, hP, Nat.reduceEqDiff, ↓reduceIte, reduceCtorEq, Nat.reduceAdd, Nat.reduceSub, Nat.reduceMul, Nat.reduceLT, Nat.reduceLeDiff, Int.reduceAdd, Int.reduceSub, Int.reduceMul, Int.reduceLT, Int.reduceLE, Int.reduceEq, Int.reduceNeg, Int.reduceNe, Int.reduceGE, Int.reduceGT, Nat.reduceBEq, Int.reduceToNat]; repeat' (first | with_reducible rfl | (refine And.intro ?_ ?_) | (refine congrArg (Value.int _) ?_; omega) | omega); done)
              | (simp (config := { maxSteps := 2000000 }) only [go_sem, hG, hP, Nat.reduceEqDiff, ↓reduceIte, reduceCtorEq, Nat.reduceAdd, Nat.reduceSub, Nat.reduceMul, Nat.reduceLT, Nat.reduceLeDiff, Int.reduceAdd, Int.reduceSub, Int.reduceMul, Int.reduceLT, Int.reduceLE, Int.reduceEq, Int.reduceNeg, Int.reduceNe, Int.reduceGE, Int.reduceGT, Nat.reduceBEq, Int.reduceToNat]; repeat' (first | with_reducible rfl | (refine And.intro ?_ ?_) | (refine congrArg (Value.int _) ?_; omega) | omega); done)
              | skip
        · have e0 := eq_false hk
          simp (config := { maxSteps := 2000000 }) only [go_sem, hG, hP, Nat.reduceEqDiff, ↓reduceIte, reduceCtorEq, Nat.reduceAdd, Nat.reduceSub, Nat.reduceMul, Nat.reduceLT, Nat.reduceLeDiff, Int.reduceAdd, Int.reduceSub, Int.reduceMul, Int.reduceLT, Int.reduceLE, Int.reduceEq, Int.reduceNeg, Int.reduceNe, Int.reduceGE, Int.reduceGT, Nat.reduceBEq, Int.reduceToNat,  e0]
          refine ⟨_, _, _, ?_, h0 s p m0 q i h ⟨⟨k3, k4⟩, by omega⟩⟩
          simp (config := { maxSteps := 2000000 }) only [go_sem, hG, hP, Nat.reduceEqDiff, ↓reduceIte, reduceCtorEq, Nat.reduceAdd, Nat.reduceSub, Nat.reduceMul, Nat.reduceLT, Nat.reduceLeDiff, Int.reduceAdd, Int.reduceSub, Int.reduceMul, Int.reduceLT, Int.reduceLE, Int.reduceEq, Int.reduceNeg, Int.reduceNe, Int.reduceGE, Int.reduceGT, Nat.reduceBEq, Int.reduceToNat]
          repeat' (first | with_reducible rfl | (refine And.intro ?_ ?_) | (refine congrArg (Value.int _) ?_; omega) | omega)
  · exact h0.elim
end Go.Proofs.YtgmcijagaielaaaE

/-! Fabrics are drawn, for each law. -/
namespace Go.Proofs.YtgmcijagaielaaaE
open Go Go.RowKit
set_option linter.unusedSimpArgs false
set_option linter.unusedVariables false
set_option maxRecDepth 20000
set_option maxHeartbeats 4000000

theorem rep_4 {α : Type} {a : α} : List.replicate 4 a = [a, a, a, a] := id rfl
def spDrawAny : Spec := ⟨fun _ => takeP, fun args objs K => match args, objs with
  | [.ptr 0 0, .rs .byte code], [.box [.rs .byte b, .v (.int .i64 i), .v (.int .i64 h)]] => ((0 ≤ i ∧ i ≤ b.length ∧ b.length ≤ 1099511627776) ∧ code.length ≤ 1099511627776) ∧
      ∀ (s p m : Int) (q : List Pth) (i' h' : Int), (0 ≤ i' ∧ i' ≤ b.length) ∧ q.length ≤ 1001 → K (.agg [.v (.int .i64 s), .v (.int .i64 p), .v (.int .i64 m), .sub 1 3 0 q.length]) [(0, .box [.rs .byte b, .v (.int .i64 i'), .v (.int .i64 h')]), (1, .row .path q)] 2
  | _, _ => False, true⟩
theorem spDrawAny_t {L : Hp} {a : List AVal} : Spec.take spDrawAny L a = takeP a := id rfl
theorem spDrawAny_k : Spec.keep spDrawAny = true := id rfl
theorem spDrawAny_f {code} {b} {i} {h} {K : AVal → Hp → Nat → Prop} : Spec.f spDrawAny ([.ptr 0 0, .rs .byte code]) ([.box [.rs .byte b, .v (.int .i64 i), .v (.int .i64 h)]]) K = (((0 ≤ i ∧ i ≤ b.length ∧ b.length ≤ 1099511627776) ∧ code.length ≤ 1099511627776) ∧
      ∀ (s p m : Int) (q : List Pth) (i' h' : Int), (0 ≤ i' ∧ i' ≤ b.length) ∧ q.length ≤ 1001 → K (.agg [.v (.int .i64 s), .v (.int .i64 p), .v (.int .i64 m), .sub 1 3 0 q.length]) [(0, .box [.rs .byte b, .v (.int .i64 i'), .v (.int .i64 h')]), (1, .row .path q)] 2) := id rfl
theorem valid55 : Valid Try.prog 55 spDrawAny := by
  refine validI (Γ := lk [(56, spBelow), (60, spDraw), (61, spPickA)]) Try.func55 bod55 low55 res55 (good_of ⟨⟨cal56, valid56⟩, ⟨cal60, valid60⟩, ⟨cal61, valid61⟩, trivial⟩) ?_
  intro E args objs K h0 hE hG hP
  simp only [spDrawAny] at h0
  split at h0
  · refine ⟨by simp [Try.ntmps55], ?_⟩
    rename_i code b i h
    obtain ⟨⟨⟨b1, b2, b3⟩, b4⟩, h0⟩ := h0
    simp (config := { maxSteps := 2000000 }) only [go_sem, hG, hP, Nat.reduceEqDiff, ↓reduceIte, reduceCtorEq, Nat.reduceAdd, Nat.reduceSub, Nat.reduceMul, Nat.reduceLT, Nat.reduceLeDiff, Int.reduceAdd, Int.reduceSub, Int.reduceMul, Int.reduceLT, Int.reduceLE, Int.reduceEq, Int.reduceNeg, Int.reduceNe, Int.reduceGE, Int.reduceGT, Nat.reduceBEq, Int.reduceToNat,  spBelow_f, spBelow_t, spBelow_k, spDraw_f, spDraw_t, spDraw_k, spPickA_f, spPickA_t, spPickA_k, takeP_eq, takePR_eq, rep_4]
    repeat (refine And.intro (by first | omega | (simp; done) | (simp; omega) | (unfold appRoom; omega)) ?_)
    rintro s p m q i1 h1 ⟨⟨p1, p2⟩, p3⟩
    have g1 := belI_bd (b := b) (i := i1) (n := 25) ⟨p1, p2⟩
    have g2 := belI_bd (n := 9) g1
    have g3 := belI_bd (n := 9) g2
    have g4 := belI_bd (n := wr .i64 (m + 1)) g3
    have g5 := belI_bd (n := wr .i64 (m + 2)) g1
    refine ⟨⟨p1, p2, b3⟩, fun _ => ⟨⟨g1.1, g1.2, b3⟩, fun x i' h' e => ?_⟩, fun _ => ⟨fun _ => ⟨⟨g1.1, g1.2, b3⟩, fun x i' h' e => ?_⟩, fun _ => ⟨fun _ => ?_, fun _ => ⟨fun _ => ?_, fun _ => ?_⟩⟩⟩⟩
    · refine ⟨_, _, _, ?_, h0 s p x q i' h' ⟨e, by omega⟩⟩
      simp (config := { maxSteps := 2000000 }) only [go_sem, hG, hP, Nat.reduceEqDiff, ↓reduceIte, reduceCtorEq, Nat.reduceAdd, Nat.reduceSub, Nat.reduceMul, Nat.reduceLT, Nat.reduceLeDiff, Int.reduceAdd, Int.reduceSub, Int.reduceMul, Int.reduceLT, Int.reduceLE, Int.reduceEq, Int.reduceNeg, Int.reduceNe, Int.reduceGE, Int.reduceGT, Nat.reduceBEq, Int.reduceToNat]
      repeat' (first | with_reducible rfl | (refine And.intro ?_ ?_) | (refine congrArg (Value.int _) ?_; omega) | omega)
    · refine ⟨_, _, _, ?_, h0 x p m q i' h' ⟨e, by omega⟩⟩
      simp (config := { maxSteps := 2000000 }) only [go_sem, hG, hP, Nat.reduceEqDiff, ↓reduceIte, reduceCtorEq, Nat.reduceAdd, Nat.reduceSub, Nat.reduceMul, Nat.reduceLT, Nat.reduceLeDiff, Int.reduceAdd, Int.reduceSub, Int.reduceMul, Int.reduceLT, Int.reduceLE, Int.reduceEq, Int.reduceNeg, Int.reduceNe, Int.reduceGE, Int.reduceGT, Nat.reduceBEq, Int.reduceToNat]
      repeat' (first | with_reducible rfl | (refine And.intro ?_ ?_) | (refine congrArg (Value.int _) ?_; omega) | omega)
    · have ar : (q.length + 1) * 24 ≤ appRoom := by unfold appRoom; omega
      refine ⟨⟨g1.1, g1.2, b3⟩, ⟨g2.1, g2.2, b3⟩, ⟨g3.1, g3.2, b3⟩, ar, ?_, ?_⟩
      · refine ⟨_, _, _, ?_, h0 s p m (q ++ [⟨belV b (belI b i1 25) (belH h1 25) 9, belV b (belI b (belI b i1 25) 9) (belH (belH h1 25) 9) 9, belV b (belI b (belI b (belI b i1 25) 9) 9) (belH (belH (belH h1 25) 9) 9) (wr .i64 (m + 1))⟩]) (belI b (belI b (belI b (belI b i1 25) 9) 9) (wr .i64 (m + 1))) (belH (belH (belH (belH h1 25) 9) 9) (wr .i64 (m + 1))) ⟨g4, by simp; omega⟩⟩
        simp (config := { maxSteps := 2000000 }) only [go_sem, hG, hP, Nat.reduceEqDiff, ↓reduceIte, reduceCtorEq, Nat.reduceAdd, Nat.reduceSub, Nat.reduceMul, Nat.reduceLT, Nat.reduceLeDiff, Int.reduceAdd, Int.reduceSub, Int.reduceMul, Int.reduceLT, Int.reduceLE, Int.reduceEq, Int.reduceNeg, Int.reduceNe, Int.reduceGE, Int.reduceGT, Nat.reduceBEq, Int.reduceToNat]
        repeat' (first | with_reducible rfl | (refine And.intro ?_ ?_) | (refine congrArg (Value.int _) ?_; omega) | omega)
        all_goals simp
      · simp only [g1, g2, g3, b3, ar, and_self, and_true, true_and]
    · refine ⟨fun hq => ⟨⟨g1.1, g1.2, b3⟩, by omega, by omega, ?_, ?_⟩, fun hq => ?_⟩
      · refine ⟨_, _, _, ?_, h0 s p m (q.set 0 ⟨(q.getD 0 Pz).src, (q.getD 0 Pz).dst, wr .i64 (belV b (belI b i1 25) (belH h1 25) (wr .i64 (m + 2)) - 1)⟩) (belI b (belI b i1 25) (wr .i64 (m + 2))) (belH (belH h1 25) (wr .i64 (m + 2))) ⟨g5, by simp; omega⟩⟩
        simp (config := { maxSteps := 2000000 }) only [go_sem, hG, hP, Nat.reduceEqDiff, ↓reduceIte, reduceCtorEq, Nat.reduceAdd, Nat.reduceSub, Nat.reduceMul, Nat.reduceLT, Nat.reduceLeDiff, Int.reduceAdd, Int.reduceSub, Int.reduceMul, Int.reduceLT, Int.reduceLE, Int.reduceEq, Int.reduceNeg, Int.reduceNe, Int.reduceGE, Int.reduceGT, Nat.reduceBEq, Int.reduceToNat]
        repeat' (first | with_reducible rfl | (refine And.intro ?_ ?_) | (refine congrArg (Value.int _) ?_; omega) | omega)
        all_goals simp
      · have q1 : 0 < (q.length : Int) := by omega
        have q2 : 0 < q.length := by omega
        simp only [g1, b3, q1, q2, and_self, and_true, true_and]
      · refine ⟨_, _, _, ?_, h0 s p m q (belI b i1 25) (belH h1 25) ⟨g1, by omega⟩⟩
        simp (config := { maxSteps := 2000000 }) only [go_sem, hG, hP, Nat.reduceEqDiff, ↓reduceIte, reduceCtorEq, Nat.reduceAdd, Nat.reduceSub, Nat.reduceMul, Nat.reduceLT, Nat.reduceLeDiff, Int.reduceAdd, Int.reduceSub, Int.reduceMul, Int.reduceLT, Int.reduceLE, Int.reduceEq, Int.reduceNeg, Int.reduceNe, Int.reduceGE, Int.reduceGT, Nat.reduceBEq, Int.reduceToNat]
        repeat' (first | with_reducible rfl | (refine And.intro ?_ ?_) | (refine congrArg (Value.int _) ?_; omega) | omega)
    · refine ⟨_, _, _, ?_, h0 s p m q (belI b i1 25) (belH h1 25) ⟨g1, by omega⟩⟩
      simp (config := { maxSteps := 2000000 }) only [go_sem, hG, hP, Nat.reduceEqDiff, ↓reduceIte, reduceCtorEq, Nat.reduceAdd, Nat.reduceSub, Nat.reduceMul, Nat.reduceLT, Nat.reduceLeDiff, Int.reduceAdd, Int.reduceSub, Int.reduceMul, Int.reduceLT, Int.reduceLE, Int.reduceEq, Int.reduceNeg, Int.reduceNe, Int.reduceGE, Int.reduceGT, Nat.reduceBEq, Int.reduceToNat]
      repeat' (first | with_reducible rfl | (refine And.intro ?_ ?_) | (refine congrArg (Value.int _) ?_; omega) | omega)
  · exact h0.elim
def spDrawConnect : Spec := ⟨fun _ _ => [], fun args objs K => match args, objs with
  | [.rs .byte code], [] => code.length ≤ 1099511627776 ∧ ∀ (s p m : Int) (q : List Pth) (x y : Int), q.length ≤ 1001 → K (.tup [.agg [.v (.int .i64 s), .v (.int .i64 p), .v (.int .i64 m), .sub 0 3 0 q.length], .v (.int .i64 x), .v (.int .i64 y)]) [(0, .row .path q)] 1
  | _, _ => False, false⟩
theorem spDrawConnect_t {L : Hp} {a : List AVal} : Spec.take spDrawConnect L a = [] := id rfl
theorem spDrawConnect_k : Spec.keep spDrawConnect = false := id rfl
theorem spDrawConnect_f {code} {K : AVal → Hp → Nat → Prop} : Spec.f spDrawConnect ([.rs .byte code]) ([]) K = (code.length ≤ 1099511627776 ∧ ∀ (s p m : Int) (q : List Pth) (x y : Int), q.length ≤ 1001 → K (.tup [.agg [.v (.int .i64 s), .v (.int .i64 p), .v (.int .i64 m), .sub 0 3 0 q.length], .v (.int .i64 x), .v (.int .i64 y)]) [(0, .row .path q)] 1) := id rfl
theorem valid29 : Valid Try.prog 29 spDrawConnect := by
  refine validI (Γ := lk [(54, spNew), (55, spDrawAny), (56, spBelow)]) Try.func29 bod29 low29 res29 (good_of ⟨⟨cal54, valid54⟩, ⟨cal55, valid55⟩, ⟨cal56, valid56⟩, trivial⟩) ?_
  intro E args objs K h hE hG hP
  simp only [spDrawConnect] at h
  split at h
  · refine ⟨by simp [Try.ntmps29], ?_⟩
    rename_i code
    obtain ⟨b1, h⟩ := h
    simp (config := { maxSteps := 2000000 }) only [go_sem, hG, hP, Nat.reduceEqDiff, ↓reduceIte, reduceCtorEq, Nat.reduceAdd, Nat.reduceSub, Nat.reduceMul, Nat.reduceLT, Nat.reduceLeDiff, Int.reduceAdd, Int.reduceSub, Int.reduceMul, Int.reduceLT, Int.reduceLE, Int.reduceEq, Int.reduceNeg, Int.reduceNe, Int.reduceGE, Int.reduceGT, Nat.reduceBEq, Int.reduceToNat,  spNew_f, spNew_t, spNew_k, spDrawAny_f, spDrawAny_t, spDrawAny_k, spBelow_f, spBelow_t, spBelow_k, takeP_eq]
    repeat (refine And.intro (by first | omega | (simp; done) | (simp; omega) | (unfold appRoom; omega)) ?_)
    rintro s p m q i h2 ⟨⟨p1, p2⟩, p3⟩
    have g1 := belI_bd (b := code) (i := i) (n := wr .i64 (wr .i64 (s * p) + 2)) ⟨p1, p2⟩
    have g2 := belI_bd (n := 20) g1
    refine ⟨⟨p1, p2, b1⟩, ⟨g1.1, g1.2, b1⟩, ⟨g2.1, g2.2, b1⟩, ?_, ?_⟩
    · refine ⟨_, _, _, ?_, h s p m q (wr .i64 (belV code i h2 (wr .i64 (wr .i64 (s * p) + 2)) - wr .i64 ((belV code (belI code i (wr .i64 (wr .i64 (s * p) + 2))) (belH h2 (wr .i64 (wr .i64 (s * p) + 2))) 20).tdiv 19))) (belV code (belI code (belI code i (wr .i64 (wr .i64 (s * p) + 2))) 20) (belH (belH h2 (wr .i64 (wr .i64 (s * p) + 2))) 20) (wr .i64 (wr .i64 (s * p) + 1))) p3⟩
      simp (config := { maxSteps := 2000000 }) only [go_sem, hG, hP, Nat.reduceEqDiff, ↓reduceIte, reduceCtorEq, Nat.reduceAdd, Nat.reduceSub, Nat.reduceMul, Nat.reduceLT, Nat.reduceLeDiff, Int.reduceAdd, Int.reduceSub, Int.reduceMul, Int.reduceLT, Int.reduceLE, Int.reduceEq, Int.reduceNeg, Int.reduceNe, Int.reduceGE, Int.reduceGT, Nat.reduceBEq, Int.reduceToNat]
      repeat' (first | with_reducible rfl | (refine And.intro ?_ ?_) | (refine congrArg (Value.int _) ?_; omega) | omega)
    · simp only [p1, p2, g1, g2, b1, and_self, and_true, true_and]
  · exact h.elim
def spDrawNeeds : Spec := ⟨fun _ _ => [], fun args objs K => match args, objs with
  | [.rs .byte code], [] => code.length ≤ 1099511627776 ∧ ∀ (s p m : Int) (q : List Pth), q.length ≤ 1001 → K (.agg [.v (.int .i64 s), .v (.int .i64 p), .v (.int .i64 m), .sub 0 3 0 q.length]) [(0, .row .path q)] 1
  | _, _ => False, false⟩
theorem spDrawNeeds_t {L : Hp} {a : List AVal} : Spec.take spDrawNeeds L a = [] := id rfl
theorem spDrawNeeds_k : Spec.keep spDrawNeeds = false := id rfl
theorem spDrawNeeds_f {code} {K : AVal → Hp → Nat → Prop} : Spec.f spDrawNeeds ([.rs .byte code]) ([]) K = (code.length ≤ 1099511627776 ∧ ∀ (s p m : Int) (q : List Pth), q.length ≤ 1001 → K (.agg [.v (.int .i64 s), .v (.int .i64 p), .v (.int .i64 m), .sub 0 3 0 q.length]) [(0, .row .path q)] 1) := id rfl
theorem valid32 : Valid Try.prog 32 spDrawNeeds := by
  refine validI (Γ := lk [(54, spNew), (55, spDrawAny)]) Try.func32 bod32 low32 res32 (good_of ⟨⟨cal54, valid54⟩, ⟨cal55, valid55⟩, trivial⟩) ?_
  intro E args objs K h hE hG hP
  simp only [spDrawNeeds] at h
  split at h
  · refine ⟨by simp [Try.ntmps32], ?_⟩
    rename_i code
    obtain ⟨b1, h⟩ := h
    simp (config := { maxSteps := 2000000 }) only [go_sem, hG, hP, Nat.reduceEqDiff, ↓reduceIte, reduceCtorEq, Nat.reduceAdd, Nat.reduceSub, Nat.reduceMul, Nat.reduceLT, Nat.reduceLeDiff, Int.reduceAdd, Int.reduceSub, Int.reduceMul, Int.reduceLT, Int.reduceLE, Int.reduceEq, Int.reduceNeg, Int.reduceNe, Int.reduceGE, Int.reduceGT, Nat.reduceBEq, Int.reduceToNat,  spNew_f, spNew_t, spNew_k, spDrawAny_f, spDrawAny_t, spDrawAny_k, takeP_eq]
    repeat (refine And.intro (by first | omega | (simp; done) | (simp; omega) | (unfold appRoom; omega)) ?_)
    rintro s p m q i h2 ⟨⟨p1, p2⟩, p3⟩
    refine ⟨_, _, _, ?_, h s p m q p3⟩
    simp (config := { maxSteps := 2000000 }) only [go_sem, hG, hP, Nat.reduceEqDiff, ↓reduceIte, reduceCtorEq, Nat.reduceAdd, Nat.reduceSub, Nat.reduceMul, Nat.reduceLT, Nat.reduceLeDiff, Int.reduceAdd, Int.reduceSub, Int.reduceMul, Int.reduceLT, Int.reduceLE, Int.reduceEq, Int.reduceNeg, Int.reduceNe, Int.reduceGE, Int.reduceGT, Nat.reduceBEq, Int.reduceToNat]
    repeat' (first | with_reducible rfl | (refine And.intro ?_ ?_) | (refine congrArg (Value.int _) ?_; omega) | omega)
  · exact h.elim
noncomputable def atV (code : List Int) (k : Int) : Int := if k < code.length then wr .i64 (code.getD k.toNat 0) else (wr .i64 (wr .i64 (k * 7) + code.length)).tmod 256
def spAtC : Spec := ⟨fun _ _ => [], fun args objs K => match args, objs with
  | [.rs .byte code, .v (.int .i64 k)], [] => 0 ≤ k ∧ K (.v (.int .i64 (atV code k))) [] 0
  | _, _ => False, false⟩
theorem spAtC_t {L : Hp} {a : List AVal} : Spec.take spAtC L a = [] := id rfl
theorem spAtC_k : Spec.keep spAtC = false := id rfl
theorem spAtC_f {code} {k} {K : AVal → Hp → Nat → Prop} : Spec.f spAtC ([.rs .byte code, .v (.int .i64 k)]) ([]) K = (0 ≤ k ∧ K (.v (.int .i64 (atV code k))) [] 0) := id rfl
theorem valid33 : Valid Try.prog 33 spAtC := by
  refine validI (Γ := lk []) Try.func33 bod33 low33 res33 (good_of trivial) ?_
  intro E args objs K h hE hG hP
  simp only [spAtC] at h
  split at h
  · refine ⟨by simp [Try.ntmps33], ?_⟩
    rename_i code k
    obtain ⟨b1, h⟩ := h
    unfold atV at h
    by_cases hk : k < code.length
    · have e1 := eq_true hk
      rw [if_pos hk] at h
      simp (config := { maxSteps := 2000000 }) only [go_sem, hG, hP, Nat.reduceEqDiff, ↓reduceIte, reduceCtorEq, Nat.reduceAdd, Nat.reduceSub, Nat.reduceMul, Nat.reduceLT, Nat.reduceLeDiff, Int.reduceAdd, Int.reduceSub, Int.reduceMul, Int.reduceLT, Int.reduceLE, Int.reduceEq, Int.reduceNeg, Int.reduceNe, Int.reduceGE, Int.reduceGT, Nat.reduceBEq, Int.reduceToNat,  e1]
      repeat (refine And.intro (by first | omega | (simp; done) | (simp; omega) | (unfold appRoom; omega)) ?_)
      refine ⟨_, _, _, ?_, h⟩
      simp (config := { maxSteps := 2000000 }) only [go_sem, hG, hP, Nat.reduceEqDiff, ↓reduceIte, reduceCtorEq, Nat.reduceAdd, Nat.reduceSub, Nat.reduceMul, Nat.reduceLT, Nat.reduceLeDiff, Int.reduceAdd, Int.reduceSub, Int.reduceMul, Int.reduceLT, Int.reduceLE, Int.reduceEq, Int.reduceNeg, Int.reduceNe, Int.reduceGE, Int.reduceGT, Nat.reduceBEq, Int.reduceToNat]
    · have e1 := eq_false hk
      rw [if_neg hk] at h
      simp (config := { maxSteps := 2000000 }) only [go_sem, hG, hP, Nat.reduceEqDiff, ↓reduceIte, reduceCtorEq, Nat.reduceAdd, Nat.reduceSub, Nat.reduceMul, Nat.reduceLT, Nat.reduceLeDiff, Int.reduceAdd, Int.reduceSub, Int.reduceMul, Int.reduceLT, Int.reduceLE, Int.reduceEq, Int.reduceNeg, Int.reduceNe, Int.reduceGE, Int.reduceGT, Nat.reduceBEq, Int.reduceToNat,  e1]
      repeat (refine And.intro (by first | omega | (simp; done) | (simp; omega) | (unfold appRoom; omega)) ?_)
      refine ⟨_, _, _, ?_, h⟩
      simp (config := { maxSteps := 2000000 }) only [go_sem, hG, hP, Nat.reduceEqDiff, ↓reduceIte, reduceCtorEq, Nat.reduceAdd, Nat.reduceSub, Nat.reduceMul, Nat.reduceLT, Nat.reduceLeDiff, Int.reduceAdd, Int.reduceSub, Int.reduceMul, Int.reduceLT, Int.reduceLE, Int.reduceEq, Int.reduceNeg, Int.reduceNe, Int.reduceGE, Int.reduceGT, Nat.reduceBEq, Int.reduceToNat]
  · exact h.elim
end Go.Proofs.YtgmcijagaielaaaE

/-! What Needs names is what Connect moves for, or cannot do. -/
namespace Go.Proofs.YtgmcijagaielaaaE
open Go Go.RowKit
set_option linter.unusedSimpArgs false
set_option linter.unusedVariables false
set_option maxRecDepth 20000

theorem used_iff {g : Pth → Int} {q : List Pth} {x : Int} : ∀ {j : Nat}, used g q j x = true ↔ ∃ i, i < j ∧ g (q.getD i Pz) = x
  | 0 => by simp [used]
  | j + 1 => by
    rw [used, Bool.or_eq_true, used_iff, decide_eq_true_eq]
    constructor
    · rintro (h | ⟨i, hi, h⟩)
      · exact ⟨j, by omega, h⟩
      · exact ⟨i, by omega, h⟩
    · rintro ⟨i, hi, h⟩
      by_cases e : i = j
      · subst e; exact .inl h
      · exact .inr ⟨i, by omega, h⟩
theorem busy_iff {d : Fb} {x y : Int} : 0 ≤ fidx (endP x y) d.q ↔ used (·.src) d.q d.q.length x = true ∨ used (·.dst) d.q d.q.length y = true := by
  rw [used_iff, used_iff]
  constructor
  · intro h
    obtain ⟨h1, h2, _⟩ := fidx_is h
    simp only [endP, decide_eq_true_eq] at h2
    rcases h2 with h2 | h2
    · exact .inl ⟨_, h1, h2⟩
    · exact .inr ⟨_, h1, h2⟩
  · intro h
    apply Classical.byContradiction
    intro hn
    have := fidx_no (P := endP x y) (q := d.q) (by omega)
    rcases h with ⟨i, hi, h⟩ | ⟨i, hi, h⟩
    · have h2 := this i hi
      simp only [endP, decide_eq_false_iff_not] at h2
      exact h2 (.inl h)
    · have h2 := this i hi
      simp only [endP, decide_eq_false_iff_not] at h2
      exact h2 (.inr h)
theorem chL_some {d : Fb} {x y : Int} (h : Mov d x y) : chL d x y ≠ [] := by
  have c1 : ch1 d x y ≠ [] := by
    unfold ch1; rw [chain, if_neg (by have := h.aU; omega)]; simp
  have c2 : ch2 d x y ≠ [] := by
    unfold ch2; rw [chain, if_neg (by have := h.bU; omega)]; simp
  unfold chL; split
  · exact c2
  · exact c1
/-- Connect moves, or cannot, for just what needs it. -/
theorem need_iff {d : Fb} {x y : Int} (h : fbOk d = true) (hx : okEnd d x) (hy : okEnd d y) : need d x y = true ↔ ((conn d x y).2.2 = 3 ∨ (conn d x y).2.2 = 0 ∧ 0 < (conn d x y).2.1.length) := by
  have hn : need d x y = true ↔ (¬ 0 ≤ fidx (endP x y) d.q ∧ ¬ 0 ≤ fmF d x y) := by
    rw [busy_iff]
    unfold need fmF
    simp only [Bool.and_eq_true, Bool.not_eq_true', decide_eq_true_eq, not_or, Bool.not_eq_true]
    constructor
    · rintro ⟨⟨h1, h2⟩, h3⟩; exact ⟨⟨h1, h2⟩, by omega⟩
    · rintro ⟨⟨h1, h2⟩, h3⟩; exact ⟨⟨h1, h2⟩, by omega⟩
  rw [hn]
  by_cases h2 : 0 ≤ fidx (endP x y) d.q
  · rw [conn_busy ⟨h, hx, hy⟩ h2]; simp [h2]
  · by_cases h3 : 0 ≤ fmF d x y
    · rw [conn_free ⟨h, hx, hy⟩ h2 h3]; simp [h3]
    · by_cases h4 : fmA d x < 0 ∨ fmB d y < 0
      · rw [conn_block ⟨h, hx, hy⟩ h2 h3 h4]; simp [h2, h3]
      · rw [conn_move ⟨h, hx, hy⟩ h2 h3 h4]
        have := chL_some (mov_of ⟨h, hx, hy⟩ h3 h4)
        have h5 : 0 < (mvs d.q (fmA d x + fmB d y) (chL d x y)).length := by
          rw [mvs_len]; exact List.length_pos_iff.2 this
        exact ⟨fun _ => .inr ⟨rfl, h5⟩, fun _ => ⟨h2, h3⟩⟩
theorem needRow_mem {d : Fb} {x : Int} {e : Pth} : ∀ {n : Nat}, e ∈ needRow d x n ↔ ∃ y : Nat, y < n ∧ need d x y = true ∧ e = ⟨x, y, -1⟩
  | 0 => by simp [needRow]
  | n + 1 => by
    rw [needRow, List.mem_append, needRow_mem]
    have hc : e ∈ needCell d x n ↔ need d x n = true ∧ e = ⟨x, n, -1⟩ := by
      unfold needCell; split
      · rename_i h; simp [h]
      · rename_i h; simp [h]
    rw [hc]
    constructor
    · rintro (⟨y, hy, h⟩ | h)
      · exact ⟨y, by omega, h⟩
      · exact ⟨n, by omega, h⟩
    · rintro ⟨y, hy, h⟩
      by_cases e2 : y = n
      · subst e2; exact .inr h
      · exact .inl ⟨y, by omega, h⟩
theorem needAll_mem {d : Fb} {n : Nat} {e : Pth} : ∀ {k : Nat}, e ∈ needAll d n k ↔ ∃ x y : Nat, x < k ∧ y < n ∧ need d x y = true ∧ e = ⟨x, y, -1⟩
  | 0 => by simp [needAll]
  | k + 1 => by
    rw [needAll, List.mem_append, needAll_mem, needRow_mem]
    constructor
    · rintro (⟨x, y, hx, h⟩ | ⟨y, h⟩)
      · exact ⟨x, y, by omega, h⟩
      · exact ⟨k, y, by omega, h⟩
    · rintro ⟨x, y, hx, h⟩
      by_cases e2 : x = k
      · subst e2; exact .inr ⟨y, h⟩
      · exact .inl ⟨x, y, by omega, h⟩
theorem needs_mem {d : Fb} (h : fbOk d = true) {x y : Int} : (∃ e ∈ needs d, e.src = x ∧ e.dst = y) ↔ (okEnd d x ∧ okEnd d y ∧ need d x y = true) := by
  obtain ⟨⟨h1, h2, h3⟩, _⟩ := fbOk_is h
  have hsp := sp_bd ⟨h1, h2⟩
  unfold needs
  rw [if_pos h]
  constructor
  · rintro ⟨e, he, rfl, rfl⟩
    obtain ⟨a, b, ha, hb, hn, rfl⟩ := needAll_mem.1 he
    refine ⟨⟨by dsimp only; omega, by dsimp only; omega⟩, ⟨by dsimp only; omega, by dsimp only; omega⟩, hn⟩
  · rintro ⟨⟨a1, a2⟩, ⟨b1, b2⟩, hn⟩
    refine ⟨⟨x, y, -1⟩, needAll_mem.2 ⟨x.toNat, y.toNat, by omega, by omega, ?_, ?_⟩, rfl, rfl⟩
    · rw [show ((x.toNat : Nat) : Int) = x by omega, show ((y.toNat : Nat) : Int) = y by omega]; exact hn
    · rw [show ((x.toNat : Nat) : Int) = x by omega, show ((y.toNat : Nat) : Int) = y by omega]
theorem conn_bad1 {d : Fb} {x y : Int} (h : ¬ (okEnd d x ∧ okEnd d y)) : (conn d x y).2.2 = 1 := by rw [conn_bad (fun e => h e.2)]
/-- Whether a pair is named. -/
def named (l : List Pth) (x y : Int) : Nat → Bool
  | 0 => false
  | j + 1 => named l x y j || decide ((l.getD j Pz).src = x ∧ (l.getD j Pz).dst = y)
theorem named_iff {l : List Pth} {x y : Int} : ∀ {j : Nat}, j ≤ l.length → (named l x y j = true ↔ ∃ i, i < j ∧ (l.getD i Pz).src = x ∧ (l.getD i Pz).dst = y)
  | 0, _ => by simp [named]
  | j + 1, hj => by
    rw [named, Bool.or_eq_true, named_iff (by omega), decide_eq_true_eq]
    constructor
    · rintro (⟨i, hi, h⟩ | h)
      · exact ⟨i, by omega, h⟩
      · exact ⟨j, by omega, h⟩
    · rintro ⟨i, hi, h⟩
      by_cases e : i = j
      · subst e; exact .inr h
      · exact .inl ⟨i, by omega, h⟩
theorem named_all {d : Fb} (h : fbOk d = true) (x y : Int) : named (needs d) x y (needs d).length = decide ((conn d x y).2.2 = 3 ∨ (conn d x y).2.2 = 0 ∧ 0 < (conn d x y).2.1.length) := by
  have h1 : named (needs d) x y (needs d).length = true ↔ ∃ e ∈ needs d, e.src = x ∧ e.dst = y := by
    rw [named_iff (Nat.le_refl _)]
    constructor
    · rintro ⟨i, hi, h⟩
      refine ⟨(needs d)[i], List.getElem_mem hi, ?_⟩
      simpa [List.getD, hi] using h
    · rintro ⟨e, he, h⟩
      obtain ⟨i, hi, rfl⟩ := List.getElem_of_mem he
      exact ⟨i, hi, by simpa [List.getD, hi] using h⟩
  rw [Bool.eq_iff_iff, decide_eq_true_eq, h1, needs_mem h]
  by_cases hxy : okEnd d x ∧ okEnd d y
  · rw [← need_iff h hxy.1 hxy.2]
    exact ⟨fun e => e.2.2, fun e => ⟨hxy.1, hxy.2, e⟩⟩
  · have := conn_bad1 hxy
    rw [this]
    simp
    intro a b
    exact absurd ⟨a, b⟩ hxy
theorem need_conn {d : Fb} (h : fbOk d = true) {i : Nat} (hi : i < (needs d).length) : ((conn d ((needs d).getD i Pz).src ((needs d).getD i Pz).dst).2.2 = 3 ∨ (conn d ((needs d).getD i Pz).src ((needs d).getD i Pz).dst).2.2 = 0 ∧ 0 < (conn d ((needs d).getD i Pz).src ((needs d).getD i Pz).dst).2.1.length) := by
  have := named_all h ((needs d).getD i Pz).src ((needs d).getD i Pz).dst
  have h2 : named (needs d) ((needs d).getD i Pz).src ((needs d).getD i Pz).dst (needs d).length = true := (named_iff (Nat.le_refl _)).2 ⟨i, hi, rfl, rfl⟩
  rw [h2] at this
  exact of_decide_eq_true this.symm
theorem conn_one : conn ⟨1, 1, 1, []⟩ 0 0 = ([⟨0, 0, 0⟩], [], 0) := by
  have h1 : fbOk ⟨1, 1, 1, []⟩ = true := by decide
  have h2 : okEnd ⟨1, 1, 1, []⟩ 0 := by decide
  have h3 : fmF ⟨1, 1, 1, []⟩ 0 0 = 0 := by decide
  rw [conn_free ⟨h1, h2, h2⟩ (by decide) (by rw [h3]; decide), h3]
  rfl
end Go.Proofs.YtgmcijagaielaaaE

/-! The law of Needs. -/
namespace Go.Proofs.YtgmcijagaielaaaE
open Go Go.RowKit
set_option linter.unusedSimpArgs false
set_option linter.unusedVariables false
set_option maxRecDepth 20000
set_option maxHeartbeats 4000000

def spLaw5 : Spec := ⟨fun _ _ => [], fun args objs K => match args, objs with
  | [.agg [.v (.int .i64 s), .v (.int .i64 p), .v (.int .i64 m), .rs .path q]], [] => q.length ≤ 17592186044416 ∧ K (.v (.bool true)) [] 0
  | _, _ => False, false⟩
theorem spLaw5_t {L : Hp} {a : List AVal} : Spec.take spLaw5 L a = [] := id rfl
theorem spLaw5_k : Spec.keep spLaw5 = false := id rfl
theorem spLaw5_f {s} {p} {m} {q} {K : AVal → Hp → Nat → Prop} : Spec.f spLaw5 ([.agg [.v (.int .i64 s), .v (.int .i64 p), .v (.int .i64 m), .rs .path q]]) ([]) K = (q.length ≤ 17592186044416 ∧ K (.v (.bool true)) [] 0) := id rfl
theorem valid5 : Valid Try.prog 5 spLaw5 := by
  refine validI (Γ := lk [(9, spSzFb), (11, spToFb), (18, spNeeds), (19, spNeeds), (20, spEqPthS), (13, spEqFb), (16, spMarkFb), (21, spMarkPthS), (22, spHeldPthS)]) Try.func5 bod5 low5 res5 (good_of ⟨⟨cal9, valid9⟩, ⟨cal11, valid11⟩, ⟨cal18, valid18⟩, ⟨cal19, valid19⟩, ⟨cal20, valid20⟩, ⟨cal13, valid13⟩, ⟨cal16, valid16⟩, ⟨cal21, valid21⟩, ⟨cal22, valid22⟩, trivial⟩) ?_
  intro E args objs K h hE hG hP
  simp only [spLaw5] at h
  split at h
  · refine ⟨by simp [Try.ntmps5], ?_⟩
    rename_i s p m q
    obtain ⟨b1, h⟩ := h
    have hlen := needs_len ⟨s, p, m, q⟩
    generalize hl : needs ⟨s, p, m, q⟩ = q' at *
    simp (config := { maxSteps := 2000000 }) only [go_sem, hG, hP, Nat.reduceEqDiff, ↓reduceIte, reduceCtorEq, Nat.reduceAdd, Nat.reduceSub, Nat.reduceMul, Nat.reduceLT, Nat.reduceLeDiff, Int.reduceAdd, Int.reduceSub, Int.reduceMul, Int.reduceLT, Int.reduceLE, Int.reduceEq, Int.reduceNeg, Int.reduceNe, Int.reduceGE, Int.reduceGT, Nat.reduceBEq, Int.reduceToNat,  spSzFb_f, spSzFb_t, spSzFb_k, spToFb_f, spToFb_t, spToFb_k, spNeeds_f, spNeeds_t, spNeeds_k, spEqPthS_f, spEqPthS_t, spEqPthS_k, spEqFb_f, spEqFb_t, spEqFb_k, spMarkFb_f, spMarkFb_t, spMarkFb_k, spMarkPthS_f, spMarkPthS_t, spMarkPthS_k, spHeldPthS_f, spHeldPthS_t, spHeldPthS_k, hl, takeA4_eq, take1_eq, bb_self, take_pm, pathMarks_len, held_pm]
    repeat (refine And.intro (by first | omega | (simp; done) | (simp; omega) | (unfold appRoom; omega)) ?_)
    refine ⟨fun hs => ⟨_, _, _, ?_, h⟩, fun hs => ?_⟩
    · simp (config := { maxSteps := 2000000 }) only [go_sem, hG, hP, Nat.reduceEqDiff, ↓reduceIte, reduceCtorEq, Nat.reduceAdd, Nat.reduceSub, Nat.reduceMul, Nat.reduceLT, Nat.reduceLeDiff, Int.reduceAdd, Int.reduceSub, Int.reduceMul, Int.reduceLT, Int.reduceLE, Int.reduceEq, Int.reduceNeg, Int.reduceNe, Int.reduceGE, Int.reduceGT, Nat.reduceBEq, Int.reduceToNat]
    have hz := szStep_len (by omega) hs
    repeat' (first | (refine And.intro ?_ ?_) | (with_reducible intro _))
    all_goals first | omega | (refine ⟨_, _, _, ?_, h⟩; simp (config := { maxSteps := 2000000 }) only [go_sem, hG, hP, Nat.reduceEqDiff, ↓reduceIte, reduceCtorEq, Nat.reduceAdd, Nat.reduceSub, Nat.reduceMul, Nat.reduceLT, Nat.reduceLeDiff, Int.reduceAdd, Int.reduceSub, Int.reduceMul, Int.reduceLT, Int.reduceLE, Int.reduceEq, Int.reduceNeg, Int.reduceNe, Int.reduceGE, Int.reduceGT, Nat.reduceBEq, Int.reduceToNat]; all_goals (first | (simp; done) | omega))
  · exact h.elim
end Go.Proofs.YtgmcijagaielaaaE

/-! The code of a function, in the engine's words. -/
namespace Go.Proofs.YtgmcijagaielaaaE
open Go Go.RowKit
@[reducible] def ic8 : IC := (.seq (.ops [⟨some 2, .mov (.const (.bool false)), none⟩]) (.seq (.seq (.ops [⟨some 20, .mov (.tmp 0), none⟩, ⟨some 21, .call 28 [(.tmp 20)], none⟩]) (.cond (.tmp 21) (.seq (.ops [⟨some 2, .mov (.const (.bool true)), none⟩]) .ret) .skip)) (.seq (.ops [⟨some 22, .mov (.tmp 0), none⟩, ⟨some 23, .call 32 [(.tmp 22)], none⟩, ⟨some 3, .new [(.int .i64 0), (.int .i64 0), (.int .i64 0), (.slice none 0 0)], none⟩, ⟨none, .store 4 (.tmp 3) (.tmp 23), none⟩]) (.seq (.ops [⟨some 24, .load 4 true (.tmp 3), none⟩, ⟨some 25, .call 19 [(.tmp 24)], none⟩, ⟨some 4, .mov (.tmp 25), none⟩]) (.seq (.seq (.ops [⟨some 26, .mov (.tmp 4), none⟩, ⟨some 27, .len (.tmp 26), none⟩, ⟨some 28, .load 4 true (.tmp 3), none⟩, ⟨some 29, .call 18 [(.tmp 28)], none⟩, ⟨some 30, .len (.tmp 29), none⟩, ⟨some 31, .bin .neq (.tmp 27) (.tmp 30), none⟩]) (.cond (.tmp 31) (.seq (.ops [⟨some 2, .mov (.const (.bool false)), none⟩]) .ret) .skip)) (.seq (.ops [⟨some 33, .bld [(.int .i64 0), (.int .i64 0), (.int .i64 0), (.slice none 0 0)] [(0, 1, (.const (.int .i64 1))), (1, 1, (.const (.int .i64 1))), (2, 1, (.const (.int .i64 1)))], none⟩, ⟨some 34, .call 24 [(.tmp 33), (.const (.int .i64 0)), (.const (.int .i64 0))], none⟩, ⟨some 32, .mov (.tmp 34), none⟩, ⟨some 35, .ext (.tmp 32) 0, none⟩, ⟨some 36, .ext (.tmp 32) 1, none⟩, ⟨some 37, .ext (.tmp 32) 2, none⟩, ⟨some 5, .new [(.int .i64 0), (.int .i64 0), (.int .i64 0), (.slice none 0 0)], none⟩, ⟨none, .store 4 (.tmp 5) (.tmp 35), none⟩, ⟨some 6, .mov (.tmp 36), none⟩, ⟨some 7, .mov (.tmp 37), none⟩]) (.seq (.seq (.ops [⟨some 38, .mov (.tmp 7), none⟩, ⟨some 39, .bin .neq (.tmp 38) (.const (.int .i64 0)), none⟩, ⟨some 40, .mov (.tmp 39), none⟩, ⟨some 41, .fadr 3 (.tmp 5), some (40, false)⟩, ⟨some 42, .load 1 false (.tmp 41), some (40, false)⟩, ⟨some 43, .len (.tmp 42), some (40, false)⟩, ⟨some 44, .bin .neq (.tmp 43) (.const (.int .i64 1)), some (40, false)⟩, ⟨some 45, .pick (.tmp 40) (.const (.bool true)) (.tmp 44), none⟩]) (.cond (.tmp 45) (.seq (.ops [⟨some 2, .mov (.const (.bool false)), none⟩]) .ret) .skip)) (.seq (.seq (.ops [⟨some 46, .load 4 true (.tmp 3), none⟩, ⟨some 47, .call 10 [(.tmp 46)], none⟩, ⟨some 48, .una .not (.tmp 47), none⟩]) (.cond (.tmp 48) (.seq (.ops [⟨some 49, .mov (.tmp 4), none⟩, ⟨some 50, .len (.tmp 49), none⟩, ⟨some 51, .bin .eql (.tmp 50) (.const (.int .i64 0)), none⟩, ⟨some 2, .mov (.tmp 51), none⟩]) .ret) .skip)) (.seq (.ops [⟨some 52, .fadr 0 (.tmp 3), none⟩, ⟨some 53, .load 1 false (.tmp 52), none⟩, ⟨some 54, .fadr 1 (.tmp 3), none⟩, ⟨some 55, .load 1 false (.tmp 54), none⟩, ⟨some 56, .bin .mul (.tmp 53) (.tmp 55), none⟩, ⟨some 8, .mov (.tmp 56), none⟩]) (.seq (.seq (.ops [⟨some 9, .mov (.const (.int .i64 0)), none⟩]) (.block 0 (.loop (.seq (.seq (.ops [⟨some 57, .mov (.tmp 9), none⟩, ⟨some 58, .mov (.tmp 4), none⟩, ⟨some 59, .len (.tmp 58), none⟩, ⟨some 60, .bin .lss (.tmp 57) (.tmp 59), none⟩]) (.cond (.tmp 60) .skip (.exit 0))) (.seq (.block 1 (.seq (.draw [⟨some 64, .load 4 true (.tmp 3), none⟩, ⟨some 65, .mov (.tmp 4), none⟩, ⟨some 66, .mov (.tmp 9), none⟩, ⟨some 67, .iadr 3 (.tmp 65) (.tmp 66), none⟩, ⟨some 68, .fadr 0 (.tmp 67), none⟩, ⟨some 69, .load 1 false (.tmp 68), none⟩, ⟨some 70, .mov (.tmp 4), none⟩, ⟨some 71, .mov (.tmp 9), none⟩, ⟨some 72, .iadr 3 (.tmp 70) (.tmp 71), none⟩, ⟨some 73, .fadr 1 (.tmp 72), none⟩, ⟨some 74, .load 1 false (.tmp 73), none⟩, ⟨some 75, .call 24 [(.tmp 64), (.tmp 69), (.tmp 74)], none⟩, ⟨some 63, .mov (.tmp 75), none⟩, ⟨some 76, .ext (.tmp 63) 0, none⟩, ⟨some 77, .ext (.tmp 63) 1, none⟩, ⟨some 78, .ext (.tmp 63) 2, none⟩, ⟨some 10, .new [(.int .i64 0), (.int .i64 0), (.int .i64 0), (.slice none 0 0)], none⟩, ⟨none, .store 4 (.tmp 10) (.tmp 76), none⟩, ⟨some 11, .mov (.tmp 77), none⟩, ⟨some 12, .mov (.tmp 78), none⟩] (.held ⟨some 64, .load 4 true (.tmp 3), none⟩ (.held ⟨some 65, .mov (.tmp 4), none⟩ (.held ⟨some 66, .mov (.tmp 9), none⟩ (.held ⟨some 67, .iadr 3 (.tmp 65) (.tmp 66), none⟩ (.held ⟨some 68, .fadr 0 (.tmp 67), none⟩ (.held ⟨some 69, .load 1 false (.tmp 68), none⟩ (.held ⟨some 70, .mov (.tmp 4), none⟩ (.held ⟨some 71, .mov (.tmp 9), none⟩ (.held ⟨some 72, .iadr 3 (.tmp 70) (.tmp 71), none⟩ (.held ⟨some 73, .fadr 1 (.tmp 72), none⟩ (.held ⟨some 74, .load 1 false (.tmp 73), none⟩ (.alt ⟨some 75, .call 24 [(.tmp 64), (.tmp 69), (.tmp 74)], none⟩ (.held ⟨some 63, .mov (.tmp 75), none⟩ (.held ⟨some 76, .ext (.tmp 63) 0, none⟩ (.held ⟨some 77, .ext (.tmp 63) 1, none⟩ (.held ⟨some 78, .ext (.tmp 63) 2, none⟩ (.alt ⟨some 10, .new [(.int .i64 0), (.int .i64 0), (.int .i64 0), (.slice none 0 0)], none⟩ (.alt ⟨none, .store 4 (.tmp 10) (.tmp 76), none⟩ (.held ⟨some 11, .mov (.tmp 77), none⟩ (.held ⟨some 12, .mov (.tmp 78), none⟩ .done)) .stop) .stop))))) (.alt ⟨some 10, .new [(.int .i64 0), (.int .i64 0), (.int .i64 0), (.slice none 0 0)], none⟩ (.alt ⟨some 75, .call 24 [(.tmp 64), (.tmp 69), (.tmp 74)], none⟩ (.held ⟨some 63, .mov (.tmp 75), none⟩ (.held ⟨some 76, .ext (.tmp 63) 0, none⟩ (.held ⟨some 77, .ext (.tmp 63) 1, none⟩ (.held ⟨some 78, .ext (.tmp 63) 2, none⟩ (.alt ⟨none, .store 4 (.tmp 10) (.tmp 76), none⟩ (.held ⟨some 11, .mov (.tmp 77), none⟩ (.held ⟨some 12, .mov (.tmp 78), none⟩ .done)) .stop))))) .stop) .stop)))))))))))))) (.seq (.ops [⟨some 79, .mov (.tmp 12), none⟩, ⟨some 80, .bin .eql (.tmp 79) (.const (.int .i64 0)), none⟩, ⟨some 81, .mov (.tmp 80), none⟩, ⟨some 82, .mov (.tmp 11), some (81, true)⟩, ⟨some 83, .len (.tmp 82), some (81, true)⟩, ⟨some 84, .bin .eql (.tmp 83) (.const (.int .i64 0)), some (81, true)⟩, ⟨some 85, .pick (.tmp 81) (.tmp 84) (.const (.bool false)), none⟩, ⟨some 86, .mov (.tmp 85), none⟩, ⟨some 87, .mov (.tmp 12), some (86, false)⟩, ⟨some 88, .bin .eql (.tmp 87) (.const (.int .i64 2)), some (86, false)⟩, ⟨some 89, .pick (.tmp 86) (.const (.bool true)) (.tmp 88), none⟩, ⟨some 90, .mov (.tmp 89), none⟩, ⟨some 91, .mov (.tmp 12), some (90, false)⟩, ⟨some 92, .bin .eql (.tmp 91) (.const (.int .i64 1)), some (90, false)⟩, ⟨some 93, .pick (.tmp 90) (.const (.bool true)) (.tmp 92), none⟩]) (.cond (.tmp 93) (.seq (.ops [⟨some 2, .mov (.const (.bool false)), none⟩]) .ret) .skip)))) (.ops [⟨some 61, .mov (.tmp 9), none⟩, ⟨some 62, .bin .add (.tmp 61) (.const (.int .i64 1)), none⟩, ⟨some 9, .mov (.tmp 62), none⟩])))))) (.seq (.draw [⟨some 94, .mov (.tmp 0), none⟩, ⟨some 95, .call 33 [(.tmp 94), (.const (.int .i64 0))], none⟩, ⟨some 96, .mov (.tmp 8), none⟩, ⟨some 97, .bin .rem (.tmp 95) (.tmp 96), none⟩, ⟨some 98, .mov (.tmp 0), none⟩, ⟨some 99, .call 33 [(.tmp 98), (.const (.int .i64 1))], none⟩, ⟨some 100, .mov (.tmp 8), none⟩, ⟨some 101, .bin .rem (.tmp 99) (.tmp 100), none⟩, ⟨some 13, .mov (.tmp 97), none⟩, ⟨some 14, .mov (.tmp 101), none⟩] (.held ⟨some 94, .mov (.tmp 0), none⟩ (.held ⟨some 96, .mov (.tmp 8), none⟩ (.held ⟨some 98, .mov (.tmp 0), none⟩ (.held ⟨some 100, .mov (.tmp 8), none⟩ (.alt ⟨some 95, .call 33 [(.tmp 94), (.const (.int .i64 0))], none⟩ (.held ⟨some 97, .bin .rem (.tmp 95) (.tmp 96), none⟩ (.alt ⟨some 99, .call 33 [(.tmp 98), (.const (.int .i64 1))], none⟩ (.held ⟨some 101, .bin .rem (.tmp 99) (.tmp 100), none⟩ (.held ⟨some 13, .mov (.tmp 97), none⟩ (.held ⟨some 14, .mov (.tmp 101), none⟩ .done))) .stop)) .stop)))))) (.seq (.ops [⟨some 103, .load 4 true (.tmp 3), none⟩, ⟨some 104, .mov (.tmp 13), none⟩, ⟨some 105, .mov (.tmp 14), none⟩, ⟨some 106, .call 24 [(.tmp 103), (.tmp 104), (.tmp 105)], none⟩, ⟨some 102, .mov (.tmp 106), none⟩, ⟨some 107, .ext (.tmp 102) 0, none⟩, ⟨some 108, .ext (.tmp 102) 1, none⟩, ⟨some 109, .ext (.tmp 102) 2, none⟩, ⟨some 15, .new [(.int .i64 0), (.int .i64 0), (.int .i64 0), (.slice none 0 0)], none⟩, ⟨none, .store 4 (.tmp 15) (.tmp 107), none⟩, ⟨some 16, .mov (.tmp 108), none⟩, ⟨some 17, .mov (.tmp 109), none⟩]) (.seq (.ops [⟨some 18, .mov (.const (.bool false)), none⟩]) (.seq (.seq (.ops [⟨some 19, .mov (.const (.int .i64 0)), none⟩]) (.block 2 (.loop (.seq (.seq (.ops [⟨some 110, .mov (.tmp 19), none⟩, ⟨some 111, .mov (.tmp 4), none⟩, ⟨some 112, .len (.tmp 111), none⟩, ⟨some 113, .bin .lss (.tmp 110) (.tmp 112), none⟩]) (.cond (.tmp 113) .skip (.exit 2))) (.seq (.block 3 (.ops [⟨some 116, .mov (.tmp 18), none⟩, ⟨some 117, .mov (.tmp 116), none⟩, ⟨some 118, .mov (.tmp 4), some (117, false)⟩, ⟨some 119, .mov (.tmp 19), some (117, false)⟩, ⟨some 120, .iadr 3 (.tmp 118) (.tmp 119), some (117, false)⟩, ⟨some 121, .fadr 0 (.tmp 120), some (117, false)⟩, ⟨some 122, .load 1 false (.tmp 121), some (117, false)⟩, ⟨some 123, .mov (.tmp 13), some (117, false)⟩, ⟨some 124, .bin .eql (.tmp 122) (.tmp 123), some (117, false)⟩, ⟨some 125, .mov (.tmp 124), some (117, false)⟩, ⟨some 126, .mov (.tmp 4), some (125, true)⟩, ⟨some 127, .mov (.tmp 19), some (125, true)⟩, ⟨some 128, .iadr 3 (.tmp 126) (.tmp 127), some (125, true)⟩, ⟨some 129, .fadr 1 (.tmp 128), some (125, true)⟩, ⟨some 130, .load 1 false (.tmp 129), some (125, true)⟩, ⟨some 131, .mov (.tmp 14), some (125, true)⟩, ⟨some 132, .bin .eql (.tmp 130) (.tmp 131), some (125, true)⟩, ⟨some 133, .pick (.tmp 125) (.tmp 132) (.const (.bool false)), some (117, false)⟩, ⟨some 134, .pick (.tmp 117) (.const (.bool true)) (.tmp 133), none⟩, ⟨some 18, .mov (.tmp 134), none⟩])) (.ops [⟨some 114, .mov (.tmp 19), none⟩, ⟨some 115, .bin .add (.tmp 114) (.const (.int .i64 1)), none⟩, ⟨some 19, .mov (.tmp 115), none⟩])))))) (.seq (.ops [⟨some 135, .mov (.tmp 18), none⟩, ⟨some 136, .mov (.tmp 17), none⟩, ⟨some 137, .bin .eql (.tmp 136) (.const (.int .i64 3)), none⟩, ⟨some 138, .mov (.tmp 137), none⟩, ⟨some 139, .mov (.tmp 17), some (138, false)⟩, ⟨some 140, .bin .eql (.tmp 139) (.const (.int .i64 0)), some (138, false)⟩, ⟨some 141, .mov (.tmp 140), some (138, false)⟩, ⟨some 142, .mov (.tmp 16), some (141, true)⟩, ⟨some 143, .len (.tmp 142), some (141, true)⟩, ⟨some 144, .bin .gtr (.tmp 143) (.const (.int .i64 0)), some (141, true)⟩, ⟨some 145, .pick (.tmp 141) (.tmp 144) (.const (.bool false)), some (138, false)⟩, ⟨some 146, .pick (.tmp 138) (.const (.bool true)) (.tmp 145), none⟩, ⟨some 147, .beq false (.tmp 135) (.tmp 146), none⟩, ⟨some 2, .mov (.tmp 147), none⟩]) .ret)))))))))))))))
@[reducible] def rv8 : List RV := [.tmp 2]
theorem low8 : lowC Try.prog tau Try.f8.ntmps (Try.f8.body.getD .skip) = some (erase ic8) := by kernel_rfl
theorem res8 : lowR Try.prog Try.f8.results.toList = some rv8 := by kernel_rfl
theorem bod8 : Try.f8.body = some (Try.f8.body.getD .skip) := by kernel_rfl
theorem cal8 : callable Try.prog 8 = true := by kernel_rfl

end Go.Proofs.YtgmcijagaielaaaE
