/- A part of a proof that a law of the given program holds for every input: no condition. -/
import Derived.Test.YthghcialeghgoaaDoorProg
import Derived.KernelRfl
import Derived.Ground.NamesProg
import Derived.Shelf.Lay
import Derived.Shelf.Strings.SlTrimAscii
import Derived.Test.YthghcialeghgoaaDoorKFnTimers1

set_option linter.unusedSimpArgs false
set_option linter.unusedVariables false
/-! The code of a function, in the engine's words. -/
namespace Go.Proofs.YthghcialeghgoaaDoorE
open Go Go.RowKit
@[reducible] def ic36 : IC := (.seq (.ops [⟨some 2, .mov (.const (.bool false)), none⟩]) (.seq (.ops [⟨some 3, .mov (.tmp 0), none⟩, ⟨some 4, .slen (.tmp 3), none⟩, ⟨some 5, .bin .leq (.tmp 4) (.const (.int .i64 20)), none⟩, ⟨some 6, .mov (.tmp 5), none⟩, ⟨some 7, .mov (.tmp 0), some (6, true)⟩, ⟨some 8, .call 60 [(.tmp 7), (.const (.string ⟨#[48, 49, 50, 51, 52, 53, 54, 55, 56, 57, 42, 35]⟩))], some (6, true)⟩, ⟨some 9, .bin .eql (.tmp 8) (.const (.string ⟨#[]⟩)), some (6, true)⟩, ⟨some 10, .pick (.tmp 6) (.tmp 9) (.const (.bool false)), none⟩, ⟨some 2, .mov (.tmp 10), none⟩]) .ret))
@[reducible] def rv36 : List RV := [.tmp 2]
theorem low36 : lowC Tryd.prog tau Tryd.f36.ntmps (Tryd.f36.body.getD .skip) = some (erase ic36) := by kernel_rfl
theorem res36 : lowR Tryd.prog Tryd.f36.results.toList = some rv36 := by kernel_rfl
theorem bod36 : Tryd.f36.body = some (Tryd.f36.body.getD .skip) := by kernel_rfl
theorem cal36 : callable Tryd.prog 36 = true := by kernel_rfl

end Go.Proofs.YthghcialeghgoaaDoorE

/-! The code of a function, in the engine's words. -/
namespace Go.Proofs.YthghcialeghgoaaDoorE
open Go Go.RowKit
@[reducible] def ic60 : IC := (.seq (.ops [⟨some 4, .mov (.const (.string ⟨#[]⟩)), none⟩]) (.seq (.seq (.ops [⟨some 7, .mov (.tmp 0), none⟩, ⟨some 8, .bin .eql (.tmp 7) (.const (.string ⟨#[]⟩)), none⟩, ⟨some 9, .mov (.tmp 8), none⟩, ⟨some 10, .mov (.tmp 1), some (9, false)⟩, ⟨some 11, .bin .eql (.tmp 10) (.const (.string ⟨#[]⟩)), some (9, false)⟩, ⟨some 12, .pick (.tmp 9) (.const (.bool true)) (.tmp 11), none⟩]) (.cond (.tmp 12) (.seq (.ops [⟨some 13, .mov (.tmp 0), none⟩, ⟨some 4, .mov (.tmp 13), none⟩]) .ret) .skip)) (.seq (.seq (.ops [⟨some 14, .mov (.tmp 1), none⟩, ⟨some 15, .slen (.tmp 14), none⟩, ⟨some 16, .bin .eql (.tmp 15) (.const (.int .i64 1)), none⟩, ⟨some 17, .mov (.tmp 16), none⟩, ⟨some 18, .mov (.tmp 1), some (17, true)⟩, ⟨some 19, .sidx (.tmp 18) (.const (.int .i64 0)), some (17, true)⟩, ⟨some 20, .bin .lss (.tmp 19) (.const (.int .u8 128)), some (17, true)⟩, ⟨some 21, .pick (.tmp 17) (.tmp 20) (.const (.bool false)), none⟩]) (.cond (.tmp 21) (.seq (.draw [⟨some 22, .mov (.tmp 0), none⟩, ⟨some 23, .mov (.tmp 1), none⟩, ⟨some 24, .sidx (.tmp 23) (.const (.int .i64 0)), none⟩, ⟨some 25, .call 70 [(.tmp 22), (.tmp 24)], none⟩, ⟨some 26, .mov (.tmp 1), none⟩, ⟨some 27, .sidx (.tmp 26) (.const (.int .i64 0)), none⟩, ⟨some 28, .call 69 [(.tmp 25), (.tmp 27)], none⟩, ⟨some 4, .mov (.tmp 28), none⟩] (.held ⟨some 22, .mov (.tmp 0), none⟩ (.held ⟨some 23, .mov (.tmp 1), none⟩ (.held ⟨some 24, .sidx (.tmp 23) (.const (.int .i64 0)), none⟩ (.held ⟨some 26, .mov (.tmp 1), none⟩ (.held ⟨some 27, .sidx (.tmp 26) (.const (.int .i64 0)), none⟩ (.alt ⟨some 25, .call 70 [(.tmp 22), (.tmp 24)], none⟩ (.alt ⟨some 28, .call 69 [(.tmp 25), (.tmp 27)], none⟩ (.held ⟨some 4, .mov (.tmp 28), none⟩ .done) .stop) .stop))))))) .ret) .skip)) (.seq (.seq (.ops [⟨some 30, .mov (.tmp 1), none⟩, ⟨some 31, .call 71 [(.tmp 30)], none⟩, ⟨some 29, .mov (.tmp 31), none⟩, ⟨some 32, .ext (.tmp 29) 0, none⟩, ⟨some 33, .ext (.tmp 29) 1, none⟩, ⟨some 5, .new [(.bool false), (.bool false), (.bool false), (.bool false), (.bool false), (.bool false), (.bool false), (.bool false), (.bool false), (.bool false), (.bool false), (.bool false), (.bool false), (.bool false), (.bool false), (.bool false), (.bool false), (.bool false), (.bool false), (.bool false), (.bool false), (.bool false), (.bool false), (.bool false), (.bool false), (.bool false), (.bool false), (.bool false), (.bool false), (.bool false), (.bool false), (.bool false), (.bool false), (.bool false), (.bool false), (.bool false), (.bool false), (.bool false), (.bool false), (.bool false), (.bool false), (.bool false), (.bool false), (.bool false), (.bool false), (.bool false), (.bool false), (.bool false), (.bool false), (.bool false), (.bool false), (.bool false), (.bool false), (.bool false), (.bool false), (.bool false), (.bool false), (.bool false), (.bool false), (.bool false), (.bool false), (.bool false), (.bool false), (.bool false), (.bool false), (.bool false), (.bool false), (.bool false), (.bool false), (.bool false), (.bool false), (.bool false), (.bool false), (.bool false), (.bool false), (.bool false), (.bool false), (.bool false), (.bool false), (.bool false), (.bool false), (.bool false), (.bool false), (.bool false), (.bool false), (.bool false), (.bool false), (.bool false), (.bool false), (.bool false), (.bool false), (.bool false), (.bool false), (.bool false), (.bool false), (.bool false), (.bool false), (.bool false), (.bool false), (.bool false), (.bool false), (.bool false), (.bool false), (.bool false), (.bool false), (.bool false), (.bool false), (.bool false), (.bool false), (.bool false), (.bool false), (.bool false), (.bool false), (.bool false), (.bool false), (.bool false), (.bool false), (.bool false), (.bool false), (.bool false), (.bool false), (.bool false), (.bool false), (.bool false), (.bool false), (.bool false), (.bool false), (.bool false), (.bool false), (.bool false), (.bool false), (.bool false), (.bool false), (.bool false), (.bool false), (.bool false), (.bool false), (.bool false), (.bool false), (.bool false), (.bool false), (.bool false), (.bool false), (.bool false), (.bool false), (.bool false), (.bool false), (.bool false), (.bool false), (.bool false), (.bool false), (.bool false), (.bool false), (.bool false), (.bool false), (.bool false), (.bool false), (.bool false), (.bool false), (.bool false), (.bool false), (.bool false), (.bool false), (.bool false), (.bool false), (.bool false), (.bool false), (.bool false), (.bool false), (.bool false), (.bool false), (.bool false), (.bool false), (.bool false), (.bool false), (.bool false), (.bool false), (.bool false), (.bool false), (.bool false), (.bool false), (.bool false), (.bool false), (.bool false), (.bool false), (.bool false), (.bool false), (.bool false), (.bool false), (.bool false), (.bool false), (.bool false), (.bool false), (.bool false), (.bool false), (.bool false), (.bool false), (.bool false), (.bool false), (.bool false), (.bool false), (.bool false), (.bool false), (.bool false), (.bool false), (.bool false), (.bool false), (.bool false), (.bool false), (.bool false), (.bool false), (.bool false), (.bool false), (.bool false), (.bool false), (.bool false), (.bool false), (.bool false), (.bool false), (.bool false), (.bool false), (.bool false), (.bool false), (.bool false), (.bool false), (.bool false), (.bool false), (.bool false), (.bool false), (.bool false), (.bool false), (.bool false), (.bool false), (.bool false), (.bool false), (.bool false), (.bool false), (.bool false), (.bool false), (.bool false), (.bool false), (.bool false), (.bool false), (.bool false), (.bool false), (.bool false), (.bool false), (.bool false), (.bool false), (.bool false), (.bool false), (.bool false), (.bool false), (.bool false), (.bool false), (.bool false)], none⟩, ⟨none, .store 256 (.tmp 5) (.tmp 32), none⟩, ⟨some 6, .mov (.tmp 33), none⟩]) (.seq (.ops [⟨some 34, .mov (.tmp 6), none⟩]) (.cond (.tmp 34) (.seq (.ops [⟨some 35, .mov (.tmp 0), none⟩, ⟨some 36, .call 73 [(.tmp 35), (.tmp 5)], none⟩, ⟨some 37, .call 72 [(.tmp 36), (.tmp 5)], none⟩, ⟨some 4, .mov (.tmp 37), none⟩]) .ret) .skip))) (.seq (.ops [⟨some 38, .mov (.tmp 0), none⟩, ⟨some 39, .mov (.tmp 1), none⟩, ⟨some 40, .call 75 [(.tmp 38), (.tmp 39)], none⟩, ⟨some 41, .mov (.tmp 1), none⟩, ⟨some 42, .call 74 [(.tmp 40), (.tmp 41)], none⟩, ⟨some 4, .mov (.tmp 42), none⟩]) .ret)))))
@[reducible] def rv60 : List RV := [.tmp 4]
theorem low60 : lowC Tryd.prog tau Tryd.f60.ntmps (Tryd.f60.body.getD .skip) = some (erase ic60) := by kernel_rfl
theorem res60 : lowR Tryd.prog Tryd.f60.results.toList = some rv60 := by kernel_rfl
theorem bod60 : Tryd.f60.body = some (Tryd.f60.body.getD .skip) := by kernel_rfl
theorem cal60 : callable Tryd.prog 60 = true := by kernel_rfl

end Go.Proofs.YthghcialeghgoaaDoorE

/-! Digits, as the program tells them (strings.Trim by the library's contract). -/
namespace Go.Proofs
open Go.Shelf
shelf_lay Lays.n160 Nm 160 at Tryd as Tryd.lays160
end Go.Proofs
namespace Go.Proofs.YthghcialeghgoaaDoorE
open Go Go.RowKit Go.Shelf
set_option linter.unusedSimpArgs false
set_option linter.unusedVariables false
set_option maxRecDepth 20000
set_option maxHeartbeats 4000000

def cutD : ByteArray := ⟨#[48, 49, 50, 51, 52, 53, 54, 55, 56, 57, 42, 35]⟩
def trimV (s : ByteArray) : ByteArray := ⟨(Lib.trimS s.data.toList [48, 49, 50, 51, 52, 53, 54, 55, 56, 57, 42, 35]).toArray⟩
theorem dw_nil (p : UInt8 → Bool) : ∀ l : List UInt8, l.dropWhile p = [] ↔ ∀ b ∈ l, p b = true
  | [] => by simp
  | x :: r => by
    rw [List.dropWhile_cons]
    cases hp : p x with
    | true => simp only [if_true, dw_nil p r]; exact ⟨fun h b hb => by rcases List.mem_cons.1 hb with rfl | hb; exact hp; exact h b hb, fun h b hb => h b (List.mem_cons_of_mem _ hb)⟩
    | false =>
      constructor
      · intro h; simp at h
      · intro h; have := h x (List.mem_cons_self ..); rw [hp] at this; cases this
theorem tw_mem (p : UInt8 → Bool) : ∀ l : List UInt8, ∀ b ∈ l.takeWhile p, p b = true
  | [], b, h => by simp at h
  | x :: r, b, h => by
    rw [List.takeWhile_cons] at h
    cases hp : p x with
    | true =>
      rw [hp, if_pos rfl] at h
      rcases List.mem_cons.1 h with rfl | h
      · exact hp
      · exact tw_mem p r b h
    | false => rw [hp] at h; simp at h
theorem trimS_nil (l cs : List UInt8) : Lib.trimS l cs = [] ↔ ∀ b ∈ l, cs.contains b = true := by
  unfold Lib.trimS Lib.trimLeftS Lib.trimRightS
  constructor
  · intro h b hb
    have h1 : ∀ x ∈ (l.reverse.dropWhile (cs.contains ·)).reverse, cs.contains x = true := by
      exact (dw_nil _ _).1 h
    have h2 : l.reverse.takeWhile (cs.contains ·) ++ l.reverse.dropWhile (cs.contains ·) = l.reverse := List.takeWhile_append_dropWhile
    have hb2 : b ∈ l.reverse := List.mem_reverse.2 hb
    rw [← h2] at hb2
    rcases List.mem_append.1 hb2 with h3 | h3
    · exact tw_mem _ _ b h3
    · exact h1 b (List.mem_reverse.2 h3)
  · intro h
    have h1 : l.reverse.dropWhile (cs.contains ·) = [] := by
      rw [dw_nil]
      intro x hx
      exact h x (List.mem_reverse.1 hx)
    rw [h1]; rfl
theorem dig_256 : ∀ n : Fin 256, digV ((n.val : Nat) : Int) = ([48, 49, 50, 51, 52, 53, 54, 55, 56, 57, 42, 35] : List UInt8).contains (UInt8.ofNat n.val) := by decide +kernel
theorem dig_byte (b : UInt8) : digV ((b.toNat : Nat) : Int) = ([48, 49, 50, 51, 52, 53, 54, 55, 56, 57, 42, 35] : List UInt8).contains b := by
  have := dig_256 ⟨b.toNat, b.toNat_lt⟩
  dsimp only at this
  rw [UInt8.ofNat_toNat] at this
  exact this
theorem allDig_iff (s : ByteArray) : allDig s ↔ ∀ b ∈ s.data.toList, ([48, 49, 50, 51, 52, 53, 54, 55, 56, 57, 42, 35] : List UInt8).contains b = true := by
  have hlen : s.data.toList.length = s.size := Array.length_toList
  constructor
  · intro h b hb
    obtain ⟨i, hi, rfl⟩ := List.getElem_of_mem hb
    have := h i (by rw [← hlen]; exact hi)
    unfold byteV at this
    rw [List.getD, List.getElem?_eq_getElem hi] at this
    rw [← dig_byte]; exact this
  · intro h i hi
    have hi2 : i < s.data.toList.length := by rw [hlen]; exact hi
    unfold byteV
    rw [List.getD, List.getElem?_eq_getElem hi2]
    show digV _ = true
    rw [Option.getD_some, dig_byte]
    exact h _ (List.getElem_mem hi2)
theorem trim_nil (s : ByteArray) : trimV s = ⟨#[]⟩ ↔ allDig s := by
  rw [allDig_iff, ← trimS_nil]
  unfold trimV
  constructor
  · intro h
    have := congrArg (fun x : ByteArray => x.data.toList) h
    simpa using this
  · intro h; rw [h]
def spTrim : Spec := ⟨fun _ _ => [], fun args objs K => match args, objs with
  | [.v (.string s), .v (.string c)], [] => (c = cutD ∧ s.size ≤ 140737488351232) ∧ K (.v (.string (trimV s))) [] 0
  | _, _ => False, false⟩
theorem spTrim_t {L : Hp} {a : List AVal} : Spec.take spTrim L a = [] := id rfl
theorem spTrim_k : Spec.keep spTrim = false := id rfl
theorem spTrim_f {s} {c} {K : AVal → Hp → Nat → Prop} : Spec.f spTrim ([.v (.string s), .v (.string c)]) ([]) K = ((c = cutD ∧ s.size ≤ 140737488351232) ∧ K (.v (.string (trimV s))) [] 0) := id rfl
theorem valid60 : Valid Tryd.prog 60 spTrim := by
  intro W C ρ args vals objs K hd hp h
  simp only [spTrim] at h
  split at h
  · rename_i s c
    obtain ⟨⟨rfl, hs⟩, h⟩ := h
    obtain ⟨v0, r0, rfl, d0, e0⟩ := hd.cons_inv
    obtain ⟨v1, r1, rfl, d1, e1⟩ := e0.cons_inv
    obtain rfl := e1.nil_inv
    obtain rfl := den_v d0
    obtain rfl := den_v d1
    have hcon := Any.strings_Trim_laid Tryd.lays160 (by kernel_rfl) s cutD W (by omega) (by decide) (ascii_of_all (by decide))
    change Calls Tryd.prog 60 _ _ _ at hcon
    refine hcon.mono fun e w' he => ?_
    obtain ⟨rfl, hB⟩ := he
    exact ⟨_, _, [], 0, ρ, rfl, .v _, hp.below hB, fun i hi => rfl, h⟩
  · exact h.elim
def spDigitsOk : Spec := ⟨fun _ _ => [], fun args objs K => match args, objs with
  | [.v (.string s)], [] => s.size ≤ 140737488351232 ∧ K (.v (.bool (decide (digsP s)))) [] 0
  | _, _ => False, false⟩
theorem spDigitsOk_t {L : Hp} {a : List AVal} : Spec.take spDigitsOk L a = [] := id rfl
theorem spDigitsOk_k : Spec.keep spDigitsOk = false := id rfl
theorem spDigitsOk_f {s} {K : AVal → Hp → Nat → Prop} : Spec.f spDigitsOk ([.v (.string s)]) ([]) K = (s.size ≤ 140737488351232 ∧ K (.v (.bool (decide (digsP s)))) [] 0) := id rfl
theorem valid36 : Valid Tryd.prog 36 spDigitsOk := by
  refine validI (Γ := lk [(60, spTrim)]) Tryd.func36 bod36 low36 res36 (good_of ⟨⟨cal60, valid60⟩, trivial⟩) ?_
  intro E args objs K h hE hG hP
  simp only [spDigitsOk] at h
  split at h
  · refine ⟨by simp [Tryd.ntmps36], ?_⟩
    rename_i s
    obtain ⟨hs, h⟩ := h
    have hc : (⟨#[48, 49, 50, 51, 52, 53, 54, 55, 56, 57, 42, 35]⟩ : ByteArray) = cutD := rfl
    by_cases h1 : s.size ≤ 20
    · have e1 : ((s.size : Int) ≤ 20) = True := by apply eq_true; omega
      simp (config := { maxSteps := 2000000 }) only [go_sem, hG, hP, Nat.reduceEqDiff, ↓reduceIte, reduceCtorEq, Nat.reduceAdd, Nat.reduceSub, Nat.reduceMul, Nat.reduceLT, Nat.reduceLeDiff, Int.reduceAdd, Int.reduceSub, Int.reduceMul, Int.reduceLT, Int.reduceLE, Int.reduceEq, Int.reduceNeg, Int.reduceNe, Int.reduceGE, Int.reduceGT, Nat.reduceBEq, Int.reduceToNat,  spTrim_f, spTrim_t, spTrim_k, e1, hc]
      (try simp (disch := omega) only [wrap_id])
      repeat (refine And.intro (by first | omega | (simp; done) | (simp; omega) | (unfold appRoom; omega)) ?_)
      refine ⟨_, _, _, ?_, h⟩
      simp (config := { maxSteps := 2000000 }) only [go_sem, hG, hP, Nat.reduceEqDiff, ↓reduceIte, reduceCtorEq, Nat.reduceAdd, Nat.reduceSub, Nat.reduceMul, Nat.reduceLT, Nat.reduceLeDiff, Int.reduceAdd, Int.reduceSub, Int.reduceMul, Int.reduceLT, Int.reduceLE, Int.reduceEq, Int.reduceNeg, Int.reduceNe, Int.reduceGE, Int.reduceGT, Nat.reduceBEq, Int.reduceToNat]
      all_goals (congr 1; rw [decide_eq_decide, trim_nil]; exact ⟨fun e => ⟨h1, e⟩, fun e => e.2⟩)
    · have e1 : ((s.size : Int) ≤ 20) = False := by apply eq_false; omega
      rw [decide_eq_false (fun e => h1 e.1)] at h
      simp (config := { maxSteps := 2000000 }) only [go_sem, hG, hP, Nat.reduceEqDiff, ↓reduceIte, reduceCtorEq, Nat.reduceAdd, Nat.reduceSub, Nat.reduceMul, Nat.reduceLT, Nat.reduceLeDiff, Int.reduceAdd, Int.reduceSub, Int.reduceMul, Int.reduceLT, Int.reduceLE, Int.reduceEq, Int.reduceNeg, Int.reduceNe, Int.reduceGE, Int.reduceGT, Nat.reduceBEq, Int.reduceToNat,  spTrim_f, spTrim_t, spTrim_k, e1, hc]
      refine ⟨_, _, _, ?_, h⟩
      simp (config := { maxSteps := 2000000 }) only [go_sem, hG, hP, Nat.reduceEqDiff, ↓reduceIte, reduceCtorEq, Nat.reduceAdd, Nat.reduceSub, Nat.reduceMul, Nat.reduceLT, Nat.reduceLeDiff, Int.reduceAdd, Int.reduceSub, Int.reduceMul, Int.reduceLT, Int.reduceLE, Int.reduceEq, Int.reduceNeg, Int.reduceNe, Int.reduceGE, Int.reduceGT, Nat.reduceBEq, Int.reduceToNat]
  · exact h.elim
end Go.Proofs.YthghcialeghgoaaDoorE

/-! The code of a function, in the engine's words. -/
namespace Go.Proofs.YthghcialeghgoaaDoorE
open Go Go.RowKit
@[reducible] def ic13 : IC := (.seq (.ops [⟨some 2, .mov (.const (.bool false)), none⟩]) (.seq (.seq (.ops [⟨some 6, .mov (.tmp 0), none⟩, ⟨some 7, .len (.tmp 6), none⟩, ⟨some 8, .bin .gtr (.tmp 7) (.const (.int .i64 60)), none⟩]) (.cond (.tmp 8) (.seq (.ops [⟨some 2, .mov (.const (.bool false)), none⟩]) .ret) .skip)) (.seq (.ops [⟨some 9, .mmk .str false, none⟩, ⟨some 3, .mov (.tmp 9), none⟩]) (.seq (.seq (.ops [⟨some 10, .mov (.tmp 0), none⟩, ⟨some 11, .len (.tmp 10), none⟩, ⟨some 12, .mov (.const (.int .i64 0)), none⟩]) (.block 0 (.loop (.seq (.ops [⟨some 13, .bin .lss (.tmp 12) (.tmp 11), none⟩]) (.seq (.cond (.tmp 13) .skip (.exit 0)) (.seq (.block 1 (.seq (.ops [⟨some 14, .iadr 6 (.tmp 10) (.tmp 12), none⟩, ⟨some 15, .load 6 true (.tmp 14), none⟩, ⟨some 5, .new [(.string ⟨#[]⟩), (.int .i64 0), (.int .i64 0), (.int .i64 0), (.int .i64 0), (.string ⟨#[]⟩)], none⟩, ⟨none, .store 6 (.tmp 5) (.tmp 15), none⟩]) (.seq (.seq (.ops [⟨some 16, .fadr 0 (.tmp 5), none⟩, ⟨some 17, .load 1 false (.tmp 16), none⟩, ⟨some 18, .call 36 [(.tmp 17)], none⟩, ⟨some 19, .una .not (.tmp 18), none⟩, ⟨some 20, .mov (.tmp 19), none⟩, ⟨some 21, .fadr 0 (.tmp 5), some (20, false)⟩, ⟨some 22, .load 1 false (.tmp 21), some (20, false)⟩, ⟨some 23, .bin .eql (.tmp 22) (.const (.string ⟨#[]⟩)), some (20, false)⟩, ⟨some 24, .pick (.tmp 20) (.const (.bool true)) (.tmp 23), none⟩, ⟨some 25, .mov (.tmp 24), none⟩, ⟨some 26, .mov (.tmp 3), some (25, false)⟩, ⟨some 27, .fadr 0 (.tmp 5), some (25, false)⟩, ⟨some 28, .load 1 false (.tmp 27), some (25, false)⟩, ⟨some 29, .mget .str false false (.tmp 26) (.tmp 28), some (25, false)⟩, ⟨some 30, .pick (.tmp 25) (.const (.bool true)) (.tmp 29), none⟩, ⟨some 31, .mov (.tmp 30), none⟩, ⟨some 32, .fadr 1 (.tmp 5), some (31, false)⟩, ⟨some 33, .load 1 false (.tmp 32), some (31, false)⟩, ⟨some 34, .fadr 0 (.tmp 5), some (31, false)⟩, ⟨some 35, .load 1 false (.tmp 34), some (31, false)⟩, ⟨some 36, .slen (.tmp 35), some (31, false)⟩, ⟨some 37, .bin .lss (.tmp 33) (.tmp 36), some (31, false)⟩, ⟨some 38, .pick (.tmp 31) (.const (.bool true)) (.tmp 37), none⟩, ⟨some 39, .mov (.tmp 38), none⟩, ⟨some 40, .fadr 1 (.tmp 5), some (39, false)⟩, ⟨some 41, .load 1 false (.tmp 40), some (39, false)⟩, ⟨some 42, .fadr 2 (.tmp 5), some (39, false)⟩, ⟨some 43, .load 1 false (.tmp 42), some (39, false)⟩, ⟨some 44, .bin .gtr (.tmp 41) (.tmp 43), some (39, false)⟩, ⟨some 45, .pick (.tmp 39) (.const (.bool true)) (.tmp 44), none⟩, ⟨some 46, .mov (.tmp 45), none⟩, ⟨some 47, .fadr 2 (.tmp 5), some (46, false)⟩, ⟨some 48, .load 1 false (.tmp 47), some (46, false)⟩, ⟨some 49, .bin .gtr (.tmp 48) (.const (.int .i64 20)), some (46, false)⟩, ⟨some 50, .pick (.tmp 46) (.const (.bool true)) (.tmp 49), none⟩, ⟨some 51, .mov (.tmp 50), none⟩, ⟨some 52, .fadr 3 (.tmp 5), some (51, false)⟩, ⟨some 53, .load 1 false (.tmp 52), some (51, false)⟩, ⟨some 54, .call 37 [(.tmp 53), (.const (.int .i64 0)), (.const (.int .i64 1000))], some (51, false)⟩, ⟨some 55, .una .not (.tmp 54), some (51, false)⟩, ⟨some 56, .pick (.tmp 51) (.const (.bool true)) (.tmp 55), none⟩, ⟨some 57, .mov (.tmp 56), none⟩, ⟨some 58, .fadr 4 (.tmp 5), some (57, false)⟩, ⟨some 59, .load 1 false (.tmp 58), some (57, false)⟩, ⟨some 60, .fadr 1 (.tmp 5), some (57, false)⟩, ⟨some 61, .load 1 false (.tmp 60), some (57, false)⟩, ⟨some 62, .call 37 [(.tmp 59), (.const (.int .i64 0)), (.tmp 61)], some (57, false)⟩, ⟨some 63, .una .not (.tmp 62), some (57, false)⟩, ⟨some 64, .pick (.tmp 57) (.const (.bool true)) (.tmp 63), none⟩, ⟨some 65, .mov (.tmp 64), none⟩, ⟨some 66, .fadr 5 (.tmp 5), some (65, false)⟩, ⟨some 67, .load 1 false (.tmp 66), some (65, false)⟩, ⟨some 68, .call 36 [(.tmp 67)], some (65, false)⟩, ⟨some 69, .una .not (.tmp 68), some (65, false)⟩, ⟨some 70, .pick (.tmp 65) (.const (.bool true)) (.tmp 69), none⟩, ⟨some 71, .mov (.tmp 70), none⟩, ⟨some 72, .fadr 5 (.tmp 5), some (71, false)⟩, ⟨some 73, .load 1 false (.tmp 72), some (71, false)⟩, ⟨some 74, .slen (.tmp 73), some (71, false)⟩, ⟨some 75, .fadr 2 (.tmp 5), some (71, false)⟩, ⟨some 76, .load 1 false (.tmp 75), some (71, false)⟩, ⟨some 77, .bin .add (.tmp 74) (.tmp 76), some (71, false)⟩, ⟨some 78, .fadr 4 (.tmp 5), some (71, false)⟩, ⟨some 79, .load 1 false (.tmp 78), some (71, false)⟩, ⟨some 80, .bin .sub (.tmp 77) (.tmp 79), some (71, false)⟩, ⟨some 81, .bin .gtr (.tmp 80) (.const (.int .i64 20)), some (71, false)⟩, ⟨some 82, .pick (.tmp 71) (.const (.bool true)) (.tmp 81), none⟩]) (.cond (.tmp 82) (.seq (.ops [⟨some 2, .mov (.const (.bool false)), none⟩]) .ret) .skip)) (.ops [⟨some 83, .mov (.tmp 3), none⟩, ⟨some 84, .fadr 0 (.tmp 5), none⟩, ⟨some 85, .load 1 false (.tmp 84), none⟩, ⟨none, .mput .str false (.tmp 83) (.tmp 85) (.const (.bool true)), none⟩])))) (.ops [⟨some 86, .bin .add (.tmp 12) (.const (.int .i64 1)), none⟩, ⟨some 12, .mov (.tmp 86), none⟩]))))))) (.seq (.ops [⟨some 2, .mov (.const (.bool true)), none⟩]) .ret)))))
@[reducible] def rv13 : List RV := [.tmp 2]
theorem low13 : lowC Tryd.prog tau Tryd.f13.ntmps (Tryd.f13.body.getD .skip) = some (erase ic13) := by kernel_rfl
theorem res13 : lowR Tryd.prog Tryd.f13.results.toList = some rv13 := by kernel_rfl
theorem bod13 : Tryd.f13.body = some (Tryd.f13.body.getD .skip) := by kernel_rfl
theorem cal13 : callable Tryd.prog 13 = true := by kernel_rfl

end Go.Proofs.YthghcialeghgoaaDoorE

/-! The program's RulesOk. -/
namespace Go.Proofs.YthghcialeghgoaaDoorE
open Go Go.RowKit
set_option linter.unusedSimpArgs false
set_option linter.unusedVariables false
set_option maxRecDepth 20000
set_option maxHeartbeats 4000000

def esR (l : List Rul) : Nat → List (Key × ByteArray)
  | 0 => []
  | i + 1 => (.s (l.getD i Rulz).pre, ⟨#[]⟩) :: esR l i
theorem esR_has (l : List Rul) (p : ByteArray) : ∀ i, hasM (esR l i) (.s p) = true ↔ ∃ j, j < i ∧ (l.getD j Rulz).pre = p
  | 0 => by simp [esR, hasM, getM]
  | i + 1 => by
    have ih := esR_has l p i
    unfold hasM at ih ⊢
    rw [esR, getM]
    by_cases e : (Key.s (l.getD i Rulz).pre) = Key.s p
    · rw [if_pos e]
      simp only [Option.isSome_some, true_iff]
      exact ⟨i, by omega, by injection e⟩
    · rw [if_neg e, ih]
      constructor
      · rintro ⟨j, hj, h⟩; exact ⟨j, by omega, h⟩
      · rintro ⟨j, hj, h⟩
        by_cases e2 : j = i
        · subst e2; exact absurd (by rw [h]) e
        · exact ⟨j, by omega, h⟩
theorem size_pos {a : ByteArray} (h : ¬ a = ⟨#[]⟩) : 0 < a.size := by
  rcases Nat.eq_zero_or_pos a.size with e | e
  · exfalso; apply h
    have h2 : a.data.size = 0 := e
    have : a.data = #[] := Array.eq_empty_of_size_eq_zero h2
    cases a; simp_all
  · exact e
theorem valid13 : Valid Tryd.prog 13 spRulesOk := by
  refine validI (Γ := lk [(36, spDigitsOk), (37, spIn)]) Tryd.func13 bod13 low13 res13 (good_of ⟨⟨cal36, valid36⟩, ⟨cal37, valid37⟩, trivial⟩) ?_
  intro E args objs K h hE hG hP
  simp only [spRulesOk] at h
  split at h
  · refine ⟨by simp [Tryd.ntmps13], ?_⟩
    rename_i l
    obtain ⟨⟨hs, hl⟩, h⟩ := h
    by_cases hz : 60 < l.length
    · have e1 : ((l.length : Int) > 60) = True := by apply eq_true; omega
      rw [decide_eq_false (show ¬ rulesP l from fun q => by have := q.2; omega)] at h
      simp (config := { maxSteps := 2000000 }) only [go_sem, hG, hP, Nat.reduceEqDiff, ↓reduceIte, reduceCtorEq, Nat.reduceAdd, Nat.reduceSub, Nat.reduceMul, Nat.reduceLT, Nat.reduceLeDiff, Int.reduceAdd, Int.reduceSub, Int.reduceMul, Int.reduceLT, Int.reduceLE, Int.reduceEq, Int.reduceNeg, Int.reduceNe, Int.reduceGE, Int.reduceGT, Nat.reduceBEq, Int.reduceToNat,  e1]
      refine ⟨_, _, _, ?_, h⟩
      simp (config := { maxSteps := 2000000 }) only [go_sem, hG, hP, Nat.reduceEqDiff, ↓reduceIte, reduceCtorEq, Nat.reduceAdd, Nat.reduceSub, Nat.reduceMul, Nat.reduceLT, Nat.reduceLeDiff, Int.reduceAdd, Int.reduceSub, Int.reduceMul, Int.reduceLT, Int.reduceLE, Int.reduceEq, Int.reduceNeg, Int.reduceNe, Int.reduceGE, Int.reduceGT, Nat.reduceBEq, Int.reduceToNat]
    · have e1 : ((l.length : Int) > 60) = False := by apply eq_false; omega
      simp (config := { maxSteps := 2000000 }) only [go_sem, hG, hP, Nat.reduceEqDiff, ↓reduceIte, reduceCtorEq, Nat.reduceAdd, Nat.reduceSub, Nat.reduceMul, Nat.reduceLT, Nat.reduceLeDiff, Int.reduceAdd, Int.reduceSub, Int.reduceMul, Int.reduceLT, Int.reduceLE, Int.reduceEq, Int.reduceNeg, Int.reduceNe, Int.reduceGE, Int.reduceGT, Nat.reduceBEq, Int.reduceToNat,  e1]
      refine loopI hE (fun i : Nat => ⟨[(3, .mp 0), (10, .rs .rule l), (11, .v (.int .i64 l.length)), (12, .v (.int .i64 i))], [(0, .set .str false (esR l i))], 1, Tryd.f13.ntmps⟩) (fun i => i ≤ l.length ∧ ∀ j, j < i → ruleP (l.getD j Rulz) ∧ ∀ k, k < j → (l.getD k Rulz).pre ≠ (l.getD j Rulz).pre) (fun i => l.length - i) ⟨0, ⟨Nat.zero_le _, fun j hj => by omega⟩, SubS.weak ?_⟩ ?_
      · simp (config := { maxSteps := 2000000 }) only [go_sem, hG, hP, Nat.reduceEqDiff, ↓reduceIte, reduceCtorEq, Nat.reduceAdd, Nat.reduceSub, Nat.reduceMul, Nat.reduceLT, Nat.reduceLeDiff, Int.reduceAdd, Int.reduceSub, Int.reduceMul, Int.reduceLT, Int.reduceLE, Int.reduceEq, Int.reduceNeg, Int.reduceNe, Int.reduceGE, Int.reduceGT, Nat.reduceBEq, Int.reduceToNat,  esR]
        repeat' (first | with_reducible rfl | (refine And.intro ?_ ?_) | (refine congrArg (Value.int _) ?_; omega) | omega)
      · rintro i ⟨hi, hpre⟩
        dsimp only at hi hpre ⊢
        by_cases hi2 : i < l.length
        · have e2 : ((i : Int) < l.length) = True := by apply eq_true; omega
          obtain ⟨z1, z2⟩ := hs i hi2
          have hes := esR_has l (l.getD i Rulz).pre i
          have hnx : esR l (i + 1) = (.s (l.getD i Rulz).pre, ⟨#[]⟩) :: esR l i := rfl
          have hbadl : (¬ ruleP (l.getD i Rulz) ∨ hasM (esR l i) (.s (l.getD i Rulz).pre) = true) → ¬ rulesP l := fun e q => by
            obtain ⟨q1, q2⟩ := q.1 i hi2
            rcases e with e | e
            · exact e q1
            · obtain ⟨j, hj, hj2⟩ := hes.1 e
              exact q2 j hj hj2
          have hgood : ruleP (l.getD i Rulz) → hasM (esR l i) (.s (l.getD i Rulz).pre) = false → ∀ j, j < i + 1 → ruleP (l.getD j Rulz) ∧ ∀ k, k < j → (l.getD k Rulz).pre ≠ (l.getD j Rulz).pre := fun q1 q2 j hj => by
            by_cases e : j < i
            · exact hpre j e
            · obtain rfl : j = i := by omega
              refine ⟨q1, fun k hk hk2 => ?_⟩
              rw [hes.2 ⟨k, hk, hk2⟩] at q2
              cases q2
          have hcc : l.getD i Rulz = l.getD i (⟨⟨#[]⟩, 0, 0, 0, 0, ⟨#[]⟩⟩ : Rul) := rfl
          rw [hcc] at hbadl hgood z1 z2 hnx
          generalize hcd : l.getD i (⟨⟨#[]⟩, 0, 0, 0, 0, ⟨#[]⟩⟩ : Rul) = c at hbadl hgood z1 z2 hnx
          obtain ⟨a0, a1, a2, a3, a4, a5⟩ := c
          dsimp only at hbadl hgood z1 z2 hnx
          have sp := @size_pos a0
          by_cases hA : digsP a0 ∧ 0 < a0.size ∧ hasM (esR l i) (.s a0) = false ∧ (a0.size : Int) ≤ a1 ∧ a1 ≤ a2 ∧ a2 ≤ 20 ∧ (0 ≤ a3 ∧ a3 ≤ 1000) ∧ (0 ≤ a4 ∧ a4 ≤ a1) ∧ digsP a5
          · obtain ⟨q1, q2, q3, q4, q5, q6, q7, q8, q9⟩ := hA
            have f1 := eq_true q1
            have f2 : (a0 = ⟨#[]⟩) = False := eq_false (fun e => by rw [e] at q2; exact absurd q2 (by decide))
            have f3 : (a1 < (a0.size : Int)) = False := eq_false (by omega)
            have f4 : (a1 > a2) = False := eq_false (by omega)
            have f5 : (a2 > 20) = False := eq_false (by omega)
            have f6 := eq_true q7
            have f7 := eq_true q8
            have f8 := eq_true q9
            have hz5 := q9.1
            have w1 : wr .i64 ((a5.size : Int) + a2) = (a5.size : Int) + a2 := wrap_id (by omega) (by omega)
            have w2 : wr .i64 ((a5.size : Int) + a2 - a4) = (a5.size : Int) + a2 - a4 := wrap_id (by omega) (by omega)
            by_cases hB : (a5.size : Int) + a2 - a4 ≤ 20
            · have f9 : ((a5.size : Int) + a2 - a4 > 20) = False := eq_false (by omega)
              have hr : ruleP ⟨a0, a1, a2, a3, a4, a5⟩ := ⟨q1, q2, q4, q5, q6, q7, q8, q9, hB⟩
              simp (config := { maxSteps := 2000000 }) only [go_sem, hG, hP, Nat.reduceEqDiff, ↓reduceIte, reduceCtorEq, Nat.reduceAdd, Nat.reduceSub, Nat.reduceMul, Nat.reduceLT, Nat.reduceLeDiff, Int.reduceAdd, Int.reduceSub, Int.reduceMul, Int.reduceLT, Int.reduceLE, Int.reduceEq, Int.reduceNeg, Int.reduceNe, Int.reduceGE, Int.reduceGT, Nat.reduceBEq, Int.reduceToNat,  e2, hcd, spDigitsOk_f, spDigitsOk_t, spDigitsOk_k, spIn_f, spIn_t, spIn_k, z1, z2, f1, f2, q3, f3, f4, f5, f6, f7, f8, w1, w2, f9]
              (try simp (disch := omega) only [wrap_id])
              repeat' (first | (refine And.intro ?_ ?_) | (with_reducible intro _))
              all_goals first
                | omega
                | (refine ⟨i + 1, ⟨⟨by omega, hgood hr q3⟩, by omega⟩, SubS.weak ?_⟩
                   simp (config := { maxSteps := 2000000 }) only [go_sem, hG, hP, Nat.reduceEqDiff, ↓reduceIte, reduceCtorEq, Nat.reduceAdd, Nat.reduceSub, Nat.reduceMul, Nat.reduceLT, Nat.reduceLeDiff, Int.reduceAdd, Int.reduceSub, Int.reduceMul, Int.reduceLT, Int.reduceLE, Int.reduceEq, Int.reduceNeg, Int.reduceNe, Int.reduceGE, Int.reduceGT, Nat.reduceBEq, Int.reduceToNat,  hnx]
                   repeat' (first | with_reducible rfl | (refine And.intro ?_ ?_) | (refine congrArg (Value.int _) ?_; omega) | omega))
            · have f9 : ((a5.size : Int) + a2 - a4 > 20) = True := eq_true (by omega)
              have hn := hbadl (.inl fun q => hB q.2.2.2.2.2.2.2.2)
              rw [decide_eq_false hn] at h
              simp (config := { maxSteps := 2000000 }) only [go_sem, hG, hP, Nat.reduceEqDiff, ↓reduceIte, reduceCtorEq, Nat.reduceAdd, Nat.reduceSub, Nat.reduceMul, Nat.reduceLT, Nat.reduceLeDiff, Int.reduceAdd, Int.reduceSub, Int.reduceMul, Int.reduceLT, Int.reduceLE, Int.reduceEq, Int.reduceNeg, Int.reduceNe, Int.reduceGE, Int.reduceGT, Nat.reduceBEq, Int.reduceToNat,  e2, hcd, spDigitsOk_f, spDigitsOk_t, spDigitsOk_k, spIn_f, spIn_t, spIn_k, z1, z2, f1, f2, q3, f3, f4, f5, f6, f7, f8, w1, w2, f9]
              (try simp (disch := omega) only [wrap_id])
              repeat' (first | (refine And.intro ?_ ?_) | (with_reducible intro _))
              all_goals first
                | omega
                | (refine ⟨_, _, _, ?_, h⟩; simp (config := { maxSteps := 2000000 }) only [go_sem, hG, hP, Nat.reduceEqDiff, ↓reduceIte, reduceCtorEq, Nat.reduceAdd, Nat.reduceSub, Nat.reduceMul, Nat.reduceLT, Nat.reduceLeDiff, Int.reduceAdd, Int.reduceSub, Int.reduceMul, Int.reduceLT, Int.reduceLE, Int.reduceEq, Int.reduceNeg, Int.reduceNe, Int.reduceGE, Int.reduceGT, Nat.reduceBEq, Int.reduceToNat]; done)
          · have hn : ¬ rulesP l := by
              apply hbadl
              by_cases e : hasM (esR l i) (.s a0) = true
              · exact .inr e
              · refine .inl fun q => hA ?_
                obtain ⟨q1, q2, q4, q5, q6, q7, q8, q9, _⟩ := q
                exact ⟨q1, q2, by simpa using e, q4, q5, q6, q7, q8, q9⟩
            rw [decide_eq_false hn] at h
            simp (config := { maxSteps := 2000000 }) only [go_sem, hG, hP, Nat.reduceEqDiff, ↓reduceIte, reduceCtorEq, Nat.reduceAdd, Nat.reduceSub, Nat.reduceMul, Nat.reduceLT, Nat.reduceLeDiff, Int.reduceAdd, Int.reduceSub, Int.reduceMul, Int.reduceLT, Int.reduceLE, Int.reduceEq, Int.reduceNeg, Int.reduceNe, Int.reduceGE, Int.reduceGT, Nat.reduceBEq, Int.reduceToNat,  e2, hcd, spDigitsOk_f, spDigitsOk_t, spDigitsOk_k, spIn_f, spIn_t, spIn_k, z1, z2]
            repeat' (first | (refine And.intro ?_ ?_) | (with_reducible intro _))
            all_goals first
              | omega
              | (refine ⟨_, _, _, ?_, h⟩; simp (config := { maxSteps := 2000000 }) only [go_sem, hG, hP, Nat.reduceEqDiff, ↓reduceIte, reduceCtorEq, Nat.reduceAdd, Nat.reduceSub, Nat.reduceMul, Nat.reduceLT, Nat.reduceLeDiff, Int.reduceAdd, Int.reduceSub, Int.reduceMul, Int.reduceLT, Int.reduceLE, Int.reduceEq, Int.reduceNeg, Int.reduceNe, Int.reduceGE, Int.reduceGT, Nat.reduceBEq, Int.reduceToNat]; done)
              | (exfalso; apply hA; refine ⟨?_, sp (by assumption), ?_, by omega, by omega, by omega, by omega, by omega, ?_⟩ <;> first | assumption | (simp_all; done) | exact ⟨by assumption, by assumption⟩)
              | skip
            skip
            done
        · have e2 : ((i : Int) < l.length) = False := by apply eq_false; omega
          rw [decide_eq_true (show rulesP l from ⟨fun j hj => hpre j (by omega), by omega⟩)] at h
          simp (config := { maxSteps := 2000000 }) only [go_sem, hG, hP, Nat.reduceEqDiff, ↓reduceIte, reduceCtorEq, Nat.reduceAdd, Nat.reduceSub, Nat.reduceMul, Nat.reduceLT, Nat.reduceLeDiff, Int.reduceAdd, Int.reduceSub, Int.reduceMul, Int.reduceLT, Int.reduceLE, Int.reduceEq, Int.reduceNeg, Int.reduceNe, Int.reduceGE, Int.reduceGT, Nat.reduceBEq, Int.reduceToNat,  e2]
          refine ⟨_, _, _, ?_, h⟩
          simp (config := { maxSteps := 2000000 }) only [go_sem, hG, hP, Nat.reduceEqDiff, ↓reduceIte, reduceCtorEq, Nat.reduceAdd, Nat.reduceSub, Nat.reduceMul, Nat.reduceLT, Nat.reduceLeDiff, Int.reduceAdd, Int.reduceSub, Int.reduceMul, Int.reduceLT, Int.reduceLE, Int.reduceEq, Int.reduceNeg, Int.reduceNe, Int.reduceGE, Int.reduceGT, Nat.reduceBEq, Int.reduceToNat]
  · exact h.elim
end Go.Proofs.YthghcialeghgoaaDoorE

/-! The code of a function, in the engine's words. -/
namespace Go.Proofs.YthghcialeghgoaaDoorE
open Go Go.RowKit
@[reducible] def ic47 : IC := (.seq (.ops [⟨some 2, .new [(.int .i64 0), (.int .i64 0), (.string ⟨#[]⟩), (.int .i64 0)], none⟩]) (.seq (.ops [⟨some 3, .mov (.tmp 0), none⟩, ⟨some 4, .bld [(.int .i64 0), (.int .i64 0), (.string ⟨#[]⟩), (.int .i64 0)] [(0, 1, (.tmp 3)), (1, 1, (.const (.int .i64 (-1)))), (3, 1, (.const (.int .i64 (-1))))], none⟩, ⟨none, .store 4 (.tmp 2) (.tmp 4), none⟩]) .ret))
@[reducible] def rv47 : List RV := [.cell 2 4 true]
theorem low47 : lowC Tryd.prog tau Tryd.f47.ntmps (Tryd.f47.body.getD .skip) = some (erase ic47) := by kernel_rfl
theorem res47 : lowR Tryd.prog Tryd.f47.results.toList = some rv47 := by kernel_rfl
theorem bod47 : Tryd.f47.body = some (Tryd.f47.body.getD .skip) := by kernel_rfl
theorem cal47 : callable Tryd.prog 47 = true := by kernel_rfl

end Go.Proofs.YthghcialeghgoaaDoorE

/-! The code of a function, in the engine's words. -/
namespace Go.Proofs.YthghcialeghgoaaDoorE
open Go Go.RowKit
@[reducible] def ic48 : IC := (.seq (.ops [⟨some 4, .mov (.const (.bool false)), none⟩]) (.seq (.ops [⟨some 5, .mov (.tmp 0), none⟩, ⟨some 6, .slen (.tmp 5), none⟩, ⟨some 7, .mov (.tmp 1), none⟩, ⟨some 8, .slen (.tmp 7), none⟩, ⟨some 9, .bin .geq (.tmp 6) (.tmp 8), none⟩, ⟨some 10, .mov (.tmp 9), none⟩, ⟨some 11, .mov (.tmp 0), some (10, true)⟩, ⟨some 12, .mov (.tmp 1), some (10, true)⟩, ⟨some 13, .slen (.tmp 12), some (10, true)⟩, ⟨some 14, .sslc (.tmp 11) none (some (.tmp 13)), some (10, true)⟩, ⟨some 15, .mov (.tmp 1), some (10, true)⟩, ⟨some 16, .bin .eql (.tmp 14) (.tmp 15), some (10, true)⟩, ⟨some 17, .pick (.tmp 10) (.tmp 16) (.const (.bool false)), none⟩, ⟨some 4, .mov (.tmp 17), none⟩]) .ret))
@[reducible] def rv48 : List RV := [.tmp 4]
theorem low48 : lowC Tryd.prog tau Tryd.f48.ntmps (Tryd.f48.body.getD .skip) = some (erase ic48) := by kernel_rfl
theorem res48 : lowR Tryd.prog Tryd.f48.results.toList = some rv48 := by kernel_rfl
theorem bod48 : Tryd.f48.body = some (Tryd.f48.body.getD .skip) := by kernel_rfl
theorem cal48 : callable Tryd.prog 48 = true := by kernel_rfl

end Go.Proofs.YthghcialeghgoaaDoorE

/-! The code of a function, in the engine's words. -/
namespace Go.Proofs.YthghcialeghgoaaDoorE
open Go Go.RowKit
@[reducible] def ic50 : IC := (.seq (.ops [⟨some 8, .new [(.int .i64 0), (.int .i64 0), (.string ⟨#[]⟩), (.int .i64 0)], none⟩]) (.seq (.ops [⟨some 10, .mov (.tmp 0), none⟩, ⟨some 11, .mov (.tmp 2), none⟩, ⟨some 12, .iadr 6 (.tmp 10) (.tmp 11), none⟩, ⟨some 13, .load 6 true (.tmp 12), none⟩, ⟨some 9, .new [(.string ⟨#[]⟩), (.int .i64 0), (.int .i64 0), (.int .i64 0), (.int .i64 0), (.string ⟨#[]⟩)], none⟩, ⟨none, .store 6 (.tmp 9) (.tmp 13), none⟩]) (.seq (.draw [⟨some 14, .mov (.tmp 1), none⟩, ⟨some 15, .fadr 3 (.tmp 9), none⟩, ⟨some 16, .load 1 false (.tmp 15), none⟩, ⟨some 17, .fadr 5 (.tmp 9), none⟩, ⟨some 18, .load 1 false (.tmp 17), none⟩, ⟨some 19, .mov (.tmp 3), none⟩, ⟨some 20, .fadr 4 (.tmp 9), none⟩, ⟨some 21, .load 1 false (.tmp 20), none⟩, ⟨some 22, .sslc (.tmp 19) (some (.tmp 21)) none, none⟩, ⟨some 23, .bin .add (.tmp 18) (.tmp 22), none⟩, ⟨some 24, .mov (.tmp 2), none⟩, ⟨some 25, .bld [(.int .i64 0), (.int .i64 0), (.string ⟨#[]⟩), (.int .i64 0)] [(0, 1, (.tmp 14)), (1, 1, (.tmp 16)), (2, 1, (.tmp 23)), (3, 1, (.tmp 24))], none⟩, ⟨none, .store 4 (.tmp 8) (.tmp 25), none⟩] (.held ⟨some 14, .mov (.tmp 1), none⟩ (.held ⟨some 15, .fadr 3 (.tmp 9), none⟩ (.held ⟨some 16, .load 1 false (.tmp 15), none⟩ (.held ⟨some 17, .fadr 5 (.tmp 9), none⟩ (.held ⟨some 18, .load 1 false (.tmp 17), none⟩ (.held ⟨some 19, .mov (.tmp 3), none⟩ (.held ⟨some 20, .fadr 4 (.tmp 9), none⟩ (.held ⟨some 21, .load 1 false (.tmp 20), none⟩ (.held ⟨some 22, .sslc (.tmp 19) (some (.tmp 21)) none, none⟩ (.held ⟨some 23, .bin .add (.tmp 18) (.tmp 22), none⟩ (.held ⟨some 24, .mov (.tmp 2), none⟩ (.held ⟨some 25, .bld [(.int .i64 0), (.int .i64 0), (.string ⟨#[]⟩), (.int .i64 0)] [(0, 1, (.tmp 14)), (1, 1, (.tmp 16)), (2, 1, (.tmp 23)), (3, 1, (.tmp 24))], none⟩ (.alt ⟨none, .store 4 (.tmp 8) (.tmp 25), none⟩ .done .stop)))))))))))))) .ret)))
@[reducible] def rv50 : List RV := [.cell 8 4 true]
theorem low50 : lowC Tryd.prog tau Tryd.f50.ntmps (Tryd.f50.body.getD .skip) = some (erase ic50) := by kernel_rfl
theorem res50 : lowR Tryd.prog Tryd.f50.results.toList = some rv50 := by kernel_rfl
theorem bod50 : Tryd.f50.body = some (Tryd.f50.body.getD .skip) := by kernel_rfl
theorem cal50 : callable Tryd.prog 50 = true := by kernel_rfl

end Go.Proofs.YthghcialeghgoaaDoorE

/-! The code of a function, in the engine's words. -/
namespace Go.Proofs.YthghcialeghgoaaDoorE
open Go Go.RowKit
@[reducible] def ic51 : IC := (.seq (.ops [⟨some 2, .new [(.int .i64 0), (.int .i64 0), (.string ⟨#[]⟩), (.int .i64 0)], none⟩]) (.seq (.ops [⟨some 3, .mov (.tmp 0), none⟩, ⟨some 4, .bld [(.int .i64 0), (.int .i64 0), (.string ⟨#[]⟩), (.int .i64 0)] [(0, 1, (.tmp 3)), (1, 1, (.const (.int .i64 (-1)))), (3, 1, (.const (.int .i64 (-1))))], none⟩, ⟨none, .store 4 (.tmp 2) (.tmp 4), none⟩]) .ret))
@[reducible] def rv51 : List RV := [.cell 2 4 true]
theorem low51 : lowC Tryd.prog tau Tryd.f51.ntmps (Tryd.f51.body.getD .skip) = some (erase ic51) := by kernel_rfl
theorem res51 : lowR Tryd.prog Tryd.f51.results.toList = some rv51 := by kernel_rfl
theorem bod51 : Tryd.f51.body = some (Tryd.f51.body.getD .skip) := by kernel_rfl
theorem cal51 : callable Tryd.prog 51 = true := by kernel_rfl

end Go.Proofs.YthghcialeghgoaaDoorE

/-! The code of a function, in the engine's words. -/
namespace Go.Proofs.YthghcialeghgoaaDoorE
open Go Go.RowKit
@[reducible] def ic63 : IC := (.seq (.ops [⟨some 4, .mov (.const (.bool false)), none⟩]) (.seq (.ops [⟨some 5, .mov (.tmp 0), none⟩, ⟨some 6, .mov (.tmp 1), none⟩, ⟨some 7, .call 76 [(.tmp 5), (.tmp 6)], none⟩, ⟨some 4, .mov (.tmp 7), none⟩]) .ret))
@[reducible] def rv63 : List RV := [.tmp 4]
theorem low63 : lowC Tryd.prog tau Tryd.f63.ntmps (Tryd.f63.body.getD .skip) = some (erase ic63) := by kernel_rfl
theorem res63 : lowR Tryd.prog Tryd.f63.results.toList = some rv63 := by kernel_rfl
theorem bod63 : Tryd.f63.body = some (Tryd.f63.body.getD .skip) := by kernel_rfl
theorem cal63 : callable Tryd.prog 63 = true := by kernel_rfl

end Go.Proofs.YthghcialeghgoaaDoorE

/-! The code of a function, in the engine's words. -/
namespace Go.Proofs.YthghcialeghgoaaDoorE
open Go Go.RowKit
@[reducible] def ic64 : IC := (.seq (.ops [⟨some 6, .new [(.int .i64 0), (.int .i64 0), (.string ⟨#[]⟩), (.int .i64 0)], none⟩]) (.seq (.ops [⟨some 8, .load 1 false (.tmp 2), none⟩, ⟨some 9, .mov (.tmp 1), none⟩, ⟨some 10, .iadr 6 (.tmp 8) (.tmp 9), none⟩, ⟨some 11, .load 6 true (.tmp 10), none⟩, ⟨some 7, .new [(.string ⟨#[]⟩), (.int .i64 0), (.int .i64 0), (.int .i64 0), (.int .i64 0), (.string ⟨#[]⟩)], none⟩, ⟨none, .store 6 (.tmp 7) (.tmp 11), none⟩]) (.seq (.draw [⟨some 12, .mov (.tmp 0), none⟩, ⟨some 13, .fadr 3 (.tmp 7), none⟩, ⟨some 14, .load 1 false (.tmp 13), none⟩, ⟨some 15, .fadr 5 (.tmp 7), none⟩, ⟨some 16, .load 1 false (.tmp 15), none⟩, ⟨some 17, .load 1 false (.tmp 3), none⟩, ⟨some 18, .fadr 4 (.tmp 7), none⟩, ⟨some 19, .load 1 false (.tmp 18), none⟩, ⟨some 20, .sslc (.tmp 17) (some (.tmp 19)) none, none⟩, ⟨some 21, .bin .add (.tmp 16) (.tmp 20), none⟩, ⟨some 22, .mov (.tmp 1), none⟩, ⟨some 23, .bld [(.int .i64 0), (.int .i64 0), (.string ⟨#[]⟩), (.int .i64 0)] [(0, 1, (.tmp 12)), (1, 1, (.tmp 14)), (2, 1, (.tmp 21)), (3, 1, (.tmp 22))], none⟩, ⟨none, .store 4 (.tmp 6) (.tmp 23), none⟩] (.held ⟨some 12, .mov (.tmp 0), none⟩ (.held ⟨some 13, .fadr 3 (.tmp 7), none⟩ (.held ⟨some 14, .load 1 false (.tmp 13), none⟩ (.held ⟨some 15, .fadr 5 (.tmp 7), none⟩ (.held ⟨some 16, .load 1 false (.tmp 15), none⟩ (.held ⟨some 17, .load 1 false (.tmp 3), none⟩ (.held ⟨some 18, .fadr 4 (.tmp 7), none⟩ (.held ⟨some 19, .load 1 false (.tmp 18), none⟩ (.held ⟨some 20, .sslc (.tmp 17) (some (.tmp 19)) none, none⟩ (.held ⟨some 21, .bin .add (.tmp 16) (.tmp 20), none⟩ (.held ⟨some 22, .mov (.tmp 1), none⟩ (.held ⟨some 23, .bld [(.int .i64 0), (.int .i64 0), (.string ⟨#[]⟩), (.int .i64 0)] [(0, 1, (.tmp 12)), (1, 1, (.tmp 14)), (2, 1, (.tmp 21)), (3, 1, (.tmp 22))], none⟩ (.alt ⟨none, .store 4 (.tmp 6) (.tmp 23), none⟩ .done .stop)))))))))))))) .ret)))
@[reducible] def rv64 : List RV := [.cell 6 4 true]
theorem low64 : lowC Tryd.prog tau Tryd.f64.ntmps (Tryd.f64.body.getD .skip) = some (erase ic64) := by kernel_rfl
theorem res64 : lowR Tryd.prog Tryd.f64.results.toList = some rv64 := by kernel_rfl
theorem bod64 : Tryd.f64.body = some (Tryd.f64.body.getD .skip) := by kernel_rfl
theorem cal64 : callable Tryd.prog 64 = true := by kernel_rfl

end Go.Proofs.YthghcialeghgoaaDoorE

/-! The code of a function, in the engine's words. -/
namespace Go.Proofs.YthghcialeghgoaaDoorE
open Go Go.RowKit
@[reducible] def ic65 : IC := (.seq (.ops [⟨some 1, .new [(.int .i64 0), (.int .i64 0), (.string ⟨#[]⟩), (.int .i64 0)], none⟩]) (.seq (.seq (.ops [⟨some 2, .load 1 false (.tmp 0), none⟩]) (.cond (.tmp 2) (.seq (.ops [⟨some 3, .call 51 [(.const (.int .i64 0))], none⟩, ⟨none, .store 4 (.tmp 1) (.tmp 3), none⟩]) .ret) .skip)) (.seq (.ops [⟨some 4, .call 51 [(.const (.int .i64 3))], none⟩, ⟨none, .store 4 (.tmp 1) (.tmp 4), none⟩]) .ret)))
@[reducible] def rv65 : List RV := [.cell 1 4 true]
theorem low65 : lowC Tryd.prog tau Tryd.f65.ntmps (Tryd.f65.body.getD .skip) = some (erase ic65) := by kernel_rfl
theorem res65 : lowR Tryd.prog Tryd.f65.results.toList = some rv65 := by kernel_rfl
theorem bod65 : Tryd.f65.body = some (Tryd.f65.body.getD .skip) := by kernel_rfl
theorem cal65 : callable Tryd.prog 65 = true := by kernel_rfl

end Go.Proofs.YthghcialeghgoaaDoorE

/-! The code of a function, in the engine's words. -/
namespace Go.Proofs.YthghcialeghgoaaDoorE
open Go Go.RowKit
@[reducible] def ic76 : IC := (.seq (.ops [⟨some 4, .mov (.const (.bool false)), none⟩]) (.seq (.ops [⟨some 5, .mov (.tmp 0), none⟩, ⟨some 6, .slen (.tmp 5), none⟩, ⟨some 7, .mov (.tmp 1), none⟩, ⟨some 8, .slen (.tmp 7), none⟩, ⟨some 9, .bin .geq (.tmp 6) (.tmp 8), none⟩, ⟨some 10, .mov (.tmp 9), none⟩, ⟨some 11, .mov (.tmp 0), some (10, true)⟩, ⟨some 12, .mov (.tmp 1), some (10, true)⟩, ⟨some 13, .slen (.tmp 12), some (10, true)⟩, ⟨some 14, .sslc (.tmp 11) none (some (.tmp 13)), some (10, true)⟩, ⟨some 15, .mov (.tmp 1), some (10, true)⟩, ⟨some 16, .bin .eql (.tmp 14) (.tmp 15), some (10, true)⟩, ⟨some 17, .pick (.tmp 10) (.tmp 16) (.const (.bool false)), none⟩, ⟨some 4, .mov (.tmp 17), none⟩]) .ret))
@[reducible] def rv76 : List RV := [.tmp 4]
theorem low76 : lowC Tryd.prog tau Tryd.f76.ntmps (Tryd.f76.body.getD .skip) = some (erase ic76) := by kernel_rfl
theorem res76 : lowR Tryd.prog Tryd.f76.results.toList = some rv76 := by kernel_rfl
theorem bod76 : Tryd.f76.body = some (Tryd.f76.body.getD .skip) := by kernel_rfl
theorem cal76 : callable Tryd.prog 76 = true := by kernel_rfl

end Go.Proofs.YthghcialeghgoaaDoorE

/-! Dialling: beginnings, what is told. -/
namespace Go.Proofs.YthghcialeghgoaaDoorE
open Go Go.RowKit
set_option linter.unusedSimpArgs false
set_option linter.unusedVariables false
set_option maxRecDepth 20000
set_option maxHeartbeats 4000000

def begV (s t : ByteArray) : Bool := decide (t.size ≤ s.size) && decide (s.extract 0 t.size = t)
def spBeg : Spec := ⟨fun _ _ => [], fun args objs K => match args, objs with
  | [.v (.string s), .v (.string t)], [] => K (.v (.bool (begV s t))) [] 0
  | _, _ => False, false⟩
theorem spBeg_t {L : Hp} {a : List AVal} : Spec.take spBeg L a = [] := id rfl
theorem spBeg_k : Spec.keep spBeg = false := id rfl
theorem spBeg_f {s} {t} {K : AVal → Hp → Nat → Prop} : Spec.f spBeg ([.v (.string s), .v (.string t)]) ([]) K = (K (.v (.bool (begV s t))) [] 0) := id rfl
theorem valid48 : Valid Tryd.prog 48 spBeg := by
  refine validI (Γ := lk []) Tryd.func48 bod48 low48 res48 (good_of trivial) ?_
  intro E args objs K h hE hG hP
  simp only [spBeg] at h
  split at h
  · refine ⟨by simp [Tryd.ntmps48], ?_⟩
    rename_i s t
    unfold begV at h
    simp (config := { maxSteps := 2000000 }) only [go_sem, hG, hP, Nat.reduceEqDiff, ↓reduceIte, reduceCtorEq, Nat.reduceAdd, Nat.reduceSub, Nat.reduceMul, Nat.reduceLT, Nat.reduceLeDiff, Int.reduceAdd, Int.reduceSub, Int.reduceMul, Int.reduceLT, Int.reduceLE, Int.reduceEq, Int.reduceNeg, Int.reduceNe, Int.reduceGE, Int.reduceGT, Nat.reduceBEq, Int.reduceToNat]
    repeat' (first | (refine And.intro ?_ ?_) | (with_reducible intro _))
    all_goals first
      | omega
      | (refine ⟨_, _, _, ?_, h⟩; simp (config := { maxSteps := 2000000 }) only [go_sem, hG, hP, Nat.reduceEqDiff, ↓reduceIte, reduceCtorEq, Nat.reduceAdd, Nat.reduceSub, Nat.reduceMul, Nat.reduceLT, Nat.reduceLeDiff, Int.reduceAdd, Int.reduceSub, Int.reduceMul, Int.reduceLT, Int.reduceLE, Int.reduceEq, Int.reduceNeg, Int.reduceNe, Int.reduceGE, Int.reduceGT, Nat.reduceBEq, Int.reduceToNat]; all_goals (first | (simp; done) | (simp; omega) | (simp_all; done)))
      | trace_state
  · exact h.elim
theorem valid76 : Valid Tryd.prog 76 spBeg := by
  refine validI (Γ := lk []) Tryd.func76 bod76 low76 res76 (good_of trivial) ?_
  intro E args objs K h hE hG hP
  simp only [spBeg] at h
  split at h
  · refine ⟨by simp [Tryd.ntmps76], ?_⟩
    rename_i s t
    unfold begV at h
    simp (config := { maxSteps := 2000000 }) only [go_sem, hG, hP, Nat.reduceEqDiff, ↓reduceIte, reduceCtorEq, Nat.reduceAdd, Nat.reduceSub, Nat.reduceMul, Nat.reduceLT, Nat.reduceLeDiff, Int.reduceAdd, Int.reduceSub, Int.reduceMul, Int.reduceLT, Int.reduceLE, Int.reduceEq, Int.reduceNeg, Int.reduceNe, Int.reduceGE, Int.reduceGT, Nat.reduceBEq, Int.reduceToNat]
    repeat' (first | (refine And.intro ?_ ?_) | (with_reducible intro _))
    all_goals first
      | omega
      | (refine ⟨_, _, _, ?_, h⟩; simp (config := { maxSteps := 2000000 }) only [go_sem, hG, hP, Nat.reduceEqDiff, ↓reduceIte, reduceCtorEq, Nat.reduceAdd, Nat.reduceSub, Nat.reduceMul, Nat.reduceLT, Nat.reduceLeDiff, Int.reduceAdd, Int.reduceSub, Int.reduceMul, Int.reduceLT, Int.reduceLE, Int.reduceEq, Int.reduceNeg, Int.reduceNe, Int.reduceGE, Int.reduceGT, Nat.reduceBEq, Int.reduceToNat]; all_goals (first | (simp; done) | (simp; omega) | (simp_all; done)))
      | trace_state
  · exact h.elim
theorem valid63 : Valid Tryd.prog 63 spBeg := by
  refine validI (Γ := lk [(76, spBeg)]) Tryd.func63 bod63 low63 res63 (good_of ⟨⟨cal76, valid76⟩, trivial⟩) ?_
  intro E args objs K h hE hG hP
  simp only [spBeg] at h
  split at h
  · refine ⟨by simp [Tryd.ntmps63], ?_⟩
    simp (config := { maxSteps := 2000000 }) only [go_sem, hG, hP, Nat.reduceEqDiff, ↓reduceIte, reduceCtorEq, Nat.reduceAdd, Nat.reduceSub, Nat.reduceMul, Nat.reduceLT, Nat.reduceLeDiff, Int.reduceAdd, Int.reduceSub, Int.reduceMul, Int.reduceLT, Int.reduceLE, Int.reduceEq, Int.reduceNeg, Int.reduceNe, Int.reduceGE, Int.reduceGT, Nat.reduceBEq, Int.reduceToNat,  spBeg_f, spBeg_t, spBeg_k]
    refine ⟨_, _, _, ?_, h⟩
    simp (config := { maxSteps := 2000000 }) only [go_sem, hG, hP, Nat.reduceEqDiff, ↓reduceIte, reduceCtorEq, Nat.reduceAdd, Nat.reduceSub, Nat.reduceMul, Nat.reduceLT, Nat.reduceLeDiff, Int.reduceAdd, Int.reduceSub, Int.reduceMul, Int.reduceLT, Int.reduceLE, Int.reduceEq, Int.reduceNeg, Int.reduceNe, Int.reduceGE, Int.reduceGT, Nat.reduceBEq, Int.reduceToNat]
  · exact h.elim
def spTold : Spec := ⟨fun _ _ => [], fun args objs K => match args, objs with
  | [.v (.int .i64 c)], [] => K (.agg [.v (.int .i64 c), .v (.int .i64 (-1)), .v (.string ⟨#[]⟩), .v (.int .i64 (-1))]) [] 0
  | _, _ => False, false⟩
theorem spTold_t {L : Hp} {a : List AVal} : Spec.take spTold L a = [] := id rfl
theorem spTold_k : Spec.keep spTold = false := id rfl
theorem spTold_f {c} {K : AVal → Hp → Nat → Prop} : Spec.f spTold ([.v (.int .i64 c)]) ([]) K = (K (.agg [.v (.int .i64 c), .v (.int .i64 (-1)), .v (.string ⟨#[]⟩), .v (.int .i64 (-1))]) [] 0) := id rfl
theorem valid47 : Valid Tryd.prog 47 spTold := by
  refine validI (Γ := lk []) Tryd.func47 bod47 low47 res47 (good_of trivial) ?_
  intro E args objs K h hE hG hP
  simp only [spTold] at h
  split at h
  · refine ⟨by simp [Tryd.ntmps47], ?_⟩
    simp (config := { maxSteps := 2000000 }) only [go_sem, hG, hP, Nat.reduceEqDiff, ↓reduceIte, reduceCtorEq, Nat.reduceAdd, Nat.reduceSub, Nat.reduceMul, Nat.reduceLT, Nat.reduceLeDiff, Int.reduceAdd, Int.reduceSub, Int.reduceMul, Int.reduceLT, Int.reduceLE, Int.reduceEq, Int.reduceNeg, Int.reduceNe, Int.reduceGE, Int.reduceGT, Nat.reduceBEq, Int.reduceToNat]
    refine ⟨_, _, _, ?_, h⟩
    simp (config := { maxSteps := 2000000 }) only [go_sem, hG, hP, Nat.reduceEqDiff, ↓reduceIte, reduceCtorEq, Nat.reduceAdd, Nat.reduceSub, Nat.reduceMul, Nat.reduceLT, Nat.reduceLeDiff, Int.reduceAdd, Int.reduceSub, Int.reduceMul, Int.reduceLT, Int.reduceLE, Int.reduceEq, Int.reduceNeg, Int.reduceNe, Int.reduceGE, Int.reduceGT, Nat.reduceBEq, Int.reduceToNat]
  · exact h.elim
theorem valid51 : Valid Tryd.prog 51 spTold := by
  refine validI (Γ := lk []) Tryd.func51 bod51 low51 res51 (good_of trivial) ?_
  intro E args objs K h hE hG hP
  simp only [spTold] at h
  split at h
  · refine ⟨by simp [Tryd.ntmps51], ?_⟩
    simp (config := { maxSteps := 2000000 }) only [go_sem, hG, hP, Nat.reduceEqDiff, ↓reduceIte, reduceCtorEq, Nat.reduceAdd, Nat.reduceSub, Nat.reduceMul, Nat.reduceLT, Nat.reduceLeDiff, Int.reduceAdd, Int.reduceSub, Int.reduceMul, Int.reduceLT, Int.reduceLE, Int.reduceEq, Int.reduceNeg, Int.reduceNe, Int.reduceGE, Int.reduceGT, Nat.reduceBEq, Int.reduceToNat]
    refine ⟨_, _, _, ?_, h⟩
    simp (config := { maxSteps := 2000000 }) only [go_sem, hG, hP, Nat.reduceEqDiff, ↓reduceIte, reduceCtorEq, Nat.reduceAdd, Nat.reduceSub, Nat.reduceMul, Nat.reduceLT, Nat.reduceLeDiff, Int.reduceAdd, Int.reduceSub, Int.reduceMul, Int.reduceLT, Int.reduceLE, Int.reduceEq, Int.reduceNeg, Int.reduceNe, Int.reduceGE, Int.reduceGT, Nat.reduceBEq, Int.reduceToNat]
  · exact h.elim
def numV (r : Rul) (d : ByteArray) : ByteArray := r.add ++ d.extract r.strip.toNat d.size
def spOf : Spec := ⟨fun _ _ => [], fun args objs K => match args, objs with
  | [.rs .rule l, .v (.int .i64 c), .v (.int .i64 i), .v (.string d)], [] => ((0 ≤ i ∧ i < l.length) ∧ (0 ≤ (l.getD i.toNat Rulz).strip ∧ (l.getD i.toNat Rulz).strip ≤ d.size) ∧ (l.getD i.toNat Rulz).add.size ≤ 1099511627776 ∧ d.size ≤ 1099511627776) ∧
      K (.agg [.v (.int .i64 c), .v (.int .i64 (l.getD i.toNat Rulz).route), .v (.string (numV (l.getD i.toNat Rulz) d)), .v (.int .i64 i)]) [] 0
  | _, _ => False, false⟩
theorem spOf_t {L : Hp} {a : List AVal} : Spec.take spOf L a = [] := id rfl
theorem spOf_k : Spec.keep spOf = false := id rfl
theorem spOf_f {l} {c} {i} {d} {K : AVal → Hp → Nat → Prop} : Spec.f spOf ([.rs .rule l, .v (.int .i64 c), .v (.int .i64 i), .v (.string d)]) ([]) K = (((0 ≤ i ∧ i < l.length) ∧ (0 ≤ (l.getD i.toNat Rulz).strip ∧ (l.getD i.toNat Rulz).strip ≤ d.size) ∧ (l.getD i.toNat Rulz).add.size ≤ 1099511627776 ∧ d.size ≤ 1099511627776) ∧
      K (.agg [.v (.int .i64 c), .v (.int .i64 (l.getD i.toNat Rulz).route), .v (.string (numV (l.getD i.toNat Rulz) d)), .v (.int .i64 i)]) [] 0) := id rfl
theorem valid50 : Valid Tryd.prog 50 spOf := by
  refine validI (Γ := lk []) Tryd.func50 bod50 low50 res50 (good_of trivial) ?_
  intro E args objs K h hE hG hP
  simp only [spOf] at h
  split at h
  · refine ⟨by simp [Tryd.ntmps50], ?_⟩
    rename_i l c i d
    obtain ⟨⟨b1, b2, b3, b4⟩, h⟩ := h
    unfold numV at h
    have hcc : l.getD i.toNat Rulz = l.getD i.toNat (⟨⟨#[]⟩, 0, 0, 0, 0, ⟨#[]⟩⟩ : Rul) := rfl
    rw [hcc] at h b2 b3
    generalize hcd : l.getD i.toNat (⟨⟨#[]⟩, 0, 0, 0, 0, ⟨#[]⟩⟩ : Rul) = c at h b2 b3
    have hes : (d.extract c.strip.toNat d.size).size ≤ d.size := by rw [ByteArray.size_extract]; omega
    have t1 : (d.size : Int).toNat = d.size := by omega
    simp (config := { maxSteps := 2000000 }) only [go_sem, hG, hP, Nat.reduceEqDiff, ↓reduceIte, reduceCtorEq, Nat.reduceAdd, Nat.reduceSub, Nat.reduceMul, Nat.reduceLT, Nat.reduceLeDiff, Int.reduceAdd, Int.reduceSub, Int.reduceMul, Int.reduceLT, Int.reduceLE, Int.reduceEq, Int.reduceNeg, Int.reduceNe, Int.reduceGE, Int.reduceGT, Nat.reduceBEq, Int.reduceToNat,  hcd]
    repeat (refine And.intro (by first | omega | (simp; done) | (simp; omega) | (unfold appRoom; omega)) ?_)
    repeat' (first | (refine And.intro ?_ ?_) | (with_reducible intro _))
    all_goals first
      | omega
      | (refine ⟨_, _, _, ?_, h⟩; simp (config := { maxSteps := 2000000 }) only [go_sem, hG, hP, Nat.reduceEqDiff, ↓reduceIte, reduceCtorEq, Nat.reduceAdd, Nat.reduceSub, Nat.reduceMul, Nat.reduceLT, Nat.reduceLeDiff, Int.reduceAdd, Int.reduceSub, Int.reduceMul, Int.reduceLT, Int.reduceLE, Int.reduceEq, Int.reduceNeg, Int.reduceNe, Int.reduceGE, Int.reduceGT, Nat.reduceBEq, Int.reduceToNat]; done)
      | trace_state
  · exact h.elim
end Go.Proofs.YthghcialeghgoaaDoorE

/-! Dialling: the two closures. -/
namespace Go.Proofs.YthghcialeghgoaaDoorE
open Go Go.RowKit
set_option linter.unusedSimpArgs false
set_option linter.unusedVariables false
set_option maxRecDepth 20000
set_option maxHeartbeats 4000000

def takePR : List AVal → List Nat
  | .v _ :: .v _ :: .ptr m _ :: .ptr k _ :: _ => [m, k]
  | _ => []
theorem takePR_eq {a b : Value} {m o k p : Nat} {r : List AVal} : takePR (.v a :: .v b :: .ptr m o :: .ptr k p :: r) = [m, k] := id rfl
def spOfC : Spec := ⟨fun _ => takePR, fun args objs K => match args, objs with
  | [.v (.int .i64 c), .v (.int .i64 i), .ptr 0 0, .ptr 1 0], [.box [.rs .rule l], .box [.v (.string d)]] => ((0 ≤ i ∧ i < l.length) ∧ (0 ≤ (l.getD i.toNat Rulz).strip ∧ (l.getD i.toNat Rulz).strip ≤ d.size) ∧ (l.getD i.toNat Rulz).add.size ≤ 1099511627776 ∧ d.size ≤ 1099511627776) ∧
      K (.agg [.v (.int .i64 c), .v (.int .i64 (l.getD i.toNat Rulz).route), .v (.string (numV (l.getD i.toNat Rulz) d)), .v (.int .i64 i)]) [(0, .box [.rs .rule l]), (1, .box [.v (.string d)])] 2
  | _, _ => False, true⟩
theorem spOfC_t {L : Hp} {a : List AVal} : Spec.take spOfC L a = takePR a := id rfl
theorem spOfC_k : Spec.keep spOfC = true := id rfl
theorem spOfC_f {c} {i} {l} {d} {K : AVal → Hp → Nat → Prop} : Spec.f spOfC ([.v (.int .i64 c), .v (.int .i64 i), .ptr 0 0, .ptr 1 0]) ([.box [.rs .rule l], .box [.v (.string d)]]) K = (((0 ≤ i ∧ i < l.length) ∧ (0 ≤ (l.getD i.toNat Rulz).strip ∧ (l.getD i.toNat Rulz).strip ≤ d.size) ∧ (l.getD i.toNat Rulz).add.size ≤ 1099511627776 ∧ d.size ≤ 1099511627776) ∧
      K (.agg [.v (.int .i64 c), .v (.int .i64 (l.getD i.toNat Rulz).route), .v (.string (numV (l.getD i.toNat Rulz) d)), .v (.int .i64 i)]) [(0, .box [.rs .rule l]), (1, .box [.v (.string d)])] 2) := id rfl
theorem valid64 : Valid Tryd.prog 64 spOfC := by
  refine validI (Γ := lk []) Tryd.func64 bod64 low64 res64 (good_of trivial) ?_
  intro E args objs K h hE hG hP
  simp only [spOfC] at h
  split at h
  · refine ⟨by simp [Tryd.ntmps64], ?_⟩
    rename_i c i l d
    obtain ⟨⟨b1, b2, b3, b4⟩, h⟩ := h
    unfold numV at h
    have hcc : l.getD i.toNat Rulz = l.getD i.toNat (⟨⟨#[]⟩, 0, 0, 0, 0, ⟨#[]⟩⟩ : Rul) := rfl
    rw [hcc] at h b2 b3
    generalize hcd : l.getD i.toNat (⟨⟨#[]⟩, 0, 0, 0, 0, ⟨#[]⟩⟩ : Rul) = r at h b2 b3
    have hes : (d.extract r.strip.toNat d.size).size ≤ d.size := by rw [ByteArray.size_extract]; omega
    have t1 : (d.size : Int).toNat = d.size := by omega
    simp (config := { maxSteps := 2000000 }) only [go_sem, hG, hP, Nat.reduceEqDiff, ↓reduceIte, reduceCtorEq, Nat.reduceAdd, Nat.reduceSub, Nat.reduceMul, Nat.reduceLT, Nat.reduceLeDiff, Int.reduceAdd, Int.reduceSub, Int.reduceMul, Int.reduceLT, Int.reduceLE, Int.reduceEq, Int.reduceNeg, Int.reduceNe, Int.reduceGE, Int.reduceGT, Nat.reduceBEq, Int.reduceToNat,  hcd]
    repeat (refine And.intro (by first | omega | (simp; done) | (simp; omega) | (unfold appRoom; omega)) ?_)
    repeat' (first | (refine And.intro ?_ ?_) | (with_reducible intro _))
    all_goals first
      | omega
      | (refine ⟨_, _, _, ?_, h⟩; simp (config := { maxSteps := 2000000 }) only [go_sem, hG, hP, Nat.reduceEqDiff, ↓reduceIte, reduceCtorEq, Nat.reduceAdd, Nat.reduceSub, Nat.reduceMul, Nat.reduceLT, Nat.reduceLeDiff, Int.reduceAdd, Int.reduceSub, Int.reduceMul, Int.reduceLT, Int.reduceLE, Int.reduceEq, Int.reduceNeg, Int.reduceNe, Int.reduceGE, Int.reduceGT, Nat.reduceBEq, Int.reduceToNat]; done)
      | (refine ⟨_, _, _, ?_, h⟩; simp (config := { maxSteps := 2000000 }) only [go_sem, hG, hP, Nat.reduceEqDiff, ↓reduceIte, reduceCtorEq, Nat.reduceAdd, Nat.reduceSub, Nat.reduceMul, Nat.reduceLT, Nat.reduceLeDiff, Int.reduceAdd, Int.reduceSub, Int.reduceMul, Int.reduceLT, Int.reduceLE, Int.reduceEq, Int.reduceNeg, Int.reduceNe, Int.reduceGE, Int.reduceGT, Nat.reduceBEq, Int.reduceToNat]; repeat' (first | with_reducible rfl | (refine And.intro ?_ ?_) | (refine congrArg (Value.int _) ?_; omega) | omega); done)
      | trace_state
  · exact h.elim
def takeP1 : List AVal → List Nat
  | .ptr m _ :: _ => [m]
  | _ => []
theorem takeP1_eq {m o : Nat} {r : List AVal} : takeP1 (.ptr m o :: r) = [m] := id rfl
def spMore : Spec := ⟨fun _ => takeP1, fun args objs K => match args, objs with
  | [.ptr 0 0], [.box [.v (.bool o)]] => K (.agg [.v (.int .i64 (if o = true then 0 else 3)), .v (.int .i64 (-1)), .v (.string ⟨#[]⟩), .v (.int .i64 (-1))]) [(0, .box [.v (.bool o)])] 1
  | _, _ => False, false⟩
theorem spMore_t {L : Hp} {a : List AVal} : Spec.take spMore L a = takeP1 a := id rfl
theorem spMore_k : Spec.keep spMore = false := id rfl
theorem spMore_f {o} {K : AVal → Hp → Nat → Prop} : Spec.f spMore ([.ptr 0 0]) ([.box [.v (.bool o)]]) K = (K (.agg [.v (.int .i64 (if o = true then 0 else 3)), .v (.int .i64 (-1)), .v (.string ⟨#[]⟩), .v (.int .i64 (-1))]) [(0, .box [.v (.bool o)])] 1) := id rfl
theorem valid65 : Valid Tryd.prog 65 spMore := by
  refine validI (Γ := lk [(51, spTold)]) Tryd.func65 bod65 low65 res65 (good_of ⟨⟨cal51, valid51⟩, trivial⟩) ?_
  intro E args objs K h hE hG hP
  simp only [spMore] at h
  split at h
  · refine ⟨by simp [Tryd.ntmps65], ?_⟩
    rename_i o
    cases o
    · simp (config := { maxSteps := 2000000 }) only [go_sem, hG, hP, Nat.reduceEqDiff, ↓reduceIte, reduceCtorEq, Nat.reduceAdd, Nat.reduceSub, Nat.reduceMul, Nat.reduceLT, Nat.reduceLeDiff, Int.reduceAdd, Int.reduceSub, Int.reduceMul, Int.reduceLT, Int.reduceLE, Int.reduceEq, Int.reduceNeg, Int.reduceNe, Int.reduceGE, Int.reduceGT, Nat.reduceBEq, Int.reduceToNat,  spTold_f, spTold_t, spTold_k]
      refine ⟨_, _, _, ?_, h⟩
      simp (config := { maxSteps := 2000000 }) only [go_sem, hG, hP, Nat.reduceEqDiff, ↓reduceIte, reduceCtorEq, Nat.reduceAdd, Nat.reduceSub, Nat.reduceMul, Nat.reduceLT, Nat.reduceLeDiff, Int.reduceAdd, Int.reduceSub, Int.reduceMul, Int.reduceLT, Int.reduceLE, Int.reduceEq, Int.reduceNeg, Int.reduceNe, Int.reduceGE, Int.reduceGT, Nat.reduceBEq, Int.reduceToNat]
      repeat' (first | with_reducible rfl | (refine And.intro ?_ ?_) | (refine congrArg (Value.int _) ?_; omega) | omega)
    · simp (config := { maxSteps := 2000000 }) only [go_sem, hG, hP, Nat.reduceEqDiff, ↓reduceIte, reduceCtorEq, Nat.reduceAdd, Nat.reduceSub, Nat.reduceMul, Nat.reduceLT, Nat.reduceLeDiff, Int.reduceAdd, Int.reduceSub, Int.reduceMul, Int.reduceLT, Int.reduceLE, Int.reduceEq, Int.reduceNeg, Int.reduceNe, Int.reduceGE, Int.reduceGT, Nat.reduceBEq, Int.reduceToNat,  spTold_f, spTold_t, spTold_k]
      refine ⟨_, _, _, ?_, h⟩
      simp (config := { maxSteps := 2000000 }) only [go_sem, hG, hP, Nat.reduceEqDiff, ↓reduceIte, reduceCtorEq, Nat.reduceAdd, Nat.reduceSub, Nat.reduceMul, Nat.reduceLT, Nat.reduceLeDiff, Int.reduceAdd, Int.reduceSub, Int.reduceMul, Int.reduceLT, Int.reduceLE, Int.reduceEq, Int.reduceNeg, Int.reduceNe, Int.reduceGE, Int.reduceGT, Nat.reduceBEq, Int.reduceToNat]
      repeat' (first | with_reducible rfl | (refine And.intro ?_ ?_) | (refine congrArg (Value.int _) ?_; omega) | omega)
  · exact h.elim
end Go.Proofs.YthghcialeghgoaaDoorE

/-! Dialling, plainly. -/
namespace Go.Proofs.YthghcialeghgoaaDoorE
open Go Go.RowKit
set_option linter.unusedSimpArgs false
set_option linter.unusedVariables false
set_option maxRecDepth 20000
set_option maxHeartbeats 4000000

/-- The best rule among the first ones. -/
def bestN (l : List Rul) (d : ByteArray) : Nat → Int
  | 0 => -1
  | i + 1 => if begV d (l.getD i Rulz).pre = true ∧ (bestN l d i < 0 ∨ (l.getD (bestN l d i).toNat Rulz).pre.size < (l.getD i Rulz).pre.size) then i else bestN l d i
/-- The best emergency rule that fits. -/
def firstN (l : List Rul) (d : ByteArray) : Nat → Int
  | 0 => -1
  | i + 1 => if begV d (l.getD i Rulz).pre = true ∧ ((l.getD i Rulz).route = 0 ∧ (l.getD i Rulz).least ≤ d.size ∧ (d.size : Int) ≤ (l.getD i Rulz).most) ∧ (firstN l d i < 0 ∨ (l.getD (firstN l d i).toNat Rulz).pre.size < (l.getD i Rulz).pre.size) then i else firstN l d i
def openN (l : List Rul) (d : ByteArray) : Nat → Bool
  | 0 => false
  | i + 1 => openN l d i || (begV (l.getD i Rulz).pre d && !begV d (l.getD i Rulz).pre)
theorem bestN_bd (l : List Rul) (d : ByteArray) : ∀ i, -1 ≤ bestN l d i ∧ bestN l d i < i
  | 0 => by simp [bestN]
  | i + 1 => by have := bestN_bd l d i; rw [bestN]; split <;> omega
theorem firstN_bd (l : List Rul) (d : ByteArray) : ∀ i, -1 ≤ firstN l d i ∧ firstN l d i < i
  | 0 => by simp [firstN]
  | i + 1 => by have := firstN_bd l d i; rw [firstN]; split <;> omega
theorem firstN_fits (l : List Rul) (d : ByteArray) : ∀ i, 0 ≤ firstN l d i → (l.getD (firstN l d i).toNat Rulz).route = 0 ∧ (l.getD (firstN l d i).toNat Rulz).least ≤ d.size ∧ (d.size : Int) ≤ (l.getD (firstN l d i).toNat Rulz).most
  | 0, h => by simp [firstN] at h
  | i + 1, h => by
    rw [firstN] at h ⊢
    split at h
    · rename_i c
      rw [if_pos c]
      simpa using c.2.1
    · rename_i c
      rw [if_neg c]
      exact firstN_fits l d i h
theorem extract_all (s : ByteArray) : s.extract 0 s.size = s := by
  first
    | exact ByteArray.extract_zero_size
    | (apply ByteArray.ext
       rw [ByteArray.data_extract]
       exact Array.extract_size)
    | (apply ByteArray.ext
       rw [ByteArray.data_extract]
       apply Array.ext'
       simp)
/-- What the reference asks of an open beginning is what the program asks. -/
theorem open_eq (p d : ByteArray) : (decide (p.size > d.size) && begV p d) = (begV p d && !begV d p) := by
  cases h : begV p d with
  | false => simp
  | true =>
    unfold begV at h ⊢
    simp only [Bool.and_eq_true, decide_eq_true_eq] at h
    obtain ⟨h1, h2⟩ := h
    by_cases e : p.size > d.size
    · have : ¬ p.size ≤ d.size := by omega
      simp [e, this]
    · have e2 : p.size = d.size := by omega
      have e3 : p = d := by rw [← e2, extract_all] at h2; exact h2
      subst e3
      simp [extract_all]
def noneD (c : Int) : Int × Int × ByteArray × Int := (c, -1, ⟨#[]⟩, -1)
def ofD (l : List Rul) (d : ByteArray) (c i : Int) : Int × Int × ByteArray × Int := (c, (l.getD i.toNat Rulz).route, numV (l.getD i.toNat Rulz) d, i)
def moreD (o : Bool) : Int × Int × ByteArray × Int := noneD (if o = true then 0 else 3)
/-- What dialling right digits by right rules tells. -/
def dialV (l : List Rul) (d : ByteArray) : Int × Int × ByteArray × Int :=
  if 0 ≤ firstN l d l.length then ofD l d 2 (firstN l d l.length)
  else if bestN l d l.length < 0 then moreD (openN l d l.length)
  else if (d.size : Int) < (l.getD (bestN l d l.length).toNat Rulz).least then noneD 0
  else if (d.size : Int) > (l.getD (bestN l d l.length).toNat Rulz).most then moreD (openN l d l.length)
  else if (d.size : Int) = (l.getD (bestN l d l.length).toNat Rulz).most ∧ openN l d l.length = false then ofD l d 2 (bestN l d l.length)
  else ofD l d 1 (bestN l d l.length)
open Classical in
noncomputable def dialP (l : List Rul) (d : ByteArray) : Int × Int × ByteArray × Int := if rulesP l ∧ digsP d then dialV l d else noneD 5
def dA (t : Int × Int × ByteArray × Int) : AVal := .agg [.v (.int .i64 t.1), .v (.int .i64 t.2.1), .v (.string t.2.2.1), .v (.int .i64 t.2.2.2)]
end Go.Proofs.YthghcialeghgoaaDoorE

/-! The code of a function, in the engine's words. -/
namespace Go.Proofs.YthghcialeghgoaaDoorE
open Go Go.RowKit
@[reducible] def ic22 : IC := (.seq (.ops [⟨some 4, .new [(.int .i64 0), (.int .i64 0), (.string ⟨#[]⟩), (.int .i64 0)], none⟩]) (.seq (.seq (.ops [⟨some 11, .mov (.tmp 0), none⟩, ⟨some 12, .call 11 [(.tmp 11)], none⟩, ⟨some 13, .una .not (.tmp 12), none⟩, ⟨some 14, .mov (.tmp 13), none⟩, ⟨some 15, .mov (.tmp 1), some (14, false)⟩, ⟨some 16, .call 40 [(.tmp 15)], some (14, false)⟩, ⟨some 17, .una .not (.tmp 16), some (14, false)⟩, ⟨some 18, .pick (.tmp 14) (.const (.bool true)) (.tmp 17), none⟩]) (.cond (.tmp 18) (.seq (.ops [⟨some 19, .call 47 [(.const (.int .i64 5))], none⟩, ⟨none, .store 4 (.tmp 4) (.tmp 19), none⟩]) .ret) .skip)) (.seq (.ops [⟨some 20, .mov (.tmp 1), none⟩, ⟨some 21, .slen (.tmp 20), none⟩, ⟨some 5, .mov (.tmp 21), none⟩]) (.seq (.ops [⟨some 6, .mov (.const (.int .i64 (-1))), none⟩, ⟨some 7, .mov (.const (.int .i64 (-1))), none⟩, ⟨some 8, .mov (.const (.bool false)), none⟩]) (.seq (.seq (.ops [⟨some 9, .mov (.const (.int .i64 0)), none⟩]) (.block 0 (.loop (.seq (.seq (.ops [⟨some 22, .mov (.tmp 9), none⟩, ⟨some 23, .mov (.tmp 0), none⟩, ⟨some 24, .len (.tmp 23), none⟩, ⟨some 25, .bin .lss (.tmp 22) (.tmp 24), none⟩]) (.cond (.tmp 25) .skip (.exit 0))) (.seq (.block 1 (.seq (.ops [⟨some 28, .mov (.tmp 0), none⟩, ⟨some 29, .mov (.tmp 9), none⟩, ⟨some 30, .iadr 6 (.tmp 28) (.tmp 29), none⟩, ⟨some 31, .load 6 true (.tmp 30), none⟩, ⟨some 10, .new [(.string ⟨#[]⟩), (.int .i64 0), (.int .i64 0), (.int .i64 0), (.int .i64 0), (.string ⟨#[]⟩)], none⟩, ⟨none, .store 6 (.tmp 10) (.tmp 31), none⟩]) (.seq (.seq (.ops [⟨some 32, .fadr 0 (.tmp 10), none⟩, ⟨some 33, .load 1 false (.tmp 32), none⟩, ⟨some 34, .slen (.tmp 33), none⟩, ⟨some 35, .mov (.tmp 5), none⟩, ⟨some 36, .bin .gtr (.tmp 34) (.tmp 35), none⟩, ⟨some 37, .mov (.tmp 36), none⟩, ⟨some 38, .fadr 0 (.tmp 10), some (37, true)⟩, ⟨some 39, .load 1 false (.tmp 38), some (37, true)⟩, ⟨some 40, .mov (.tmp 1), some (37, true)⟩, ⟨some 41, .call 48 [(.tmp 39), (.tmp 40)], some (37, true)⟩, ⟨some 42, .pick (.tmp 37) (.tmp 41) (.const (.bool false)), none⟩]) (.cond (.tmp 42) (.ops [⟨some 8, .mov (.const (.bool true)), none⟩]) .skip)) (.seq (.seq (.ops [⟨some 43, .mov (.tmp 1), none⟩, ⟨some 44, .fadr 0 (.tmp 10), none⟩, ⟨some 45, .load 1 false (.tmp 44), none⟩, ⟨some 46, .call 48 [(.tmp 43), (.tmp 45)], none⟩, ⟨some 47, .una .not (.tmp 46), none⟩]) (.cond (.tmp 47) (.exit 1) .skip)) (.seq (.seq (.draw [⟨some 48, .mov (.tmp 6), none⟩, ⟨some 49, .bin .lss (.tmp 48) (.const (.int .i64 0)), none⟩, ⟨some 50, .mov (.tmp 49), none⟩, ⟨some 51, .fadr 0 (.tmp 10), some (50, false)⟩, ⟨some 52, .load 1 false (.tmp 51), some (50, false)⟩, ⟨some 53, .slen (.tmp 52), some (50, false)⟩, ⟨some 54, .mov (.tmp 0), some (50, false)⟩, ⟨some 55, .mov (.tmp 6), some (50, false)⟩, ⟨some 56, .iadr 6 (.tmp 54) (.tmp 55), some (50, false)⟩, ⟨some 57, .fadr 0 (.tmp 56), some (50, false)⟩, ⟨some 58, .load 1 false (.tmp 57), some (50, false)⟩, ⟨some 59, .slen (.tmp 58), some (50, false)⟩, ⟨some 60, .bin .gtr (.tmp 53) (.tmp 59), some (50, false)⟩, ⟨some 61, .pick (.tmp 50) (.const (.bool true)) (.tmp 60), none⟩] (.held ⟨some 48, .mov (.tmp 6), none⟩ (.held ⟨some 49, .bin .lss (.tmp 48) (.const (.int .i64 0)), none⟩ (.held ⟨some 50, .mov (.tmp 49), none⟩ (.held ⟨some 51, .fadr 0 (.tmp 10), some (50, false)⟩ (.held ⟨some 52, .load 1 false (.tmp 51), some (50, false)⟩ (.held ⟨some 53, .slen (.tmp 52), some (50, false)⟩ (.held ⟨some 54, .mov (.tmp 0), some (50, false)⟩ (.held ⟨some 55, .mov (.tmp 6), some (50, false)⟩ (.held ⟨some 56, .iadr 6 (.tmp 54) (.tmp 55), some (50, false)⟩ (.held ⟨some 57, .fadr 0 (.tmp 56), some (50, false)⟩ (.held ⟨some 58, .load 1 false (.tmp 57), some (50, false)⟩ (.held ⟨some 59, .slen (.tmp 58), some (50, false)⟩ (.held ⟨some 60, .bin .gtr (.tmp 53) (.tmp 59), some (50, false)⟩ (.held ⟨some 61, .pick (.tmp 50) (.const (.bool true)) (.tmp 60), none⟩ .done))))))))))))))) (.cond (.tmp 61) (.ops [⟨some 62, .mov (.tmp 9), none⟩, ⟨some 6, .mov (.tmp 62), none⟩]) .skip)) (.seq (.draw [⟨some 63, .fadr 3 (.tmp 10), none⟩, ⟨some 64, .load 1 false (.tmp 63), none⟩, ⟨some 65, .bin .eql (.tmp 64) (.const (.int .i64 0)), none⟩, ⟨some 66, .mov (.tmp 65), none⟩, ⟨some 67, .mov (.tmp 5), some (66, true)⟩, ⟨some 68, .fadr 1 (.tmp 10), some (66, true)⟩, ⟨some 69, .load 1 false (.tmp 68), some (66, true)⟩, ⟨some 70, .fadr 2 (.tmp 10), some (66, true)⟩, ⟨some 71, .load 1 false (.tmp 70), some (66, true)⟩, ⟨some 72, .call 49 [(.tmp 67), (.tmp 69), (.tmp 71)], some (66, true)⟩, ⟨some 73, .pick (.tmp 66) (.tmp 72) (.const (.bool false)), none⟩, ⟨some 74, .mov (.tmp 73), none⟩, ⟨some 75, .mov (.tmp 7), some (74, true)⟩, ⟨some 76, .bin .lss (.tmp 75) (.const (.int .i64 0)), some (74, true)⟩, ⟨some 77, .mov (.tmp 76), some (74, true)⟩, ⟨some 78, .fadr 0 (.tmp 10), some (77, false)⟩, ⟨some 79, .load 1 false (.tmp 78), some (77, false)⟩, ⟨some 80, .slen (.tmp 79), some (77, false)⟩, ⟨some 81, .mov (.tmp 0), some (77, false)⟩, ⟨some 82, .mov (.tmp 7), some (77, false)⟩, ⟨some 83, .iadr 6 (.tmp 81) (.tmp 82), some (77, false)⟩, ⟨some 84, .fadr 0 (.tmp 83), some (77, false)⟩, ⟨some 85, .load 1 false (.tmp 84), some (77, false)⟩, ⟨some 86, .slen (.tmp 85), some (77, false)⟩, ⟨some 87, .bin .gtr (.tmp 80) (.tmp 86), some (77, false)⟩, ⟨some 88, .pick (.tmp 77) (.const (.bool true)) (.tmp 87), some (74, true)⟩, ⟨some 89, .pick (.tmp 74) (.tmp 88) (.const (.bool false)), none⟩] (.held ⟨some 63, .fadr 3 (.tmp 10), none⟩ (.held ⟨some 64, .load 1 false (.tmp 63), none⟩ (.held ⟨some 65, .bin .eql (.tmp 64) (.const (.int .i64 0)), none⟩ (.held ⟨some 66, .mov (.tmp 65), none⟩ (.held ⟨some 67, .mov (.tmp 5), some (66, true)⟩ (.held ⟨some 68, .fadr 1 (.tmp 10), some (66, true)⟩ (.held ⟨some 69, .load 1 false (.tmp 68), some (66, true)⟩ (.held ⟨some 70, .fadr 2 (.tmp 10), some (66, true)⟩ (.held ⟨some 71, .load 1 false (.tmp 70), some (66, true)⟩ (.alt ⟨some 72, .call 49 [(.tmp 67), (.tmp 69), (.tmp 71)], some (66, true)⟩ (.held ⟨some 73, .pick (.tmp 66) (.tmp 72) (.const (.bool false)), none⟩ (.held ⟨some 74, .mov (.tmp 73), none⟩ (.held ⟨some 75, .mov (.tmp 7), some (74, true)⟩ (.held ⟨some 76, .bin .lss (.tmp 75) (.const (.int .i64 0)), some (74, true)⟩ (.held ⟨some 77, .mov (.tmp 76), some (74, true)⟩ (.held ⟨some 78, .fadr 0 (.tmp 10), some (77, false)⟩ (.held ⟨some 79, .load 1 false (.tmp 78), some (77, false)⟩ (.held ⟨some 80, .slen (.tmp 79), some (77, false)⟩ (.held ⟨some 81, .mov (.tmp 0), some (77, false)⟩ (.held ⟨some 82, .mov (.tmp 7), some (77, false)⟩ (.held ⟨some 83, .iadr 6 (.tmp 81) (.tmp 82), some (77, false)⟩ (.held ⟨some 84, .fadr 0 (.tmp 83), some (77, false)⟩ (.held ⟨some 85, .load 1 false (.tmp 84), some (77, false)⟩ (.held ⟨some 86, .slen (.tmp 85), some (77, false)⟩ (.held ⟨some 87, .bin .gtr (.tmp 80) (.tmp 86), some (77, false)⟩ (.held ⟨some 88, .pick (.tmp 77) (.const (.bool true)) (.tmp 87), some (74, true)⟩ (.held ⟨some 89, .pick (.tmp 74) (.tmp 88) (.const (.bool false)), none⟩ .done))))))))))))))))) .stop))))))))))) (.cond (.tmp 89) (.ops [⟨some 90, .mov (.tmp 9), none⟩, ⟨some 7, .mov (.tmp 90), none⟩]) .skip))))))) (.ops [⟨some 26, .mov (.tmp 9), none⟩, ⟨some 27, .bin .add (.tmp 26) (.const (.int .i64 1)), none⟩, ⟨some 9, .mov (.tmp 27), none⟩])))))) (.seq (.block 2 (.seq (.ops [⟨some 92, .mov (.tmp 7), none⟩, ⟨some 93, .bin .geq (.tmp 92) (.const (.int .i64 0)), none⟩, ⟨some 91, .mov (.tmp 93), none⟩]) (.cond (.tmp 91) (.seq (.ops [⟨some 94, .mov (.tmp 0), none⟩, ⟨some 95, .mov (.tmp 7), none⟩, ⟨some 96, .mov (.tmp 1), none⟩, ⟨some 97, .call 50 [(.tmp 94), (.const (.int .i64 2)), (.tmp 95), (.tmp 96)], none⟩, ⟨none, .store 4 (.tmp 4) (.tmp 97), none⟩]) .ret) (.seq (.ops [⟨some 99, .mov (.tmp 6), none⟩, ⟨some 100, .bin .geq (.tmp 99) (.const (.int .i64 0)), none⟩, ⟨some 101, .mov (.tmp 100), none⟩, ⟨some 102, .mov (.tmp 5), some (101, true)⟩, ⟨some 103, .mov (.tmp 0), some (101, true)⟩, ⟨some 104, .mov (.tmp 6), some (101, true)⟩, ⟨some 105, .iadr 6 (.tmp 103) (.tmp 104), some (101, true)⟩, ⟨some 106, .fadr 1 (.tmp 105), some (101, true)⟩, ⟨some 107, .load 1 false (.tmp 106), some (101, true)⟩, ⟨some 108, .bin .lss (.tmp 102) (.tmp 107), some (101, true)⟩, ⟨some 109, .pick (.tmp 101) (.tmp 108) (.const (.bool false)), none⟩, ⟨some 98, .mov (.tmp 109), none⟩]) (.cond (.tmp 98) (.seq (.ops [⟨some 110, .call 47 [(.const (.int .i64 0))], none⟩, ⟨none, .store 4 (.tmp 4) (.tmp 110), none⟩]) .ret) (.seq (.ops [⟨some 112, .mov (.tmp 6), none⟩, ⟨some 113, .bin .lss (.tmp 112) (.const (.int .i64 0)), none⟩, ⟨some 114, .mov (.tmp 113), none⟩, ⟨some 115, .mov (.tmp 5), some (114, false)⟩, ⟨some 116, .mov (.tmp 0), some (114, false)⟩, ⟨some 117, .mov (.tmp 6), some (114, false)⟩, ⟨some 118, .iadr 6 (.tmp 116) (.tmp 117), some (114, false)⟩, ⟨some 119, .fadr 2 (.tmp 118), some (114, false)⟩, ⟨some 120, .load 1 false (.tmp 119), some (114, false)⟩, ⟨some 121, .bin .gtr (.tmp 115) (.tmp 120), some (114, false)⟩, ⟨some 122, .pick (.tmp 114) (.const (.bool true)) (.tmp 121), none⟩, ⟨some 111, .mov (.tmp 122), none⟩]) (.cond (.tmp 111) (.seq (.seq (.ops [⟨some 123, .mov (.tmp 8), none⟩]) (.cond (.tmp 123) (.seq (.ops [⟨some 124, .call 47 [(.const (.int .i64 0))], none⟩, ⟨none, .store 4 (.tmp 4) (.tmp 124), none⟩]) .ret) .skip)) (.seq (.ops [⟨some 125, .call 47 [(.const (.int .i64 3))], none⟩, ⟨none, .store 4 (.tmp 4) (.tmp 125), none⟩]) .ret)) (.seq (.ops [⟨some 127, .mov (.tmp 5), none⟩, ⟨some 128, .mov (.tmp 0), none⟩, ⟨some 129, .mov (.tmp 6), none⟩, ⟨some 130, .iadr 6 (.tmp 128) (.tmp 129), none⟩, ⟨some 131, .fadr 2 (.tmp 130), none⟩, ⟨some 132, .load 1 false (.tmp 131), none⟩, ⟨some 133, .bin .eql (.tmp 127) (.tmp 132), none⟩, ⟨some 134, .mov (.tmp 133), none⟩, ⟨some 135, .mov (.tmp 8), some (134, true)⟩, ⟨some 136, .una .not (.tmp 135), some (134, true)⟩, ⟨some 137, .pick (.tmp 134) (.tmp 136) (.const (.bool false)), none⟩, ⟨some 126, .mov (.tmp 137), none⟩]) (.cond (.tmp 126) (.seq (.ops [⟨some 138, .mov (.tmp 0), none⟩, ⟨some 139, .mov (.tmp 6), none⟩, ⟨some 140, .mov (.tmp 1), none⟩, ⟨some 141, .call 50 [(.tmp 138), (.const (.int .i64 2)), (.tmp 139), (.tmp 140)], none⟩, ⟨none, .store 4 (.tmp 4) (.tmp 141), none⟩]) .ret) .skip))))))))) (.seq (.ops [⟨some 142, .mov (.tmp 0), none⟩, ⟨some 143, .mov (.tmp 6), none⟩, ⟨some 144, .mov (.tmp 1), none⟩, ⟨some 145, .call 50 [(.tmp 142), (.const (.int .i64 1)), (.tmp 143), (.tmp 144)], none⟩, ⟨none, .store 4 (.tmp 4) (.tmp 145), none⟩]) .ret)))))))
@[reducible] def rv22 : List RV := [.cell 4 4 true]
theorem low22 : lowC Tryd.prog tau Tryd.f22.ntmps (Tryd.f22.body.getD .skip) = some (erase ic22) := by kernel_rfl
theorem res22 : lowR Tryd.prog Tryd.f22.results.toList = some rv22 := by kernel_rfl
theorem bod22 : Tryd.f22.body = some (Tryd.f22.body.getD .skip) := by kernel_rfl
theorem cal22 : callable Tryd.prog 22 = true := by kernel_rfl

end Go.Proofs.YthghcialeghgoaaDoorE

/-! The reference's Dial. -/
namespace Go.Proofs.YthghcialeghgoaaDoorE
open Go Go.RowKit
set_option linter.unusedSimpArgs false
set_option linter.unusedVariables false
set_option maxRecDepth 20000
set_option maxHeartbeats 4000000

theorem dialP_no {l : List Rul} {d : ByteArray} (h : ¬ (rulesP l ∧ digsP d)) : dialP l d = noneD 5 := if_neg h
theorem dialP_yes {l : List Rul} {d : ByteArray} (h : rulesP l ∧ digsP d) : dialP l d = dialV l d := if_pos h
def spDial : Spec := ⟨fun _ _ => [], fun args objs K => match args, objs with
  | [.rs .rule l, .v (.string d)], [] => (szRulAll l 140737488351232 ∧ l.length ≤ 1099511627776 ∧ d.size ≤ 1099511627776) ∧ K (dA (dialP l d)) [] 0
  | _, _ => False, false⟩
theorem spDial_t {L : Hp} {a : List AVal} : Spec.take spDial L a = [] := id rfl
theorem spDial_k : Spec.keep spDial = false := id rfl
theorem spDial_f {l} {d} {K : AVal → Hp → Nat → Prop} : Spec.f spDial ([.rs .rule l, .v (.string d)]) ([]) K = ((szRulAll l 140737488351232 ∧ l.length ≤ 1099511627776 ∧ d.size ≤ 1099511627776) ∧ K (dA (dialP l d)) [] 0) := id rfl
theorem valid22 : Valid Tryd.prog 22 spDial := by
  refine validI (Γ := lk [(11, spRulesOk), (40, spDigits), (47, spTold), (48, spBeg), (49, spIn), (50, spOf)]) Tryd.func22 bod22 low22 res22 (good_of ⟨⟨cal11, valid11⟩, ⟨cal40, valid40⟩, ⟨cal47, valid47⟩, ⟨cal48, valid48⟩, ⟨cal49, valid49⟩, ⟨cal50, valid50⟩, trivial⟩) ?_
  intro E args objs K h hE hG hP
  simp only [spDial] at h
  split at h
  · refine ⟨by simp [Tryd.ntmps22], ?_⟩
    rename_i l d
    obtain ⟨⟨hs, hl, hd⟩, h⟩ := h
    have hst := eq_true hs
    have hd2 : d.size ≤ 140737488351232 := by omega
    by_cases hA : rulesP l ∧ digsP d
    · obtain ⟨hR, hD⟩ := hA
      rw [dialP_yes ⟨hR, hD⟩] at h
      have f1 := eq_true hR
      have f2 := eq_true hD
      simp (config := { maxSteps := 2000000 }) only [go_sem, hG, hP, Nat.reduceEqDiff, ↓reduceIte, reduceCtorEq, Nat.reduceAdd, Nat.reduceSub, Nat.reduceMul, Nat.reduceLT, Nat.reduceLeDiff, Int.reduceAdd, Int.reduceSub, Int.reduceMul, Int.reduceLT, Int.reduceLE, Int.reduceEq, Int.reduceNeg, Int.reduceNe, Int.reduceGE, Int.reduceGT, Nat.reduceBEq, Int.reduceToNat,  spRulesOk_f, spRulesOk_t, spRulesOk_k, spDigits_f, spDigits_t, spDigits_k, hst, hl, hd2, f1, f2]
      (try simp (disch := omega) only [wrap_id])
      repeat (refine And.intro (by first | omega | (simp; done) | (simp; omega) | (unfold appRoom; omega)) ?_)
      refine loopI hE (fun i : Nat => ⟨[(0, .rs .rule l), (1, .v (.string d)), (4, .ptr 0 0), (5, .v (.int .i64 d.size)), (6, .v (.int .i64 (bestN l d i))), (7, .v (.int .i64 (firstN l d i))), (8, .v (.bool (openN l d i))), (9, .v (.int .i64 i))], [(0, .box [.v (.int .i64 0), .v (.int .i64 0), .v (.string ⟨#[]⟩), .v (.int .i64 0)])], 1, Tryd.f22.ntmps⟩) (fun i => i ≤ l.length) (fun i => l.length - i) ⟨0, Nat.zero_le _, SubS.weak ?_⟩ ?_
      · simp (config := { maxSteps := 2000000 }) only [go_sem, hG, hP, Nat.reduceEqDiff, ↓reduceIte, reduceCtorEq, Nat.reduceAdd, Nat.reduceSub, Nat.reduceMul, Nat.reduceLT, Nat.reduceLeDiff, Int.reduceAdd, Int.reduceSub, Int.reduceMul, Int.reduceLT, Int.reduceLE, Int.reduceEq, Int.reduceNeg, Int.reduceNe, Int.reduceGE, Int.reduceGT, Nat.reduceBEq, Int.reduceToNat,  bestN, firstN, openN]
        repeat' (first | with_reducible rfl | (refine And.intro ?_ ?_) | (refine congrArg (Value.int _) ?_; omega) | omega)
      · intro i hi
        dsimp only at hi ⊢
        by_cases hi2 : i < l.length
        · have e1 : ((i : Int) < l.length) = True := by apply eq_true; omega
          have hb : bestN l d (i + 1) = if begV d (l.getD i Rulz).pre = true ∧ (bestN l d i < 0 ∨ (l.getD (bestN l d i).toNat Rulz).pre.size < (l.getD i Rulz).pre.size) then (i : Int) else bestN l d i := rfl
          have hf : firstN l d (i + 1) = if begV d (l.getD i Rulz).pre = true ∧ ((l.getD i Rulz).route = 0 ∧ (l.getD i Rulz).least ≤ d.size ∧ (d.size : Int) ≤ (l.getD i Rulz).most) ∧ (firstN l d i < 0 ∨ (l.getD (firstN l d i).toNat Rulz).pre.size < (l.getD i Rulz).pre.size) then (i : Int) else firstN l d i := rfl
          have ho : openN l d (i + 1) = (openN l d i || (decide ((l.getD i Rulz).pre.size > d.size) && begV (l.getD i Rulz).pre d)) := by rw [open_eq]; rfl
          have hbb := bestN_bd l d i
          have hfb := firstN_bd l d i
          have hsb := hs i hi2
          have hbr : ¬ bestN l d i < 0 → (l.getD (bestN l d i).toNat Rulz).pre.size ≤ 140737488351232 := fun e => (hs _ (by omega)).1
          have hfr : ¬ firstN l d i < 0 → (l.getD (firstN l d i).toNat Rulz).pre.size ≤ 140737488351232 := fun e => (hs _ (by omega)).1
          dsimp only [Rulz] at hb hf ho hbr hfr
          generalize hB : bestN l d i = B at *
          generalize hF : firstN l d i = F at *
          generalize hO : openN l d i = O at *
          generalize hcd : l.getD i (⟨⟨#[]⟩, 0, 0, 0, 0, ⟨#[]⟩⟩ : Rul) = c at *
          simp (config := { maxSteps := 2000000 }) only [go_sem, hG, hP, Nat.reduceEqDiff, ↓reduceIte, reduceCtorEq, Nat.reduceAdd, Nat.reduceSub, Nat.reduceMul, Nat.reduceLT, Nat.reduceLeDiff, Int.reduceAdd, Int.reduceSub, Int.reduceMul, Int.reduceLT, Int.reduceLE, Int.reduceEq, Int.reduceNeg, Int.reduceNe, Int.reduceGE, Int.reduceGT, Nat.reduceBEq, Int.reduceToNat,  e1, hcd, spBeg_f, spBeg_t, spBeg_k, spIn_f, spIn_t, spIn_k]
          (try simp (disch := omega) only [wrap_id])
          repeat' (first | (refine And.intro ?_ ?_) | (with_reducible intro _))
          all_goals first
            | omega
            | (exact hbr (by assumption))
            | (exact hfr (by assumption))
            | (refine ⟨i + 1, ⟨by omega, by omega⟩, SubS.weak ?_⟩
               simp (config := { maxSteps := 2000000 }) only [go_sem, hG, hP, Nat.reduceEqDiff, ↓reduceIte, reduceCtorEq, Nat.reduceAdd, Nat.reduceSub, Nat.reduceMul, Nat.reduceLT, Nat.reduceLeDiff, Int.reduceAdd, Int.reduceSub, Int.reduceMul, Int.reduceLT, Int.reduceLE, Int.reduceEq, Int.reduceNeg, Int.reduceNe, Int.reduceGE, Int.reduceGT, Nat.reduceBEq, Int.reduceToNat]
               rw [hb, hf, ho]
               clear hb hf ho hs hR hD f1 f2 hst
               first
                 | grind
                 | skip)
        · have e1 : ((i : Int) < l.length) = False := by apply eq_false; omega
          have ei : i = l.length := by omega
          subst ei
          have hV : dialV l d = if 0 ≤ firstN l d l.length then ofD l d 2 (firstN l d l.length)
            else if bestN l d l.length < 0 then moreD (openN l d l.length)
            else if (d.size : Int) < (l.getD (bestN l d l.length).toNat Rulz).least then noneD 0
            else if (d.size : Int) > (l.getD (bestN l d l.length).toNat Rulz).most then moreD (openN l d l.length)
            else if (d.size : Int) = (l.getD (bestN l d l.length).toNat Rulz).most ∧ openN l d l.length = false then ofD l d 2 (bestN l d l.length)
            else ofD l d 1 (bestN l d l.length) := rfl
          have hbb := bestN_bd l d l.length
          have hfb := firstN_bd l d l.length
          have hff := firstN_fits l d l.length
          have hbr : 0 ≤ bestN l d l.length → ruleP (l.getD (bestN l d l.length).toNat Rulz) := fun e => (hR.1 _ (by omega)).1
          have hfr : 0 ≤ firstN l d l.length → ruleP (l.getD (firstN l d l.length).toNat Rulz) := fun e => (hR.1 _ (by omega)).1
          clear hs hst hD f1 f2 hR hi hi2
          generalize hB : bestN l d l.length = B at *
          generalize hF : firstN l d l.length = F at *
          generalize hO : openN l d l.length = O at *
          generalize dialV l d = V at *
          unfold ruleP digsP at hbr hfr
          dsimp only [Rulz] at hV hbr hfr hff
          simp (config := { maxSteps := 2000000 }) only [go_sem, hG, hP, Nat.reduceEqDiff, ↓reduceIte, reduceCtorEq, Nat.reduceAdd, Nat.reduceSub, Nat.reduceMul, Nat.reduceLT, Nat.reduceLeDiff, Int.reduceAdd, Int.reduceSub, Int.reduceMul, Int.reduceLT, Int.reduceLE, Int.reduceEq, Int.reduceNeg, Int.reduceNe, Int.reduceGE, Int.reduceGT, Nat.reduceBEq, Int.reduceToNat,  e1, spTold_f, spTold_t, spTold_k, spOf_f, spOf_t, spOf_k]
          (try simp (disch := omega) only [wrap_id])
          repeat' (first | (refine And.intro ?_ ?_) | (with_reducible intro _))
          all_goals first
            | omega
            | (exfalso; omega)
            | (obtain ⟨⟨_, _⟩, _, _, _, _, ⟨_, _⟩, ⟨_, _⟩, ⟨_, _⟩, _⟩ := hfr (by omega); have := hff (by omega); dsimp only [Rulz] at *; omega)
            | (obtain ⟨⟨_, _⟩, _, _, _, _, ⟨_, _⟩, ⟨_, _⟩, ⟨_, _⟩, _⟩ := hbr (by omega); dsimp only [Rulz] at *; omega)
            | (have hv : V = ofD l d 2 F := by
                 clear hbr hfr hff h hE; grind
               rw [hv] at h; refine ⟨_, _, _, ?_, h⟩; simp (config := { maxSteps := 2000000 }) only [go_sem, hG, hP, Nat.reduceEqDiff, ↓reduceIte, reduceCtorEq, Nat.reduceAdd, Nat.reduceSub, Nat.reduceMul, Nat.reduceLT, Nat.reduceLeDiff, Int.reduceAdd, Int.reduceSub, Int.reduceMul, Int.reduceLT, Int.reduceLE, Int.reduceEq, Int.reduceNeg, Int.reduceNe, Int.reduceGE, Int.reduceGT, Nat.reduceBEq, Int.reduceToNat,  dA, ofD]; done)
            | (have hv : V = ofD l d 2 B := by
                 clear hbr hfr hff h hE; grind
               rw [hv] at h; refine ⟨_, _, _, ?_, h⟩; simp (config := { maxSteps := 2000000 }) only [go_sem, hG, hP, Nat.reduceEqDiff, ↓reduceIte, reduceCtorEq, Nat.reduceAdd, Nat.reduceSub, Nat.reduceMul, Nat.reduceLT, Nat.reduceLeDiff, Int.reduceAdd, Int.reduceSub, Int.reduceMul, Int.reduceLT, Int.reduceLE, Int.reduceEq, Int.reduceNeg, Int.reduceNe, Int.reduceGE, Int.reduceGT, Nat.reduceBEq, Int.reduceToNat,  dA, ofD]; done)
            | (have hv : V = ofD l d 1 B := by
                 clear hbr hfr hff h hE; grind
               rw [hv] at h; refine ⟨_, _, _, ?_, h⟩; simp (config := { maxSteps := 2000000 }) only [go_sem, hG, hP, Nat.reduceEqDiff, ↓reduceIte, reduceCtorEq, Nat.reduceAdd, Nat.reduceSub, Nat.reduceMul, Nat.reduceLT, Nat.reduceLeDiff, Int.reduceAdd, Int.reduceSub, Int.reduceMul, Int.reduceLT, Int.reduceLE, Int.reduceEq, Int.reduceNeg, Int.reduceNe, Int.reduceGE, Int.reduceGT, Nat.reduceBEq, Int.reduceToNat,  dA, ofD]; done)
            | (have hv : V = noneD 0 := by
                 clear hbr hfr hff h hE; grind [moreD]
               rw [hv] at h; refine ⟨_, _, _, ?_, h⟩; simp (config := { maxSteps := 2000000 }) only [go_sem, hG, hP, Nat.reduceEqDiff, ↓reduceIte, reduceCtorEq, Nat.reduceAdd, Nat.reduceSub, Nat.reduceMul, Nat.reduceLT, Nat.reduceLeDiff, Int.reduceAdd, Int.reduceSub, Int.reduceMul, Int.reduceLT, Int.reduceLE, Int.reduceEq, Int.reduceNeg, Int.reduceNe, Int.reduceGE, Int.reduceGT, Nat.reduceBEq, Int.reduceToNat,  dA, noneD]; done)
            | (have hv : V = noneD 3 := by
                 clear hbr hfr hff h hE; grind [moreD]
               rw [hv] at h; refine ⟨_, _, _, ?_, h⟩; simp (config := { maxSteps := 2000000 }) only [go_sem, hG, hP, Nat.reduceEqDiff, ↓reduceIte, reduceCtorEq, Nat.reduceAdd, Nat.reduceSub, Nat.reduceMul, Nat.reduceLT, Nat.reduceLeDiff, Int.reduceAdd, Int.reduceSub, Int.reduceMul, Int.reduceLT, Int.reduceLE, Int.reduceEq, Int.reduceNeg, Int.reduceNe, Int.reduceGE, Int.reduceGT, Nat.reduceBEq, Int.reduceToNat,  dA, noneD]; done)
    · rw [dialP_no hA] at h
      simp (config := { maxSteps := 2000000 }) only [go_sem, hG, hP, Nat.reduceEqDiff, ↓reduceIte, reduceCtorEq, Nat.reduceAdd, Nat.reduceSub, Nat.reduceMul, Nat.reduceLT, Nat.reduceLeDiff, Int.reduceAdd, Int.reduceSub, Int.reduceMul, Int.reduceLT, Int.reduceLE, Int.reduceEq, Int.reduceNeg, Int.reduceNe, Int.reduceGE, Int.reduceGT, Nat.reduceBEq, Int.reduceToNat,  spRulesOk_f, spRulesOk_t, spRulesOk_k, spDigits_f, spDigits_t, spDigits_k, spTold_f, spTold_t, spTold_k, hst, hl, hd2]
      (try simp (disch := omega) only [wrap_id])
      repeat' (first | (refine And.intro ?_ ?_) | (with_reducible intro _))
      all_goals first
        | omega
        | (refine ⟨_, _, _, ?_, h⟩; simp (config := { maxSteps := 2000000 }) only [go_sem, hG, hP, Nat.reduceEqDiff, ↓reduceIte, reduceCtorEq, Nat.reduceAdd, Nat.reduceSub, Nat.reduceMul, Nat.reduceLT, Nat.reduceLeDiff, Int.reduceAdd, Int.reduceSub, Int.reduceMul, Int.reduceLT, Int.reduceLE, Int.reduceEq, Int.reduceNeg, Int.reduceNe, Int.reduceGE, Int.reduceGT, Nat.reduceBEq, Int.reduceToNat,  dA, noneD]; done)
        | (exfalso; apply hA; refine ⟨?_, ?_⟩ <;> first | assumption | exact ⟨by assumption, by assumption⟩)
  · exact h.elim
end Go.Proofs.YthghcialeghgoaaDoorE

/-! The code of a function, in the engine's words. -/
namespace Go.Proofs.YthghcialeghgoaaDoorE
open Go Go.RowKit
@[reducible] def ic52 : IC := (.seq (.ops [⟨some 2, .box (.tmp 0), none⟩, ⟨some 3, .box (.tmp 1), none⟩, ⟨some 4, .new [(.int .i64 0), (.int .i64 0), (.string ⟨#[]⟩), (.int .i64 0)], none⟩]) (.seq (.ops [⟨some 13, .load 1 false (.tmp 3), none⟩, ⟨some 14, .slen (.tmp 13), none⟩, ⟨some 5, .mov (.tmp 14), none⟩]) (.seq (.ops [⟨some 6, .mov (.const (.int .i64 (-1))), none⟩, ⟨some 7, .mov (.const (.int .i64 (-1))), none⟩]) (.seq (.ops [⟨some 8, .new [(.bool false)], none⟩, ⟨none, .store 1 (.tmp 8) (.const (.bool false)), none⟩]) (.seq (.seq (.ops [⟨some 15, .load 1 false (.tmp 2), none⟩, ⟨some 16, .len (.tmp 15), none⟩, ⟨some 17, .mov (.const (.int .i64 0)), none⟩]) (.block 0 (.loop (.seq (.ops [⟨some 18, .bin .lss (.tmp 17) (.tmp 16), none⟩]) (.seq (.cond (.tmp 18) .skip (.exit 0)) (.seq (.block 1 (.seq (.ops [⟨some 19, .mov (.tmp 17), none⟩, ⟨some 20, .iadr 6 (.tmp 15) (.tmp 17), none⟩, ⟨some 21, .load 6 true (.tmp 20), none⟩, ⟨some 10, .new [(.string ⟨#[]⟩), (.int .i64 0), (.int .i64 0), (.int .i64 0), (.int .i64 0), (.string ⟨#[]⟩)], none⟩, ⟨some 9, .mov (.tmp 19), none⟩, ⟨none, .store 6 (.tmp 10) (.tmp 21), none⟩]) (.seq (.seq (.ops [⟨some 22, .load 1 false (.tmp 3), none⟩, ⟨some 23, .fadr 0 (.tmp 10), none⟩, ⟨some 24, .load 1 false (.tmp 23), none⟩, ⟨some 25, .call 63 [(.tmp 22), (.tmp 24)], none⟩, ⟨some 26, .una .not (.tmp 25), none⟩]) (.cond (.tmp 26) (.seq (.ops [⟨some 27, .load 1 false (.tmp 8), none⟩, ⟨some 28, .mov (.tmp 27), none⟩, ⟨some 29, .fadr 0 (.tmp 10), some (28, false)⟩, ⟨some 30, .load 1 false (.tmp 29), some (28, false)⟩, ⟨some 31, .load 1 false (.tmp 3), some (28, false)⟩, ⟨some 32, .call 63 [(.tmp 30), (.tmp 31)], some (28, false)⟩, ⟨some 33, .pick (.tmp 28) (.const (.bool true)) (.tmp 32), none⟩, ⟨none, .store 1 (.tmp 8) (.tmp 33), none⟩]) (.exit 1)) .skip)) (.seq (.seq (.draw [⟨some 34, .mov (.tmp 6), none⟩, ⟨some 35, .bin .lss (.tmp 34) (.const (.int .i64 0)), none⟩, ⟨some 36, .mov (.tmp 35), none⟩, ⟨some 37, .fadr 0 (.tmp 10), some (36, false)⟩, ⟨some 38, .load 1 false (.tmp 37), some (36, false)⟩, ⟨some 39, .slen (.tmp 38), some (36, false)⟩, ⟨some 40, .load 1 false (.tmp 2), some (36, false)⟩, ⟨some 41, .mov (.tmp 6), some (36, false)⟩, ⟨some 42, .iadr 6 (.tmp 40) (.tmp 41), some (36, false)⟩, ⟨some 43, .fadr 0 (.tmp 42), some (36, false)⟩, ⟨some 44, .load 1 false (.tmp 43), some (36, false)⟩, ⟨some 45, .slen (.tmp 44), some (36, false)⟩, ⟨some 46, .bin .gtr (.tmp 39) (.tmp 45), some (36, false)⟩, ⟨some 47, .pick (.tmp 36) (.const (.bool true)) (.tmp 46), none⟩] (.held ⟨some 34, .mov (.tmp 6), none⟩ (.held ⟨some 35, .bin .lss (.tmp 34) (.const (.int .i64 0)), none⟩ (.held ⟨some 36, .mov (.tmp 35), none⟩ (.held ⟨some 37, .fadr 0 (.tmp 10), some (36, false)⟩ (.held ⟨some 38, .load 1 false (.tmp 37), some (36, false)⟩ (.held ⟨some 39, .slen (.tmp 38), some (36, false)⟩ (.held ⟨some 40, .load 1 false (.tmp 2), some (36, false)⟩ (.held ⟨some 41, .mov (.tmp 6), some (36, false)⟩ (.held ⟨some 42, .iadr 6 (.tmp 40) (.tmp 41), some (36, false)⟩ (.held ⟨some 43, .fadr 0 (.tmp 42), some (36, false)⟩ (.held ⟨some 44, .load 1 false (.tmp 43), some (36, false)⟩ (.held ⟨some 45, .slen (.tmp 44), some (36, false)⟩ (.held ⟨some 46, .bin .gtr (.tmp 39) (.tmp 45), some (36, false)⟩ (.held ⟨some 47, .pick (.tmp 36) (.const (.bool true)) (.tmp 46), none⟩ .done))))))))))))))) (.cond (.tmp 47) (.ops [⟨some 48, .mov (.tmp 9), none⟩, ⟨some 6, .mov (.tmp 48), none⟩]) .skip)) (.seq (.draw [⟨some 49, .fadr 3 (.tmp 10), none⟩, ⟨some 50, .load 1 false (.tmp 49), none⟩, ⟨some 51, .bin .eql (.tmp 50) (.const (.int .i64 0)), none⟩, ⟨some 52, .mov (.tmp 51), none⟩, ⟨some 53, .mov (.tmp 5), some (52, true)⟩, ⟨some 54, .fadr 1 (.tmp 10), some (52, true)⟩, ⟨some 55, .load 1 false (.tmp 54), some (52, true)⟩, ⟨some 56, .bin .geq (.tmp 53) (.tmp 55), some (52, true)⟩, ⟨some 57, .pick (.tmp 52) (.tmp 56) (.const (.bool false)), none⟩, ⟨some 58, .mov (.tmp 57), none⟩, ⟨some 59, .mov (.tmp 5), some (58, true)⟩, ⟨some 60, .fadr 2 (.tmp 10), some (58, true)⟩, ⟨some 61, .load 1 false (.tmp 60), some (58, true)⟩, ⟨some 62, .bin .leq (.tmp 59) (.tmp 61), some (58, true)⟩, ⟨some 63, .pick (.tmp 58) (.tmp 62) (.const (.bool false)), none⟩, ⟨some 64, .mov (.tmp 63), none⟩, ⟨some 65, .mov (.tmp 7), some (64, true)⟩, ⟨some 66, .bin .lss (.tmp 65) (.const (.int .i64 0)), some (64, true)⟩, ⟨some 67, .mov (.tmp 66), some (64, true)⟩, ⟨some 68, .fadr 0 (.tmp 10), some (67, false)⟩, ⟨some 69, .load 1 false (.tmp 68), some (67, false)⟩, ⟨some 70, .slen (.tmp 69), some (67, false)⟩, ⟨some 71, .load 1 false (.tmp 2), some (67, false)⟩, ⟨some 72, .mov (.tmp 7), some (67, false)⟩, ⟨some 73, .iadr 6 (.tmp 71) (.tmp 72), some (67, false)⟩, ⟨some 74, .fadr 0 (.tmp 73), some (67, false)⟩, ⟨some 75, .load 1 false (.tmp 74), some (67, false)⟩, ⟨some 76, .slen (.tmp 75), some (67, false)⟩, ⟨some 77, .bin .gtr (.tmp 70) (.tmp 76), some (67, false)⟩, ⟨some 78, .pick (.tmp 67) (.const (.bool true)) (.tmp 77), some (64, true)⟩, ⟨some 79, .pick (.tmp 64) (.tmp 78) (.const (.bool false)), none⟩] (.held ⟨some 49, .fadr 3 (.tmp 10), none⟩ (.held ⟨some 50, .load 1 false (.tmp 49), none⟩ (.held ⟨some 51, .bin .eql (.tmp 50) (.const (.int .i64 0)), none⟩ (.held ⟨some 52, .mov (.tmp 51), none⟩ (.held ⟨some 53, .mov (.tmp 5), some (52, true)⟩ (.held ⟨some 54, .fadr 1 (.tmp 10), some (52, true)⟩ (.held ⟨some 55, .load 1 false (.tmp 54), some (52, true)⟩ (.held ⟨some 56, .bin .geq (.tmp 53) (.tmp 55), some (52, true)⟩ (.held ⟨some 57, .pick (.tmp 52) (.tmp 56) (.const (.bool false)), none⟩ (.held ⟨some 58, .mov (.tmp 57), none⟩ (.held ⟨some 59, .mov (.tmp 5), some (58, true)⟩ (.held ⟨some 60, .fadr 2 (.tmp 10), some (58, true)⟩ (.held ⟨some 61, .load 1 false (.tmp 60), some (58, true)⟩ (.held ⟨some 62, .bin .leq (.tmp 59) (.tmp 61), some (58, true)⟩ (.held ⟨some 63, .pick (.tmp 58) (.tmp 62) (.const (.bool false)), none⟩ (.held ⟨some 64, .mov (.tmp 63), none⟩ (.held ⟨some 65, .mov (.tmp 7), some (64, true)⟩ (.held ⟨some 66, .bin .lss (.tmp 65) (.const (.int .i64 0)), some (64, true)⟩ (.held ⟨some 67, .mov (.tmp 66), some (64, true)⟩ (.held ⟨some 68, .fadr 0 (.tmp 10), some (67, false)⟩ (.held ⟨some 69, .load 1 false (.tmp 68), some (67, false)⟩ (.held ⟨some 70, .slen (.tmp 69), some (67, false)⟩ (.held ⟨some 71, .load 1 false (.tmp 2), some (67, false)⟩ (.held ⟨some 72, .mov (.tmp 7), some (67, false)⟩ (.held ⟨some 73, .iadr 6 (.tmp 71) (.tmp 72), some (67, false)⟩ (.held ⟨some 74, .fadr 0 (.tmp 73), some (67, false)⟩ (.held ⟨some 75, .load 1 false (.tmp 74), some (67, false)⟩ (.held ⟨some 76, .slen (.tmp 75), some (67, false)⟩ (.held ⟨some 77, .bin .gtr (.tmp 70) (.tmp 76), some (67, false)⟩ (.held ⟨some 78, .pick (.tmp 67) (.const (.bool true)) (.tmp 77), some (64, true)⟩ (.held ⟨some 79, .pick (.tmp 64) (.tmp 78) (.const (.bool false)), none⟩ .done)))))))))))))))))))))))))))))))) (.cond (.tmp 79) (.ops [⟨some 80, .mov (.tmp 9), none⟩, ⟨some 7, .mov (.tmp 80), none⟩]) .skip)))))) (.ops [⟨some 81, .bin .add (.tmp 17) (.const (.int .i64 1)), none⟩, ⟨some 17, .mov (.tmp 81), none⟩]))))))) (.seq (.ops [⟨some 82, .mfn 64 [(.tmp 2), (.tmp 3)], none⟩, ⟨some 11, .mov (.tmp 82), none⟩]) (.seq (.ops [⟨some 83, .mfn 65 [(.tmp 8)], none⟩, ⟨some 12, .mov (.tmp 83), none⟩]) (.seq (.block 2 (.seq (.ops [⟨some 85, .mov (.tmp 7), none⟩, ⟨some 86, .bin .geq (.tmp 85) (.const (.int .i64 0)), none⟩, ⟨some 84, .mov (.tmp 86), none⟩]) (.cond (.tmp 84) (.seq (.ops [⟨some 87, .mov (.tmp 11), none⟩, ⟨some 88, .mov (.tmp 7), none⟩, ⟨some 89, .callv (.tmp 87) [(.const (.int .i64 2)), (.tmp 88)], none⟩, ⟨none, .store 4 (.tmp 4) (.tmp 89), none⟩]) .ret) (.seq (.ops [⟨some 91, .mov (.tmp 6), none⟩, ⟨some 92, .bin .lss (.tmp 91) (.const (.int .i64 0)), none⟩, ⟨some 90, .mov (.tmp 92), none⟩]) (.cond (.tmp 90) (.seq (.ops [⟨some 93, .mov (.tmp 12), none⟩, ⟨some 94, .callv (.tmp 93) [], none⟩, ⟨none, .store 4 (.tmp 4) (.tmp 94), none⟩]) .ret) (.seq (.ops [⟨some 96, .mov (.tmp 5), none⟩, ⟨some 97, .load 1 false (.tmp 2), none⟩, ⟨some 98, .mov (.tmp 6), none⟩, ⟨some 99, .iadr 6 (.tmp 97) (.tmp 98), none⟩, ⟨some 100, .fadr 1 (.tmp 99), none⟩, ⟨some 101, .load 1 false (.tmp 100), none⟩, ⟨some 102, .bin .lss (.tmp 96) (.tmp 101), none⟩, ⟨some 95, .mov (.tmp 102), none⟩]) (.cond (.tmp 95) (.seq (.ops [⟨some 103, .call 51 [(.const (.int .i64 0))], none⟩, ⟨none, .store 4 (.tmp 4) (.tmp 103), none⟩]) .ret) (.seq (.ops [⟨some 105, .mov (.tmp 5), none⟩, ⟨some 106, .load 1 false (.tmp 2), none⟩, ⟨some 107, .mov (.tmp 6), none⟩, ⟨some 108, .iadr 6 (.tmp 106) (.tmp 107), none⟩, ⟨some 109, .fadr 2 (.tmp 108), none⟩, ⟨some 110, .load 1 false (.tmp 109), none⟩, ⟨some 111, .bin .gtr (.tmp 105) (.tmp 110), none⟩, ⟨some 104, .mov (.tmp 111), none⟩]) (.cond (.tmp 104) (.seq (.ops [⟨some 112, .mov (.tmp 12), none⟩, ⟨some 113, .callv (.tmp 112) [], none⟩, ⟨none, .store 4 (.tmp 4) (.tmp 113), none⟩]) .ret) (.seq (.ops [⟨some 115, .mov (.tmp 5), none⟩, ⟨some 116, .load 1 false (.tmp 2), none⟩, ⟨some 117, .mov (.tmp 6), none⟩, ⟨some 118, .iadr 6 (.tmp 116) (.tmp 117), none⟩, ⟨some 119, .fadr 2 (.tmp 118), none⟩, ⟨some 120, .load 1 false (.tmp 119), none⟩, ⟨some 121, .bin .eql (.tmp 115) (.tmp 120), none⟩, ⟨some 122, .mov (.tmp 121), none⟩, ⟨some 123, .load 1 false (.tmp 8), some (122, true)⟩, ⟨some 124, .una .not (.tmp 123), some (122, true)⟩, ⟨some 125, .pick (.tmp 122) (.tmp 124) (.const (.bool false)), none⟩, ⟨some 114, .mov (.tmp 125), none⟩]) (.cond (.tmp 114) (.seq (.ops [⟨some 126, .mov (.tmp 11), none⟩, ⟨some 127, .mov (.tmp 6), none⟩, ⟨some 128, .callv (.tmp 126) [(.const (.int .i64 2)), (.tmp 127)], none⟩, ⟨none, .store 4 (.tmp 4) (.tmp 128), none⟩]) .ret) .skip))))))))))) (.seq (.ops [⟨some 129, .mov (.tmp 11), none⟩, ⟨some 130, .mov (.tmp 6), none⟩, ⟨some 131, .callv (.tmp 129) [(.const (.int .i64 1)), (.tmp 130)], none⟩, ⟨none, .store 4 (.tmp 4) (.tmp 131), none⟩]) .ret)))))))))
@[reducible] def rv52 : List RV := [.cell 4 4 true]
theorem low52 : lowC Tryd.prog tau Tryd.f52.ntmps (Tryd.f52.body.getD .skip) = some (erase ic52) := by kernel_rfl
theorem res52 : lowR Tryd.prog Tryd.f52.results.toList = some rv52 := by kernel_rfl
theorem bod52 : Tryd.f52.body = some (Tryd.f52.body.getD .skip) := by kernel_rfl
theorem cal52 : callable Tryd.prog 52 = true := by kernel_rfl

end Go.Proofs.YthghcialeghgoaaDoorE

/-! The code of a function, in the engine's words. -/
namespace Go.Proofs.YthghcialeghgoaaDoorE
open Go Go.RowKit
@[reducible] def ic23 : IC := (.seq (.ops [⟨some 4, .new [(.int .i64 0), (.int .i64 0), (.string ⟨#[]⟩), (.int .i64 0)], none⟩]) (.seq (.seq (.ops [⟨some 5, .mov (.tmp 0), none⟩, ⟨some 6, .call 13 [(.tmp 5)], none⟩, ⟨some 7, .una .not (.tmp 6), none⟩, ⟨some 8, .mov (.tmp 7), none⟩, ⟨some 9, .mov (.tmp 1), some (8, false)⟩, ⟨some 10, .call 36 [(.tmp 9)], some (8, false)⟩, ⟨some 11, .una .not (.tmp 10), some (8, false)⟩, ⟨some 12, .pick (.tmp 8) (.const (.bool true)) (.tmp 11), none⟩]) (.cond (.tmp 12) (.seq (.ops [⟨some 13, .call 51 [(.const (.int .i64 5))], none⟩, ⟨none, .store 4 (.tmp 4) (.tmp 13), none⟩]) .ret) .skip)) (.seq (.ops [⟨some 14, .mov (.tmp 0), none⟩, ⟨some 15, .mov (.tmp 1), none⟩, ⟨some 16, .call 52 [(.tmp 14), (.tmp 15)], none⟩, ⟨none, .store 4 (.tmp 4) (.tmp 16), none⟩]) .ret)))
@[reducible] def rv23 : List RV := [.cell 4 4 true]
theorem low23 : lowC Tryd.prog tau Tryd.f23.ntmps (Tryd.f23.body.getD .skip) = some (erase ic23) := by kernel_rfl
theorem res23 : lowR Tryd.prog Tryd.f23.results.toList = some rv23 := by kernel_rfl
theorem bod23 : Tryd.f23.body = some (Tryd.f23.body.getD .skip) := by kernel_rfl
theorem cal23 : callable Tryd.prog 23 = true := by kernel_rfl

end Go.Proofs.YthghcialeghgoaaDoorE

/-! The code of a function, in the engine's words. -/
namespace Go.Proofs.YthghcialeghgoaaDoorE
open Go Go.RowKit
@[reducible] def ic24 : IC := (.seq (.ops [⟨some 2, .box (.tmp 0), none⟩, ⟨some 3, .box (.tmp 1), none⟩, ⟨some 4, .mov (.const (.bool false)), none⟩]) (.seq (.seq (.ops [⟨some 5, .fadr 0 (.tmp 2), none⟩, ⟨some 6, .load 1 false (.tmp 5), none⟩, ⟨some 7, .fadr 0 (.tmp 3), none⟩, ⟨some 8, .load 1 false (.tmp 7), none⟩, ⟨some 9, .bin .neq (.tmp 6) (.tmp 8), none⟩]) (.cond (.tmp 9) (.seq (.ops [⟨some 4, .mov (.const (.bool false)), none⟩]) .ret) .skip)) (.seq (.seq (.ops [⟨some 10, .fadr 1 (.tmp 2), none⟩, ⟨some 11, .load 1 false (.tmp 10), none⟩, ⟨some 12, .fadr 1 (.tmp 3), none⟩, ⟨some 13, .load 1 false (.tmp 12), none⟩, ⟨some 14, .bin .neq (.tmp 11) (.tmp 13), none⟩]) (.cond (.tmp 14) (.seq (.ops [⟨some 4, .mov (.const (.bool false)), none⟩]) .ret) .skip)) (.seq (.seq (.ops [⟨some 15, .fadr 2 (.tmp 2), none⟩, ⟨some 16, .load 1 false (.tmp 15), none⟩, ⟨some 17, .fadr 2 (.tmp 3), none⟩, ⟨some 18, .load 1 false (.tmp 17), none⟩, ⟨some 19, .bin .neq (.tmp 16) (.tmp 18), none⟩]) (.cond (.tmp 19) (.seq (.ops [⟨some 4, .mov (.const (.bool false)), none⟩]) .ret) .skip)) (.seq (.seq (.ops [⟨some 20, .fadr 3 (.tmp 2), none⟩, ⟨some 21, .load 1 false (.tmp 20), none⟩, ⟨some 22, .fadr 3 (.tmp 3), none⟩, ⟨some 23, .load 1 false (.tmp 22), none⟩, ⟨some 24, .bin .neq (.tmp 21) (.tmp 23), none⟩]) (.cond (.tmp 24) (.seq (.ops [⟨some 4, .mov (.const (.bool false)), none⟩]) .ret) .skip)) (.seq (.ops [⟨some 4, .mov (.const (.bool true)), none⟩]) .ret))))))
@[reducible] def rv24 : List RV := [.tmp 4]
theorem low24 : lowC Tryd.prog tau Tryd.f24.ntmps (Tryd.f24.body.getD .skip) = some (erase ic24) := by kernel_rfl
theorem res24 : lowR Tryd.prog Tryd.f24.results.toList = some rv24 := by kernel_rfl
theorem bod24 : Tryd.f24.body = some (Tryd.f24.body.getD .skip) := by kernel_rfl
theorem cal24 : callable Tryd.prog 24 = true := by kernel_rfl

end Go.Proofs.YthghcialeghgoaaDoorE

/-! The program's Dial. -/
namespace Go.Proofs.YthghcialeghgoaaDoorE
open Go Go.RowKit
set_option linter.unusedSimpArgs false
set_option linter.unusedVariables false
set_option maxRecDepth 20000
set_option maxHeartbeats 4000000

theorem takePR_eq2 {c i : Value} {m k : Nat} : takePR [.v c, .v i, .ptr m 0, .ptr k 0] = [m, k] := id rfl
theorem takeP1_eq2 {m : Nat} : takeP1 [.ptr m 0] = [m] := id rfl
def spDialI : Spec := ⟨fun _ _ => [], fun args objs K => match args, objs with
  | [.rs .rule l, .v (.string d)], [] => (szRulAll l 140737488351232 ∧ l.length ≤ 1099511627776 ∧ d.size ≤ 1099511627776 ∧ rulesP l) ∧ K (dA (dialV l d)) [] 0
  | _, _ => False, false⟩
theorem spDialI_t {L : Hp} {a : List AVal} : Spec.take spDialI L a = [] := id rfl
theorem spDialI_k : Spec.keep spDialI = false := id rfl
theorem spDialI_f {l} {d} {K : AVal → Hp → Nat → Prop} : Spec.f spDialI ([.rs .rule l, .v (.string d)]) ([]) K = ((szRulAll l 140737488351232 ∧ l.length ≤ 1099511627776 ∧ d.size ≤ 1099511627776 ∧ rulesP l) ∧ K (dA (dialV l d)) [] 0) := id rfl
theorem valid52 : Valid Tryd.prog 52 spDialI := by
  refine validI (Γ := lk [(51, spTold), (63, spBeg), (64, spOfC), (65, spMore)]) Tryd.func52 bod52 low52 res52 (good_of ⟨⟨cal51, valid51⟩, ⟨cal63, valid63⟩, ⟨cal64, valid64⟩, ⟨cal65, valid65⟩, trivial⟩) ?_
  intro E args objs K h hE hG hP
  simp only [spDialI] at h
  split at h
  · refine ⟨by simp [Tryd.ntmps52], ?_⟩
    rename_i l d
    obtain ⟨⟨hs, hl, hd, hR⟩, h⟩ := h
    have hd2 : d.size ≤ 140737488351232 := by omega
    simp (config := { maxSteps := 2000000 }) only [go_sem, hG, hP, Nat.reduceEqDiff, ↓reduceIte, reduceCtorEq, Nat.reduceAdd, Nat.reduceSub, Nat.reduceMul, Nat.reduceLT, Nat.reduceLeDiff, Int.reduceAdd, Int.reduceSub, Int.reduceMul, Int.reduceLT, Int.reduceLE, Int.reduceEq, Int.reduceNeg, Int.reduceNe, Int.reduceGE, Int.reduceGT, Nat.reduceBEq, Int.reduceToNat]
    (try simp (disch := omega) only [wrap_id])
    repeat (refine And.intro (by first | omega | (simp; done) | (simp; omega) | (unfold appRoom; omega)) ?_)
    refine loopI hE (fun i : Nat => ⟨[(2, .ptr 0 0), (3, .ptr 1 0), (4, .ptr 2 0), (5, .v (.int .i64 d.size)), (6, .v (.int .i64 (bestN l d i))), (7, .v (.int .i64 (firstN l d i))), (8, .ptr 3 0), (15, .rs .rule l), (16, .v (.int .i64 l.length)), (17, .v (.int .i64 i))], [(0, .box [.rs .rule l]), (1, .box [.v (.string d)]), (2, .box [.v (.int .i64 0), .v (.int .i64 0), .v (.string ⟨#[]⟩), .v (.int .i64 0)]), (3, .box [.v (.bool (openN l d i))])], 4, Tryd.f52.ntmps⟩) (fun i => i ≤ l.length) (fun i => l.length - i) ⟨0, Nat.zero_le _, SubS.weak ?_⟩ ?_
    · simp (config := { maxSteps := 2000000 }) only [go_sem, hG, hP, Nat.reduceEqDiff, ↓reduceIte, reduceCtorEq, Nat.reduceAdd, Nat.reduceSub, Nat.reduceMul, Nat.reduceLT, Nat.reduceLeDiff, Int.reduceAdd, Int.reduceSub, Int.reduceMul, Int.reduceLT, Int.reduceLE, Int.reduceEq, Int.reduceNeg, Int.reduceNe, Int.reduceGE, Int.reduceGT, Nat.reduceBEq, Int.reduceToNat,  bestN, firstN, openN]
      repeat' (first | with_reducible rfl | (refine And.intro ?_ ?_) | (refine congrArg (Value.int _) ?_; omega) | omega)
    · intro i hi
      dsimp only at hi ⊢
      by_cases hi2 : i < l.length
      · have e1 : ((i : Int) < l.length) = True := by apply eq_true; omega
        have hb : bestN l d (i + 1) = if begV d (l.getD i Rulz).pre = true ∧ (bestN l d i < 0 ∨ (l.getD (bestN l d i).toNat Rulz).pre.size < (l.getD i Rulz).pre.size) then (i : Int) else bestN l d i := rfl
        have hf : firstN l d (i + 1) = if begV d (l.getD i Rulz).pre = true ∧ ((l.getD i Rulz).route = 0 ∧ (l.getD i Rulz).least ≤ d.size ∧ (d.size : Int) ≤ (l.getD i Rulz).most) ∧ (firstN l d i < 0 ∨ (l.getD (firstN l d i).toNat Rulz).pre.size < (l.getD i Rulz).pre.size) then (i : Int) else firstN l d i := rfl
        have ho : openN l d (i + 1) = (openN l d i || (begV (l.getD i Rulz).pre d && !begV d (l.getD i Rulz).pre)) := rfl
        have hbb := bestN_bd l d i
        have hfb := firstN_bd l d i
        have hsb := hs i hi2
        have hbr : ¬ bestN l d i < 0 → (l.getD (bestN l d i).toNat Rulz).pre.size ≤ 140737488351232 := fun e => (hs _ (by omega)).1
        have hfr : ¬ firstN l d i < 0 → (l.getD (firstN l d i).toNat Rulz).pre.size ≤ 140737488351232 := fun e => (hs _ (by omega)).1
        dsimp only [Rulz] at hb hf ho hbr hfr
        generalize hB : bestN l d i = B at *
        generalize hF : firstN l d i = F at *
        generalize hO : openN l d i = O at *
        generalize hcd : l.getD i (⟨⟨#[]⟩, 0, 0, 0, 0, ⟨#[]⟩⟩ : Rul) = c at *
        simp (config := { maxSteps := 2000000 }) only [go_sem, hG, hP, Nat.reduceEqDiff, ↓reduceIte, reduceCtorEq, Nat.reduceAdd, Nat.reduceSub, Nat.reduceMul, Nat.reduceLT, Nat.reduceLeDiff, Int.reduceAdd, Int.reduceSub, Int.reduceMul, Int.reduceLT, Int.reduceLE, Int.reduceEq, Int.reduceNeg, Int.reduceNe, Int.reduceGE, Int.reduceGT, Nat.reduceBEq, Int.reduceToNat,  e1, hcd, spBeg_f, spBeg_t, spBeg_k]
        (try simp (disch := omega) only [wrap_id])
        repeat' (first | (refine And.intro ?_ ?_) | (with_reducible intro _))
        all_goals first
          | omega
          | (exact hbr (by assumption))
          | (exact hfr (by assumption))
          | (refine ⟨i + 1, ⟨by omega, by omega⟩, SubS.weak ?_⟩
             simp (config := { maxSteps := 2000000 }) only [go_sem, hG, hP, Nat.reduceEqDiff, ↓reduceIte, reduceCtorEq, Nat.reduceAdd, Nat.reduceSub, Nat.reduceMul, Nat.reduceLT, Nat.reduceLeDiff, Int.reduceAdd, Int.reduceSub, Int.reduceMul, Int.reduceLT, Int.reduceLE, Int.reduceEq, Int.reduceNeg, Int.reduceNe, Int.reduceGE, Int.reduceGT, Nat.reduceBEq, Int.reduceToNat]
             rw [hb, hf, ho]
             clear hb hf ho hs hR
             first
               | grind
               | skip)
      · have e1 : ((i : Int) < l.length) = False := by apply eq_false; omega
        have ei : i = l.length := by omega
        subst ei
        have hV : dialV l d = if 0 ≤ firstN l d l.length then ofD l d 2 (firstN l d l.length)
          else if bestN l d l.length < 0 then moreD (openN l d l.length)
          else if (d.size : Int) < (l.getD (bestN l d l.length).toNat Rulz).least then noneD 0
          else if (d.size : Int) > (l.getD (bestN l d l.length).toNat Rulz).most then moreD (openN l d l.length)
          else if (d.size : Int) = (l.getD (bestN l d l.length).toNat Rulz).most ∧ openN l d l.length = false then ofD l d 2 (bestN l d l.length)
          else ofD l d 1 (bestN l d l.length) := rfl
        have hbb := bestN_bd l d l.length
        have hfb := firstN_bd l d l.length
        have hff := firstN_fits l d l.length
        have hbr : 0 ≤ bestN l d l.length → ruleP (l.getD (bestN l d l.length).toNat Rulz) := fun e => (hR.1 _ (by omega)).1
        have hfr : 0 ≤ firstN l d l.length → ruleP (l.getD (firstN l d l.length).toNat Rulz) := fun e => (hR.1 _ (by omega)).1
        clear hs hR hi hi2
        generalize hB : bestN l d l.length = B at *
        generalize hF : firstN l d l.length = F at *
        generalize hO : openN l d l.length = O at *
        generalize dialV l d = V at *
        unfold ruleP digsP at hbr hfr
        dsimp only [Rulz] at hV hbr hfr hff
        simp (config := { maxSteps := 2000000 }) only [go_sem, hG, hP, Nat.reduceEqDiff, ↓reduceIte, reduceCtorEq, Nat.reduceAdd, Nat.reduceSub, Nat.reduceMul, Nat.reduceLT, Nat.reduceLeDiff, Int.reduceAdd, Int.reduceSub, Int.reduceMul, Int.reduceLT, Int.reduceLE, Int.reduceEq, Int.reduceNeg, Int.reduceNe, Int.reduceGE, Int.reduceGT, Nat.reduceBEq, Int.reduceToNat,  e1, spTold_f, spTold_t, spTold_k, spOfC_f, spOfC_t, spOfC_k, spMore_f, spMore_t, spMore_k, takePR_eq2, takeP1_eq2]
        (try simp (disch := omega) only [wrap_id])
        repeat' (first | (refine And.intro ?_ ?_) | (with_reducible intro _))
        all_goals first
          | omega
          | (exfalso; omega)
          | (obtain ⟨⟨_, _⟩, _, _, _, _, ⟨_, _⟩, ⟨_, _⟩, ⟨_, _⟩, _⟩ := hfr (by omega); have := hff (by omega); dsimp only [Rulz] at *; omega)
          | (obtain ⟨⟨_, _⟩, _, _, _, _, ⟨_, _⟩, ⟨_, _⟩, ⟨_, _⟩, _⟩ := hbr (by omega); dsimp only [Rulz] at *; omega)
          | (have hv : V = ofD l d 2 F := by
               clear hbr hfr hff h hE; grind
             rw [hv] at h; refine ⟨_, _, _, ?_, h⟩; simp (config := { maxSteps := 2000000 }) only [go_sem, hG, hP, Nat.reduceEqDiff, ↓reduceIte, reduceCtorEq, Nat.reduceAdd, Nat.reduceSub, Nat.reduceMul, Nat.reduceLT, Nat.reduceLeDiff, Int.reduceAdd, Int.reduceSub, Int.reduceMul, Int.reduceLT, Int.reduceLE, Int.reduceEq, Int.reduceNeg, Int.reduceNe, Int.reduceGE, Int.reduceGT, Nat.reduceBEq, Int.reduceToNat,  dA, ofD]; done)
          | (have hv : V = ofD l d 2 B := by
               clear hbr hfr hff h hE; grind
             rw [hv] at h; refine ⟨_, _, _, ?_, h⟩; simp (config := { maxSteps := 2000000 }) only [go_sem, hG, hP, Nat.reduceEqDiff, ↓reduceIte, reduceCtorEq, Nat.reduceAdd, Nat.reduceSub, Nat.reduceMul, Nat.reduceLT, Nat.reduceLeDiff, Int.reduceAdd, Int.reduceSub, Int.reduceMul, Int.reduceLT, Int.reduceLE, Int.reduceEq, Int.reduceNeg, Int.reduceNe, Int.reduceGE, Int.reduceGT, Nat.reduceBEq, Int.reduceToNat,  dA, ofD]; done)
          | (have hv : V = ofD l d 1 B := by
               clear hbr hfr hff h hE; grind
             rw [hv] at h; refine ⟨_, _, _, ?_, h⟩; simp (config := { maxSteps := 2000000 }) only [go_sem, hG, hP, Nat.reduceEqDiff, ↓reduceIte, reduceCtorEq, Nat.reduceAdd, Nat.reduceSub, Nat.reduceMul, Nat.reduceLT, Nat.reduceLeDiff, Int.reduceAdd, Int.reduceSub, Int.reduceMul, Int.reduceLT, Int.reduceLE, Int.reduceEq, Int.reduceNeg, Int.reduceNe, Int.reduceGE, Int.reduceGT, Nat.reduceBEq, Int.reduceToNat,  dA, ofD]; done)
          | (have hv : V = noneD 0 := by
               clear hbr hfr hff h hE; grind [moreD]
             rw [hv] at h; refine ⟨_, _, _, ?_, h⟩; simp (config := { maxSteps := 2000000 }) only [go_sem, hG, hP, Nat.reduceEqDiff, ↓reduceIte, reduceCtorEq, Nat.reduceAdd, Nat.reduceSub, Nat.reduceMul, Nat.reduceLT, Nat.reduceLeDiff, Int.reduceAdd, Int.reduceSub, Int.reduceMul, Int.reduceLT, Int.reduceLE, Int.reduceEq, Int.reduceNeg, Int.reduceNe, Int.reduceGE, Int.reduceGT, Nat.reduceBEq, Int.reduceToNat,  dA, noneD]; done)
          | (have hv : V = noneD 3 := by
               clear hbr hfr hff h hE; grind [moreD]
             rw [hv] at h; refine ⟨_, _, _, ?_, h⟩; simp (config := { maxSteps := 2000000 }) only [go_sem, hG, hP, Nat.reduceEqDiff, ↓reduceIte, reduceCtorEq, Nat.reduceAdd, Nat.reduceSub, Nat.reduceMul, Nat.reduceLT, Nat.reduceLeDiff, Int.reduceAdd, Int.reduceSub, Int.reduceMul, Int.reduceLT, Int.reduceLE, Int.reduceEq, Int.reduceNeg, Int.reduceNe, Int.reduceGE, Int.reduceGT, Nat.reduceBEq, Int.reduceToNat,  dA, noneD]; done)
          | (have hv : V = moreD O := by
               clear hbr hfr hff h hE; grind
             rw [hv] at h; refine ⟨_, _, _, ?_, h⟩; simp (config := { maxSteps := 2000000 }) only [go_sem, hG, hP, Nat.reduceEqDiff, ↓reduceIte, reduceCtorEq, Nat.reduceAdd, Nat.reduceSub, Nat.reduceMul, Nat.reduceLT, Nat.reduceLeDiff, Int.reduceAdd, Int.reduceSub, Int.reduceMul, Int.reduceLT, Int.reduceLE, Int.reduceEq, Int.reduceNeg, Int.reduceNe, Int.reduceGE, Int.reduceGT, Nat.reduceBEq, Int.reduceToNat,  dA, moreD, noneD]; done)
          | skip
        skip
        done
  · exact h.elim
def spDialP : Spec := ⟨fun _ _ => [], fun args objs K => match args, objs with
  | [.rs .rule l, .v (.string d)], [] => (szRulAll l 140737488351232 ∧ l.length ≤ 1099511627776 ∧ d.size ≤ 1099511627776) ∧ K (dA (dialP l d)) [] 0
  | _, _ => False, false⟩
theorem spDialP_t {L : Hp} {a : List AVal} : Spec.take spDialP L a = [] := id rfl
theorem spDialP_k : Spec.keep spDialP = false := id rfl
theorem spDialP_f {l} {d} {K : AVal → Hp → Nat → Prop} : Spec.f spDialP ([.rs .rule l, .v (.string d)]) ([]) K = ((szRulAll l 140737488351232 ∧ l.length ≤ 1099511627776 ∧ d.size ≤ 1099511627776) ∧ K (dA (dialP l d)) [] 0) := id rfl
theorem valid23 : Valid Tryd.prog 23 spDialP := by
  refine validI (Γ := lk [(13, spRulesOk), (36, spDigitsOk), (51, spTold), (52, spDialI)]) Tryd.func23 bod23 low23 res23 (good_of ⟨⟨cal13, valid13⟩, ⟨cal36, valid36⟩, ⟨cal51, valid51⟩, ⟨cal52, valid52⟩, trivial⟩) ?_
  intro E args objs K h hE hG hP
  simp only [spDialP] at h
  split at h
  · refine ⟨by simp [Tryd.ntmps23], ?_⟩
    rename_i l d
    obtain ⟨⟨hs, hl, hd⟩, h⟩ := h
    have hst := eq_true hs
    have hd2 : d.size ≤ 140737488351232 := by omega
    by_cases hA : rulesP l ∧ digsP d
    · obtain ⟨hR, hD⟩ := hA
      rw [dialP_yes ⟨hR, hD⟩] at h
      have f1 := eq_true hR
      have f2 := eq_true hD
      simp (config := { maxSteps := 2000000 }) only [go_sem, hG, hP, Nat.reduceEqDiff, ↓reduceIte, reduceCtorEq, Nat.reduceAdd, Nat.reduceSub, Nat.reduceMul, Nat.reduceLT, Nat.reduceLeDiff, Int.reduceAdd, Int.reduceSub, Int.reduceMul, Int.reduceLT, Int.reduceLE, Int.reduceEq, Int.reduceNeg, Int.reduceNe, Int.reduceGE, Int.reduceGT, Nat.reduceBEq, Int.reduceToNat,  spRulesOk_f, spRulesOk_t, spRulesOk_k, spDigitsOk_f, spDigitsOk_t, spDigitsOk_k, spDialI_f, spDialI_t, spDialI_k, hst, hl, hd, hd2, f1, f2, dA]
      (try simp (disch := omega) only [wrap_id])
      repeat' (first | (refine And.intro ?_ ?_) | (with_reducible intro _))
      all_goals first
        | omega
        | assumption
        | (refine ⟨_, _, _, ?_, h⟩; simp (config := { maxSteps := 2000000 }) only [go_sem, hG, hP, Nat.reduceEqDiff, ↓reduceIte, reduceCtorEq, Nat.reduceAdd, Nat.reduceSub, Nat.reduceMul, Nat.reduceLT, Nat.reduceLeDiff, Int.reduceAdd, Int.reduceSub, Int.reduceMul, Int.reduceLT, Int.reduceLE, Int.reduceEq, Int.reduceNeg, Int.reduceNe, Int.reduceGE, Int.reduceGT, Nat.reduceBEq, Int.reduceToNat,  dA]; done)
        | skip
      skip
      done
    · rw [dialP_no hA] at h
      simp (config := { maxSteps := 2000000 }) only [go_sem, hG, hP, Nat.reduceEqDiff, ↓reduceIte, reduceCtorEq, Nat.reduceAdd, Nat.reduceSub, Nat.reduceMul, Nat.reduceLT, Nat.reduceLeDiff, Int.reduceAdd, Int.reduceSub, Int.reduceMul, Int.reduceLT, Int.reduceLE, Int.reduceEq, Int.reduceNeg, Int.reduceNe, Int.reduceGE, Int.reduceGT, Nat.reduceBEq, Int.reduceToNat,  spRulesOk_f, spRulesOk_t, spRulesOk_k, spDigitsOk_f, spDigitsOk_t, spDigitsOk_k, spTold_f, spTold_t, spTold_k, spDialI_f, spDialI_t, spDialI_k, hst, hl, hd, hd2]
      (try simp (disch := omega) only [wrap_id])
      repeat' (first | (refine And.intro ?_ ?_) | (with_reducible intro _))
      all_goals first
        | omega
        | assumption
        | (refine ⟨_, _, _, ?_, h⟩; simp (config := { maxSteps := 2000000 }) only [go_sem, hG, hP, Nat.reduceEqDiff, ↓reduceIte, reduceCtorEq, Nat.reduceAdd, Nat.reduceSub, Nat.reduceMul, Nat.reduceLT, Nat.reduceLeDiff, Int.reduceAdd, Int.reduceSub, Int.reduceMul, Int.reduceLT, Int.reduceLE, Int.reduceEq, Int.reduceNeg, Int.reduceNe, Int.reduceGE, Int.reduceGT, Nat.reduceBEq, Int.reduceToNat,  dA, noneD]; done)
        | (exfalso; apply hA; refine ⟨?_, ?_⟩ <;> first | assumption | exact ⟨by assumption, by assumption⟩)
        | skip
      skip
      done
  · exact h.elim
def spEqD : Spec := ⟨fun _ _ => [], fun args objs K => match args, objs with
  | [.agg [.v (.int .i64 a), .v (.int .i64 b), .v (.string c), .v (.int .i64 d)], .agg [.v (.int .i64 a'), .v (.int .i64 b'), .v (.string c'), .v (.int .i64 d')]], [] => ∀ r : Bool, (a = a' → b = b' → c = c' → d = d' → r = true) → K (.v (.bool r)) [] 0
  | _, _ => False, false⟩
theorem spEqD_t {L : Hp} {a : List AVal} : Spec.take spEqD L a = [] := id rfl
theorem spEqD_k : Spec.keep spEqD = false := id rfl
theorem spEqD_f {a} {b} {c} {d} {a'} {b'} {c'} {d'} {K : AVal → Hp → Nat → Prop} : Spec.f spEqD ([.agg [.v (.int .i64 a), .v (.int .i64 b), .v (.string c), .v (.int .i64 d)], .agg [.v (.int .i64 a'), .v (.int .i64 b'), .v (.string c'), .v (.int .i64 d')]]) ([]) K = (∀ r : Bool, (a = a' → b = b' → c = c' → d = d' → r = true) → K (.v (.bool r)) [] 0) := id rfl
theorem valid24 : Valid Tryd.prog 24 spEqD := by
  refine validI (Γ := lk []) Tryd.func24 bod24 low24 res24 (good_of trivial) ?_
  intro E args objs K h hE hG hP
  simp only [spEqD] at h
  split at h
  · refine ⟨by simp [Tryd.ntmps24], ?_⟩
    rename_i a b c d a' b' c' d'
    simp (config := { maxSteps := 2000000 }) only [go_sem, hG, hP, Nat.reduceEqDiff, ↓reduceIte, reduceCtorEq, Nat.reduceAdd, Nat.reduceSub, Nat.reduceMul, Nat.reduceLT, Nat.reduceLeDiff, Int.reduceAdd, Int.reduceSub, Int.reduceMul, Int.reduceLT, Int.reduceLE, Int.reduceEq, Int.reduceNeg, Int.reduceNe, Int.reduceGE, Int.reduceGT, Nat.reduceBEq, Int.reduceToNat]
    repeat' (first | (refine And.intro ?_ ?_) | (with_reducible intro _))
    all_goals first
      | omega
      | (refine ⟨_, _, _, ?_, h true (fun _ _ _ _ => rfl)⟩; simp (config := { maxSteps := 2000000 }) only [go_sem, hG, hP, Nat.reduceEqDiff, ↓reduceIte, reduceCtorEq, Nat.reduceAdd, Nat.reduceSub, Nat.reduceMul, Nat.reduceLT, Nat.reduceLeDiff, Int.reduceAdd, Int.reduceSub, Int.reduceMul, Int.reduceLT, Int.reduceLE, Int.reduceEq, Int.reduceNeg, Int.reduceNe, Int.reduceGE, Int.reduceGT, Nat.reduceBEq, Int.reduceToNat]; done)
      | (refine ⟨_, _, _, ?_, h false (fun _ _ _ _ => by simp_all)⟩; simp (config := { maxSteps := 2000000 }) only [go_sem, hG, hP, Nat.reduceEqDiff, ↓reduceIte, reduceCtorEq, Nat.reduceAdd, Nat.reduceSub, Nat.reduceMul, Nat.reduceLT, Nat.reduceLeDiff, Int.reduceAdd, Int.reduceSub, Int.reduceMul, Int.reduceLT, Int.reduceLE, Int.reduceEq, Int.reduceNeg, Int.reduceNe, Int.reduceGE, Int.reduceGT, Nat.reduceBEq, Int.reduceToNat]; done)
      | skip
    skip
    done
  · exact h.elim
end Go.Proofs.YthghcialeghgoaaDoorE

/-! The code of a function, in the engine's words. -/
namespace Go.Proofs.YthghcialeghgoaaDoorE
open Go Go.RowKit
@[reducible] def ic29 : IC := (.seq (.ops [⟨some 6, .new [(.int .i64 0), (.int .i64 0), (.string ⟨#[]⟩), (.int .i64 0)], none⟩, ⟨some 7, .mov (.const (.int .i64 0)), none⟩]) (.seq (.seq (.ops [⟨some 12, .mov (.tmp 0), none⟩, ⟨some 13, .call 11 [(.tmp 12)], none⟩, ⟨some 14, .una .not (.tmp 13), none⟩, ⟨some 15, .mov (.tmp 14), none⟩, ⟨some 16, .mov (.tmp 1), some (15, false)⟩, ⟨some 17, .call 56 [(.tmp 16)], some (15, false)⟩, ⟨some 18, .una .not (.tmp 17), some (15, false)⟩, ⟨some 19, .pick (.tmp 15) (.const (.bool true)) (.tmp 18), none⟩, ⟨some 20, .mov (.tmp 19), none⟩, ⟨some 21, .mov (.tmp 2), some (20, false)⟩, ⟨some 22, .call 49 [(.tmp 21), (.const (.int .i64 1)), (.const (.int .i64 1000))], some (20, false)⟩, ⟨some 23, .una .not (.tmp 22), some (20, false)⟩, ⟨some 24, .pick (.tmp 20) (.const (.bool true)) (.tmp 23), none⟩]) (.cond (.tmp 24) (.seq (.ops [⟨some 25, .call 47 [(.const (.int .i64 5))], none⟩, ⟨none, .store 4 (.tmp 6) (.tmp 25), none⟩, ⟨some 7, .mov (.const (.int .i64 (-1))), none⟩]) .ret) .skip)) (.seq (.ops [⟨some 8, .mov (.const (.string ⟨#[]⟩)), none⟩]) (.seq (.ops [⟨some 26, .call 47 [(.const (.int .i64 0))], none⟩, ⟨some 9, .new [(.int .i64 0), (.int .i64 0), (.string ⟨#[]⟩), (.int .i64 0)], none⟩, ⟨none, .store 4 (.tmp 9) (.tmp 26), none⟩]) (.seq (.ops [⟨some 27, .mov (.tmp 2), none⟩, ⟨some 10, .mov (.tmp 27), none⟩]) (.seq (.seq (.ops [⟨some 11, .mov (.const (.int .i64 0)), none⟩]) (.block 0 (.loop (.seq (.seq (.ops [⟨some 28, .mov (.tmp 11), none⟩, ⟨some 29, .mov (.tmp 1), none⟩, ⟨some 30, .len (.tmp 29), none⟩, ⟨some 31, .bin .lss (.tmp 28) (.tmp 30), none⟩]) (.cond (.tmp 31) .skip (.exit 0))) (.seq (.block 1 (.seq (.seq (.ops [⟨some 34, .mov (.tmp 11), none⟩, ⟨some 35, .bin .gtr (.tmp 34) (.const (.int .i64 0)), none⟩, ⟨some 36, .mov (.tmp 35), none⟩, ⟨some 37, .mov (.tmp 1), some (36, true)⟩, ⟨some 38, .mov (.tmp 11), some (36, true)⟩, ⟨some 39, .iadr 2 (.tmp 37) (.tmp 38), some (36, true)⟩, ⟨some 40, .fadr 0 (.tmp 39), some (36, true)⟩, ⟨some 41, .load 1 false (.tmp 40), some (36, true)⟩, ⟨some 42, .mov (.tmp 10), some (36, true)⟩, ⟨some 43, .bin .gtr (.tmp 41) (.tmp 42), some (36, true)⟩, ⟨some 44, .pick (.tmp 36) (.tmp 43) (.const (.bool false)), none⟩]) (.cond (.tmp 44) (.exit 0) .skip)) (.seq (.ops [⟨some 45, .mov (.tmp 8), none⟩, ⟨some 46, .mov (.tmp 1), none⟩, ⟨some 47, .mov (.tmp 11), none⟩, ⟨some 48, .iadr 2 (.tmp 46) (.tmp 47), none⟩, ⟨some 49, .fadr 1 (.tmp 48), none⟩, ⟨some 50, .load 1 false (.tmp 49), none⟩, ⟨some 51, .bin .add (.tmp 45) (.tmp 50), none⟩, ⟨some 8, .mov (.tmp 51), none⟩]) (.seq (.ops [⟨some 52, .mov (.tmp 0), none⟩, ⟨some 53, .mov (.tmp 8), none⟩, ⟨some 54, .call 22 [(.tmp 52), (.tmp 53)], none⟩, ⟨none, .store 4 (.tmp 9) (.tmp 54), none⟩]) (.seq (.seq (.ops [⟨some 55, .fadr 0 (.tmp 9), none⟩, ⟨some 56, .load 1 false (.tmp 55), none⟩, ⟨some 57, .bin .eql (.tmp 56) (.const (.int .i64 2)), none⟩, ⟨some 58, .mov (.tmp 57), none⟩, ⟨some 59, .fadr 0 (.tmp 9), some (58, false)⟩, ⟨some 60, .load 1 false (.tmp 59), some (58, false)⟩, ⟨some 61, .bin .eql (.tmp 60) (.const (.int .i64 3)), some (58, false)⟩, ⟨some 62, .pick (.tmp 58) (.const (.bool true)) (.tmp 61), none⟩]) (.cond (.tmp 62) (.seq (.draw [⟨some 63, .load 4 true (.tmp 9), none⟩, ⟨some 64, .mov (.tmp 1), none⟩, ⟨some 65, .mov (.tmp 11), none⟩, ⟨some 66, .iadr 2 (.tmp 64) (.tmp 65), none⟩, ⟨some 67, .fadr 0 (.tmp 66), none⟩, ⟨some 68, .load 1 false (.tmp 67), none⟩, ⟨none, .store 4 (.tmp 6) (.tmp 63), none⟩, ⟨some 7, .mov (.tmp 68), none⟩] (.held ⟨some 63, .load 4 true (.tmp 9), none⟩ (.held ⟨some 64, .mov (.tmp 1), none⟩ (.held ⟨some 65, .mov (.tmp 11), none⟩ (.held ⟨some 66, .iadr 2 (.tmp 64) (.tmp 65), none⟩ (.held ⟨some 67, .fadr 0 (.tmp 66), none⟩ (.alt ⟨some 68, .load 1 false (.tmp 67), none⟩ (.alt ⟨none, .store 4 (.tmp 6) (.tmp 63), none⟩ (.held ⟨some 7, .mov (.tmp 68), none⟩ .done) .stop) (.alt ⟨none, .store 4 (.tmp 6) (.tmp 63), none⟩ (.held ⟨some 68, .load 1 false (.tmp 67), none⟩ (.held ⟨some 7, .mov (.tmp 68), none⟩ .done)) .stop)))))))) .ret) .skip)) (.ops [⟨some 69, .mov (.tmp 1), none⟩, ⟨some 70, .mov (.tmp 11), none⟩, ⟨some 71, .iadr 2 (.tmp 69) (.tmp 70), none⟩, ⟨some 72, .fadr 0 (.tmp 71), none⟩, ⟨some 73, .load 1 false (.tmp 72), none⟩, ⟨some 74, .mov (.tmp 2), none⟩, ⟨some 75, .bin .add (.tmp 73) (.tmp 74), none⟩, ⟨some 10, .mov (.tmp 75), none⟩])))))) (.ops [⟨some 32, .mov (.tmp 11), none⟩, ⟨some 33, .bin .add (.tmp 32) (.const (.int .i64 1)), none⟩, ⟨some 11, .mov (.tmp 33), none⟩])))))) (.seq (.seq (.ops [⟨some 76, .fadr 0 (.tmp 9), none⟩, ⟨some 77, .load 1 false (.tmp 76), none⟩, ⟨some 78, .bin .eql (.tmp 77) (.const (.int .i64 1)), none⟩]) (.cond (.tmp 78) (.seq (.ops [⟨some 79, .fadr 0 (.tmp 9), none⟩, ⟨none, .store 1 (.tmp 79) (.const (.int .i64 2)), none⟩]) (.seq (.ops [⟨some 80, .load 4 true (.tmp 9), none⟩, ⟨some 81, .mov (.tmp 10), none⟩, ⟨none, .store 4 (.tmp 6) (.tmp 80), none⟩, ⟨some 7, .mov (.tmp 81), none⟩]) .ret)) .skip)) (.seq (.ops [⟨some 82, .call 47 [(.const (.int .i64 4))], none⟩, ⟨some 83, .mov (.tmp 10), none⟩, ⟨none, .store 4 (.tmp 6) (.tmp 82), none⟩, ⟨some 7, .mov (.tmp 83), none⟩]) .ret))))))))
@[reducible] def rv29 : List RV := [.cell 6 4 true, .tmp 7]
theorem low29 : lowC Tryd.prog tau Tryd.f29.ntmps (Tryd.f29.body.getD .skip) = some (erase ic29) := by kernel_rfl
theorem res29 : lowR Tryd.prog Tryd.f29.results.toList = some rv29 := by kernel_rfl
theorem bod29 : Tryd.f29.body = some (Tryd.f29.body.getD .skip) := by kernel_rfl
theorem cal29 : callable Tryd.prog 29 = true := by kernel_rfl

end Go.Proofs.YthghcialeghgoaaDoorE

/-! The code of a function, in the engine's words. -/
namespace Go.Proofs.YthghcialeghgoaaDoorE
open Go Go.RowKit
@[reducible] def ic56 : IC := (.seq (.ops [⟨some 2, .mov (.const (.bool false)), none⟩]) (.seq (.seq (.ops [⟨some 3, .mov (.const (.int .i64 0)), none⟩]) (.block 0 (.loop (.seq (.seq (.ops [⟨some 5, .mov (.tmp 3), none⟩, ⟨some 6, .mov (.tmp 0), none⟩, ⟨some 7, .len (.tmp 6), none⟩, ⟨some 8, .bin .lss (.tmp 5) (.tmp 7), none⟩]) (.cond (.tmp 8) .skip (.exit 0))) (.seq (.block 1 (.seq (.ops [⟨some 11, .mov (.tmp 0), none⟩, ⟨some 12, .mov (.tmp 3), none⟩, ⟨some 13, .iadr 2 (.tmp 11) (.tmp 12), none⟩, ⟨some 14, .load 2 true (.tmp 13), none⟩, ⟨some 4, .new [(.int .i64 0), (.string ⟨#[]⟩)], none⟩, ⟨none, .store 2 (.tmp 4) (.tmp 14), none⟩]) (.seq (.draw [⟨some 15, .fadr 0 (.tmp 4), none⟩, ⟨some 16, .load 1 false (.tmp 15), none⟩, ⟨some 17, .call 68 [(.tmp 16)], none⟩, ⟨some 18, .una .not (.tmp 17), none⟩, ⟨some 19, .mov (.tmp 18), none⟩, ⟨some 20, .fadr 1 (.tmp 4), some (19, false)⟩, ⟨some 21, .load 1 false (.tmp 20), some (19, false)⟩, ⟨some 22, .slen (.tmp 21), some (19, false)⟩, ⟨some 23, .bin .neq (.tmp 22) (.const (.int .i64 1)), some (19, false)⟩, ⟨some 24, .pick (.tmp 19) (.const (.bool true)) (.tmp 23), none⟩, ⟨some 25, .mov (.tmp 24), none⟩, ⟨some 26, .fadr 1 (.tmp 4), some (25, false)⟩, ⟨some 27, .load 1 false (.tmp 26), some (25, false)⟩, ⟨some 28, .call 40 [(.tmp 27)], some (25, false)⟩, ⟨some 29, .una .not (.tmp 28), some (25, false)⟩, ⟨some 30, .pick (.tmp 25) (.const (.bool true)) (.tmp 29), none⟩, ⟨some 31, .mov (.tmp 30), none⟩, ⟨some 32, .mov (.tmp 3), some (31, false)⟩, ⟨some 33, .bin .gtr (.tmp 32) (.const (.int .i64 0)), some (31, false)⟩, ⟨some 34, .mov (.tmp 33), some (31, false)⟩, ⟨some 35, .mov (.tmp 0), some (34, true)⟩, ⟨some 36, .mov (.tmp 3), some (34, true)⟩, ⟨some 37, .bin .sub (.tmp 36) (.const (.int .i64 1)), some (34, true)⟩, ⟨some 38, .iadr 2 (.tmp 35) (.tmp 37), some (34, true)⟩, ⟨some 39, .fadr 0 (.tmp 38), some (34, true)⟩, ⟨some 40, .load 1 false (.tmp 39), some (34, true)⟩, ⟨some 41, .fadr 0 (.tmp 4), some (34, true)⟩, ⟨some 42, .load 1 false (.tmp 41), some (34, true)⟩, ⟨some 43, .bin .gtr (.tmp 40) (.tmp 42), some (34, true)⟩, ⟨some 44, .pick (.tmp 34) (.tmp 43) (.const (.bool false)), some (31, false)⟩, ⟨some 45, .pick (.tmp 31) (.const (.bool true)) (.tmp 44), none⟩] (.held ⟨some 15, .fadr 0 (.tmp 4), none⟩ (.held ⟨some 16, .load 1 false (.tmp 15), none⟩ (.alt ⟨some 17, .call 68 [(.tmp 16)], none⟩ (.held ⟨some 18, .una .not (.tmp 17), none⟩ (.held ⟨some 19, .mov (.tmp 18), none⟩ (.held ⟨some 20, .fadr 1 (.tmp 4), some (19, false)⟩ (.held ⟨some 21, .load 1 false (.tmp 20), some (19, false)⟩ (.held ⟨some 22, .slen (.tmp 21), some (19, false)⟩ (.held ⟨some 23, .bin .neq (.tmp 22) (.const (.int .i64 1)), some (19, false)⟩ (.held ⟨some 24, .pick (.tmp 19) (.const (.bool true)) (.tmp 23), none⟩ (.held ⟨some 25, .mov (.tmp 24), none⟩ (.held ⟨some 26, .fadr 1 (.tmp 4), some (25, false)⟩ (.held ⟨some 27, .load 1 false (.tmp 26), some (25, false)⟩ (.alt ⟨some 28, .call 40 [(.tmp 27)], some (25, false)⟩ (.held ⟨some 29, .una .not (.tmp 28), some (25, false)⟩ (.held ⟨some 30, .pick (.tmp 25) (.const (.bool true)) (.tmp 29), none⟩ (.held ⟨some 31, .mov (.tmp 30), none⟩ (.held ⟨some 32, .mov (.tmp 3), some (31, false)⟩ (.held ⟨some 33, .bin .gtr (.tmp 32) (.const (.int .i64 0)), some (31, false)⟩ (.held ⟨some 34, .mov (.tmp 33), some (31, false)⟩ (.held ⟨some 35, .mov (.tmp 0), some (34, true)⟩ (.held ⟨some 36, .mov (.tmp 3), some (34, true)⟩ (.held ⟨some 37, .bin .sub (.tmp 36) (.const (.int .i64 1)), some (34, true)⟩ (.held ⟨some 38, .iadr 2 (.tmp 35) (.tmp 37), some (34, true)⟩ (.held ⟨some 39, .fadr 0 (.tmp 38), some (34, true)⟩ (.held ⟨some 40, .load 1 false (.tmp 39), some (34, true)⟩ (.held ⟨some 41, .fadr 0 (.tmp 4), some (34, true)⟩ (.held ⟨some 42, .load 1 false (.tmp 41), some (34, true)⟩ (.held ⟨some 43, .bin .gtr (.tmp 40) (.tmp 42), some (34, true)⟩ (.held ⟨some 44, .pick (.tmp 34) (.tmp 43) (.const (.bool false)), some (31, false)⟩ (.held ⟨some 45, .pick (.tmp 31) (.const (.bool true)) (.tmp 44), none⟩ .done))))))))))))))))) .stop))))))))))) .stop)))) (.cond (.tmp 45) (.seq (.ops [⟨some 2, .mov (.const (.bool false)), none⟩]) .ret) .skip)))) (.ops [⟨some 9, .mov (.tmp 3), none⟩, ⟨some 10, .bin .add (.tmp 9) (.const (.int .i64 1)), none⟩, ⟨some 3, .mov (.tmp 10), none⟩])))))) (.seq (.ops [⟨some 46, .mov (.tmp 0), none⟩, ⟨some 47, .len (.tmp 46), none⟩, ⟨some 48, .bin .leq (.tmp 47) (.const (.int .i64 20)), none⟩, ⟨some 2, .mov (.tmp 48), none⟩]) .ret)))
@[reducible] def rv56 : List RV := [.tmp 2]
theorem low56 : lowC Tryd.prog tau Tryd.f56.ntmps (Tryd.f56.body.getD .skip) = some (erase ic56) := by kernel_rfl
theorem res56 : lowR Tryd.prog Tryd.f56.results.toList = some rv56 := by kernel_rfl
theorem bod56 : Tryd.f56.body = some (Tryd.f56.body.getD .skip) := by kernel_rfl
theorem cal56 : callable Tryd.prog 56 = true := by kernel_rfl

end Go.Proofs.YthghcialeghgoaaDoorE

/-! The code of a function, in the engine's words. -/
namespace Go.Proofs.YthghcialeghgoaaDoorE
open Go Go.RowKit
@[reducible] def ic68 : IC := (.seq (.ops [⟨some 2, .mov (.const (.bool false)), none⟩]) (.seq (.ops [⟨some 3, .mov (.tmp 0), none⟩, ⟨some 4, .call 49 [(.tmp 3), (.const (.int .i64 0)), (.const (.int .i64 1000000000))], none⟩, ⟨some 2, .mov (.tmp 4), none⟩]) .ret))
@[reducible] def rv68 : List RV := [.tmp 2]
theorem low68 : lowC Tryd.prog tau Tryd.f68.ntmps (Tryd.f68.body.getD .skip) = some (erase ic68) := by kernel_rfl
theorem res68 : lowR Tryd.prog Tryd.f68.results.toList = some rv68 := by kernel_rfl
theorem bod68 : Tryd.f68.body = some (Tryd.f68.body.getD .skip) := by kernel_rfl
theorem cal68 : callable Tryd.prog 68 = true := by kernel_rfl

end Go.Proofs.YthghcialeghgoaaDoorE

/-! Overlap, plainly; the reference's. -/
namespace Go.Proofs.YthghcialeghgoaaDoorE
open Go Go.RowKit
set_option linter.unusedSimpArgs false
set_option linter.unusedVariables false
set_option maxRecDepth 20000
set_option maxHeartbeats 4000000

abbrev Dl : Type := Int × Int × ByteArray × Int
def prsP (p : Prs) : Prop := (0 ≤ p.tick ∧ p.tick ≤ 1000000000) ∧ p.dig.size = 1 ∧ digsP p.dig
def ordP (l : List Prs) (i : Nat) : Prop := 0 < i → (l.getD (i - 1) Prsz).tick ≤ (l.getD i Prsz).tick
def presP (l : List Prs) : Prop := (∀ i, i < l.length → prsP (l.getD i Prsz) ∧ ordP l i) ∧ l.length ≤ 20
noncomputable instance (l : List Prs) : Decidable (presP l) := Classical.propDecidable _
def endO (w : Int) (last : Dl) (tick : Int) : Dl × Int := if last.1 = 1 then ((2, last.2), tick + w) else (noneD 4, tick + w)
def stepO (l : List Rul) (ps : List Prs) (w : Int) : Nat → Nat → ByteArray → Dl → Int → Dl × Int
  | 0, _, _, last, tick => endO w last tick
  | n + 1, i, dg, last, tick =>
    if 0 < i ∧ (ps.getD i Prsz).tick > tick + w then endO w last tick
    else if (dialV l (dg ++ (ps.getD i Prsz).dig)).1 = 2 ∨ (dialV l (dg ++ (ps.getD i Prsz).dig)).1 = 3 then (dialV l (dg ++ (ps.getD i Prsz).dig), (ps.getD i Prsz).tick)
    else stepO l ps w n (i + 1) (dg ++ (ps.getD i Prsz).dig) (dialV l (dg ++ (ps.getD i Prsz).dig)) (ps.getD i Prsz).tick
def overOk (l : List Rul) (ps : List Prs) (w : Int) : Prop := rulesP l ∧ presP ps ∧ 1 ≤ w ∧ w ≤ 1000
open Classical in
noncomputable def overV (l : List Rul) (ps : List Prs) (w : Int) : Dl × Int := if overOk l ps w then stepO l ps w ps.length 0 ⟨#[]⟩ (noneD 0) 0 else (noneD 5, -1)
theorem overV_no {l : List Rul} {ps : List Prs} {w : Int} (h : ¬ overOk l ps w) : overV l ps w = (noneD 5, -1) := if_neg h
theorem overV_yes {l : List Rul} {ps : List Prs} {w : Int} (h : overOk l ps w) : overV l ps w = stepO l ps w ps.length 0 ⟨#[]⟩ (noneD 0) 0 := if_pos h
theorem byteV_append_l {a b : ByteArray} {i : Nat} (h : i < a.size) : byteV (a ++ b) i = byteV a i := by
  unfold byteV
  rw [ByteArray.data_append, Array.toList_append]
  have hl : i < a.data.toList.length := h
  simp only [List.getD, List.getElem?_append_left hl]
theorem byteV_append_r {a b : ByteArray} {i : Nat} (h : ¬ i < a.size) : byteV (a ++ b) i = byteV b (i - a.size) := by
  unfold byteV
  rw [ByteArray.data_append, Array.toList_append]
  have hl : a.data.toList.length ≤ i := by
    have : a.data.toList.length = a.size := Array.length_toList
    omega
  simp only [List.getD, List.getElem?_append_right hl]
  have : a.data.toList.length = a.size := Array.length_toList
  rw [this]
theorem allDig_app {a b : ByteArray} (ha : allDig a) (hb : allDig b) : allDig (a ++ b) := fun i hi => by
  rw [ByteArray.size_append] at hi
  by_cases h : i < a.size
  · rw [byteV_append_l h]; exact ha i h
  · rw [byteV_append_r h]; exact hb _ (by omega)
theorem digs_app {a b : ByteArray} {n : Nat} (hn : n < 20) (ha : a.size = n) (hb : b.size = 1) (h1 : allDig a) (h2 : digsP b) : digsP (a ++ b) :=
  ⟨by rw [ByteArray.size_append]; omega, allDig_app h1 h2.2⟩
theorem valid68 : Valid Tryd.prog 68 ⟨fun _ _ => [], fun args objs K => match args, objs with
  | [.v (.int .i64 x)], [] => K (.v (.bool (decide (0 ≤ x ∧ x ≤ 1000000000)))) [] 0
  | _, _ => False, false⟩ := by
  refine validI (Γ := lk [(49, spIn)]) Tryd.func68 bod68 low68 res68 (good_of ⟨⟨cal49, valid49⟩, trivial⟩) ?_
  intro E args objs K h hE hG hP
  dsimp only at h
  split at h
  · refine ⟨by simp [Tryd.ntmps68], ?_⟩
    simp (config := { maxSteps := 2000000 }) only [go_sem, hG, hP, Nat.reduceEqDiff, ↓reduceIte, reduceCtorEq, Nat.reduceAdd, Nat.reduceSub, Nat.reduceMul, Nat.reduceLT, Nat.reduceLeDiff, Int.reduceAdd, Int.reduceSub, Int.reduceMul, Int.reduceLT, Int.reduceLE, Int.reduceEq, Int.reduceNeg, Int.reduceNe, Int.reduceGE, Int.reduceGT, Nat.reduceBEq, Int.reduceToNat,  spIn_f, spIn_t, spIn_k]
    refine ⟨_, _, _, ?_, h⟩
    simp (config := { maxSteps := 2000000 }) only [go_sem, hG, hP, Nat.reduceEqDiff, ↓reduceIte, reduceCtorEq, Nat.reduceAdd, Nat.reduceSub, Nat.reduceMul, Nat.reduceLT, Nat.reduceLeDiff, Int.reduceAdd, Int.reduceSub, Int.reduceMul, Int.reduceLT, Int.reduceLE, Int.reduceEq, Int.reduceNeg, Int.reduceNe, Int.reduceGE, Int.reduceGT, Nat.reduceBEq, Int.reduceToNat]
  · exact h.elim
def spTick : Spec := ⟨fun _ _ => [], fun args objs K => match args, objs with
  | [.v (.int .i64 x)], [] => K (.v (.bool (decide (0 ≤ x ∧ x ≤ 1000000000)))) [] 0
  | _, _ => False, false⟩
theorem spTick_t {L : Hp} {a : List AVal} : Spec.take spTick L a = [] := id rfl
theorem spTick_k : Spec.keep spTick = false := id rfl
theorem spTick_f {x} {K : AVal → Hp → Nat → Prop} : Spec.f spTick ([.v (.int .i64 x)]) ([]) K = (K (.v (.bool (decide (0 ≤ x ∧ x ≤ 1000000000)))) [] 0) := id rfl
def spPresses : Spec := ⟨fun _ _ => [], fun args objs K => match args, objs with
  | [.rs .prs l], [] => (szPrsAll l 140737488351232 ∧ l.length ≤ 1099511627776) ∧ K (.v (.bool (decide (presP l)))) [] 0
  | _, _ => False, false⟩
theorem spPresses_t {L : Hp} {a : List AVal} : Spec.take spPresses L a = [] := id rfl
theorem spPresses_k : Spec.keep spPresses = false := id rfl
theorem spPresses_f {l} {K : AVal → Hp → Nat → Prop} : Spec.f spPresses ([.rs .prs l]) ([]) K = ((szPrsAll l 140737488351232 ∧ l.length ≤ 1099511627776) ∧ K (.v (.bool (decide (presP l)))) [] 0) := id rfl
theorem valid56 : Valid Tryd.prog 56 spPresses := by
  refine validI (Γ := lk [(40, spDigits), (68, spTick)]) Tryd.func56 bod56 low56 res56 (good_of ⟨⟨cal40, valid40⟩, ⟨cal68, valid68⟩, trivial⟩) ?_
  intro E args objs K h hE hG hP
  simp only [spPresses] at h
  split at h
  · refine ⟨by simp [Tryd.ntmps56], ?_⟩
    rename_i l
    obtain ⟨⟨hs, hl⟩, h⟩ := h
    simp (config := { maxSteps := 2000000 }) only [go_sem, hG, hP, Nat.reduceEqDiff, ↓reduceIte, reduceCtorEq, Nat.reduceAdd, Nat.reduceSub, Nat.reduceMul, Nat.reduceLT, Nat.reduceLeDiff, Int.reduceAdd, Int.reduceSub, Int.reduceMul, Int.reduceLT, Int.reduceLE, Int.reduceEq, Int.reduceNeg, Int.reduceNe, Int.reduceGE, Int.reduceGT, Nat.reduceBEq, Int.reduceToNat]
    (try simp (disch := omega) only [wrap_id])
    refine loopI hE (fun i : Nat => ⟨[(0, .rs .prs l), (3, .v (.int .i64 i))], [], 0, Tryd.f56.ntmps⟩) (fun i => i ≤ l.length ∧ ∀ j, j < i → prsP (l.getD j Prsz) ∧ ordP l j) (fun i => l.length - i) ⟨0, ⟨Nat.zero_le _, fun j hj => by omega⟩, SubS.weak ?_⟩ ?_
    · simp (config := { maxSteps := 2000000 }) only [go_sem, hG, hP, Nat.reduceEqDiff, ↓reduceIte, reduceCtorEq, Nat.reduceAdd, Nat.reduceSub, Nat.reduceMul, Nat.reduceLT, Nat.reduceLeDiff, Int.reduceAdd, Int.reduceSub, Int.reduceMul, Int.reduceLT, Int.reduceLE, Int.reduceEq, Int.reduceNeg, Int.reduceNe, Int.reduceGE, Int.reduceGT, Nat.reduceBEq, Int.reduceToNat]
      repeat' (first | with_reducible rfl | (refine And.intro ?_ ?_) | (refine congrArg (Value.int _) ?_; omega) | omega)
    · rintro i ⟨hi, hpre⟩
      dsimp only at hi hpre ⊢
      by_cases hi2 : i < l.length
      · have e3 : ((i : Int) < l.length) = True := by apply eq_true; omega
        have hsz := hs i hi2
        unfold szPrsOk at hsz
        have hbad : ¬ (prsP (l.getD i Prsz) ∧ ordP l i) → ¬ presP l := fun e q => e (q.1 i hi2)
        have hgood : (prsP (l.getD i Prsz) ∧ ordP l i) → ∀ j, j < i + 1 → prsP (l.getD j Prsz) ∧ ordP l j := fun q j hj => by
          by_cases e : j < i
          · exact hpre j e
          · obtain rfl : j = i := by omega
            exact q
        have hord : ordP l i ↔ (0 < i → (l.getD (i - 1) Prsz).tick ≤ (l.getD i Prsz).tick) := Iff.rfl
        have hin : 0 < i → ((i : Int) - 1).toNat = i - 1 := fun _ => by omega
        dsimp only [Prsz] at hsz hbad hgood hord
        generalize ordP l i = OP at *
        generalize hcd : l.getD i (⟨0, ⟨#[]⟩⟩ : Prs) = c at *
        obtain ⟨t, dg⟩ := c
        have hpr : prsP ⟨t, dg⟩ ↔ ((0 ≤ t ∧ t ≤ 1000000000) ∧ dg.size = 1 ∧ digsP dg) := Iff.rfl
        generalize hPP : prsP ⟨t, dg⟩ = PP at *
        dsimp only at hsz hord
        clear hPP
        by_cases i0 : (0 : Int) < i
        · have i1 : ((i : Int) - 1).toNat = i - 1 := by omega
          have i2 : wr .i64 ((i : Int) - 1) = (i : Int) - 1 := wrap_id (by omega) (by omega)
          have i3 := eq_true i0
          have i4 : 0 < i := by omega
          simp (config := { maxSteps := 2000000 }) only [go_sem, hG, hP, Nat.reduceEqDiff, ↓reduceIte, reduceCtorEq, Nat.reduceAdd, Nat.reduceSub, Nat.reduceMul, Nat.reduceLT, Nat.reduceLeDiff, Int.reduceAdd, Int.reduceSub, Int.reduceMul, Int.reduceLT, Int.reduceLE, Int.reduceEq, Int.reduceNeg, Int.reduceNe, Int.reduceGE, Int.reduceGT, Nat.reduceBEq, Int.reduceToNat,  e3, hcd, spDigits_f, spDigits_t, spDigits_k, spTick_f, spTick_t, spTick_k, i1, i2, i3]
          (try simp (disch := omega) only [wrap_id])
          repeat' (first | (refine And.intro ?_ ?_) | (with_reducible intro _))
          all_goals first
            | omega
            | (refine ⟨i + 1, ⟨⟨by omega, hgood (by grind)⟩, by omega⟩, SubS.weak ?_⟩
               simp (config := { maxSteps := 2000000 }) only [go_sem, hG, hP, Nat.reduceEqDiff, ↓reduceIte, reduceCtorEq, Nat.reduceAdd, Nat.reduceSub, Nat.reduceMul, Nat.reduceLT, Nat.reduceLeDiff, Int.reduceAdd, Int.reduceSub, Int.reduceMul, Int.reduceLT, Int.reduceLE, Int.reduceEq, Int.reduceNeg, Int.reduceNe, Int.reduceGE, Int.reduceGT, Nat.reduceBEq, Int.reduceToNat]
               repeat' (first | with_reducible rfl | (refine And.intro ?_ ?_) | (refine congrArg (Value.int _) ?_; omega) | omega); done)
            | (rw [decide_eq_false (hbad (by grind))] at h
               refine ⟨_, _, _, ?_, h⟩
               simp (config := { maxSteps := 2000000 }) only [go_sem, hG, hP, Nat.reduceEqDiff, ↓reduceIte, reduceCtorEq, Nat.reduceAdd, Nat.reduceSub, Nat.reduceMul, Nat.reduceLT, Nat.reduceLeDiff, Int.reduceAdd, Int.reduceSub, Int.reduceMul, Int.reduceLT, Int.reduceLE, Int.reduceEq, Int.reduceNeg, Int.reduceNe, Int.reduceGE, Int.reduceGT, Nat.reduceBEq, Int.reduceToNat]; done)
            | skip
          skip
          done
        · have i3 := eq_false i0
          have i4 : i = 0 := by omega
          simp (config := { maxSteps := 2000000 }) only [go_sem, hG, hP, Nat.reduceEqDiff, ↓reduceIte, reduceCtorEq, Nat.reduceAdd, Nat.reduceSub, Nat.reduceMul, Nat.reduceLT, Nat.reduceLeDiff, Int.reduceAdd, Int.reduceSub, Int.reduceMul, Int.reduceLT, Int.reduceLE, Int.reduceEq, Int.reduceNeg, Int.reduceNe, Int.reduceGE, Int.reduceGT, Nat.reduceBEq, Int.reduceToNat,  e3, hcd, spDigits_f, spDigits_t, spDigits_k, spTick_f, spTick_t, spTick_k, i3]
          (try simp (disch := omega) only [wrap_id])
          repeat' (first | (refine And.intro ?_ ?_) | (with_reducible intro _))
          all_goals first
            | omega
            | (refine ⟨i + 1, ⟨⟨by omega, hgood (by grind)⟩, by omega⟩, SubS.weak ?_⟩
               simp (config := { maxSteps := 2000000 }) only [go_sem, hG, hP, Nat.reduceEqDiff, ↓reduceIte, reduceCtorEq, Nat.reduceAdd, Nat.reduceSub, Nat.reduceMul, Nat.reduceLT, Nat.reduceLeDiff, Int.reduceAdd, Int.reduceSub, Int.reduceMul, Int.reduceLT, Int.reduceLE, Int.reduceEq, Int.reduceNeg, Int.reduceNe, Int.reduceGE, Int.reduceGT, Nat.reduceBEq, Int.reduceToNat]
               repeat' (first | with_reducible rfl | (refine And.intro ?_ ?_) | (refine congrArg (Value.int _) ?_; omega) | omega); done)
            | (rw [decide_eq_false (hbad (by grind))] at h
               refine ⟨_, _, _, ?_, h⟩
               simp (config := { maxSteps := 2000000 }) only [go_sem, hG, hP, Nat.reduceEqDiff, ↓reduceIte, reduceCtorEq, Nat.reduceAdd, Nat.reduceSub, Nat.reduceMul, Nat.reduceLT, Nat.reduceLeDiff, Int.reduceAdd, Int.reduceSub, Int.reduceMul, Int.reduceLT, Int.reduceLE, Int.reduceEq, Int.reduceNeg, Int.reduceNe, Int.reduceGE, Int.reduceGT, Nat.reduceBEq, Int.reduceToNat]; done)
            | skip
          skip
          done
      · have e3 : ((i : Int) < l.length) = False := by apply eq_false; omega
        have ei : i = l.length := by omega
        subst ei
        have hd : decide (presP l) = decide ((l.length : Int) ≤ 20) := by
          have : presP l ↔ (l.length : Int) ≤ 20 := ⟨fun q => by have := q.2; omega, fun q => ⟨hpre, by omega⟩⟩
          simp only [this]
        rw [hd] at h
        simp (config := { maxSteps := 2000000 }) only [go_sem, hG, hP, Nat.reduceEqDiff, ↓reduceIte, reduceCtorEq, Nat.reduceAdd, Nat.reduceSub, Nat.reduceMul, Nat.reduceLT, Nat.reduceLeDiff, Int.reduceAdd, Int.reduceSub, Int.reduceMul, Int.reduceLT, Int.reduceLE, Int.reduceEq, Int.reduceNeg, Int.reduceNe, Int.reduceGE, Int.reduceGT, Nat.reduceBEq, Int.reduceToNat,  e3]
        refine ⟨_, _, _, ?_, h⟩
        simp (config := { maxSteps := 2000000 }) only [go_sem, hG, hP, Nat.reduceEqDiff, ↓reduceIte, reduceCtorEq, Nat.reduceAdd, Nat.reduceSub, Nat.reduceMul, Nat.reduceLT, Nat.reduceLeDiff, Int.reduceAdd, Int.reduceSub, Int.reduceMul, Int.reduceLT, Int.reduceLE, Int.reduceEq, Int.reduceNeg, Int.reduceNe, Int.reduceGE, Int.reduceGT, Nat.reduceBEq, Int.reduceToNat]
  · exact h.elim
end Go.Proofs.YthghcialeghgoaaDoorE

/-! The reference's Overlap. -/
namespace Go.Proofs.YthghcialeghgoaaDoorE
open Go Go.RowKit
set_option linter.unusedSimpArgs false
set_option linter.unusedVariables false
set_option maxRecDepth 20000
set_option maxHeartbeats 4000000

theorem allDig_nil : allDig ⟨#[]⟩ := fun i hi => absurd hi (Nat.not_lt_zero i)
def spOver : Spec := ⟨fun _ _ => [], fun args objs K => match args, objs with
  | [.rs .rule l, .rs .prs ps, .v (.int .i64 w)], [] => (szRulAll l 140737488351232 ∧ l.length ≤ 1099511627776 ∧ szPrsAll ps 140737488351232 ∧ ps.length ≤ 1099511627776) ∧ K (.tup [dA (overV l ps w).1, .v (.int .i64 (overV l ps w).2)]) [] 0
  | _, _ => False, false⟩
theorem spOver_t {L : Hp} {a : List AVal} : Spec.take spOver L a = [] := id rfl
theorem spOver_k : Spec.keep spOver = false := id rfl
theorem spOver_f {l} {ps} {w} {K : AVal → Hp → Nat → Prop} : Spec.f spOver ([.rs .rule l, .rs .prs ps, .v (.int .i64 w)]) ([]) K = ((szRulAll l 140737488351232 ∧ l.length ≤ 1099511627776 ∧ szPrsAll ps 140737488351232 ∧ ps.length ≤ 1099511627776) ∧ K (.tup [dA (overV l ps w).1, .v (.int .i64 (overV l ps w).2)]) [] 0) := id rfl
theorem valid29 : Valid Tryd.prog 29 spOver := by
  refine validI (Γ := lk [(11, spRulesOk), (22, spDial), (47, spTold), (49, spIn), (56, spPresses)]) Tryd.func29 bod29 low29 res29 (good_of ⟨⟨cal11, valid11⟩, ⟨cal22, valid22⟩, ⟨cal47, valid47⟩, ⟨cal49, valid49⟩, ⟨cal56, valid56⟩, trivial⟩) ?_
  intro E args objs K h hE hG hP
  simp only [spOver] at h
  split at h
  · refine ⟨by simp [Tryd.ntmps29], ?_⟩
    rename_i l ps w
    obtain ⟨⟨hs, hl, hs2, hl2⟩, h⟩ := h
    have hst := eq_true hs
    have hst2 := eq_true hs2
    by_cases hA : overOk l ps w
    · rw [overV_yes hA] at h
      obtain ⟨hR, hD, hw1, hw2⟩ := hA
      have f1 := eq_true hR
      have f2 := eq_true hD
      have f3 : (1 ≤ w) = True := eq_true hw1
      have f4 : (w ≤ 1000) = True := eq_true hw2
      generalize hV : stepO l ps w ps.length 0 ⟨#[]⟩ (noneD 0) 0 = V at h
      simp (config := { maxSteps := 2000000 }) only [go_sem, hG, hP, Nat.reduceEqDiff, ↓reduceIte, reduceCtorEq, Nat.reduceAdd, Nat.reduceSub, Nat.reduceMul, Nat.reduceLT, Nat.reduceLeDiff, Int.reduceAdd, Int.reduceSub, Int.reduceMul, Int.reduceLT, Int.reduceLE, Int.reduceEq, Int.reduceNeg, Int.reduceNe, Int.reduceGE, Int.reduceGT, Nat.reduceBEq, Int.reduceToNat,  spRulesOk_f, spRulesOk_t, spRulesOk_k, spPresses_f, spPresses_t, spPresses_k, spIn_f, spIn_t, spIn_k, spTold_f, spTold_t, spTold_k, hst, hl, hst2, hl2, f1, f2, f3, f4]
      (try simp (disch := omega) only [wrap_id])
      repeat (refine And.intro (by first | omega | (simp; done) | (simp; omega) | (unfold appRoom; omega)) ?_)
      refine loopI hE (fun q : Nat × ByteArray × Dl × Int => ⟨[(0, .rs .rule l), (1, .rs .prs ps), (2, .v (.int .i64 w)), (6, .ptr 0 0), (8, .v (.string q.2.1)), (9, .ptr 1 0), (10, .v (.int .i64 (q.2.2.2 + w))), (11, .v (.int .i64 q.1))], [(0, .box [.v (.int .i64 0), .v (.int .i64 0), .v (.string ⟨#[]⟩), .v (.int .i64 0)]), (1, .box [.v (.int .i64 q.2.2.1.1), .v (.int .i64 q.2.2.1.2.1), .v (.string q.2.2.1.2.2.1), .v (.int .i64 q.2.2.1.2.2.2)])], 2, Tryd.f29.ntmps⟩) (fun q => (q.1 ≤ ps.length ∧ q.2.1.size = q.1 ∧ allDig q.2.1 ∧ 0 ≤ q.2.2.2 ∧ q.2.2.2 ≤ 1000000000) ∧ V = stepO l ps w (ps.length - q.1) q.1 q.2.1 q.2.2.1 q.2.2.2) (fun q => ps.length - q.1) ⟨(0, ⟨#[]⟩, noneD 0, 0), ⟨⟨Nat.zero_le _, rfl, allDig_nil, Int.le_refl 0, by dsimp only; omega⟩, hV.symm⟩, SubS.weak ?_⟩ ?_
      · simp (config := { maxSteps := 2000000 }) only [go_sem, hG, hP, Nat.reduceEqDiff, ↓reduceIte, reduceCtorEq, Nat.reduceAdd, Nat.reduceSub, Nat.reduceMul, Nat.reduceLT, Nat.reduceLeDiff, Int.reduceAdd, Int.reduceSub, Int.reduceMul, Int.reduceLT, Int.reduceLE, Int.reduceEq, Int.reduceNeg, Int.reduceNe, Int.reduceGE, Int.reduceGT, Nat.reduceBEq, Int.reduceToNat,  noneD]
        repeat' (first | with_reducible rfl | (refine And.intro ?_ ?_) | (refine congrArg (Value.int _) ?_; omega) | omega)
      · rintro ⟨i, dg, ⟨x1, x2, x3, x4⟩, tk⟩ ⟨⟨hi, hdg, had, ht1, ht2⟩, hI⟩
        dsimp only at hi hdg had ht1 ht2 hI ⊢
        by_cases hi2 : i < ps.length
        · have e1 : ((i : Int) < ps.length) = True := by apply eq_true; omega
          have hl20 := hD.2
          obtain ⟨⟨hp1, hp2, hp3⟩, hp4⟩ := hD.1 i hi2
          have hdp : dialP l (dg ++ (ps.getD i Prsz).dig) = dialV l (dg ++ (ps.getD i Prsz).dig) := dialP_yes ⟨hR, digs_app (by omega) hdg hp2 had hp3⟩
          have hds : (dg ++ (ps.getD i Prsz).dig).size = i + 1 := by rw [ByteArray.size_append]; omega
          have had2 := allDig_app had hp3.2
          rw [show ps.length - i = (ps.length - (i + 1)) + 1 by omega, stepO] at hI
          dsimp only [Prsz] at hp1 hp2 hp3 hdp hds had2 hI
          generalize hcd : ps.getD i (⟨0, ⟨#[]⟩⟩ : Prs) = c at *
          generalize hdv : dialV l (dg ++ c.dig) = v at *
          obtain ⟨v1, v2, v3, v4⟩ := v
          dsimp only at hI
          simp (config := { maxSteps := 2000000 }) only [go_sem, hG, hP, Nat.reduceEqDiff, ↓reduceIte, reduceCtorEq, Nat.reduceAdd, Nat.reduceSub, Nat.reduceMul, Nat.reduceLT, Nat.reduceLeDiff, Int.reduceAdd, Int.reduceSub, Int.reduceMul, Int.reduceLT, Int.reduceLE, Int.reduceEq, Int.reduceNeg, Int.reduceNe, Int.reduceGE, Int.reduceGT, Nat.reduceBEq, Int.reduceToNat,  e1, hcd, spDial_f, spDial_t, spDial_k, spTold_f, spTold_t, spTold_k, dA, hst, hl, hdp]
          (try simp (disch := omega) only [wrap_id])
          repeat' (first | (refine And.intro ?_ ?_) | (with_reducible intro _))
          all_goals first
            | omega
            | (rw [hI, if_neg (by omega), if_pos (by omega)] at h
               refine ⟨_, _, _, ?_, h⟩
               simp (config := { maxSteps := 2000000 }) only [go_sem, hG, hP, Nat.reduceEqDiff, ↓reduceIte, reduceCtorEq, Nat.reduceAdd, Nat.reduceSub, Nat.reduceMul, Nat.reduceLT, Nat.reduceLeDiff, Int.reduceAdd, Int.reduceSub, Int.reduceMul, Int.reduceLT, Int.reduceLE, Int.reduceEq, Int.reduceNeg, Int.reduceNe, Int.reduceGE, Int.reduceGT, Nat.reduceBEq, Int.reduceToNat,  dA]
               done)
            | (rw [if_pos (by omega)] at hI
               unfold endO at hI
               dsimp only at hI
               rw [if_pos (by omega)] at hI
               rw [hI] at h
               refine ⟨_, _, _, ?_, h⟩
               simp (config := { maxSteps := 2000000 }) only [go_sem, hG, hP, Nat.reduceEqDiff, ↓reduceIte, reduceCtorEq, Nat.reduceAdd, Nat.reduceSub, Nat.reduceMul, Nat.reduceLT, Nat.reduceLeDiff, Int.reduceAdd, Int.reduceSub, Int.reduceMul, Int.reduceLT, Int.reduceLE, Int.reduceEq, Int.reduceNeg, Int.reduceNe, Int.reduceGE, Int.reduceGT, Nat.reduceBEq, Int.reduceToNat,  dA]
               done)
            | (rw [if_pos (by omega)] at hI
               unfold endO at hI
               dsimp only at hI
               rw [if_neg (by omega)] at hI
               rw [hI] at h
               refine ⟨_, _, _, ?_, h⟩
               simp (config := { maxSteps := 2000000 }) only [go_sem, hG, hP, Nat.reduceEqDiff, ↓reduceIte, reduceCtorEq, Nat.reduceAdd, Nat.reduceSub, Nat.reduceMul, Nat.reduceLT, Nat.reduceLeDiff, Int.reduceAdd, Int.reduceSub, Int.reduceMul, Int.reduceLT, Int.reduceLE, Int.reduceEq, Int.reduceNeg, Int.reduceNe, Int.reduceGE, Int.reduceGT, Nat.reduceBEq, Int.reduceToNat,  dA, noneD]
               done)
            | (rw [if_neg (by omega), if_neg (by omega)] at hI
               refine ⟨(i + 1, _, (v1, v2, v3, v4), c.tick), ⟨⟨⟨by dsimp only; omega, hds, had2, by dsimp only; omega, by dsimp only; omega⟩, hI⟩, by dsimp only; omega⟩, SubS.weak ?_⟩
               simp (config := { maxSteps := 2000000 }) only [go_sem, hG, hP, Nat.reduceEqDiff, ↓reduceIte, reduceCtorEq, Nat.reduceAdd, Nat.reduceSub, Nat.reduceMul, Nat.reduceLT, Nat.reduceLeDiff, Int.reduceAdd, Int.reduceSub, Int.reduceMul, Int.reduceLT, Int.reduceLE, Int.reduceEq, Int.reduceNeg, Int.reduceNe, Int.reduceGE, Int.reduceGT, Nat.reduceBEq, Int.reduceToNat]
               repeat' (first | with_reducible rfl | (refine And.intro ?_ ?_) | (refine congrArg (Value.int _) ?_; omega) | omega)
               done)
            | skip
          skip
          done
        · have e1 : ((i : Int) < ps.length) = False := by apply eq_false; omega
          have ei : i = ps.length := by omega
          subst ei
          rw [show ps.length - ps.length = 0 by omega, stepO] at hI
          unfold endO at hI
          dsimp only at hI
          simp (config := { maxSteps := 2000000 }) only [go_sem, hG, hP, Nat.reduceEqDiff, ↓reduceIte, reduceCtorEq, Nat.reduceAdd, Nat.reduceSub, Nat.reduceMul, Nat.reduceLT, Nat.reduceLeDiff, Int.reduceAdd, Int.reduceSub, Int.reduceMul, Int.reduceLT, Int.reduceLE, Int.reduceEq, Int.reduceNeg, Int.reduceNe, Int.reduceGE, Int.reduceGT, Nat.reduceBEq, Int.reduceToNat,  e1, spTold_f, spTold_t, spTold_k]
          (try simp (disch := omega) only [wrap_id])
          repeat' (first | (refine And.intro ?_ ?_) | (with_reducible intro _))
          all_goals first
            | omega
            | (rw [hI, if_pos (by omega)] at h
               refine ⟨_, _, _, ?_, h⟩
               simp (config := { maxSteps := 2000000 }) only [go_sem, hG, hP, Nat.reduceEqDiff, ↓reduceIte, reduceCtorEq, Nat.reduceAdd, Nat.reduceSub, Nat.reduceMul, Nat.reduceLT, Nat.reduceLeDiff, Int.reduceAdd, Int.reduceSub, Int.reduceMul, Int.reduceLT, Int.reduceLE, Int.reduceEq, Int.reduceNeg, Int.reduceNe, Int.reduceGE, Int.reduceGT, Nat.reduceBEq, Int.reduceToNat,  dA]
               done)
            | (rw [hI, if_neg (by omega)] at h
               refine ⟨_, _, _, ?_, h⟩
               simp (config := { maxSteps := 2000000 }) only [go_sem, hG, hP, Nat.reduceEqDiff, ↓reduceIte, reduceCtorEq, Nat.reduceAdd, Nat.reduceSub, Nat.reduceMul, Nat.reduceLT, Nat.reduceLeDiff, Int.reduceAdd, Int.reduceSub, Int.reduceMul, Int.reduceLT, Int.reduceLE, Int.reduceEq, Int.reduceNeg, Int.reduceNe, Int.reduceGE, Int.reduceGT, Nat.reduceBEq, Int.reduceToNat,  dA, noneD]
               done)
            | skip
          skip
          done
    · rw [overV_no hA] at h
      simp (config := { maxSteps := 2000000 }) only [go_sem, hG, hP, Nat.reduceEqDiff, ↓reduceIte, reduceCtorEq, Nat.reduceAdd, Nat.reduceSub, Nat.reduceMul, Nat.reduceLT, Nat.reduceLeDiff, Int.reduceAdd, Int.reduceSub, Int.reduceMul, Int.reduceLT, Int.reduceLE, Int.reduceEq, Int.reduceNeg, Int.reduceNe, Int.reduceGE, Int.reduceGT, Nat.reduceBEq, Int.reduceToNat,  spRulesOk_f, spRulesOk_t, spRulesOk_k, spPresses_f, spPresses_t, spPresses_k, spIn_f, spIn_t, spIn_k, spTold_f, spTold_t, spTold_k, hst, hl, hst2, hl2]
      (try simp (disch := omega) only [wrap_id])
      repeat' (first | (refine And.intro ?_ ?_) | (with_reducible intro _))
      all_goals first
        | omega
        | (refine ⟨_, _, _, ?_, h⟩; simp (config := { maxSteps := 2000000 }) only [go_sem, hG, hP, Nat.reduceEqDiff, ↓reduceIte, reduceCtorEq, Nat.reduceAdd, Nat.reduceSub, Nat.reduceMul, Nat.reduceLT, Nat.reduceLeDiff, Int.reduceAdd, Int.reduceSub, Int.reduceMul, Int.reduceLT, Int.reduceLE, Int.reduceEq, Int.reduceNeg, Int.reduceNe, Int.reduceGE, Int.reduceGT, Nat.reduceBEq, Int.reduceToNat,  dA, noneD]; done)
        | (exfalso; exact hA ⟨by assumption, by assumption, by omega, by omega⟩)
        | skip
      skip
      done
  · exact h.elim
end Go.Proofs.YthghcialeghgoaaDoorE

/-! The code of a function, in the engine's words. -/
namespace Go.Proofs.YthghcialeghgoaaDoorE
open Go Go.RowKit
@[reducible] def ic28 : IC := (.seq (.ops [⟨some 6, .new [(.int .i64 0), (.int .i64 0), (.string ⟨#[]⟩), (.int .i64 0)], none⟩, ⟨some 7, .mov (.const (.int .i64 0)), none⟩]) (.seq (.ops [⟨some 16, .mov (.tmp 0), none⟩, ⟨some 17, .call 13 [(.tmp 16)], none⟩, ⟨some 18, .mov (.tmp 17), none⟩, ⟨some 19, .mov (.tmp 2), some (18, true)⟩, ⟨some 20, .call 37 [(.tmp 19), (.const (.int .i64 1)), (.const (.int .i64 1000))], some (18, true)⟩, ⟨some 21, .pick (.tmp 18) (.tmp 20) (.const (.bool false)), none⟩, ⟨some 22, .mov (.tmp 21), none⟩, ⟨some 23, .mov (.tmp 1), some (22, true)⟩, ⟨some 24, .len (.tmp 23), some (22, true)⟩, ⟨some 25, .bin .leq (.tmp 24) (.const (.int .i64 20)), some (22, true)⟩, ⟨some 26, .pick (.tmp 22) (.tmp 25) (.const (.bool false)), none⟩, ⟨some 8, .mov (.tmp 26), none⟩]) (.seq (.seq (.ops [⟨some 27, .mov (.tmp 1), none⟩, ⟨some 28, .len (.tmp 27), none⟩, ⟨some 29, .mov (.const (.int .i64 0)), none⟩]) (.block 0 (.loop (.seq (.ops [⟨some 30, .bin .lss (.tmp 29) (.tmp 28), none⟩]) (.seq (.cond (.tmp 30) .skip (.exit 0)) (.seq (.block 1 (.seq (.ops [⟨some 31, .mov (.tmp 29), none⟩, ⟨some 32, .iadr 2 (.tmp 27) (.tmp 29), none⟩, ⟨some 33, .load 2 true (.tmp 32), none⟩, ⟨some 10, .new [(.int .i64 0), (.string ⟨#[]⟩)], none⟩, ⟨some 9, .mov (.tmp 31), none⟩, ⟨none, .store 2 (.tmp 10) (.tmp 33), none⟩]) (.draw [⟨some 34, .mov (.tmp 8), none⟩, ⟨some 35, .mov (.tmp 34), none⟩, ⟨some 36, .fadr 0 (.tmp 10), some (35, true)⟩, ⟨some 37, .load 1 false (.tmp 36), some (35, true)⟩, ⟨some 38, .call 37 [(.tmp 37), (.const (.int .i64 0)), (.const (.int .i64 1000000000))], some (35, true)⟩, ⟨some 39, .pick (.tmp 35) (.tmp 38) (.const (.bool false)), none⟩, ⟨some 40, .mov (.tmp 39), none⟩, ⟨some 41, .fadr 1 (.tmp 10), some (40, true)⟩, ⟨some 42, .load 1 false (.tmp 41), some (40, true)⟩, ⟨some 43, .slen (.tmp 42), some (40, true)⟩, ⟨some 44, .bin .eql (.tmp 43) (.const (.int .i64 1)), some (40, true)⟩, ⟨some 45, .pick (.tmp 40) (.tmp 44) (.const (.bool false)), none⟩, ⟨some 46, .mov (.tmp 45), none⟩, ⟨some 47, .fadr 1 (.tmp 10), some (46, true)⟩, ⟨some 48, .load 1 false (.tmp 47), some (46, true)⟩, ⟨some 49, .call 36 [(.tmp 48)], some (46, true)⟩, ⟨some 50, .pick (.tmp 46) (.tmp 49) (.const (.bool false)), none⟩, ⟨some 51, .mov (.tmp 50), none⟩, ⟨some 52, .mov (.tmp 9), some (51, true)⟩, ⟨some 53, .bin .eql (.tmp 52) (.const (.int .i64 0)), some (51, true)⟩, ⟨some 54, .mov (.tmp 53), some (51, true)⟩, ⟨some 55, .mov (.tmp 1), some (54, false)⟩, ⟨some 56, .mov (.tmp 9), some (54, false)⟩, ⟨some 57, .bin .sub (.tmp 56) (.const (.int .i64 1)), some (54, false)⟩, ⟨some 58, .iadr 2 (.tmp 55) (.tmp 57), some (54, false)⟩, ⟨some 59, .fadr 0 (.tmp 58), some (54, false)⟩, ⟨some 60, .load 1 false (.tmp 59), some (54, false)⟩, ⟨some 61, .fadr 0 (.tmp 10), some (54, false)⟩, ⟨some 62, .load 1 false (.tmp 61), some (54, false)⟩, ⟨some 63, .bin .leq (.tmp 60) (.tmp 62), some (54, false)⟩, ⟨some 64, .pick (.tmp 54) (.const (.bool true)) (.tmp 63), some (51, true)⟩, ⟨some 65, .pick (.tmp 51) (.tmp 64) (.const (.bool false)), none⟩, ⟨some 8, .mov (.tmp 65), none⟩] (.held ⟨some 34, .mov (.tmp 8), none⟩ (.held ⟨some 35, .mov (.tmp 34), none⟩ (.held ⟨some 36, .fadr 0 (.tmp 10), some (35, true)⟩ (.held ⟨some 37, .load 1 false (.tmp 36), some (35, true)⟩ (.alt ⟨some 38, .call 37 [(.tmp 37), (.const (.int .i64 0)), (.const (.int .i64 1000000000))], some (35, true)⟩ (.held ⟨some 39, .pick (.tmp 35) (.tmp 38) (.const (.bool false)), none⟩ (.held ⟨some 40, .mov (.tmp 39), none⟩ (.held ⟨some 41, .fadr 1 (.tmp 10), some (40, true)⟩ (.held ⟨some 42, .load 1 false (.tmp 41), some (40, true)⟩ (.held ⟨some 43, .slen (.tmp 42), some (40, true)⟩ (.held ⟨some 44, .bin .eql (.tmp 43) (.const (.int .i64 1)), some (40, true)⟩ (.held ⟨some 45, .pick (.tmp 40) (.tmp 44) (.const (.bool false)), none⟩ (.held ⟨some 46, .mov (.tmp 45), none⟩ (.held ⟨some 47, .fadr 1 (.tmp 10), some (46, true)⟩ (.held ⟨some 48, .load 1 false (.tmp 47), some (46, true)⟩ (.alt ⟨some 49, .call 36 [(.tmp 48)], some (46, true)⟩ (.held ⟨some 50, .pick (.tmp 46) (.tmp 49) (.const (.bool false)), none⟩ (.held ⟨some 51, .mov (.tmp 50), none⟩ (.held ⟨some 52, .mov (.tmp 9), some (51, true)⟩ (.held ⟨some 53, .bin .eql (.tmp 52) (.const (.int .i64 0)), some (51, true)⟩ (.held ⟨some 54, .mov (.tmp 53), some (51, true)⟩ (.held ⟨some 55, .mov (.tmp 1), some (54, false)⟩ (.held ⟨some 56, .mov (.tmp 9), some (54, false)⟩ (.held ⟨some 57, .bin .sub (.tmp 56) (.const (.int .i64 1)), some (54, false)⟩ (.held ⟨some 58, .iadr 2 (.tmp 55) (.tmp 57), some (54, false)⟩ (.held ⟨some 59, .fadr 0 (.tmp 58), some (54, false)⟩ (.held ⟨some 60, .load 1 false (.tmp 59), some (54, false)⟩ (.held ⟨some 61, .fadr 0 (.tmp 10), some (54, false)⟩ (.held ⟨some 62, .load 1 false (.tmp 61), some (54, false)⟩ (.held ⟨some 63, .bin .leq (.tmp 60) (.tmp 62), some (54, false)⟩ (.held ⟨some 64, .pick (.tmp 54) (.const (.bool true)) (.tmp 63), some (51, true)⟩ (.held ⟨some 65, .pick (.tmp 51) (.tmp 64) (.const (.bool false)), none⟩ (.held ⟨some 8, .mov (.tmp 65), none⟩ .done))))))))))))))))) .stop))))))))))) .stop)))))))) (.ops [⟨some 66, .bin .add (.tmp 29) (.const (.int .i64 1)), none⟩, ⟨some 29, .mov (.tmp 66), none⟩]))))))) (.seq (.seq (.ops [⟨some 67, .mov (.tmp 8), none⟩, ⟨some 68, .una .not (.tmp 67), none⟩]) (.cond (.tmp 68) (.seq (.ops [⟨some 69, .call 51 [(.const (.int .i64 5))], none⟩, ⟨none, .store 4 (.tmp 6) (.tmp 69), none⟩, ⟨some 7, .mov (.const (.int .i64 (-1))), none⟩]) .ret) .skip)) (.seq (.ops [⟨some 70, .call 51 [(.const (.int .i64 0))], none⟩, ⟨some 11, .new [(.int .i64 0), (.int .i64 0), (.string ⟨#[]⟩), (.int .i64 0)], none⟩, ⟨none, .store 4 (.tmp 11) (.tmp 70), none⟩, ⟨some 12, .mov (.const (.int .i64 0)), none⟩, ⟨some 13, .mov (.const (.string ⟨#[]⟩)), none⟩]) (.seq (.seq (.ops [⟨some 71, .mov (.tmp 1), none⟩, ⟨some 72, .len (.tmp 71), none⟩, ⟨some 73, .mov (.const (.int .i64 0)), none⟩]) (.block 2 (.loop (.seq (.ops [⟨some 74, .bin .lss (.tmp 73) (.tmp 72), none⟩]) (.seq (.cond (.tmp 74) .skip (.exit 2)) (.seq (.block 3 (.seq (.ops [⟨some 75, .mov (.tmp 73), none⟩, ⟨some 76, .iadr 2 (.tmp 71) (.tmp 73), none⟩, ⟨some 77, .load 2 true (.tmp 76), none⟩, ⟨some 15, .new [(.int .i64 0), (.string ⟨#[]⟩)], none⟩, ⟨some 14, .mov (.tmp 75), none⟩, ⟨none, .store 2 (.tmp 15) (.tmp 77), none⟩]) (.seq (.seq (.ops [⟨some 78, .mov (.tmp 14), none⟩, ⟨some 79, .bin .gtr (.tmp 78) (.const (.int .i64 0)), none⟩, ⟨some 80, .mov (.tmp 79), none⟩, ⟨some 81, .fadr 0 (.tmp 15), some (80, true)⟩, ⟨some 82, .load 1 false (.tmp 81), some (80, true)⟩, ⟨some 83, .mov (.tmp 12), some (80, true)⟩, ⟨some 84, .mov (.tmp 2), some (80, true)⟩, ⟨some 85, .bin .add (.tmp 83) (.tmp 84), some (80, true)⟩, ⟨some 86, .bin .gtr (.tmp 82) (.tmp 85), some (80, true)⟩, ⟨some 87, .pick (.tmp 80) (.tmp 86) (.const (.bool false)), none⟩]) (.cond (.tmp 87) (.exit 2) .skip)) (.seq (.ops [⟨some 88, .fadr 0 (.tmp 15), none⟩, ⟨some 89, .load 1 false (.tmp 88), none⟩, ⟨some 12, .mov (.tmp 89), none⟩]) (.seq (.ops [⟨some 90, .mov (.tmp 13), none⟩, ⟨some 91, .fadr 1 (.tmp 15), none⟩, ⟨some 92, .load 1 false (.tmp 91), none⟩, ⟨some 93, .bin .add (.tmp 90) (.tmp 92), none⟩, ⟨some 13, .mov (.tmp 93), none⟩]) (.seq (.ops [⟨some 94, .mov (.tmp 0), none⟩, ⟨some 95, .mov (.tmp 13), none⟩, ⟨some 96, .call 52 [(.tmp 94), (.tmp 95)], none⟩, ⟨none, .store 4 (.tmp 11) (.tmp 96), none⟩]) (.seq (.ops [⟨some 97, .fadr 0 (.tmp 11), none⟩, ⟨some 98, .load 1 false (.tmp 97), none⟩, ⟨some 99, .bin .eql (.tmp 98) (.const (.int .i64 2)), none⟩, ⟨some 100, .mov (.tmp 99), none⟩, ⟨some 101, .fadr 0 (.tmp 11), some (100, false)⟩, ⟨some 102, .load 1 false (.tmp 101), some (100, false)⟩, ⟨some 103, .bin .eql (.tmp 102) (.const (.int .i64 3)), some (100, false)⟩, ⟨some 104, .pick (.tmp 100) (.const (.bool true)) (.tmp 103), none⟩]) (.cond (.tmp 104) (.seq (.ops [⟨some 105, .load 4 true (.tmp 11), none⟩, ⟨some 106, .mov (.tmp 12), none⟩, ⟨none, .store 4 (.tmp 6) (.tmp 105), none⟩, ⟨some 7, .mov (.tmp 106), none⟩]) .ret) .skip)))))))) (.ops [⟨some 107, .bin .add (.tmp 73) (.const (.int .i64 1)), none⟩, ⟨some 73, .mov (.tmp 107), none⟩]))))))) (.seq (.seq (.ops [⟨some 108, .fadr 0 (.tmp 11), none⟩, ⟨some 109, .load 1 false (.tmp 108), none⟩, ⟨some 110, .bin .eql (.tmp 109) (.const (.int .i64 1)), none⟩]) (.cond (.tmp 110) (.ops [⟨some 111, .fadr 0 (.tmp 11), none⟩, ⟨none, .store 1 (.tmp 111) (.const (.int .i64 2)), none⟩]) (.ops [⟨some 112, .call 51 [(.const (.int .i64 4))], none⟩, ⟨none, .store 4 (.tmp 11) (.tmp 112), none⟩]))) (.seq (.ops [⟨some 113, .load 4 true (.tmp 11), none⟩, ⟨some 114, .mov (.tmp 12), none⟩, ⟨some 115, .mov (.tmp 2), none⟩, ⟨some 116, .bin .add (.tmp 114) (.tmp 115), none⟩, ⟨none, .store 4 (.tmp 6) (.tmp 113), none⟩, ⟨some 7, .mov (.tmp 116), none⟩]) .ret))))))))
@[reducible] def rv28 : List RV := [.cell 6 4 true, .tmp 7]
theorem low28 : lowC Tryd.prog tau Tryd.f28.ntmps (Tryd.f28.body.getD .skip) = some (erase ic28) := by kernel_rfl
theorem res28 : lowR Tryd.prog Tryd.f28.results.toList = some rv28 := by kernel_rfl
theorem bod28 : Tryd.f28.body = some (Tryd.f28.body.getD .skip) := by kernel_rfl
theorem cal28 : callable Tryd.prog 28 = true := by kernel_rfl

end Go.Proofs.YthghcialeghgoaaDoorE

/-! The code of a function, in the engine's words. -/
namespace Go.Proofs.YthghcialeghgoaaDoorE
open Go Go.RowKit
@[reducible] def ic3 : IC := (.seq (.ops [⟨some 2, .mov (.const (.bool false)), none⟩]) (.seq (.ops [⟨some 3, .mov (.const (.int .i64 1048576)), none⟩]) (.seq (.ops [⟨some 7, .mov (.tmp 0), none⟩, ⟨some 8, .mov (.tmp 3), none⟩, ⟨some 9, .call 10 [(.tmp 7), (.tmp 8)], none⟩, ⟨some 3, .mov (.tmp 9), none⟩]) (.seq (.seq (.ops [⟨some 10, .mov (.tmp 3), none⟩, ⟨some 11, .bin .lss (.tmp 10) (.const (.int .i64 0)), none⟩]) (.cond (.tmp 11) (.seq (.ops [⟨some 2, .mov (.const (.bool true)), none⟩]) .ret) .skip)) (.seq (.ops [⟨some 12, .mov (.tmp 0), none⟩, ⟨some 13, .call 12 [(.tmp 12)], none⟩, ⟨some 14, .call 11 [(.tmp 13)], none⟩, ⟨some 4, .mov (.tmp 14), none⟩]) (.seq (.ops [⟨some 15, .mov (.tmp 0), none⟩, ⟨some 16, .call 12 [(.tmp 15)], none⟩, ⟨some 5, .mov (.tmp 16), none⟩]) (.seq (.ops [⟨some 17, .mov (.tmp 5), none⟩, ⟨some 18, .call 13 [(.tmp 17)], none⟩, ⟨some 6, .mov (.tmp 18), none⟩]) (.seq (.seq (.ops [⟨some 19, .mov (.tmp 6), none⟩, ⟨some 20, .mov (.tmp 4), none⟩, ⟨some 21, .beq true (.tmp 19) (.tmp 20), none⟩]) (.cond (.tmp 21) (.seq (.ops [⟨some 2, .mov (.const (.bool false)), none⟩]) .ret) .skip)) (.seq (.seq (.ops [⟨some 22, .mov (.tmp 5), none⟩, ⟨some 23, .mov (.tmp 0), none⟩, ⟨some 24, .call 12 [(.tmp 23)], none⟩, ⟨some 25, .call 14 [(.tmp 22), (.tmp 24)], none⟩, ⟨some 26, .una .not (.tmp 25), none⟩]) (.cond (.tmp 26) (.seq (.ops [⟨some 2, .mov (.const (.bool false)), none⟩]) .ret) .skip)) (.seq (.ops [⟨some 2, .mov (.const (.bool true)), none⟩]) .ret))))))))))
@[reducible] def rv3 : List RV := [.tmp 2]
theorem low3 : lowC Tryd.prog tau Tryd.f3.ntmps (Tryd.f3.body.getD .skip) = some (erase ic3) := by kernel_rfl
theorem res3 : lowR Tryd.prog Tryd.f3.results.toList = some rv3 := by kernel_rfl
theorem bod3 : Tryd.f3.body = some (Tryd.f3.body.getD .skip) := by kernel_rfl
theorem cal3 : callable Tryd.prog 3 = true := by kernel_rfl

end Go.Proofs.YthghcialeghgoaaDoorE

/-! The law of RulesOk. -/
namespace Go.Proofs.YthghcialeghgoaaDoorE
open Go Go.RowKit
set_option linter.unusedSimpArgs false
set_option linter.unusedVariables false
set_option maxRecDepth 20000
set_option maxHeartbeats 4000000

theorem bb_self {b : Bool} : (b == b) = true := by simp
def spLaw3 : Spec := ⟨fun _ _ => [], fun args objs K => match args, objs with
  | [.rs .rule l], [] => (szRulAll l 140737488351232 ∧ l.length ≤ 17592186044416) ∧ K (.v (.bool true)) [] 0
  | _, _ => False, false⟩
theorem spLaw3_t {L : Hp} {a : List AVal} : Spec.take spLaw3 L a = [] := id rfl
theorem spLaw3_k : Spec.keep spLaw3 = false := id rfl
theorem spLaw3_f {l} {K : AVal → Hp → Nat → Prop} : Spec.f spLaw3 ([.rs .rule l]) ([]) K = ((szRulAll l 140737488351232 ∧ l.length ≤ 17592186044416) ∧ K (.v (.bool true)) [] 0) := id rfl
theorem valid3 : Valid Tryd.prog 3 spLaw3 := by
  refine validI (Γ := lk [(10, spSzRulS), (11, spRulesOk), (12, spToRulS), (13, spRulesOk), (14, spEqRulS)]) Tryd.func3 bod3 low3 res3 (good_of ⟨⟨cal10, valid10⟩, ⟨cal11, valid11⟩, ⟨cal12, valid12⟩, ⟨cal13, valid13⟩, ⟨cal14, valid14⟩, trivial⟩) ?_
  intro E args objs K h hE hG hP
  simp only [spLaw3] at h
  split at h
  · refine ⟨by simp [Tryd.ntmps3], ?_⟩
    rename_i l
    obtain ⟨⟨hs, hl⟩, h⟩ := h
    have hst := eq_true hs
    simp (config := { maxSteps := 2000000 }) only [go_sem, hG, hP, Nat.reduceEqDiff, ↓reduceIte, reduceCtorEq, Nat.reduceAdd, Nat.reduceSub, Nat.reduceMul, Nat.reduceLT, Nat.reduceLeDiff, Int.reduceAdd, Int.reduceSub, Int.reduceMul, Int.reduceLT, Int.reduceLE, Int.reduceEq, Int.reduceNeg, Int.reduceNe, Int.reduceGE, Int.reduceGT, Nat.reduceBEq, Int.reduceToNat,  spSzRulS_f, spSzRulS_t, spSzRulS_k, spRulesOk_f, spRulesOk_t, spRulesOk_k, spToRulS_f, spToRulS_t, spToRulS_k, spEqRulS_f, spEqRulS_t, spEqRulS_k, hst, bb_self]
    (try simp (disch := omega) only [wrap_id])
    repeat (refine And.intro (by first | omega | (simp; done) | (simp; omega) | (unfold appRoom; omega)) ?_)
    intro r hr
    refine ⟨fun _ => ⟨_, _, _, ?_, h⟩, fun hn => ?_⟩
    · simp (config := { maxSteps := 2000000 }) only [go_sem, hG, hP, Nat.reduceEqDiff, ↓reduceIte, reduceCtorEq, Nat.reduceAdd, Nat.reduceSub, Nat.reduceMul, Nat.reduceLT, Nat.reduceLeDiff, Int.reduceAdd, Int.reduceSub, Int.reduceMul, Int.reduceLT, Int.reduceLE, Int.reduceEq, Int.reduceNeg, Int.reduceNe, Int.reduceGE, Int.reduceGT, Nat.reduceBEq, Int.reduceToNat]
    repeat' (first | (refine And.intro ?_ ?_) | (with_reducible intro _))
    all_goals first
      | omega
      | (refine ⟨_, _, _, ?_, h⟩; simp (config := { maxSteps := 2000000 }) only [go_sem, hG, hP, Nat.reduceEqDiff, ↓reduceIte, reduceCtorEq, Nat.reduceAdd, Nat.reduceSub, Nat.reduceMul, Nat.reduceLT, Nat.reduceLeDiff, Int.reduceAdd, Int.reduceSub, Int.reduceMul, Int.reduceLT, Int.reduceLE, Int.reduceEq, Int.reduceNeg, Int.reduceNe, Int.reduceGE, Int.reduceGT, Nat.reduceBEq, Int.reduceToNat]; done)
      | (exfalso; simp_all; done)
  · exact h.elim
end Go.Proofs.YthghcialeghgoaaDoorE

/-! The code of a function, in the engine's words. -/
namespace Go.Proofs.YthghcialeghgoaaDoorE
open Go Go.RowKit
@[reducible] def ic9 : IC := (.seq (.ops [⟨some 6, .mov (.const (.bool false)), none⟩]) (.seq (.ops [⟨some 7, .mov (.const (.int .i64 1048576)), none⟩]) (.seq (.ops [⟨some 14, .mov (.tmp 0), none⟩, ⟨some 15, .mov (.tmp 7), none⟩, ⟨some 16, .call 10 [(.tmp 14), (.tmp 15)], none⟩, ⟨some 7, .mov (.tmp 16), none⟩]) (.seq (.seq (.ops [⟨some 17, .mov (.tmp 7), none⟩, ⟨some 18, .bin .lss (.tmp 17) (.const (.int .i64 0)), none⟩]) (.cond (.tmp 18) (.seq (.ops [⟨some 6, .mov (.const (.bool true)), none⟩]) .ret) .skip)) (.seq (.ops [⟨some 19, .mov (.tmp 1), none⟩, ⟨some 20, .mov (.tmp 7), none⟩, ⟨some 21, .call 30 [(.tmp 19), (.tmp 20)], none⟩, ⟨some 7, .mov (.tmp 21), none⟩]) (.seq (.seq (.ops [⟨some 22, .mov (.tmp 7), none⟩, ⟨some 23, .bin .lss (.tmp 22) (.const (.int .i64 0)), none⟩]) (.cond (.tmp 23) (.seq (.ops [⟨some 6, .mov (.const (.bool true)), none⟩]) .ret) .skip)) (.seq (.ops [⟨some 25, .mov (.tmp 0), none⟩, ⟨some 26, .call 12 [(.tmp 25)], none⟩, ⟨some 27, .mov (.tmp 1), none⟩, ⟨some 28, .call 31 [(.tmp 27)], none⟩, ⟨some 29, .mov (.tmp 2), none⟩, ⟨some 30, .call 29 [(.tmp 26), (.tmp 28), (.tmp 29)], none⟩, ⟨some 24, .mov (.tmp 30), none⟩, ⟨some 31, .ext (.tmp 24) 0, none⟩, ⟨some 32, .ext (.tmp 24) 1, none⟩, ⟨some 8, .new [(.int .i64 0), (.int .i64 0), (.string ⟨#[]⟩), (.int .i64 0)], none⟩, ⟨none, .store 4 (.tmp 8) (.tmp 31), none⟩, ⟨some 9, .mov (.tmp 32), none⟩]) (.seq (.ops [⟨some 33, .mov (.tmp 0), none⟩, ⟨some 34, .call 12 [(.tmp 33)], none⟩, ⟨some 10, .mov (.tmp 34), none⟩]) (.seq (.ops [⟨some 35, .mov (.tmp 1), none⟩, ⟨some 36, .call 31 [(.tmp 35)], none⟩, ⟨some 11, .mov (.tmp 36), none⟩]) (.seq (.ops [⟨some 38, .mov (.tmp 10), none⟩, ⟨some 39, .mov (.tmp 11), none⟩, ⟨some 40, .mov (.tmp 2), none⟩, ⟨some 41, .call 28 [(.tmp 38), (.tmp 39), (.tmp 40)], none⟩, ⟨some 37, .mov (.tmp 41), none⟩, ⟨some 42, .ext (.tmp 37) 0, none⟩, ⟨some 43, .ext (.tmp 37) 1, none⟩, ⟨some 12, .new [(.int .i64 0), (.int .i64 0), (.string ⟨#[]⟩), (.int .i64 0)], none⟩, ⟨none, .store 4 (.tmp 12) (.tmp 42), none⟩, ⟨some 13, .mov (.tmp 43), none⟩]) (.seq (.seq (.ops [⟨some 44, .load 4 true (.tmp 12), none⟩, ⟨some 45, .load 4 true (.tmp 8), none⟩, ⟨some 46, .call 24 [(.tmp 44), (.tmp 45)], none⟩, ⟨some 47, .una .not (.tmp 46), none⟩, ⟨some 48, .mov (.tmp 47), none⟩, ⟨some 49, .mov (.tmp 13), some (48, false)⟩, ⟨some 50, .mov (.tmp 9), some (48, false)⟩, ⟨some 51, .bin .neq (.tmp 49) (.tmp 50), some (48, false)⟩, ⟨some 52, .pick (.tmp 48) (.const (.bool true)) (.tmp 51), none⟩]) (.cond (.tmp 52) (.seq (.ops [⟨some 6, .mov (.const (.bool false)), none⟩]) .ret) .skip)) (.seq (.seq (.ops [⟨some 53, .mov (.tmp 10), none⟩, ⟨some 54, .mov (.tmp 0), none⟩, ⟨some 55, .call 12 [(.tmp 54)], none⟩, ⟨some 56, .call 14 [(.tmp 53), (.tmp 55)], none⟩, ⟨some 57, .una .not (.tmp 56), none⟩]) (.cond (.tmp 57) (.seq (.ops [⟨some 6, .mov (.const (.bool false)), none⟩]) .ret) .skip)) (.seq (.seq (.ops [⟨some 58, .mov (.tmp 11), none⟩, ⟨some 59, .mov (.tmp 1), none⟩, ⟨some 60, .call 31 [(.tmp 59)], none⟩, ⟨some 61, .call 32 [(.tmp 58), (.tmp 60)], none⟩, ⟨some 62, .una .not (.tmp 61), none⟩]) (.cond (.tmp 62) (.seq (.ops [⟨some 6, .mov (.const (.bool false)), none⟩]) .ret) .skip)) (.seq (.ops [⟨some 6, .mov (.const (.bool true)), none⟩]) .ret))))))))))))))
@[reducible] def rv9 : List RV := [.tmp 6]
theorem low9 : lowC Tryd.prog tau Tryd.f9.ntmps (Tryd.f9.body.getD .skip) = some (erase ic9) := by kernel_rfl
theorem res9 : lowR Tryd.prog Tryd.f9.results.toList = some rv9 := by kernel_rfl
theorem bod9 : Tryd.f9.body = some (Tryd.f9.body.getD .skip) := by kernel_rfl
theorem cal9 : callable Tryd.prog 9 = true := by kernel_rfl

end Go.Proofs.YthghcialeghgoaaDoorE

/-! The program's Overlap. -/
namespace Go.Proofs.YthghcialeghgoaaDoorE
open Go Go.RowKit
set_option linter.unusedSimpArgs false
set_option linter.unusedVariables false
set_option maxRecDepth 20000
set_option maxHeartbeats 4000000

/-- The first presses are right. -/
def preP (l : List Prs) (i : Nat) : Prop := ∀ j, j < i → prsP (l.getD j Prsz) ∧ ordP l j
noncomputable instance (l : List Prs) (i : Nat) : Decidable (preP l i) := Classical.propDecidable _
theorem preP_succ (l : List Prs) (i : Nat) : preP l (i + 1) ↔ preP l i ∧ prsP (l.getD i Prsz) ∧ ordP l i := by
  refine ⟨fun h => ⟨fun j hj => h j (by omega), h i (by omega)⟩, fun h j hj => ?_⟩
  by_cases e : j < i
  · exact h.1 j e
  · obtain rfl : j = i := by omega
    exact h.2
theorem valid28 : Valid Tryd.prog 28 spOver := by
  refine validI (Γ := lk [(13, spRulesOk), (36, spDigitsOk), (37, spIn), (51, spTold), (52, spDialI)]) Tryd.func28 bod28 low28 res28 (good_of ⟨⟨cal13, valid13⟩, ⟨cal36, valid36⟩, ⟨cal37, valid37⟩, ⟨cal51, valid51⟩, ⟨cal52, valid52⟩, trivial⟩) ?_
  intro E args objs K h hE hG hP
  simp only [spOver] at h
  split at h
  · refine ⟨by simp [Tryd.ntmps28], ?_⟩
    rename_i l ps w
    obtain ⟨⟨hs, hl, hs2, hl2⟩, h⟩ := h
    have hst := eq_true hs
    by_cases hB : rulesP l ∧ (1 ≤ w ∧ w ≤ 1000) ∧ (ps.length : Int) ≤ 20
    · obtain ⟨hR, ⟨hw1, hw2⟩, hl20⟩ := hB
      have f1 := eq_true hR
      have f3 : (1 ≤ w) = True := eq_true hw1
      have f4 : (w ≤ 1000) = True := eq_true hw2
      have f5 : ((ps.length : Int) ≤ 20) = True := eq_true hl20
      simp (config := { maxSteps := 2000000 }) only [go_sem, hG, hP, Nat.reduceEqDiff, ↓reduceIte, reduceCtorEq, Nat.reduceAdd, Nat.reduceSub, Nat.reduceMul, Nat.reduceLT, Nat.reduceLeDiff, Int.reduceAdd, Int.reduceSub, Int.reduceMul, Int.reduceLT, Int.reduceLE, Int.reduceEq, Int.reduceNeg, Int.reduceNe, Int.reduceGE, Int.reduceGT, Nat.reduceBEq, Int.reduceToNat,  spRulesOk_f, spRulesOk_t, spRulesOk_k, spIn_f, spIn_t, spIn_k, hst, hl, f1, f3, f4, f5]
      (try simp (disch := omega) only [wrap_id])
      repeat (refine And.intro (by first | omega | (simp; done) | (simp; omega) | (unfold appRoom; omega)) ?_)
      refine loopI hE (fun i : Nat => ⟨[(0, .rs .rule l), (1, .rs .prs ps), (2, .v (.int .i64 w)), (6, .ptr 0 0), (8, .v (.bool (decide (preP ps i)))), (27, .rs .prs ps), (28, .v (.int .i64 ps.length)), (29, .v (.int .i64 i))], [(0, .box [.v (.int .i64 0), .v (.int .i64 0), .v (.string ⟨#[]⟩), .v (.int .i64 0)])], 1, Tryd.f28.ntmps⟩) (fun i => i ≤ ps.length) (fun i => ps.length - i) ⟨0, Nat.zero_le _, SubS.weak ?_⟩ ?_
      · have hp0 : decide (preP ps 0) = true := decide_eq_true (show preP ps 0 from fun j hj => absurd hj (Nat.not_lt_zero j))
        simp (config := { maxSteps := 2000000 }) only [go_sem, hG, hP, Nat.reduceEqDiff, ↓reduceIte, reduceCtorEq, Nat.reduceAdd, Nat.reduceSub, Nat.reduceMul, Nat.reduceLT, Nat.reduceLeDiff, Int.reduceAdd, Int.reduceSub, Int.reduceMul, Int.reduceLT, Int.reduceLE, Int.reduceEq, Int.reduceNeg, Int.reduceNe, Int.reduceGE, Int.reduceGT, Nat.reduceBEq, Int.reduceToNat,  hp0]
        repeat' (first | with_reducible rfl | (refine And.intro ?_ ?_) | (refine congrArg (Value.int _) ?_; omega) | omega)
      · intro i hi
        dsimp only at hi ⊢
        by_cases hi2 : i < ps.length
        · have e1 : ((i : Int) < ps.length) = True := by apply eq_true; omega
          have hsz := hs2 i hi2
          unfold szPrsOk at hsz
          have hsu := preP_succ ps i
          have hord : ordP ps i ↔ (0 < i → (ps.getD (i - 1) Prsz).tick ≤ (ps.getD i Prsz).tick) := Iff.rfl
          dsimp only [Prsz] at hsz hsu hord
          generalize ordP ps i = OP at *
          generalize hcd : ps.getD i (⟨0, ⟨#[]⟩⟩ : Prs) = c at *
          obtain ⟨t, dg⟩ := c
          have hpr : prsP ⟨t, dg⟩ ↔ ((0 ≤ t ∧ t ≤ 1000000000) ∧ dg.size = 1 ∧ digsP dg) := Iff.rfl
          generalize hPP : prsP ⟨t, dg⟩ = PP at *
          dsimp only at hsz hord
          clear hPP
          have hd1 : ∀ b : Bool, (b = true ↔ preP ps (i + 1)) → b = decide (preP ps (i + 1)) := fun b hb => by
            rw [Bool.eq_iff_iff, decide_eq_true_eq]; exact hb
          rw [hpr, hord] at hsu
          by_cases i0 : (i : Int) = 0
          · have i3 := eq_true i0
            have i4 : ¬ 0 < i := by omega
            simp (config := { maxSteps := 2000000 }) only [go_sem, hG, hP, Nat.reduceEqDiff, ↓reduceIte, reduceCtorEq, Nat.reduceAdd, Nat.reduceSub, Nat.reduceMul, Nat.reduceLT, Nat.reduceLeDiff, Int.reduceAdd, Int.reduceSub, Int.reduceMul, Int.reduceLT, Int.reduceLE, Int.reduceEq, Int.reduceNeg, Int.reduceNe, Int.reduceGE, Int.reduceGT, Nat.reduceBEq, Int.reduceToNat,  e1, hcd, spDigitsOk_f, spDigitsOk_t, spDigitsOk_k, spIn_f, spIn_t, spIn_k, i3]
            (try simp (disch := omega) only [wrap_id])
            repeat' (first | (refine And.intro ?_ ?_) | (with_reducible intro _))
            all_goals first
              | omega
              | (refine ⟨i + 1, ⟨by omega, by omega⟩, SubS.weak ?_⟩
                 simp (config := { maxSteps := 2000000 }) only [go_sem, hG, hP, Nat.reduceEqDiff, ↓reduceIte, reduceCtorEq, Nat.reduceAdd, Nat.reduceSub, Nat.reduceMul, Nat.reduceLT, Nat.reduceLeDiff, Int.reduceAdd, Int.reduceSub, Int.reduceMul, Int.reduceLT, Int.reduceLE, Int.reduceEq, Int.reduceNeg, Int.reduceNe, Int.reduceGE, Int.reduceGT, Nat.reduceBEq, Int.reduceToNat]
                 refine ⟨congrArg Value.bool (hd1 _ ?_), congrArg (Value.int _) (by omega)⟩
                 grind)
              | skip
            skip
            done
          · have i3 := eq_false i0
            have i4 : 0 < i := by omega
            have i1 : ((i : Int) - 1).toNat = i - 1 := by omega
            have i2 : wr .i64 ((i : Int) - 1) = (i : Int) - 1 := wrap_id (by omega) (by omega)
            simp (config := { maxSteps := 2000000 }) only [go_sem, hG, hP, Nat.reduceEqDiff, ↓reduceIte, reduceCtorEq, Nat.reduceAdd, Nat.reduceSub, Nat.reduceMul, Nat.reduceLT, Nat.reduceLeDiff, Int.reduceAdd, Int.reduceSub, Int.reduceMul, Int.reduceLT, Int.reduceLE, Int.reduceEq, Int.reduceNeg, Int.reduceNe, Int.reduceGE, Int.reduceGT, Nat.reduceBEq, Int.reduceToNat,  e1, hcd, spDigitsOk_f, spDigitsOk_t, spDigitsOk_k, spIn_f, spIn_t, spIn_k, i1, i2, i3]
            (try simp (disch := omega) only [wrap_id])
            repeat' (first | (refine And.intro ?_ ?_) | (with_reducible intro _))
            all_goals first
              | omega
              | (refine ⟨i + 1, ⟨by omega, by omega⟩, SubS.weak ?_⟩
                 simp (config := { maxSteps := 2000000 }) only [go_sem, hG, hP, Nat.reduceEqDiff, ↓reduceIte, reduceCtorEq, Nat.reduceAdd, Nat.reduceSub, Nat.reduceMul, Nat.reduceLT, Nat.reduceLeDiff, Int.reduceAdd, Int.reduceSub, Int.reduceMul, Int.reduceLT, Int.reduceLE, Int.reduceEq, Int.reduceNeg, Int.reduceNe, Int.reduceGE, Int.reduceGT, Nat.reduceBEq, Int.reduceToNat]
                 refine ⟨congrArg Value.bool (hd1 _ ?_), congrArg (Value.int _) (by omega)⟩
                 grind)
              | skip
            skip
            done
        · have e1 : ((i : Int) < ps.length) = False := by apply eq_false; omega
          have ei : i = ps.length := by omega
          subst ei
          by_cases hpp : preP ps ps.length
          · have hD : presP ps := ⟨hpp, by omega⟩
            rw [overV_yes ⟨hR, hD, hw1, hw2⟩] at h
            generalize hV : stepO l ps w ps.length 0 ⟨#[]⟩ (noneD 0) 0 = V at h
            have f6 := eq_true hpp
            simp (config := { maxSteps := 2000000 }) only [go_sem, hG, hP, Nat.reduceEqDiff, ↓reduceIte, reduceCtorEq, Nat.reduceAdd, Nat.reduceSub, Nat.reduceMul, Nat.reduceLT, Nat.reduceLeDiff, Int.reduceAdd, Int.reduceSub, Int.reduceMul, Int.reduceLT, Int.reduceLE, Int.reduceEq, Int.reduceNeg, Int.reduceNe, Int.reduceGE, Int.reduceGT, Nat.reduceBEq, Int.reduceToNat,  e1, spTold_f, spTold_t, spTold_k, f6]
            (try simp (disch := omega) only [wrap_id])
            repeat (refine And.intro (by first | omega | (simp; done) | (simp; omega) | (unfold appRoom; omega)) ?_)
            refine loopI hE (fun q : Nat × ByteArray × Dl × Int => ⟨[(0, .rs .rule l), (2, .v (.int .i64 w)), (6, .ptr 0 0), (11, .ptr 1 0), (12, .v (.int .i64 q.2.2.2)), (13, .v (.string q.2.1)), (71, .rs .prs ps), (72, .v (.int .i64 ps.length)), (73, .v (.int .i64 q.1))], [(0, .box [.v (.int .i64 0), .v (.int .i64 0), .v (.string ⟨#[]⟩), .v (.int .i64 0)]), (1, .box [.v (.int .i64 q.2.2.1.1), .v (.int .i64 q.2.2.1.2.1), .v (.string q.2.2.1.2.2.1), .v (.int .i64 q.2.2.1.2.2.2)])], 2, Tryd.f28.ntmps⟩) (fun q => (q.1 ≤ ps.length ∧ q.2.1.size = q.1 ∧ allDig q.2.1 ∧ 0 ≤ q.2.2.2 ∧ q.2.2.2 ≤ 1000000000) ∧ V = stepO l ps w (ps.length - q.1) q.1 q.2.1 q.2.2.1 q.2.2.2) (fun q => ps.length - q.1) ⟨(0, ⟨#[]⟩, noneD 0, 0), ⟨⟨Nat.zero_le _, rfl, allDig_nil, Int.le_refl 0, by dsimp only; omega⟩, hV.symm⟩, SubS.weak ?_⟩ ?_
            · simp (config := { maxSteps := 2000000 }) only [go_sem, hG, hP, Nat.reduceEqDiff, ↓reduceIte, reduceCtorEq, Nat.reduceAdd, Nat.reduceSub, Nat.reduceMul, Nat.reduceLT, Nat.reduceLeDiff, Int.reduceAdd, Int.reduceSub, Int.reduceMul, Int.reduceLT, Int.reduceLE, Int.reduceEq, Int.reduceNeg, Int.reduceNe, Int.reduceGE, Int.reduceGT, Nat.reduceBEq, Int.reduceToNat,  noneD]
              repeat' (first | with_reducible rfl | (refine And.intro ?_ ?_) | (refine congrArg (Value.int _) ?_; omega) | omega)
            · rintro ⟨i, dg, ⟨x1, x2, x3, x4⟩, tk⟩ ⟨⟨hi, hdg, had, ht1, ht2⟩, hI⟩
              dsimp only at hi hdg had ht1 ht2 hI ⊢
              by_cases hi2 : i < ps.length
              · have e1 : ((i : Int) < ps.length) = True := by apply eq_true; omega
                obtain ⟨⟨hp1, hp2, hp3⟩, hp4⟩ := hD.1 i hi2
                have hds : (dg ++ (ps.getD i Prsz).dig).size = i + 1 := by rw [ByteArray.size_append]; omega
                have hds2 : ((dg ++ (ps.getD i Prsz).dig).size ≤ 1099511627776) = True := by apply eq_true; omega
                have had2 := allDig_app had hp3.2
                rw [show ps.length - i = (ps.length - (i + 1)) + 1 by omega, stepO] at hI
                dsimp only [Prsz] at hp1 hp2 hp3 hds hds2 had2 hI
                generalize hcd : ps.getD i (⟨0, ⟨#[]⟩⟩ : Prs) = c at *
                generalize hdv : dialV l (dg ++ c.dig) = v at *
                obtain ⟨v1, v2, v3, v4⟩ := v
                dsimp only at hI
                simp (config := { maxSteps := 2000000 }) only [go_sem, hG, hP, Nat.reduceEqDiff, ↓reduceIte, reduceCtorEq, Nat.reduceAdd, Nat.reduceSub, Nat.reduceMul, Nat.reduceLT, Nat.reduceLeDiff, Int.reduceAdd, Int.reduceSub, Int.reduceMul, Int.reduceLT, Int.reduceLE, Int.reduceEq, Int.reduceNeg, Int.reduceNe, Int.reduceGE, Int.reduceGT, Nat.reduceBEq, Int.reduceToNat,  e1, hcd, spDialI_f, spDialI_t, spDialI_k, spTold_f, spTold_t, spTold_k, dA, hst, hl, f1, hds2, hdv]
                (try simp (disch := omega) only [wrap_id])
                repeat' (first | (refine And.intro ?_ ?_) | (with_reducible intro _))
                all_goals first
                  | omega
                  | (rw [hI, if_neg (by omega), if_pos (by omega)] at h
                     refine ⟨_, _, _, ?_, h⟩
                     simp (config := { maxSteps := 2000000 }) only [go_sem, hG, hP, Nat.reduceEqDiff, ↓reduceIte, reduceCtorEq, Nat.reduceAdd, Nat.reduceSub, Nat.reduceMul, Nat.reduceLT, Nat.reduceLeDiff, Int.reduceAdd, Int.reduceSub, Int.reduceMul, Int.reduceLT, Int.reduceLE, Int.reduceEq, Int.reduceNeg, Int.reduceNe, Int.reduceGE, Int.reduceGT, Nat.reduceBEq, Int.reduceToNat,  dA]
                     done)
                  | (rw [if_pos (by omega)] at hI
                     unfold endO at hI
                     dsimp only at hI
                     rw [if_pos (by omega)] at hI
                     rw [hI] at h
                     refine ⟨_, _, _, ?_, h⟩
                     simp (config := { maxSteps := 2000000 }) only [go_sem, hG, hP, Nat.reduceEqDiff, ↓reduceIte, reduceCtorEq, Nat.reduceAdd, Nat.reduceSub, Nat.reduceMul, Nat.reduceLT, Nat.reduceLeDiff, Int.reduceAdd, Int.reduceSub, Int.reduceMul, Int.reduceLT, Int.reduceLE, Int.reduceEq, Int.reduceNeg, Int.reduceNe, Int.reduceGE, Int.reduceGT, Nat.reduceBEq, Int.reduceToNat,  dA]
                     done)
                  | (rw [if_pos (by omega)] at hI
                     unfold endO at hI
                     dsimp only at hI
                     rw [if_neg (by omega)] at hI
                     rw [hI] at h
                     refine ⟨_, _, _, ?_, h⟩
                     simp (config := { maxSteps := 2000000 }) only [go_sem, hG, hP, Nat.reduceEqDiff, ↓reduceIte, reduceCtorEq, Nat.reduceAdd, Nat.reduceSub, Nat.reduceMul, Nat.reduceLT, Nat.reduceLeDiff, Int.reduceAdd, Int.reduceSub, Int.reduceMul, Int.reduceLT, Int.reduceLE, Int.reduceEq, Int.reduceNeg, Int.reduceNe, Int.reduceGE, Int.reduceGT, Nat.reduceBEq, Int.reduceToNat,  dA, noneD]
                     done)
                  | (rw [if_neg (by omega), if_neg (by omega)] at hI
                     refine ⟨(i + 1, _, (v1, v2, v3, v4), c.tick), ⟨⟨⟨by dsimp only; omega, hds, had2, by dsimp only; omega, by dsimp only; omega⟩, hI⟩, by dsimp only; omega⟩, SubS.weak ?_⟩
                     simp (config := { maxSteps := 2000000 }) only [go_sem, hG, hP, Nat.reduceEqDiff, ↓reduceIte, reduceCtorEq, Nat.reduceAdd, Nat.reduceSub, Nat.reduceMul, Nat.reduceLT, Nat.reduceLeDiff, Int.reduceAdd, Int.reduceSub, Int.reduceMul, Int.reduceLT, Int.reduceLE, Int.reduceEq, Int.reduceNeg, Int.reduceNe, Int.reduceGE, Int.reduceGT, Nat.reduceBEq, Int.reduceToNat]
                     repeat' (first | with_reducible rfl | (refine And.intro ?_ ?_) | (refine congrArg (Value.int _) ?_; omega) | omega)
                     done)
                  | skip
                skip
                done
              · have e1 : ((i : Int) < ps.length) = False := by apply eq_false; omega
                have ei : i = ps.length := by omega
                subst ei
                rw [show ps.length - ps.length = 0 by omega, stepO] at hI
                unfold endO at hI
                dsimp only at hI
                simp (config := { maxSteps := 2000000 }) only [go_sem, hG, hP, Nat.reduceEqDiff, ↓reduceIte, reduceCtorEq, Nat.reduceAdd, Nat.reduceSub, Nat.reduceMul, Nat.reduceLT, Nat.reduceLeDiff, Int.reduceAdd, Int.reduceSub, Int.reduceMul, Int.reduceLT, Int.reduceLE, Int.reduceEq, Int.reduceNeg, Int.reduceNe, Int.reduceGE, Int.reduceGT, Nat.reduceBEq, Int.reduceToNat,  e1, spTold_f, spTold_t, spTold_k]
                (try simp (disch := omega) only [wrap_id])
                repeat' (first | (refine And.intro ?_ ?_) | (with_reducible intro _))
                all_goals first
                  | omega
                  | (rw [hI, if_pos (by omega)] at h
                     refine ⟨_, _, _, ?_, h⟩
                     simp (config := { maxSteps := 2000000 }) only [go_sem, hG, hP, Nat.reduceEqDiff, ↓reduceIte, reduceCtorEq, Nat.reduceAdd, Nat.reduceSub, Nat.reduceMul, Nat.reduceLT, Nat.reduceLeDiff, Int.reduceAdd, Int.reduceSub, Int.reduceMul, Int.reduceLT, Int.reduceLE, Int.reduceEq, Int.reduceNeg, Int.reduceNe, Int.reduceGE, Int.reduceGT, Nat.reduceBEq, Int.reduceToNat,  dA]
                     done)
                  | (rw [hI, if_neg (by omega)] at h
                     refine ⟨_, _, _, ?_, h⟩
                     simp (config := { maxSteps := 2000000 }) only [go_sem, hG, hP, Nat.reduceEqDiff, ↓reduceIte, reduceCtorEq, Nat.reduceAdd, Nat.reduceSub, Nat.reduceMul, Nat.reduceLT, Nat.reduceLeDiff, Int.reduceAdd, Int.reduceSub, Int.reduceMul, Int.reduceLT, Int.reduceLE, Int.reduceEq, Int.reduceNeg, Int.reduceNe, Int.reduceGE, Int.reduceGT, Nat.reduceBEq, Int.reduceToNat,  dA, noneD]
                     done)
                  | skip
                skip
                done
          · rw [overV_no (fun q => hpp q.2.1.1)] at h
            have f6 := eq_false hpp
            simp (config := { maxSteps := 2000000 }) only [go_sem, hG, hP, Nat.reduceEqDiff, ↓reduceIte, reduceCtorEq, Nat.reduceAdd, Nat.reduceSub, Nat.reduceMul, Nat.reduceLT, Nat.reduceLeDiff, Int.reduceAdd, Int.reduceSub, Int.reduceMul, Int.reduceLT, Int.reduceLE, Int.reduceEq, Int.reduceNeg, Int.reduceNe, Int.reduceGE, Int.reduceGT, Nat.reduceBEq, Int.reduceToNat,  e1, spTold_f, spTold_t, spTold_k, f6]
            refine ⟨_, _, _, ?_, h⟩
            simp (config := { maxSteps := 2000000 }) only [go_sem, hG, hP, Nat.reduceEqDiff, ↓reduceIte, reduceCtorEq, Nat.reduceAdd, Nat.reduceSub, Nat.reduceMul, Nat.reduceLT, Nat.reduceLeDiff, Int.reduceAdd, Int.reduceSub, Int.reduceMul, Int.reduceLT, Int.reduceLE, Int.reduceEq, Int.reduceNeg, Int.reduceNe, Int.reduceGE, Int.reduceGT, Nat.reduceBEq, Int.reduceToNat,  dA, noneD]
    · rw [overV_no (fun q => hB ⟨q.1, q.2.2, by have := q.2.1.2; omega⟩)] at h
      simp (config := { maxSteps := 2000000 }) only [go_sem, hG, hP, Nat.reduceEqDiff, ↓reduceIte, reduceCtorEq, Nat.reduceAdd, Nat.reduceSub, Nat.reduceMul, Nat.reduceLT, Nat.reduceLeDiff, Int.reduceAdd, Int.reduceSub, Int.reduceMul, Int.reduceLT, Int.reduceLE, Int.reduceEq, Int.reduceNeg, Int.reduceNe, Int.reduceGE, Int.reduceGT, Nat.reduceBEq, Int.reduceToNat,  spRulesOk_f, spRulesOk_t, spRulesOk_k, spIn_f, spIn_t, spIn_k, hst, hl]
      (try simp (disch := omega) only [wrap_id])
      repeat' (first | (refine And.intro ?_ ?_) | (with_reducible intro _))
      all_goals first
        | omega
        | (exfalso; omega)
        | (exfalso; exact hB ⟨by assumption, ⟨by omega, by omega⟩, by omega⟩)
        | (refine loopI hE (fun i : Nat => ⟨[(0, .rs .rule l), (1, .rs .prs ps), (2, .v (.int .i64 w)), (6, .ptr 0 0), (8, .v (.bool false)), (27, .rs .prs ps), (28, .v (.int .i64 ps.length)), (29, .v (.int .i64 i))], [(0, .box [.v (.int .i64 0), .v (.int .i64 0), .v (.string ⟨#[]⟩), .v (.int .i64 0)])], 1, Tryd.f28.ntmps⟩) (fun i => i ≤ ps.length) (fun i => ps.length - i) ⟨0, Nat.zero_le _, SubS.weak ?_⟩ ?_
           · simp (config := { maxSteps := 2000000 }) only [go_sem, hG, hP, Nat.reduceEqDiff, ↓reduceIte, reduceCtorEq, Nat.reduceAdd, Nat.reduceSub, Nat.reduceMul, Nat.reduceLT, Nat.reduceLeDiff, Int.reduceAdd, Int.reduceSub, Int.reduceMul, Int.reduceLT, Int.reduceLE, Int.reduceEq, Int.reduceNeg, Int.reduceNe, Int.reduceGE, Int.reduceGT, Nat.reduceBEq, Int.reduceToNat]
             all_goals exact congrArg Value.bool (decide_eq_false (fun q => hB ⟨by assumption, by assumption, q⟩))
           · intro i hi
             dsimp only at hi ⊢
             by_cases hi2 : i < ps.length
             · have e1 : ((i : Int) < ps.length) = True := by apply eq_true; omega
               simp (config := { maxSteps := 2000000 }) only [go_sem, hG, hP, Nat.reduceEqDiff, ↓reduceIte, reduceCtorEq, Nat.reduceAdd, Nat.reduceSub, Nat.reduceMul, Nat.reduceLT, Nat.reduceLeDiff, Int.reduceAdd, Int.reduceSub, Int.reduceMul, Int.reduceLT, Int.reduceLE, Int.reduceEq, Int.reduceNeg, Int.reduceNe, Int.reduceGE, Int.reduceGT, Nat.reduceBEq, Int.reduceToNat,  e1]
               (try simp (disch := omega) only [wrap_id])
               repeat' (first | (refine And.intro ?_ ?_) | (with_reducible intro _))
               all_goals first
                 | omega
                 | (refine ⟨i + 1, ⟨by omega, by omega⟩, SubS.weak ?_⟩
                    simp (config := { maxSteps := 2000000 }) only [go_sem, hG, hP, Nat.reduceEqDiff, ↓reduceIte, reduceCtorEq, Nat.reduceAdd, Nat.reduceSub, Nat.reduceMul, Nat.reduceLT, Nat.reduceLeDiff, Int.reduceAdd, Int.reduceSub, Int.reduceMul, Int.reduceLT, Int.reduceLE, Int.reduceEq, Int.reduceNeg, Int.reduceNe, Int.reduceGE, Int.reduceGT, Nat.reduceBEq, Int.reduceToNat]
                    repeat' (first | with_reducible rfl | (refine And.intro ?_ ?_) | (refine congrArg (Value.int _) ?_; omega) | omega))
             · have e1 : ((i : Int) < ps.length) = False := by apply eq_false; omega
               have ei : i = ps.length := by omega
               subst ei
               simp (config := { maxSteps := 2000000 }) only [go_sem, hG, hP, Nat.reduceEqDiff, ↓reduceIte, reduceCtorEq, Nat.reduceAdd, Nat.reduceSub, Nat.reduceMul, Nat.reduceLT, Nat.reduceLeDiff, Int.reduceAdd, Int.reduceSub, Int.reduceMul, Int.reduceLT, Int.reduceLE, Int.reduceEq, Int.reduceNeg, Int.reduceNe, Int.reduceGE, Int.reduceGT, Nat.reduceBEq, Int.reduceToNat,  e1, spTold_f, spTold_t, spTold_k]
               refine ⟨_, _, _, ?_, h⟩
               simp (config := { maxSteps := 2000000 }) only [go_sem, hG, hP, Nat.reduceEqDiff, ↓reduceIte, reduceCtorEq, Nat.reduceAdd, Nat.reduceSub, Nat.reduceMul, Nat.reduceLT, Nat.reduceLeDiff, Int.reduceAdd, Int.reduceSub, Int.reduceMul, Int.reduceLT, Int.reduceLE, Int.reduceEq, Int.reduceNeg, Int.reduceNe, Int.reduceGE, Int.reduceGT, Nat.reduceBEq, Int.reduceToNat,  dA, noneD])
        | skip
      skip
      done
  · exact h.elim
def spLaw9 : Spec := ⟨fun _ _ => [], fun args objs K => match args, objs with
  | [.rs .rule l, .rs .prs ps, .v (.int .i64 w)], [] => (szRulAll l 140737488351232 ∧ l.length ≤ 17592186044416) ∧ (szPrsAll ps 140737488351232 ∧ ps.length ≤ 17592186044416) ∧ K (.v (.bool true)) [] 0
  | _, _ => False, false⟩
theorem spLaw9_t {L : Hp} {a : List AVal} : Spec.take spLaw9 L a = [] := id rfl
theorem spLaw9_k : Spec.keep spLaw9 = false := id rfl
theorem spLaw9_f {l} {ps} {w} {K : AVal → Hp → Nat → Prop} : Spec.f spLaw9 ([.rs .rule l, .rs .prs ps, .v (.int .i64 w)]) ([]) K = ((szRulAll l 140737488351232 ∧ l.length ≤ 17592186044416) ∧ (szPrsAll ps 140737488351232 ∧ ps.length ≤ 17592186044416) ∧ K (.v (.bool true)) [] 0) := id rfl
theorem valid9 : Valid Tryd.prog 9 spLaw9 := by
  refine validI (Γ := lk [(10, spSzRulS), (12, spToRulS), (14, spEqRulS), (24, spEqD), (28, spOver), (29, spOver), (30, spSzPrsS), (31, spToPrsS), (32, spEqPrsS)]) Tryd.func9 bod9 low9 res9 (good_of ⟨⟨cal10, valid10⟩, ⟨cal12, valid12⟩, ⟨cal14, valid14⟩, ⟨cal24, valid24⟩, ⟨cal28, valid28⟩, ⟨cal29, valid29⟩, ⟨cal30, valid30⟩, ⟨cal31, valid31⟩, ⟨cal32, valid32⟩, trivial⟩) ?_
  intro E args objs K h hE hG hP
  simp only [spLaw9] at h
  split at h
  · refine ⟨by simp [Tryd.ntmps9], ?_⟩
    rename_i l ps w
    obtain ⟨⟨hs, hl⟩, ⟨hs2, hl2⟩, h⟩ := h
    have hst := eq_true hs
    have hst2 := eq_true hs2
    generalize hV : overV l ps w = V
    obtain ⟨⟨v1, v2, v3, v4⟩, v5⟩ := V
    simp (config := { maxSteps := 2000000 }) only [go_sem, hG, hP, Nat.reduceEqDiff, ↓reduceIte, reduceCtorEq, Nat.reduceAdd, Nat.reduceSub, Nat.reduceMul, Nat.reduceLT, Nat.reduceLeDiff, Int.reduceAdd, Int.reduceSub, Int.reduceMul, Int.reduceLT, Int.reduceLE, Int.reduceEq, Int.reduceNeg, Int.reduceNe, Int.reduceGE, Int.reduceGT, Nat.reduceBEq, Int.reduceToNat,  spSzRulS_f, spSzRulS_t, spSzRulS_k, spSzPrsS_f, spSzPrsS_t, spSzPrsS_k, spToRulS_f, spToRulS_t, spToRulS_k, spToPrsS_f, spToPrsS_t, spToPrsS_k, spEqRulS_f, spEqRulS_t, spEqRulS_k, spEqPrsS_f, spEqPrsS_t, spEqPrsS_k, spEqD_f, spEqD_t, spEqD_k, spOver_f, spOver_t, spOver_k, dA, hst, hst2, hV, bb_self]
    (try simp (disch := omega) only [wrap_id])
    repeat' (first | (refine And.intro ?_ ?_) | (with_reducible intro _))
    all_goals first
      | omega
      | assumption
      | (refine ⟨_, _, _, ?_, h⟩; simp (config := { maxSteps := 2000000 }) only [go_sem, hG, hP, Nat.reduceEqDiff, ↓reduceIte, reduceCtorEq, Nat.reduceAdd, Nat.reduceSub, Nat.reduceMul, Nat.reduceLT, Nat.reduceLeDiff, Int.reduceAdd, Int.reduceSub, Int.reduceMul, Int.reduceLT, Int.reduceLE, Int.reduceEq, Int.reduceNeg, Int.reduceNe, Int.reduceGE, Int.reduceGT, Nat.reduceBEq, Int.reduceToNat]; done)
      | (exfalso; simp_all; done)
  · exact h.elim
end Go.Proofs.YthghcialeghgoaaDoorE

/-! The code of a function, in the engine's words. -/
namespace Go.Proofs.YthghcialeghgoaaDoorE
open Go Go.RowKit
@[reducible] def ic16 : IC := (.seq (.ops [⟨some 4, .mov (.const (.string ⟨#[]⟩)), none⟩, ⟨some 5, .mov (.const (.bool false)), none⟩]) (.seq (.seq (.ops [⟨some 12, .mov (.tmp 0), none⟩, ⟨some 13, .len (.tmp 12), none⟩, ⟨some 14, .bin .gtr (.tmp 13) (.const (.int .i64 60)), none⟩, ⟨some 15, .mov (.tmp 14), none⟩, ⟨some 16, .mov (.tmp 1), some (15, false)⟩, ⟨some 17, .call 40 [(.tmp 16)], some (15, false)⟩, ⟨some 18, .una .not (.tmp 17), some (15, false)⟩, ⟨some 19, .pick (.tmp 15) (.const (.bool true)) (.tmp 18), none⟩]) (.cond (.tmp 19) (.seq (.ops [⟨some 4, .mov (.const (.string ⟨#[]⟩)), none⟩, ⟨some 5, .mov (.const (.bool false)), none⟩]) .ret) .skip)) (.seq (.seq (.ops [⟨some 6, .mov (.const (.int .i64 0)), none⟩]) (.block 0 (.loop (.seq (.seq (.ops [⟨some 20, .mov (.tmp 6), none⟩, ⟨some 21, .mov (.tmp 0), none⟩, ⟨some 22, .len (.tmp 21), none⟩, ⟨some 23, .bin .lss (.tmp 20) (.tmp 22), none⟩]) (.cond (.tmp 23) .skip (.exit 0))) (.seq (.block 1 (.seq (.seq (.ops [⟨some 26, .mov (.tmp 0), none⟩, ⟨some 27, .mov (.tmp 6), none⟩, ⟨some 28, .iadr 2 (.tmp 26) (.tmp 27), none⟩, ⟨some 29, .fadr 0 (.tmp 28), none⟩, ⟨some 30, .load 1 false (.tmp 29), none⟩, ⟨some 31, .call 40 [(.tmp 30)], none⟩, ⟨some 32, .una .not (.tmp 31), none⟩, ⟨some 33, .mov (.tmp 32), none⟩, ⟨some 34, .mov (.tmp 0), some (33, false)⟩, ⟨some 35, .mov (.tmp 6), some (33, false)⟩, ⟨some 36, .iadr 2 (.tmp 34) (.tmp 35), some (33, false)⟩, ⟨some 37, .fadr 1 (.tmp 36), some (33, false)⟩, ⟨some 38, .load 1 false (.tmp 37), some (33, false)⟩, ⟨some 39, .call 40 [(.tmp 38)], some (33, false)⟩, ⟨some 40, .una .not (.tmp 39), some (33, false)⟩, ⟨some 41, .pick (.tmp 33) (.const (.bool true)) (.tmp 40), none⟩, ⟨some 42, .mov (.tmp 41), none⟩, ⟨some 43, .mov (.tmp 0), some (42, false)⟩, ⟨some 44, .mov (.tmp 6), some (42, false)⟩, ⟨some 45, .iadr 2 (.tmp 43) (.tmp 44), some (42, false)⟩, ⟨some 46, .fadr 0 (.tmp 45), some (42, false)⟩, ⟨some 47, .load 1 false (.tmp 46), some (42, false)⟩, ⟨some 48, .bin .eql (.tmp 47) (.const (.string ⟨#[]⟩)), some (42, false)⟩, ⟨some 49, .pick (.tmp 42) (.const (.bool true)) (.tmp 48), none⟩, ⟨some 50, .mov (.tmp 49), none⟩, ⟨some 51, .mov (.tmp 0), some (50, false)⟩, ⟨some 52, .mov (.tmp 6), some (50, false)⟩, ⟨some 53, .iadr 2 (.tmp 51) (.tmp 52), some (50, false)⟩, ⟨some 54, .fadr 1 (.tmp 53), some (50, false)⟩, ⟨some 55, .load 1 false (.tmp 54), some (50, false)⟩, ⟨some 56, .bin .eql (.tmp 55) (.const (.string ⟨#[]⟩)), some (50, false)⟩, ⟨some 57, .pick (.tmp 50) (.const (.bool true)) (.tmp 56), none⟩]) (.cond (.tmp 57) (.seq (.ops [⟨some 4, .mov (.const (.string ⟨#[]⟩)), none⟩, ⟨some 5, .mov (.const (.bool false)), none⟩]) .ret) .skip)) (.seq (.ops [⟨some 7, .mov (.const (.int .i64 0)), none⟩]) (.block 2 (.loop (.seq (.seq (.ops [⟨some 58, .mov (.tmp 7), none⟩, ⟨some 59, .mov (.tmp 6), none⟩, ⟨some 60, .bin .lss (.tmp 58) (.tmp 59), none⟩]) (.cond (.tmp 60) .skip (.exit 2))) (.seq (.block 3 (.seq (.draw [⟨some 63, .mov (.tmp 0), none⟩, ⟨some 64, .mov (.tmp 7), none⟩, ⟨some 65, .iadr 2 (.tmp 63) (.tmp 64), none⟩, ⟨some 66, .fadr 0 (.tmp 65), none⟩, ⟨some 67, .load 1 false (.tmp 66), none⟩, ⟨some 68, .mov (.tmp 0), none⟩, ⟨some 69, .mov (.tmp 6), none⟩, ⟨some 70, .iadr 2 (.tmp 68) (.tmp 69), none⟩, ⟨some 71, .fadr 0 (.tmp 70), none⟩, ⟨some 72, .load 1 false (.tmp 71), none⟩, ⟨some 73, .bin .eql (.tmp 67) (.tmp 72), none⟩] (.held ⟨some 63, .mov (.tmp 0), none⟩ (.held ⟨some 64, .mov (.tmp 7), none⟩ (.held ⟨some 65, .iadr 2 (.tmp 63) (.tmp 64), none⟩ (.held ⟨some 66, .fadr 0 (.tmp 65), none⟩ (.held ⟨some 67, .load 1 false (.tmp 66), none⟩ (.held ⟨some 68, .mov (.tmp 0), none⟩ (.held ⟨some 69, .mov (.tmp 6), none⟩ (.held ⟨some 70, .iadr 2 (.tmp 68) (.tmp 69), none⟩ (.held ⟨some 71, .fadr 0 (.tmp 70), none⟩ (.held ⟨some 72, .load 1 false (.tmp 71), none⟩ (.held ⟨some 73, .bin .eql (.tmp 67) (.tmp 72), none⟩ .done)))))))))))) (.cond (.tmp 73) (.seq (.ops [⟨some 4, .mov (.const (.string ⟨#[]⟩)), none⟩, ⟨some 5, .mov (.const (.bool false)), none⟩]) .ret) .skip))) (.ops [⟨some 61, .mov (.tmp 7), none⟩, ⟨some 62, .bin .add (.tmp 61) (.const (.int .i64 1)), none⟩, ⟨some 7, .mov (.tmp 62), none⟩])))))))) (.ops [⟨some 24, .mov (.tmp 6), none⟩, ⟨some 25, .bin .add (.tmp 24) (.const (.int .i64 1)), none⟩, ⟨some 6, .mov (.tmp 25), none⟩])))))) (.seq (.ops [⟨some 74, .mov (.tmp 1), none⟩, ⟨some 8, .mov (.tmp 74), none⟩]) (.seq (.seq (.ops [⟨some 9, .mov (.const (.int .i64 0)), none⟩]) (.block 4 (.loop (.seq (.seq (.ops [⟨some 75, .mov (.tmp 9), none⟩, ⟨some 76, .mov (.tmp 0), none⟩, ⟨some 77, .len (.tmp 76), none⟩, ⟨some 78, .bin .leq (.tmp 75) (.tmp 77), none⟩]) (.cond (.tmp 78) .skip (.exit 4))) (.seq (.block 5 (.seq (.ops [⟨some 10, .mov (.const (.int .i64 (-1))), none⟩]) (.seq (.seq (.ops [⟨some 11, .mov (.const (.int .i64 0)), none⟩]) (.block 6 (.loop (.seq (.seq (.ops [⟨some 81, .mov (.tmp 11), none⟩, ⟨some 82, .mov (.tmp 0), none⟩, ⟨some 83, .len (.tmp 82), none⟩, ⟨some 84, .bin .lss (.tmp 81) (.tmp 83), none⟩]) (.cond (.tmp 84) .skip (.exit 6))) (.seq (.block 7 (.seq (.ops [⟨some 87, .mov (.tmp 0), none⟩, ⟨some 88, .mov (.tmp 11), none⟩, ⟨some 89, .iadr 2 (.tmp 87) (.tmp 88), none⟩, ⟨some 90, .fadr 0 (.tmp 89), none⟩, ⟨some 91, .load 1 false (.tmp 90), none⟩, ⟨some 92, .mov (.tmp 8), none⟩, ⟨some 93, .bin .eql (.tmp 91) (.tmp 92), none⟩]) (.cond (.tmp 93) (.ops [⟨some 94, .mov (.tmp 11), none⟩, ⟨some 10, .mov (.tmp 94), none⟩]) .skip))) (.ops [⟨some 85, .mov (.tmp 11), none⟩, ⟨some 86, .bin .add (.tmp 85) (.const (.int .i64 1)), none⟩, ⟨some 11, .mov (.tmp 86), none⟩])))))) (.seq (.seq (.ops [⟨some 95, .mov (.tmp 10), none⟩, ⟨some 96, .bin .lss (.tmp 95) (.const (.int .i64 0)), none⟩]) (.cond (.tmp 96) (.seq (.ops [⟨some 97, .mov (.tmp 8), none⟩, ⟨some 4, .mov (.tmp 97), none⟩, ⟨some 5, .mov (.const (.bool true)), none⟩]) .ret) .skip)) (.ops [⟨some 98, .mov (.tmp 0), none⟩, ⟨some 99, .mov (.tmp 10), none⟩, ⟨some 100, .iadr 2 (.tmp 98) (.tmp 99), none⟩, ⟨some 101, .fadr 1 (.tmp 100), none⟩, ⟨some 102, .load 1 false (.tmp 101), none⟩, ⟨some 8, .mov (.tmp 102), none⟩]))))) (.ops [⟨some 79, .mov (.tmp 9), none⟩, ⟨some 80, .bin .add (.tmp 79) (.const (.int .i64 1)), none⟩, ⟨some 9, .mov (.tmp 80), none⟩])))))) (.seq (.ops [⟨some 103, .mov (.tmp 1), none⟩, ⟨some 4, .mov (.tmp 103), none⟩, ⟨some 5, .mov (.const (.bool false)), none⟩]) .ret))))))
@[reducible] def rv16 : List RV := [.tmp 4, .tmp 5]
theorem low16 : lowC Tryd.prog tau Tryd.f16.ntmps (Tryd.f16.body.getD .skip) = some (erase ic16) := by kernel_rfl
theorem res16 : lowR Tryd.prog Tryd.f16.results.toList = some rv16 := by kernel_rfl
theorem bod16 : Tryd.f16.body = some (Tryd.f16.body.getD .skip) := by kernel_rfl
theorem cal16 : callable Tryd.prog 16 = true := by kernel_rfl

end Go.Proofs.YthghcialeghgoaaDoorE

/-! The code of a function, in the engine's words. -/
namespace Go.Proofs.YthghcialeghgoaaDoorE
open Go Go.RowKit
@[reducible] def ic18 : IC := (.seq (.ops [⟨some 4, .mov (.const (.string ⟨#[]⟩)), none⟩, ⟨some 5, .mov (.const (.bool false)), none⟩]) (.seq (.ops [⟨some 14, .mmk .str true, none⟩, ⟨some 6, .mov (.tmp 14), none⟩]) (.seq (.seq (.ops [⟨some 15, .mov (.tmp 0), none⟩, ⟨some 16, .len (.tmp 15), none⟩, ⟨some 17, .mov (.const (.int .i64 0)), none⟩]) (.block 0 (.loop (.seq (.ops [⟨some 18, .bin .lss (.tmp 17) (.tmp 16), none⟩]) (.seq (.cond (.tmp 18) .skip (.exit 0)) (.seq (.block 1 (.seq (.ops [⟨some 19, .iadr 2 (.tmp 15) (.tmp 17), none⟩, ⟨some 20, .load 2 true (.tmp 19), none⟩, ⟨some 8, .new [(.string ⟨#[]⟩), (.string ⟨#[]⟩)], none⟩, ⟨none, .store 2 (.tmp 8) (.tmp 20), none⟩]) (.seq (.seq (.ops [⟨some 22, .mov (.tmp 6), none⟩, ⟨some 23, .fadr 0 (.tmp 8), none⟩, ⟨some 24, .load 1 false (.tmp 23), none⟩, ⟨some 25, .mget .str true true (.tmp 22) (.tmp 24), none⟩, ⟨some 21, .mov (.tmp 25), none⟩, ⟨some 26, .ext (.tmp 21) 0, none⟩, ⟨some 27, .ext (.tmp 21) 1, none⟩, ⟨some 9, .mov (.tmp 26), none⟩, ⟨some 10, .mov (.tmp 27), none⟩]) (.seq (.ops [⟨some 28, .mov (.tmp 10), none⟩, ⟨some 29, .mov (.tmp 28), none⟩, ⟨some 30, .fadr 0 (.tmp 8), some (29, false)⟩, ⟨some 31, .load 1 false (.tmp 30), some (29, false)⟩, ⟨some 32, .call 36 [(.tmp 31)], some (29, false)⟩, ⟨some 33, .una .not (.tmp 32), some (29, false)⟩, ⟨some 34, .pick (.tmp 29) (.const (.bool true)) (.tmp 33), none⟩, ⟨some 35, .mov (.tmp 34), none⟩, ⟨some 36, .fadr 0 (.tmp 8), some (35, false)⟩, ⟨some 37, .load 1 false (.tmp 36), some (35, false)⟩, ⟨some 38, .bin .eql (.tmp 37) (.const (.string ⟨#[]⟩)), some (35, false)⟩, ⟨some 39, .pick (.tmp 35) (.const (.bool true)) (.tmp 38), none⟩, ⟨some 40, .mov (.tmp 39), none⟩, ⟨some 41, .fadr 1 (.tmp 8), some (40, false)⟩, ⟨some 42, .load 1 false (.tmp 41), some (40, false)⟩, ⟨some 43, .call 36 [(.tmp 42)], some (40, false)⟩, ⟨some 44, .una .not (.tmp 43), some (40, false)⟩, ⟨some 45, .pick (.tmp 40) (.const (.bool true)) (.tmp 44), none⟩, ⟨some 46, .mov (.tmp 45), none⟩, ⟨some 47, .fadr 1 (.tmp 8), some (46, false)⟩, ⟨some 48, .load 1 false (.tmp 47), some (46, false)⟩, ⟨some 49, .bin .eql (.tmp 48) (.const (.string ⟨#[]⟩)), some (46, false)⟩, ⟨some 50, .pick (.tmp 46) (.const (.bool true)) (.tmp 49), none⟩]) (.cond (.tmp 50) (.seq (.ops [⟨some 4, .mov (.const (.string ⟨#[]⟩)), none⟩, ⟨some 5, .mov (.const (.bool false)), none⟩]) .ret) .skip))) (.ops [⟨some 51, .mov (.tmp 6), none⟩, ⟨some 52, .fadr 0 (.tmp 8), none⟩, ⟨some 53, .load 1 false (.tmp 52), none⟩, ⟨some 54, .fadr 1 (.tmp 8), none⟩, ⟨some 55, .load 1 false (.tmp 54), none⟩, ⟨none, .mput .str true (.tmp 51) (.tmp 53) (.tmp 55), none⟩])))) (.ops [⟨some 56, .bin .add (.tmp 17) (.const (.int .i64 1)), none⟩, ⟨some 17, .mov (.tmp 56), none⟩]))))))) (.seq (.seq (.ops [⟨some 57, .mov (.tmp 0), none⟩, ⟨some 58, .len (.tmp 57), none⟩, ⟨some 59, .bin .gtr (.tmp 58) (.const (.int .i64 60)), none⟩, ⟨some 60, .mov (.tmp 59), none⟩, ⟨some 61, .mov (.tmp 1), some (60, false)⟩, ⟨some 62, .call 36 [(.tmp 61)], some (60, false)⟩, ⟨some 63, .una .not (.tmp 62), some (60, false)⟩, ⟨some 64, .pick (.tmp 60) (.const (.bool true)) (.tmp 63), none⟩]) (.cond (.tmp 64) (.seq (.ops [⟨some 4, .mov (.const (.string ⟨#[]⟩)), none⟩, ⟨some 5, .mov (.const (.bool false)), none⟩]) .ret) .skip)) (.seq (.ops [⟨some 65, .mov (.tmp 1), none⟩, ⟨some 11, .mov (.tmp 65), none⟩]) (.seq (.seq (.ops [⟨some 66, .mov (.tmp 0), none⟩, ⟨some 67, .len (.tmp 66), none⟩, ⟨some 68, .bin .add (.tmp 67) (.const (.int .i64 1)), none⟩, ⟨some 69, .mov (.const (.int .i64 0)), none⟩]) (.block 2 (.loop (.seq (.ops [⟨some 70, .bin .lss (.tmp 69) (.tmp 68), none⟩]) (.seq (.cond (.tmp 70) .skip (.exit 2)) (.seq (.block 3 (.seq (.ops [⟨some 72, .mov (.tmp 6), none⟩, ⟨some 73, .mov (.tmp 11), none⟩, ⟨some 74, .mget .str true true (.tmp 72) (.tmp 73), none⟩, ⟨some 71, .mov (.tmp 74), none⟩, ⟨some 75, .ext (.tmp 71) 0, none⟩, ⟨some 76, .ext (.tmp 71) 1, none⟩, ⟨some 12, .mov (.tmp 75), none⟩, ⟨some 13, .mov (.tmp 76), none⟩]) (.seq (.seq (.ops [⟨some 77, .mov (.tmp 13), none⟩, ⟨some 78, .una .not (.tmp 77), none⟩]) (.cond (.tmp 78) (.seq (.ops [⟨some 79, .mov (.tmp 11), none⟩, ⟨some 4, .mov (.tmp 79), none⟩, ⟨some 5, .mov (.const (.bool true)), none⟩]) .ret) .skip)) (.ops [⟨some 80, .mov (.tmp 12), none⟩, ⟨some 11, .mov (.tmp 80), none⟩])))) (.ops [⟨some 81, .bin .add (.tmp 69) (.const (.int .i64 1)), none⟩, ⟨some 69, .mov (.tmp 81), none⟩]))))))) (.seq (.ops [⟨some 82, .mov (.tmp 1), none⟩, ⟨some 4, .mov (.tmp 82), none⟩, ⟨some 5, .mov (.const (.bool false)), none⟩]) .ret)))))))
@[reducible] def rv18 : List RV := [.tmp 4, .tmp 5]
theorem low18 : lowC Tryd.prog tau Tryd.f18.ntmps (Tryd.f18.body.getD .skip) = some (erase ic18) := by kernel_rfl
theorem res18 : lowR Tryd.prog Tryd.f18.results.toList = some rv18 := by kernel_rfl
theorem bod18 : Tryd.f18.body = some (Tryd.f18.body.getD .skip) := by kernel_rfl
theorem cal18 : callable Tryd.prog 18 = true := by kernel_rfl

end Go.Proofs.YthghcialeghgoaaDoorE

/-! Port: the reference and the program. -/
namespace Go.Proofs.YthghcialeghgoaaDoorE
open Go Go.RowKit
set_option linter.unusedSimpArgs false
set_option linter.unusedVariables false
set_option maxRecDepth 20000
set_option maxHeartbeats 4000000

def prtP (p : Prt) : Prop := digsP p.num ∧ digsP p.to ∧ ¬ p.num = ⟨#[]⟩ ∧ ¬ p.to = ⟨#[]⟩
def tabP (l : List Prt) : Prop := ∀ i, i < l.length → prtP (l.getD i Prtz) ∧ ∀ k, k < i → (l.getD k Prtz).num ≠ (l.getD i Prtz).num
/-- Where a number stands (the last place). -/
def findT (l : List Prt) (s : ByteArray) : Nat → Int
  | 0 => -1
  | n + 1 => if (l.getD n Prtz).num = s then n else findT l s n
theorem findT_bd (l : List Prt) (s : ByteArray) : ∀ n, -1 ≤ findT l s n ∧ findT l s n < n
  | 0 => by simp [findT]
  | n + 1 => by
    have := findT_bd l s n
    rw [findT]; split <;> omega
def stepsV (l : List Prt) (number : ByteArray) : Nat → ByteArray → ByteArray × Bool
  | 0, _ => (number, false)
  | k + 1, now => if findT l now l.length < 0 then (now, true) else stepsV l number k (l.getD (findT l now l.length).toNat Prtz).to
def portOk (l : List Prt) (n : ByteArray) : Prop := l.length ≤ 60 ∧ digsP n ∧ tabP l
open Classical in
noncomputable def portV (l : List Prt) (n : ByteArray) : ByteArray × Bool := if portOk l n then stepsV l n (l.length + 1) n else (⟨#[]⟩, false)
def spPort : Spec := ⟨fun _ _ => [], fun args objs K => match args, objs with
  | [.rs .prt l, .v (.string n)], [] => (szPrtAll l 140737488351232 ∧ l.length ≤ 1099511627776 ∧ n.size ≤ 140737488351232) ∧ K (.tup [.v (.string (portV l n).1), .v (.bool (portV l n).2)]) [] 0
  | _, _ => False, false⟩
theorem spPort_t {L : Hp} {a : List AVal} : Spec.take spPort L a = [] := id rfl
theorem spPort_k : Spec.keep spPort = false := id rfl
theorem spPort_f {l} {n} {K : AVal → Hp → Nat → Prop} : Spec.f spPort ([.rs .prt l, .v (.string n)]) ([]) K = ((szPrtAll l 140737488351232 ∧ l.length ≤ 1099511627776 ∧ n.size ≤ 140737488351232) ∧ K (.tup [.v (.string (portV l n).1), .v (.bool (portV l n).2)]) [] 0) := id rfl
def esT (l : List Prt) : Nat → List (Key × ByteArray)
  | 0 => []
  | i + 1 => (.s (l.getD i Prtz).num, (l.getD i Prtz).to) :: esT l i
theorem esT_get (l : List Prt) (s : ByteArray) : ∀ n, getM (esT l n) (.s s) = if findT l s n < 0 then none else some (l.getD (findT l s n).toNat Prtz).to
  | 0 => by simp [esT, getM, findT]
  | n + 1 => by
    rw [esT, getM, findT, esT_get l s n]
    by_cases e : (l.getD n Prtz).num = s
    · rw [if_pos (by rw [e]), if_pos e, if_neg (by omega)]; simp
    · rw [if_neg (fun h => e (by injection h)), if_neg e]
theorem esT_has (l : List Prt) (s : ByteArray) (n : Nat) : hasM (esT l n) (.s s) = decide (¬ findT l s n < 0) := by
  unfold hasM; rw [esT_get]; split <;> rename_i e <;> simp [e]
theorem esT_str (l : List Prt) (s : ByteArray) (n : Nat) (h : ¬ findT l s n < 0) : strM (esT l n) (.s s) = (l.getD (findT l s n).toNat Prtz).to := by
  unfold strM; rw [esT_get, if_neg h]; rfl
theorem findT_no {l : List Prt} {s : ByteArray} : ∀ {n : Nat}, findT l s n < 0 ↔ ∀ k, k < n → (l.getD k Prtz).num ≠ s
  | 0 => by simp [findT]
  | n + 1 => by
    rw [findT]
    by_cases e : (l.getD n Prtz).num = s
    · rw [if_pos e]
      constructor
      · intro h; omega
      · intro h; exact absurd e (h n (by omega))
    · rw [if_neg e, findT_no]
      constructor
      · intro h k hk
        by_cases e2 : k = n
        · subst e2; exact e
        · exact h k (by omega)
      · intro h k hk; exact h k (by omega)
theorem portV_no {l : List Prt} {n : ByteArray} (h : ¬ portOk l n) : portV l n = (⟨#[]⟩, false) := if_neg h
theorem portV_yes {l : List Prt} {n : ByteArray} (h : portOk l n) : portV l n = stepsV l n (l.length + 1) n := if_pos h
theorem valid16 : Valid Tryd.prog 16 spPort := by
  refine validI (Γ := lk [(40, spDigits)]) Tryd.func16 bod16 low16 res16 (good_of ⟨⟨cal40, valid40⟩, trivial⟩) ?_
  intro E args objs K h hE hG hP
  simp only [spPort] at h
  split at h
  · refine ⟨by simp [Tryd.ntmps16], ?_⟩
    rename_i l n
    obtain ⟨⟨hs, hl, hn⟩, h⟩ := h
    by_cases hA : l.length ≤ 60 ∧ digsP n
    · have e1 : ((l.length : Int) > 60) = False := by apply eq_false; omega
      have e2 := eq_true hA.2
      simp (config := { maxSteps := 2000000 }) only [go_sem, hG, hP, Nat.reduceEqDiff, ↓reduceIte, reduceCtorEq, Nat.reduceAdd, Nat.reduceSub, Nat.reduceMul, Nat.reduceLT, Nat.reduceLeDiff, Int.reduceAdd, Int.reduceSub, Int.reduceMul, Int.reduceLT, Int.reduceLE, Int.reduceEq, Int.reduceNeg, Int.reduceNe, Int.reduceGE, Int.reduceGT, Nat.reduceBEq, Int.reduceToNat,  e1, spDigits_f, spDigits_t, spDigits_k, e2, hn]
      (try simp (disch := omega) only [wrap_id])
      repeat (refine And.intro (by first | omega | (simp; done) | (simp; omega) | (unfold appRoom; omega)) ?_)
      refine loopI hE (fun i : Nat => ⟨[(0, .rs .prt l), (1, .v (.string n)), (6, .v (.int .i64 i))], [], 0, Tryd.f16.ntmps⟩) (fun i => i ≤ l.length ∧ ∀ j, j < i → prtP (l.getD j Prtz) ∧ ∀ k, k < j → (l.getD k Prtz).num ≠ (l.getD j Prtz).num) (fun i => l.length - i) ⟨0, ⟨Nat.zero_le _, fun j hj => by omega⟩, SubS.weak ?_⟩ ?_
      · simp (config := { maxSteps := 2000000 }) only [go_sem, hG, hP, Nat.reduceEqDiff, ↓reduceIte, reduceCtorEq, Nat.reduceAdd, Nat.reduceSub, Nat.reduceMul, Nat.reduceLT, Nat.reduceLeDiff, Int.reduceAdd, Int.reduceSub, Int.reduceMul, Int.reduceLT, Int.reduceLE, Int.reduceEq, Int.reduceNeg, Int.reduceNe, Int.reduceGE, Int.reduceGT, Nat.reduceBEq, Int.reduceToNat]
        repeat' (first | with_reducible rfl | (refine And.intro ?_ ?_) | (refine congrArg (Value.int _) ?_; omega) | omega)
      · rintro i ⟨hi, hpre⟩
        dsimp only at hi hpre ⊢
        by_cases hi2 : i < l.length
        · have e3 : ((i : Int) < l.length) = True := by apply eq_true; omega
          obtain ⟨z1, z2⟩ := hs i hi2
          by_cases hr : prtP (l.getD i Prtz)
          · obtain ⟨q1, q2, q3, q4⟩ := hr
            have f1 := eq_true q1
            have f2 := eq_true q2
            have f3 := eq_false q3
            have f4 := eq_false q4
            simp (config := { maxSteps := 2000000 }) only [go_sem, hG, hP, Nat.reduceEqDiff, ↓reduceIte, reduceCtorEq, Nat.reduceAdd, Nat.reduceSub, Nat.reduceMul, Nat.reduceLT, Nat.reduceLeDiff, Int.reduceAdd, Int.reduceSub, Int.reduceMul, Int.reduceLT, Int.reduceLE, Int.reduceEq, Int.reduceNeg, Int.reduceNe, Int.reduceGE, Int.reduceGT, Nat.reduceBEq, Int.reduceToNat,  e3, spDigits_f, spDigits_t, spDigits_k, z1, z2, f1, f2, f3, f4]
            (try simp (disch := omega) only [wrap_id])
            repeat' (first | (refine And.intro ?_ ?_) | (with_reducible intro _))
            all_goals first
              | omega
              | skip
            refine loopI hE (fun k : Nat => ⟨[(0, .rs .prt l), (1, .v (.string n)), (6, .v (.int .i64 i)), (7, .v (.int .i64 k))], [], 0, Tryd.f16.ntmps⟩) (fun k => k ≤ i ∧ ∀ j, j < k → (l.getD j Prtz).num ≠ (l.getD i Prtz).num) (fun k => i - k) ⟨0, ⟨Nat.zero_le _, fun j hj => by omega⟩, SubS.weak ?_⟩ ?_
            · simp (config := { maxSteps := 2000000 }) only [go_sem, hG, hP, Nat.reduceEqDiff, ↓reduceIte, reduceCtorEq, Nat.reduceAdd, Nat.reduceSub, Nat.reduceMul, Nat.reduceLT, Nat.reduceLeDiff, Int.reduceAdd, Int.reduceSub, Int.reduceMul, Int.reduceLT, Int.reduceLE, Int.reduceEq, Int.reduceNeg, Int.reduceNe, Int.reduceGE, Int.reduceGT, Nat.reduceBEq, Int.reduceToNat]
              repeat' (first | with_reducible rfl | (refine And.intro ?_ ?_) | (refine congrArg (Value.int _) ?_; omega) | omega)
            · rintro k ⟨hk, hpk⟩
              dsimp only at hk hpk ⊢
              by_cases hk2 : k < i
              · have e4 : ((k : Int) < i) = True := by apply eq_true; omega
                by_cases hq : (l.getD k Prtz).num = (l.getD i Prtz).num
                · have hq2 := eq_true hq
                  rw [portV_no (fun e => (e.2.2 i hi2).2 k hk2 hq)] at h
                  simp (config := { maxSteps := 2000000 }) only [go_sem, hG, hP, Nat.reduceEqDiff, ↓reduceIte, reduceCtorEq, Nat.reduceAdd, Nat.reduceSub, Nat.reduceMul, Nat.reduceLT, Nat.reduceLeDiff, Int.reduceAdd, Int.reduceSub, Int.reduceMul, Int.reduceLT, Int.reduceLE, Int.reduceEq, Int.reduceNeg, Int.reduceNe, Int.reduceGE, Int.reduceGT, Nat.reduceBEq, Int.reduceToNat,  e4, hq2]
                  (try simp (disch := omega) only [wrap_id])
                  repeat' (first | (refine And.intro ?_ ?_) | (with_reducible intro _))
                  all_goals first
                    | omega
                    | (refine ⟨_, _, _, ?_, h⟩; simp (config := { maxSteps := 2000000 }) only [go_sem, hG, hP, Nat.reduceEqDiff, ↓reduceIte, reduceCtorEq, Nat.reduceAdd, Nat.reduceSub, Nat.reduceMul, Nat.reduceLT, Nat.reduceLeDiff, Int.reduceAdd, Int.reduceSub, Int.reduceMul, Int.reduceLT, Int.reduceLE, Int.reduceEq, Int.reduceNeg, Int.reduceNe, Int.reduceGE, Int.reduceGT, Nat.reduceBEq, Int.reduceToNat]; done)
                · have hq2 := eq_false hq
                  simp (config := { maxSteps := 2000000 }) only [go_sem, hG, hP, Nat.reduceEqDiff, ↓reduceIte, reduceCtorEq, Nat.reduceAdd, Nat.reduceSub, Nat.reduceMul, Nat.reduceLT, Nat.reduceLeDiff, Int.reduceAdd, Int.reduceSub, Int.reduceMul, Int.reduceLT, Int.reduceLE, Int.reduceEq, Int.reduceNeg, Int.reduceNe, Int.reduceGE, Int.reduceGT, Nat.reduceBEq, Int.reduceToNat,  e4, hq2]
                  (try simp (disch := omega) only [wrap_id])
                  repeat' (first | (refine And.intro ?_ ?_) | (with_reducible intro _))
                  all_goals first
                    | omega
                    | (refine ⟨k + 1, ⟨⟨by omega, fun j hj => ?_⟩, by omega⟩, SubS.weak ?_⟩
                       · by_cases e : j < k
                         · exact hpk j e
                         · obtain rfl : j = k := by omega
                           exact hq
                       · simp (config := { maxSteps := 2000000 }) only [go_sem, hG, hP, Nat.reduceEqDiff, ↓reduceIte, reduceCtorEq, Nat.reduceAdd, Nat.reduceSub, Nat.reduceMul, Nat.reduceLT, Nat.reduceLeDiff, Int.reduceAdd, Int.reduceSub, Int.reduceMul, Int.reduceLT, Int.reduceLE, Int.reduceEq, Int.reduceNeg, Int.reduceNe, Int.reduceGE, Int.reduceGT, Nat.reduceBEq, Int.reduceToNat]
                         repeat' (first | with_reducible rfl | (refine And.intro ?_ ?_) | (refine congrArg (Value.int _) ?_; omega) | omega))
              · have e4 : ((k : Int) < i) = False := by apply eq_false; omega
                simp (config := { maxSteps := 2000000 }) only [go_sem, hG, hP, Nat.reduceEqDiff, ↓reduceIte, reduceCtorEq, Nat.reduceAdd, Nat.reduceSub, Nat.reduceMul, Nat.reduceLT, Nat.reduceLeDiff, Int.reduceAdd, Int.reduceSub, Int.reduceMul, Int.reduceLT, Int.reduceLE, Int.reduceEq, Int.reduceNeg, Int.reduceNe, Int.reduceGE, Int.reduceGT, Nat.reduceBEq, Int.reduceToNat,  e4]
                (try simp (disch := omega) only [wrap_id])
                repeat (refine And.intro (by first | omega | (simp; done) | (simp; omega) | (unfold appRoom; omega)) ?_)
                refine ⟨i + 1, ⟨⟨by omega, fun j hj => ?_⟩, by omega⟩, SubS.weak ?_⟩
                · by_cases e : j < i
                  · exact hpre j e
                  · obtain rfl : j = i := by omega
                    exact ⟨⟨q1, q2, q3, q4⟩, fun k' hk' => hpk k' (by omega)⟩
                · simp (config := { maxSteps := 2000000 }) only [go_sem, hG, hP, Nat.reduceEqDiff, ↓reduceIte, reduceCtorEq, Nat.reduceAdd, Nat.reduceSub, Nat.reduceMul, Nat.reduceLT, Nat.reduceLeDiff, Int.reduceAdd, Int.reduceSub, Int.reduceMul, Int.reduceLT, Int.reduceLE, Int.reduceEq, Int.reduceNeg, Int.reduceNe, Int.reduceGE, Int.reduceGT, Nat.reduceBEq, Int.reduceToNat]
                  repeat' (first | with_reducible rfl | (refine And.intro ?_ ?_) | (refine congrArg (Value.int _) ?_; omega) | omega)
          · rw [portV_no (fun e => hr (e.2.2 i hi2).1)] at h
            simp (config := { maxSteps := 2000000 }) only [go_sem, hG, hP, Nat.reduceEqDiff, ↓reduceIte, reduceCtorEq, Nat.reduceAdd, Nat.reduceSub, Nat.reduceMul, Nat.reduceLT, Nat.reduceLeDiff, Int.reduceAdd, Int.reduceSub, Int.reduceMul, Int.reduceLT, Int.reduceLE, Int.reduceEq, Int.reduceNeg, Int.reduceNe, Int.reduceGE, Int.reduceGT, Nat.reduceBEq, Int.reduceToNat,  e3, spDigits_f, spDigits_t, spDigits_k, z1, z2]
            (try simp (disch := omega) only [wrap_id])
            repeat' (first | (refine And.intro ?_ ?_) | (with_reducible intro _))
            all_goals first
              | omega
              | (refine ⟨_, _, _, ?_, h⟩; simp (config := { maxSteps := 2000000 }) only [go_sem, hG, hP, Nat.reduceEqDiff, ↓reduceIte, reduceCtorEq, Nat.reduceAdd, Nat.reduceSub, Nat.reduceMul, Nat.reduceLT, Nat.reduceLeDiff, Int.reduceAdd, Int.reduceSub, Int.reduceMul, Int.reduceLT, Int.reduceLE, Int.reduceEq, Int.reduceNeg, Int.reduceNe, Int.reduceGE, Int.reduceGT, Nat.reduceBEq, Int.reduceToNat]; done)
              | (exfalso; apply hr; refine ⟨?_, ?_, ?_, ?_⟩ <;> first | assumption | exact ⟨by assumption, by assumption⟩)
        · have e3 : ((i : Int) < l.length) = False := by apply eq_false; omega
          have hok : portOk l n := ⟨hA.1, hA.2, fun j hj => hpre j (by omega)⟩
          rw [portV_yes hok] at h
          generalize hV : stepsV l n (l.length + 1) n = V at h
          simp (config := { maxSteps := 2000000 }) only [go_sem, hG, hP, Nat.reduceEqDiff, ↓reduceIte, reduceCtorEq, Nat.reduceAdd, Nat.reduceSub, Nat.reduceMul, Nat.reduceLT, Nat.reduceLeDiff, Int.reduceAdd, Int.reduceSub, Int.reduceMul, Int.reduceLT, Int.reduceLE, Int.reduceEq, Int.reduceNeg, Int.reduceNe, Int.reduceGE, Int.reduceGT, Nat.reduceBEq, Int.reduceToNat,  e3]
          refine loopI hE (fun p : Nat × ByteArray => ⟨[(0, .rs .prt l), (1, .v (.string n)), (8, .v (.string p.2)), (9, .v (.int .i64 p.1))], [], 0, Tryd.f16.ntmps⟩) (fun p => p.1 ≤ l.length + 1 ∧ V = stepsV l n (l.length + 1 - p.1) p.2) (fun p => l.length + 1 - p.1) ⟨(0, n), ⟨Nat.zero_le _, hV.symm⟩, SubS.weak ?_⟩ ?_
          · simp (config := { maxSteps := 2000000 }) only [go_sem, hG, hP, Nat.reduceEqDiff, ↓reduceIte, reduceCtorEq, Nat.reduceAdd, Nat.reduceSub, Nat.reduceMul, Nat.reduceLT, Nat.reduceLeDiff, Int.reduceAdd, Int.reduceSub, Int.reduceMul, Int.reduceLT, Int.reduceLE, Int.reduceEq, Int.reduceNeg, Int.reduceNe, Int.reduceGE, Int.reduceGT, Nat.reduceBEq, Int.reduceToNat]
            repeat' (first | with_reducible rfl | (refine And.intro ?_ ?_) | (refine congrArg (Value.int _) ?_; omega) | omega)
          · rintro ⟨st, now⟩ ⟨hst, hI⟩
            dsimp only at hst hI ⊢
            by_cases hst2 : st ≤ l.length
            · have e4 : ((st : Int) ≤ l.length) = True := by apply eq_true; omega
              simp (config := { maxSteps := 2000000 }) only [go_sem, hG, hP, Nat.reduceEqDiff, ↓reduceIte, reduceCtorEq, Nat.reduceAdd, Nat.reduceSub, Nat.reduceMul, Nat.reduceLT, Nat.reduceLeDiff, Int.reduceAdd, Int.reduceSub, Int.reduceMul, Int.reduceLT, Int.reduceLE, Int.reduceEq, Int.reduceNeg, Int.reduceNe, Int.reduceGE, Int.reduceGT, Nat.reduceBEq, Int.reduceToNat,  e4]
              refine loopI hE (fun j : Nat => ⟨[(0, .rs .prt l), (1, .v (.string n)), (8, .v (.string now)), (9, .v (.int .i64 st)), (10, .v (.int .i64 (findT l now j))), (11, .v (.int .i64 j))], [], 0, Tryd.f16.ntmps⟩) (fun j => j ≤ l.length) (fun j => l.length - j) ⟨0, Nat.zero_le _, SubS.weak ?_⟩ ?_
              · simp (config := { maxSteps := 2000000 }) only [go_sem, hG, hP, Nat.reduceEqDiff, ↓reduceIte, reduceCtorEq, Nat.reduceAdd, Nat.reduceSub, Nat.reduceMul, Nat.reduceLT, Nat.reduceLeDiff, Int.reduceAdd, Int.reduceSub, Int.reduceMul, Int.reduceLT, Int.reduceLE, Int.reduceEq, Int.reduceNeg, Int.reduceNe, Int.reduceGE, Int.reduceGT, Nat.reduceBEq, Int.reduceToNat,  findT]
                repeat' (first | with_reducible rfl | (refine And.intro ?_ ?_) | (refine congrArg (Value.int _) ?_; omega) | omega)
              · intro j hj
                dsimp only at hj ⊢
                by_cases hj2 : j < l.length
                · have e5 : ((j : Int) < l.length) = True := by apply eq_true; omega
                  by_cases hq : (l.getD j Prtz).num = now
                  · have hf : findT l now (j + 1) = j := by rw [findT, if_pos hq]
                    have hq2 := eq_true hq
                    simp (config := { maxSteps := 2000000 }) only [go_sem, hG, hP, Nat.reduceEqDiff, ↓reduceIte, reduceCtorEq, Nat.reduceAdd, Nat.reduceSub, Nat.reduceMul, Nat.reduceLT, Nat.reduceLeDiff, Int.reduceAdd, Int.reduceSub, Int.reduceMul, Int.reduceLT, Int.reduceLE, Int.reduceEq, Int.reduceNeg, Int.reduceNe, Int.reduceGE, Int.reduceGT, Nat.reduceBEq, Int.reduceToNat,  e5, hq2]
                    (try simp (disch := omega) only [wrap_id])
                    repeat' (first | (refine And.intro ?_ ?_) | (with_reducible intro _))
                    all_goals first
                      | omega
                      | (refine ⟨j + 1, ⟨by omega, by omega⟩, SubS.weak ?_⟩
                         simp (config := { maxSteps := 2000000 }) only [go_sem, hG, hP, Nat.reduceEqDiff, ↓reduceIte, reduceCtorEq, Nat.reduceAdd, Nat.reduceSub, Nat.reduceMul, Nat.reduceLT, Nat.reduceLeDiff, Int.reduceAdd, Int.reduceSub, Int.reduceMul, Int.reduceLT, Int.reduceLE, Int.reduceEq, Int.reduceNeg, Int.reduceNe, Int.reduceGE, Int.reduceGT, Nat.reduceBEq, Int.reduceToNat,  hf]
                         repeat' (first | with_reducible rfl | (refine And.intro ?_ ?_) | (refine congrArg (Value.int _) ?_; omega) | omega))
                  · have hf : findT l now (j + 1) = findT l now j := by rw [findT, if_neg hq]
                    have hq2 := eq_false hq
                    simp (config := { maxSteps := 2000000 }) only [go_sem, hG, hP, Nat.reduceEqDiff, ↓reduceIte, reduceCtorEq, Nat.reduceAdd, Nat.reduceSub, Nat.reduceMul, Nat.reduceLT, Nat.reduceLeDiff, Int.reduceAdd, Int.reduceSub, Int.reduceMul, Int.reduceLT, Int.reduceLE, Int.reduceEq, Int.reduceNeg, Int.reduceNe, Int.reduceGE, Int.reduceGT, Nat.reduceBEq, Int.reduceToNat,  e5, hq2]
                    (try simp (disch := omega) only [wrap_id])
                    repeat' (first | (refine And.intro ?_ ?_) | (with_reducible intro _))
                    all_goals first
                      | omega
                      | (refine ⟨j + 1, ⟨by omega, by omega⟩, SubS.weak ?_⟩
                         simp (config := { maxSteps := 2000000 }) only [go_sem, hG, hP, Nat.reduceEqDiff, ↓reduceIte, reduceCtorEq, Nat.reduceAdd, Nat.reduceSub, Nat.reduceMul, Nat.reduceLT, Nat.reduceLeDiff, Int.reduceAdd, Int.reduceSub, Int.reduceMul, Int.reduceLT, Int.reduceLE, Int.reduceEq, Int.reduceNeg, Int.reduceNe, Int.reduceGE, Int.reduceGT, Nat.reduceBEq, Int.reduceToNat,  hf]
                         repeat' (first | with_reducible rfl | (refine And.intro ?_ ?_) | (refine congrArg (Value.int _) ?_; omega) | omega))
                · have e5 : ((j : Int) < l.length) = False := by apply eq_false; omega
                  have ej : j = l.length := by omega
                  subst ej
                  have hbd := findT_bd l now l.length
                  rw [show l.length + 1 - st = (l.length - st) + 1 by omega, stepsV] at hI
                  by_cases hf : findT l now l.length < 0
                  · have hf2 := eq_true hf
                    rw [if_pos hf] at hI
                    rw [hI] at h
                    simp (config := { maxSteps := 2000000 }) only [go_sem, hG, hP, Nat.reduceEqDiff, ↓reduceIte, reduceCtorEq, Nat.reduceAdd, Nat.reduceSub, Nat.reduceMul, Nat.reduceLT, Nat.reduceLeDiff, Int.reduceAdd, Int.reduceSub, Int.reduceMul, Int.reduceLT, Int.reduceLE, Int.reduceEq, Int.reduceNeg, Int.reduceNe, Int.reduceGE, Int.reduceGT, Nat.reduceBEq, Int.reduceToNat,  e5, hf2]
                    (try simp (disch := omega) only [wrap_id])
                    repeat' (first | (refine And.intro ?_ ?_) | (with_reducible intro _))
                    all_goals first
                      | omega
                      | (refine ⟨_, _, _, ?_, h⟩; simp (config := { maxSteps := 2000000 }) only [go_sem, hG, hP, Nat.reduceEqDiff, ↓reduceIte, reduceCtorEq, Nat.reduceAdd, Nat.reduceSub, Nat.reduceMul, Nat.reduceLT, Nat.reduceLeDiff, Int.reduceAdd, Int.reduceSub, Int.reduceMul, Int.reduceLT, Int.reduceLE, Int.reduceEq, Int.reduceNeg, Int.reduceNe, Int.reduceGE, Int.reduceGT, Nat.reduceBEq, Int.reduceToNat]; done)
                  · have hf2 := eq_false hf
                    rw [if_neg hf] at hI
                    simp (config := { maxSteps := 2000000 }) only [go_sem, hG, hP, Nat.reduceEqDiff, ↓reduceIte, reduceCtorEq, Nat.reduceAdd, Nat.reduceSub, Nat.reduceMul, Nat.reduceLT, Nat.reduceLeDiff, Int.reduceAdd, Int.reduceSub, Int.reduceMul, Int.reduceLT, Int.reduceLE, Int.reduceEq, Int.reduceNeg, Int.reduceNe, Int.reduceGE, Int.reduceGT, Nat.reduceBEq, Int.reduceToNat,  e5, hf2]
                    (try simp (disch := omega) only [wrap_id])
                    repeat' (first | (refine And.intro ?_ ?_) | (with_reducible intro _))
                    all_goals first
                      | omega
                      | (refine ⟨(st + 1, (l.getD (findT l now l.length).toNat Prtz).to), ⟨⟨by dsimp only; omega, by dsimp only; rw [hI]; congr 1; omega⟩, by dsimp only; omega⟩, SubS.weak ?_⟩
                         simp (config := { maxSteps := 2000000 }) only [go_sem, hG, hP, Nat.reduceEqDiff, ↓reduceIte, reduceCtorEq, Nat.reduceAdd, Nat.reduceSub, Nat.reduceMul, Nat.reduceLT, Nat.reduceLeDiff, Int.reduceAdd, Int.reduceSub, Int.reduceMul, Int.reduceLT, Int.reduceLE, Int.reduceEq, Int.reduceNeg, Int.reduceNe, Int.reduceGE, Int.reduceGT, Nat.reduceBEq, Int.reduceToNat]
                         repeat' (first | with_reducible rfl | (refine And.intro ?_ ?_) | (refine congrArg (Value.int _) ?_; omega) | omega))
            · have e4 : ((st : Int) ≤ l.length) = False := by apply eq_false; omega
              rw [show l.length + 1 - st = 0 by omega, stepsV] at hI
              rw [hI] at h
              simp (config := { maxSteps := 2000000 }) only [go_sem, hG, hP, Nat.reduceEqDiff, ↓reduceIte, reduceCtorEq, Nat.reduceAdd, Nat.reduceSub, Nat.reduceMul, Nat.reduceLT, Nat.reduceLeDiff, Int.reduceAdd, Int.reduceSub, Int.reduceMul, Int.reduceLT, Int.reduceLE, Int.reduceEq, Int.reduceNeg, Int.reduceNe, Int.reduceGE, Int.reduceGT, Nat.reduceBEq, Int.reduceToNat,  e4]
              refine ⟨_, _, _, ?_, h⟩
              simp (config := { maxSteps := 2000000 }) only [go_sem, hG, hP, Nat.reduceEqDiff, ↓reduceIte, reduceCtorEq, Nat.reduceAdd, Nat.reduceSub, Nat.reduceMul, Nat.reduceLT, Nat.reduceLeDiff, Int.reduceAdd, Int.reduceSub, Int.reduceMul, Int.reduceLT, Int.reduceLE, Int.reduceEq, Int.reduceNeg, Int.reduceNe, Int.reduceGE, Int.reduceGT, Nat.reduceBEq, Int.reduceToNat]
    · rw [portV_no (fun e => hA ⟨e.1, e.2.1⟩)] at h
      simp (config := { maxSteps := 2000000 }) only [go_sem, hG, hP, Nat.reduceEqDiff, ↓reduceIte, reduceCtorEq, Nat.reduceAdd, Nat.reduceSub, Nat.reduceMul, Nat.reduceLT, Nat.reduceLeDiff, Int.reduceAdd, Int.reduceSub, Int.reduceMul, Int.reduceLT, Int.reduceLE, Int.reduceEq, Int.reduceNeg, Int.reduceNe, Int.reduceGE, Int.reduceGT, Nat.reduceBEq, Int.reduceToNat,  spDigits_f, spDigits_t, spDigits_k, hn]
      (try simp (disch := omega) only [wrap_id])
      repeat' (first | (refine And.intro ?_ ?_) | (with_reducible intro _))
      all_goals first
        | omega
        | (refine ⟨_, _, _, ?_, h⟩; simp (config := { maxSteps := 2000000 }) only [go_sem, hG, hP, Nat.reduceEqDiff, ↓reduceIte, reduceCtorEq, Nat.reduceAdd, Nat.reduceSub, Nat.reduceMul, Nat.reduceLT, Nat.reduceLeDiff, Int.reduceAdd, Int.reduceSub, Int.reduceMul, Int.reduceLT, Int.reduceLE, Int.reduceEq, Int.reduceNeg, Int.reduceNe, Int.reduceGE, Int.reduceGT, Nat.reduceBEq, Int.reduceToNat]; done)
        | (exfalso; apply hA; refine ⟨by omega, ?_⟩; first | assumption | exact ⟨by assumption, by assumption⟩)
  · exact h.elim
end Go.Proofs.YthghcialeghgoaaDoorE

/-! The program's Port. -/
namespace Go.Proofs.YthghcialeghgoaaDoorE
open Go Go.RowKit
set_option linter.unusedSimpArgs false
set_option linter.unusedVariables false
set_option maxRecDepth 20000
set_option maxHeartbeats 4000000

theorem valid18 : Valid Tryd.prog 18 spPort := by
  refine validI (Γ := lk [(36, spDigitsOk)]) Tryd.func18 bod18 low18 res18 (good_of ⟨⟨cal36, valid36⟩, trivial⟩) ?_
  intro E args objs K h hE hG hP
  simp only [spPort] at h
  split at h
  · refine ⟨by simp [Tryd.ntmps18], ?_⟩
    rename_i l n
    obtain ⟨⟨hs, hl, hn⟩, h⟩ := h
    simp (config := { maxSteps := 2000000 }) only [go_sem, hG, hP, Nat.reduceEqDiff, ↓reduceIte, reduceCtorEq, Nat.reduceAdd, Nat.reduceSub, Nat.reduceMul, Nat.reduceLT, Nat.reduceLeDiff, Int.reduceAdd, Int.reduceSub, Int.reduceMul, Int.reduceLT, Int.reduceLE, Int.reduceEq, Int.reduceNeg, Int.reduceNe, Int.reduceGE, Int.reduceGT, Nat.reduceBEq, Int.reduceToNat]
    refine loopI hE (fun i : Nat => ⟨[(0, .rs .prt l), (1, .v (.string n)), (6, .mp 0), (15, .rs .prt l), (16, .v (.int .i64 l.length)), (17, .v (.int .i64 i))], [(0, .set .str true (esT l i))], 1, Tryd.f18.ntmps⟩) (fun i => i ≤ l.length ∧ ∀ j, j < i → prtP (l.getD j Prtz) ∧ ∀ k, k < j → (l.getD k Prtz).num ≠ (l.getD j Prtz).num) (fun i => l.length - i) ⟨0, ⟨Nat.zero_le _, fun j hj => by omega⟩, SubS.weak ?_⟩ ?_
    · simp (config := { maxSteps := 2000000 }) only [go_sem, hG, hP, Nat.reduceEqDiff, ↓reduceIte, reduceCtorEq, Nat.reduceAdd, Nat.reduceSub, Nat.reduceMul, Nat.reduceLT, Nat.reduceLeDiff, Int.reduceAdd, Int.reduceSub, Int.reduceMul, Int.reduceLT, Int.reduceLE, Int.reduceEq, Int.reduceNeg, Int.reduceNe, Int.reduceGE, Int.reduceGT, Nat.reduceBEq, Int.reduceToNat,  esT]
      repeat' (first | with_reducible rfl | (refine And.intro ?_ ?_) | (refine congrArg (Value.int _) ?_; omega) | omega)
    · rintro i ⟨hi, hpre⟩
      dsimp only at hi hpre ⊢
      by_cases hi2 : i < l.length
      · have e3 : ((i : Int) < l.length) = True := by apply eq_true; omega
        obtain ⟨z1, z2⟩ := hs i hi2
        have hhas := esT_has l (l.getD i Prtz).num i
        have hno := @findT_no l (l.getD i Prtz).num i
        have hnx : esT l (i + 1) = (.s (l.getD i Prtz).num, (l.getD i Prtz).to) :: esT l i := rfl
        have hbadl : (¬ prtP (l.getD i Prtz) ∨ hasM (esT l i) (.s (l.getD i Prtz).num) = true) → ¬ portOk l n := fun e q => by
          obtain ⟨q1, q2⟩ := q.2.2 i hi2
          rcases e with e | e
          · exact e q1
          · rw [hhas, decide_eq_true_eq] at e
            exact e (hno.2 q2)
        have hgood : prtP (l.getD i Prtz) → hasM (esT l i) (.s (l.getD i Prtz).num) = false → ∀ j, j < i + 1 → prtP (l.getD j Prtz) ∧ ∀ k, k < j → (l.getD k Prtz).num ≠ (l.getD j Prtz).num := fun q1 q2 j hj => by
          by_cases e : j < i
          · exact hpre j e
          · obtain rfl : j = i := by omega
            rw [hhas, decide_eq_false_iff_not, Classical.not_not] at q2
            exact ⟨q1, hno.1 q2⟩
        have hcc : l.getD i Prtz = l.getD i (⟨⟨#[]⟩, ⟨#[]⟩⟩ : Prt) := rfl
        clear hhas hno
        rw [hcc] at hbadl hgood z1 z2 hnx
        generalize hcd : l.getD i (⟨⟨#[]⟩, ⟨#[]⟩⟩ : Prt) = c at hbadl hgood z1 z2 hnx
        obtain ⟨a0, a1⟩ := c
        dsimp only at hbadl hgood z1 z2 hnx
        by_cases hA : prtP ⟨a0, a1⟩ ∧ hasM (esT l i) (.s a0) = false
        · obtain ⟨⟨q1, q2, q3, q4⟩, q5⟩ := hA
          dsimp only at q1 q2 q3 q4
          have f1 := eq_true q1
          have f2 := eq_true q2
          have f3 := eq_false q3
          have f4 := eq_false q4
          simp (config := { maxSteps := 2000000 }) only [go_sem, hG, hP, Nat.reduceEqDiff, ↓reduceIte, reduceCtorEq, Nat.reduceAdd, Nat.reduceSub, Nat.reduceMul, Nat.reduceLT, Nat.reduceLeDiff, Int.reduceAdd, Int.reduceSub, Int.reduceMul, Int.reduceLT, Int.reduceLE, Int.reduceEq, Int.reduceNeg, Int.reduceNe, Int.reduceGE, Int.reduceGT, Nat.reduceBEq, Int.reduceToNat,  e3, hcd, spDigitsOk_f, spDigitsOk_t, spDigitsOk_k, z1, z2, f1, f2, f3, f4, q5]
          (try simp (disch := omega) only [wrap_id])
          repeat' (first | (refine And.intro ?_ ?_) | (with_reducible intro _))
          all_goals first
            | omega
            | (refine ⟨i + 1, ⟨⟨by omega, hgood ⟨q1, q2, q3, q4⟩ q5⟩, by omega⟩, SubS.weak ?_⟩
               simp (config := { maxSteps := 2000000 }) only [go_sem, hG, hP, Nat.reduceEqDiff, ↓reduceIte, reduceCtorEq, Nat.reduceAdd, Nat.reduceSub, Nat.reduceMul, Nat.reduceLT, Nat.reduceLeDiff, Int.reduceAdd, Int.reduceSub, Int.reduceMul, Int.reduceLT, Int.reduceLE, Int.reduceEq, Int.reduceNeg, Int.reduceNe, Int.reduceGE, Int.reduceGT, Nat.reduceBEq, Int.reduceToNat,  hnx]
               repeat' (first | with_reducible rfl | (refine And.intro ?_ ?_) | (refine congrArg (Value.int _) ?_; omega) | omega))
        · have hnn : ¬ portOk l n := by
            apply hbadl
            by_cases e : hasM (esT l i) (.s a0) = true
            · exact .inr e
            · exact .inl fun q => hA ⟨q, by simpa using e⟩
          rw [portV_no hnn] at h
          simp (config := { maxSteps := 2000000 }) only [go_sem, hG, hP, Nat.reduceEqDiff, ↓reduceIte, reduceCtorEq, Nat.reduceAdd, Nat.reduceSub, Nat.reduceMul, Nat.reduceLT, Nat.reduceLeDiff, Int.reduceAdd, Int.reduceSub, Int.reduceMul, Int.reduceLT, Int.reduceLE, Int.reduceEq, Int.reduceNeg, Int.reduceNe, Int.reduceGE, Int.reduceGT, Nat.reduceBEq, Int.reduceToNat,  e3, hcd, spDigitsOk_f, spDigitsOk_t, spDigitsOk_k, z1, z2]
          (try simp (disch := omega) only [wrap_id])
          repeat' (first | (refine And.intro ?_ ?_) | (with_reducible intro _))
          all_goals first
            | omega
            | (refine ⟨_, _, _, ?_, h⟩; simp (config := { maxSteps := 2000000 }) only [go_sem, hG, hP, Nat.reduceEqDiff, ↓reduceIte, reduceCtorEq, Nat.reduceAdd, Nat.reduceSub, Nat.reduceMul, Nat.reduceLT, Nat.reduceLeDiff, Int.reduceAdd, Int.reduceSub, Int.reduceMul, Int.reduceLT, Int.reduceLE, Int.reduceEq, Int.reduceNeg, Int.reduceNe, Int.reduceGE, Int.reduceGT, Nat.reduceBEq, Int.reduceToNat]; done)
            | (exfalso; apply hA; refine ⟨⟨?_, ?_, ?_, ?_⟩, ?_⟩ <;> first | assumption | exact ⟨by assumption, by assumption⟩ | (simp_all; done))
            | skip
          skip
          done
      · have e3 : ((i : Int) < l.length) = False := by apply eq_false; omega
        have ei : i = l.length := by omega
        subst ei
        by_cases hA : l.length ≤ 60 ∧ digsP n
        · have hok : portOk l n := ⟨hA.1, hA.2, fun j hj => hpre j hj⟩
          have e1 : ((l.length : Int) > 60) = False := by apply eq_false; omega
          have e2 := eq_true hA.2
          rw [portV_yes hok] at h
          generalize hV : stepsV l n (l.length + 1) n = V at h
          simp (config := { maxSteps := 2000000 }) only [go_sem, hG, hP, Nat.reduceEqDiff, ↓reduceIte, reduceCtorEq, Nat.reduceAdd, Nat.reduceSub, Nat.reduceMul, Nat.reduceLT, Nat.reduceLeDiff, Int.reduceAdd, Int.reduceSub, Int.reduceMul, Int.reduceLT, Int.reduceLE, Int.reduceEq, Int.reduceNeg, Int.reduceNe, Int.reduceGE, Int.reduceGT, Nat.reduceBEq, Int.reduceToNat,  e3, e1, spDigitsOk_f, spDigitsOk_t, spDigitsOk_k, e2, hn]
          (try simp (disch := omega) only [wrap_id])
          repeat (refine And.intro (by first | omega | (simp; done) | (simp; omega) | (unfold appRoom; omega)) ?_)
          refine loopI hE (fun p : Nat × ByteArray => ⟨[(1, .v (.string n)), (6, .mp 0), (11, .v (.string p.2)), (68, .v (.int .i64 ((l.length : Int) + 1))), (69, .v (.int .i64 p.1))], [(0, .set .str true (esT l l.length))], 1, Tryd.f18.ntmps⟩) (fun p => p.1 ≤ l.length + 1 ∧ V = stepsV l n (l.length + 1 - p.1) p.2) (fun p => l.length + 1 - p.1) ⟨(0, n), ⟨Nat.zero_le _, hV.symm⟩, SubS.weak ?_⟩ ?_
          · simp (config := { maxSteps := 2000000 }) only [go_sem, hG, hP, Nat.reduceEqDiff, ↓reduceIte, reduceCtorEq, Nat.reduceAdd, Nat.reduceSub, Nat.reduceMul, Nat.reduceLT, Nat.reduceLeDiff, Int.reduceAdd, Int.reduceSub, Int.reduceMul, Int.reduceLT, Int.reduceLE, Int.reduceEq, Int.reduceNeg, Int.reduceNe, Int.reduceGE, Int.reduceGT, Nat.reduceBEq, Int.reduceToNat]
            repeat' (first | with_reducible rfl | (refine And.intro ?_ ?_) | (refine congrArg (Value.int _) ?_; omega) | omega)
          · rintro ⟨st, now⟩ ⟨hst, hI⟩
            dsimp only at hst hI ⊢
            by_cases hst2 : st ≤ l.length
            · have e4 : ((st : Int) < (l.length : Int) + 1) = True := by apply eq_true; omega
              rw [show l.length + 1 - st = (l.length - st) + 1 by omega, stepsV] at hI
              have hhas := esT_has l now l.length
              by_cases hf : findT l now l.length < 0
              · rw [if_pos hf] at hI
                rw [hI] at h
                rw [decide_eq_false (by simpa using hf)] at hhas
                simp (config := { maxSteps := 2000000 }) only [go_sem, hG, hP, Nat.reduceEqDiff, ↓reduceIte, reduceCtorEq, Nat.reduceAdd, Nat.reduceSub, Nat.reduceMul, Nat.reduceLT, Nat.reduceLeDiff, Int.reduceAdd, Int.reduceSub, Int.reduceMul, Int.reduceLT, Int.reduceLE, Int.reduceEq, Int.reduceNeg, Int.reduceNe, Int.reduceGE, Int.reduceGT, Nat.reduceBEq, Int.reduceToNat,  e4, hhas]
                (try simp (disch := omega) only [wrap_id])
                repeat' (first | (refine And.intro ?_ ?_) | (with_reducible intro _))
                all_goals first
                  | omega
                  | (refine ⟨_, _, _, ?_, h⟩; simp (config := { maxSteps := 2000000 }) only [go_sem, hG, hP, Nat.reduceEqDiff, ↓reduceIte, reduceCtorEq, Nat.reduceAdd, Nat.reduceSub, Nat.reduceMul, Nat.reduceLT, Nat.reduceLeDiff, Int.reduceAdd, Int.reduceSub, Int.reduceMul, Int.reduceLT, Int.reduceLE, Int.reduceEq, Int.reduceNeg, Int.reduceNe, Int.reduceGE, Int.reduceGT, Nat.reduceBEq, Int.reduceToNat]; done)
              · have hstr := esT_str l now l.length hf
                rw [if_neg hf] at hI
                rw [decide_eq_true hf] at hhas
                simp (config := { maxSteps := 2000000 }) only [go_sem, hG, hP, Nat.reduceEqDiff, ↓reduceIte, reduceCtorEq, Nat.reduceAdd, Nat.reduceSub, Nat.reduceMul, Nat.reduceLT, Nat.reduceLeDiff, Int.reduceAdd, Int.reduceSub, Int.reduceMul, Int.reduceLT, Int.reduceLE, Int.reduceEq, Int.reduceNeg, Int.reduceNe, Int.reduceGE, Int.reduceGT, Nat.reduceBEq, Int.reduceToNat,  e4, hhas, hstr]
                (try simp (disch := omega) only [wrap_id])
                repeat' (first | (refine And.intro ?_ ?_) | (with_reducible intro _))
                all_goals first
                  | omega
                  | (refine ⟨(st + 1, (l.getD (findT l now l.length).toNat Prtz).to), ⟨⟨by dsimp only; omega, by dsimp only; rw [hI]; congr 1; omega⟩, by dsimp only; omega⟩, SubS.weak ?_⟩
                     simp (config := { maxSteps := 2000000 }) only [go_sem, hG, hP, Nat.reduceEqDiff, ↓reduceIte, reduceCtorEq, Nat.reduceAdd, Nat.reduceSub, Nat.reduceMul, Nat.reduceLT, Nat.reduceLeDiff, Int.reduceAdd, Int.reduceSub, Int.reduceMul, Int.reduceLT, Int.reduceLE, Int.reduceEq, Int.reduceNeg, Int.reduceNe, Int.reduceGE, Int.reduceGT, Nat.reduceBEq, Int.reduceToNat]
                     repeat' (first | with_reducible rfl | (refine And.intro ?_ ?_) | (refine congrArg (Value.int _) ?_; omega) | omega))
            · have e4 : ((st : Int) < (l.length : Int) + 1) = False := by apply eq_false; omega
              rw [show l.length + 1 - st = 0 by omega, stepsV] at hI
              rw [hI] at h
              simp (config := { maxSteps := 2000000 }) only [go_sem, hG, hP, Nat.reduceEqDiff, ↓reduceIte, reduceCtorEq, Nat.reduceAdd, Nat.reduceSub, Nat.reduceMul, Nat.reduceLT, Nat.reduceLeDiff, Int.reduceAdd, Int.reduceSub, Int.reduceMul, Int.reduceLT, Int.reduceLE, Int.reduceEq, Int.reduceNeg, Int.reduceNe, Int.reduceGE, Int.reduceGT, Nat.reduceBEq, Int.reduceToNat,  e4]
              refine ⟨_, _, _, ?_, h⟩
              simp (config := { maxSteps := 2000000 }) only [go_sem, hG, hP, Nat.reduceEqDiff, ↓reduceIte, reduceCtorEq, Nat.reduceAdd, Nat.reduceSub, Nat.reduceMul, Nat.reduceLT, Nat.reduceLeDiff, Int.reduceAdd, Int.reduceSub, Int.reduceMul, Int.reduceLT, Int.reduceLE, Int.reduceEq, Int.reduceNeg, Int.reduceNe, Int.reduceGE, Int.reduceGT, Nat.reduceBEq, Int.reduceToNat]
        · rw [portV_no (fun e => hA ⟨e.1, e.2.1⟩)] at h
          simp (config := { maxSteps := 2000000 }) only [go_sem, hG, hP, Nat.reduceEqDiff, ↓reduceIte, reduceCtorEq, Nat.reduceAdd, Nat.reduceSub, Nat.reduceMul, Nat.reduceLT, Nat.reduceLeDiff, Int.reduceAdd, Int.reduceSub, Int.reduceMul, Int.reduceLT, Int.reduceLE, Int.reduceEq, Int.reduceNeg, Int.reduceNe, Int.reduceGE, Int.reduceGT, Nat.reduceBEq, Int.reduceToNat,  e3, spDigitsOk_f, spDigitsOk_t, spDigitsOk_k, hn]
          (try simp (disch := omega) only [wrap_id])
          repeat' (first | (refine And.intro ?_ ?_) | (with_reducible intro _))
          all_goals first
            | omega
            | (refine ⟨_, _, _, ?_, h⟩; simp (config := { maxSteps := 2000000 }) only [go_sem, hG, hP, Nat.reduceEqDiff, ↓reduceIte, reduceCtorEq, Nat.reduceAdd, Nat.reduceSub, Nat.reduceMul, Nat.reduceLT, Nat.reduceLeDiff, Int.reduceAdd, Int.reduceSub, Int.reduceMul, Int.reduceLT, Int.reduceLE, Int.reduceEq, Int.reduceNeg, Int.reduceNe, Int.reduceGE, Int.reduceGT, Nat.reduceBEq, Int.reduceToNat]; done)
            | (exfalso; apply hA; refine ⟨by omega, ?_⟩; first | assumption | exact ⟨by assumption, by assumption⟩)
  · exact h.elim
end Go.Proofs.YthghcialeghgoaaDoorE

/-! The code of a function, in the engine's words. -/
namespace Go.Proofs.YthghcialeghgoaaDoorE
open Go Go.RowKit
@[reducible] def ic4 : IC := (.seq (.ops [⟨some 4, .mov (.const (.bool false)), none⟩]) (.seq (.seq (.ops [⟨some 11, .mov (.tmp 1), none⟩, ⟨some 12, .slen (.tmp 11), none⟩, ⟨some 13, .bin .gtr (.tmp 12) (.const (.int .i64 1048576)), none⟩]) (.cond (.tmp 13) (.seq (.ops [⟨some 4, .mov (.const (.bool true)), none⟩]) .ret) .skip)) (.seq (.ops [⟨some 5, .mov (.const (.int .i64 1048576)), none⟩]) (.seq (.ops [⟨some 14, .mov (.tmp 0), none⟩, ⟨some 15, .mov (.tmp 5), none⟩, ⟨some 16, .call 15 [(.tmp 14), (.tmp 15)], none⟩, ⟨some 5, .mov (.tmp 16), none⟩]) (.seq (.seq (.ops [⟨some 17, .mov (.tmp 5), none⟩, ⟨some 18, .bin .lss (.tmp 17) (.const (.int .i64 0)), none⟩]) (.cond (.tmp 18) (.seq (.ops [⟨some 4, .mov (.const (.bool true)), none⟩]) .ret) .skip)) (.seq (.ops [⟨some 20, .mov (.tmp 0), none⟩, ⟨some 21, .call 17 [(.tmp 20)], none⟩, ⟨some 22, .mov (.tmp 1), none⟩, ⟨some 23, .call 16 [(.tmp 21), (.tmp 22)], none⟩, ⟨some 19, .mov (.tmp 23), none⟩, ⟨some 24, .ext (.tmp 19) 0, none⟩, ⟨some 25, .ext (.tmp 19) 1, none⟩, ⟨some 6, .mov (.tmp 24), none⟩, ⟨some 7, .mov (.tmp 25), none⟩]) (.seq (.ops [⟨some 26, .mov (.tmp 0), none⟩, ⟨some 27, .call 17 [(.tmp 26)], none⟩, ⟨some 8, .mov (.tmp 27), none⟩]) (.seq (.ops [⟨some 29, .mov (.tmp 8), none⟩, ⟨some 30, .mov (.tmp 1), none⟩, ⟨some 31, .call 18 [(.tmp 29), (.tmp 30)], none⟩, ⟨some 28, .mov (.tmp 31), none⟩, ⟨some 32, .ext (.tmp 28) 0, none⟩, ⟨some 33, .ext (.tmp 28) 1, none⟩, ⟨some 9, .mov (.tmp 32), none⟩, ⟨some 10, .mov (.tmp 33), none⟩]) (.seq (.seq (.ops [⟨some 34, .mov (.tmp 9), none⟩, ⟨some 35, .mov (.tmp 6), none⟩, ⟨some 36, .bin .neq (.tmp 34) (.tmp 35), none⟩, ⟨some 37, .mov (.tmp 36), none⟩, ⟨some 38, .mov (.tmp 10), some (37, false)⟩, ⟨some 39, .mov (.tmp 7), some (37, false)⟩, ⟨some 40, .beq true (.tmp 38) (.tmp 39), some (37, false)⟩, ⟨some 41, .pick (.tmp 37) (.const (.bool true)) (.tmp 40), none⟩]) (.cond (.tmp 41) (.seq (.ops [⟨some 4, .mov (.const (.bool false)), none⟩]) .ret) .skip)) (.seq (.seq (.ops [⟨some 42, .mov (.tmp 8), none⟩, ⟨some 43, .mov (.tmp 0), none⟩, ⟨some 44, .call 17 [(.tmp 43)], none⟩, ⟨some 45, .call 19 [(.tmp 42), (.tmp 44)], none⟩, ⟨some 46, .una .not (.tmp 45), none⟩]) (.cond (.tmp 46) (.seq (.ops [⟨some 4, .mov (.const (.bool false)), none⟩]) .ret) .skip)) (.seq (.ops [⟨some 4, .mov (.const (.bool true)), none⟩]) .ret)))))))))))
@[reducible] def rv4 : List RV := [.tmp 4]
theorem low4 : lowC Tryd.prog tau Tryd.f4.ntmps (Tryd.f4.body.getD .skip) = some (erase ic4) := by kernel_rfl
theorem res4 : lowR Tryd.prog Tryd.f4.results.toList = some rv4 := by kernel_rfl
theorem bod4 : Tryd.f4.body = some (Tryd.f4.body.getD .skip) := by kernel_rfl
theorem cal4 : callable Tryd.prog 4 = true := by kernel_rfl

end Go.Proofs.YthghcialeghgoaaDoorE

/-! The law of Port. -/
namespace Go.Proofs.YthghcialeghgoaaDoorE
open Go Go.RowKit
set_option linter.unusedSimpArgs false
set_option linter.unusedVariables false
set_option maxRecDepth 20000
set_option maxHeartbeats 4000000

def spLaw4 : Spec := ⟨fun _ _ => [], fun args objs K => match args, objs with
  | [.rs .prt l, .v (.string n)], [] => (szPrtAll l 140737488351232 ∧ l.length ≤ 17592186044416) ∧ K (.v (.bool true)) [] 0
  | _, _ => False, false⟩
theorem spLaw4_t {L : Hp} {a : List AVal} : Spec.take spLaw4 L a = [] := id rfl
theorem spLaw4_k : Spec.keep spLaw4 = false := id rfl
theorem spLaw4_f {l} {n} {K : AVal → Hp → Nat → Prop} : Spec.f spLaw4 ([.rs .prt l, .v (.string n)]) ([]) K = ((szPrtAll l 140737488351232 ∧ l.length ≤ 17592186044416) ∧ K (.v (.bool true)) [] 0) := id rfl
theorem valid4 : Valid Tryd.prog 4 spLaw4 := by
  refine validI (Γ := lk [(15, spSzPrtS), (16, spPort), (17, spToPrtS), (18, spPort), (19, spEqPrtS)]) Tryd.func4 bod4 low4 res4 (good_of ⟨⟨cal15, valid15⟩, ⟨cal16, valid16⟩, ⟨cal17, valid17⟩, ⟨cal18, valid18⟩, ⟨cal19, valid19⟩, trivial⟩) ?_
  intro E args objs K h hE hG hP
  simp only [spLaw4] at h
  split at h
  · refine ⟨by simp [Tryd.ntmps4], ?_⟩
    rename_i l n
    obtain ⟨⟨hs, hl⟩, h⟩ := h
    have hst := eq_true hs
    generalize hp : portV l n = v
    obtain ⟨s, b⟩ := v
    simp (config := { maxSteps := 2000000 }) only [go_sem, hG, hP, Nat.reduceEqDiff, ↓reduceIte, reduceCtorEq, Nat.reduceAdd, Nat.reduceSub, Nat.reduceMul, Nat.reduceLT, Nat.reduceLeDiff, Int.reduceAdd, Int.reduceSub, Int.reduceMul, Int.reduceLT, Int.reduceLE, Int.reduceEq, Int.reduceNeg, Int.reduceNe, Int.reduceGE, Int.reduceGT, Nat.reduceBEq, Int.reduceToNat,  spSzPrtS_f, spSzPrtS_t, spSzPrtS_k, spPort_f, spPort_t, spPort_k, spToPrtS_f, spToPrtS_t, spToPrtS_k, spEqPrtS_f, spEqPrtS_t, spEqPrtS_k, hst, bb_self, hp]
    (try simp (disch := omega) only [wrap_id])
    repeat (refine And.intro (by first | omega | (simp; done) | (simp; omega) | (unfold appRoom; omega)) ?_)
    refine ⟨fun _ => ⟨_, _, _, ?_, h⟩, fun hn2 => ?_⟩
    · simp (config := { maxSteps := 2000000 }) only [go_sem, hG, hP, Nat.reduceEqDiff, ↓reduceIte, reduceCtorEq, Nat.reduceAdd, Nat.reduceSub, Nat.reduceMul, Nat.reduceLT, Nat.reduceLeDiff, Int.reduceAdd, Int.reduceSub, Int.reduceMul, Int.reduceLT, Int.reduceLE, Int.reduceEq, Int.reduceNeg, Int.reduceNe, Int.reduceGE, Int.reduceGT, Nat.reduceBEq, Int.reduceToNat]
    repeat (refine And.intro (by first | omega | (simp; done) | (simp; omega) | (unfold appRoom; omega)) ?_)
    intro r hr
    refine ⟨fun _ => ⟨_, _, _, ?_, h⟩, fun hn3 => ?_⟩
    · simp (config := { maxSteps := 2000000 }) only [go_sem, hG, hP, Nat.reduceEqDiff, ↓reduceIte, reduceCtorEq, Nat.reduceAdd, Nat.reduceSub, Nat.reduceMul, Nat.reduceLT, Nat.reduceLeDiff, Int.reduceAdd, Int.reduceSub, Int.reduceMul, Int.reduceLT, Int.reduceLE, Int.reduceEq, Int.reduceNeg, Int.reduceNe, Int.reduceGE, Int.reduceGT, Nat.reduceBEq, Int.reduceToNat]
    repeat' (first | (refine And.intro ?_ ?_) | (with_reducible intro _))
    all_goals first
      | omega
      | (refine ⟨_, _, _, ?_, h⟩; simp (config := { maxSteps := 2000000 }) only [go_sem, hG, hP, Nat.reduceEqDiff, ↓reduceIte, reduceCtorEq, Nat.reduceAdd, Nat.reduceSub, Nat.reduceMul, Nat.reduceLT, Nat.reduceLeDiff, Int.reduceAdd, Int.reduceSub, Int.reduceMul, Int.reduceLT, Int.reduceLE, Int.reduceEq, Int.reduceNeg, Int.reduceNe, Int.reduceGE, Int.reduceGT, Nat.reduceBEq, Int.reduceToNat]; done)
      | (exfalso; simp_all; done)
  · exact h.elim
end Go.Proofs.YthghcialeghgoaaDoorE

/-! The code of a function, in the engine's words. -/
namespace Go.Proofs.YthghcialeghgoaaDoorE
open Go Go.RowKit
@[reducible] def ic20 : IC := (.seq (.ops [⟨some 2, .mov (.const (.bool false)), none⟩]) (.seq (.ops [⟨some 3, .mov (.tmp 0), none⟩, ⟨some 4, .len (.tmp 3), none⟩, ⟨some 5, .bin .gtr (.tmp 4) (.const (.int .i64 1048576)), none⟩, ⟨some 2, .mov (.tmp 5), none⟩]) .ret))
@[reducible] def rv20 : List RV := [.tmp 2]
theorem low20 : lowC Tryd.prog tau Tryd.f20.ntmps (Tryd.f20.body.getD .skip) = some (erase ic20) := by kernel_rfl
theorem res20 : lowR Tryd.prog Tryd.f20.results.toList = some rv20 := by kernel_rfl
theorem bod20 : Tryd.f20.body = some (Tryd.f20.body.getD .skip) := by kernel_rfl
theorem cal20 : callable Tryd.prog 20 = true := by kernel_rfl

end Go.Proofs.YthghcialeghgoaaDoorE

/-! The code of a function, in the engine's words. -/
namespace Go.Proofs.YthghcialeghgoaaDoorE
open Go Go.RowKit
@[reducible] def ic26 : IC := (.seq (.ops [⟨some 4, .mov (.const (.int .i64 0)), none⟩]) (.seq (.seq (.ops [⟨some 5, .mov (.tmp 1), none⟩, ⟨some 6, .mov (.tmp 0), none⟩, ⟨some 7, .len (.tmp 6), none⟩, ⟨some 8, .bin .lss (.tmp 5) (.tmp 7), none⟩]) (.cond (.tmp 8) (.seq (.ops [⟨some 9, .mov (.tmp 0), none⟩, ⟨some 10, .mov (.tmp 1), none⟩, ⟨some 11, .iadr 1 (.tmp 9) (.tmp 10), none⟩, ⟨some 12, .load 1 false (.tmp 11), none⟩, ⟨some 13, .cvi .i64 (.tmp 12), none⟩, ⟨some 4, .mov (.tmp 13), none⟩]) .ret) .skip)) (.seq (.ops [⟨some 14, .mov (.tmp 1), none⟩, ⟨some 15, .bin .mul (.tmp 14) (.const (.int .i64 7)), none⟩, ⟨some 16, .mov (.tmp 0), none⟩, ⟨some 17, .len (.tmp 16), none⟩, ⟨some 18, .bin .add (.tmp 15) (.tmp 17), none⟩, ⟨some 19, .bin .rem (.tmp 18) (.const (.int .i64 256)), none⟩, ⟨some 4, .mov (.tmp 19), none⟩]) .ret)))
@[reducible] def rv26 : List RV := [.tmp 4]
theorem low26 : lowC Tryd.prog tau Tryd.f26.ntmps (Tryd.f26.body.getD .skip) = some (erase ic26) := by kernel_rfl
theorem res26 : lowR Tryd.prog Tryd.f26.results.toList = some rv26 := by kernel_rfl
theorem bod26 : Tryd.f26.body = some (Tryd.f26.body.getD .skip) := by kernel_rfl
theorem cal26 : callable Tryd.prog 26 = true := by kernel_rfl

end Go.Proofs.YthghcialeghgoaaDoorE

/-! The code of a function, in the engine's words. -/
namespace Go.Proofs.YthghcialeghgoaaDoorE
open Go Go.RowKit
@[reducible] def ic43 : IC := (.seq (.ops [⟨some 2, .mov (.const (.pointer none)), none⟩]) (.seq (.ops [⟨some 5, .mov (.tmp 0), none⟩, ⟨some 6, .len (.tmp 5), none⟩, ⟨some 7, .bin .add (.const (.int .i64 71933)) (.tmp 6), none⟩, ⟨some 3, .mov (.tmp 7), none⟩]) (.seq (.seq (.ops [⟨some 4, .mov (.const (.int .i64 0)), none⟩]) (.block 0 (.loop (.seq (.seq (.ops [⟨some 8, .mov (.tmp 4), none⟩, ⟨some 9, .mov (.tmp 0), none⟩, ⟨some 10, .len (.tmp 9), none⟩, ⟨some 11, .bin .lss (.tmp 8) (.tmp 10), none⟩, ⟨some 12, .mov (.tmp 11), none⟩, ⟨some 13, .mov (.tmp 4), some (12, true)⟩, ⟨some 14, .bin .lss (.tmp 13) (.const (.int .i64 4000)), some (12, true)⟩, ⟨some 15, .pick (.tmp 12) (.tmp 14) (.const (.bool false)), none⟩]) (.cond (.tmp 15) .skip (.exit 0))) (.seq (.block 1 (.ops [⟨some 18, .mov (.tmp 3), none⟩, ⟨some 19, .bin .mul (.tmp 18) (.const (.int .i64 131)), none⟩, ⟨some 20, .mov (.tmp 0), none⟩, ⟨some 21, .mov (.tmp 4), none⟩, ⟨some 22, .iadr 1 (.tmp 20) (.tmp 21), none⟩, ⟨some 23, .load 1 false (.tmp 22), none⟩, ⟨some 24, .cvi .i64 (.tmp 23), none⟩, ⟨some 25, .bin .add (.tmp 19) (.tmp 24), none⟩, ⟨some 26, .bin .add (.tmp 25) (.const (.int .i64 7)), none⟩, ⟨some 27, .bin .and (.tmp 26) (.const (.int .i64 1073741823)), none⟩, ⟨some 3, .mov (.tmp 27), none⟩])) (.ops [⟨some 16, .mov (.tmp 4), none⟩, ⟨some 17, .bin .add (.tmp 16) (.const (.int .i64 1)), none⟩, ⟨some 4, .mov (.tmp 17), none⟩])))))) (.seq (.ops [⟨some 28, .mov (.tmp 0), none⟩, ⟨some 29, .mov (.tmp 3), none⟩, ⟨some 30, .bld [(.slice none 0 0), (.int .i64 0), (.int .i64 0)] [(0, 1, (.tmp 28)), (2, 1, (.tmp 29))], none⟩, ⟨some 31, .box (.tmp 30), none⟩, ⟨some 2, .mov (.tmp 31), none⟩]) .ret))))
@[reducible] def rv43 : List RV := [.tmp 2]
theorem low43 : lowC Tryd.prog tau Tryd.f43.ntmps (Tryd.f43.body.getD .skip) = some (erase ic43) := by kernel_rfl
theorem res43 : lowR Tryd.prog Tryd.f43.results.toList = some rv43 := by kernel_rfl
theorem bod43 : Tryd.f43.body = some (Tryd.f43.body.getD .skip) := by kernel_rfl
theorem cal43 : callable Tryd.prog 43 = true := by kernel_rfl

end Go.Proofs.YthghcialeghgoaaDoorE

/-! The code of a function, in the engine's words. -/
namespace Go.Proofs.YthghcialeghgoaaDoorE
open Go Go.RowKit
@[reducible] def ic44 : IC := (.seq (.ops [⟨some 4, .mov (.const (.bool false)), none⟩]) (.seq (.ops [⟨some 5, .mov (.tmp 0), none⟩, ⟨some 6, .mov (.tmp 1), none⟩, ⟨some 7, .call 46 [(.tmp 5), (.tmp 6)], none⟩, ⟨some 8, .bin .eql (.tmp 7) (.const (.int .i64 0)), none⟩, ⟨some 4, .mov (.tmp 8), none⟩]) .ret))
@[reducible] def rv44 : List RV := [.tmp 4]
theorem low44 : lowC Tryd.prog tau Tryd.f44.ntmps (Tryd.f44.body.getD .skip) = some (erase ic44) := by kernel_rfl
theorem res44 : lowR Tryd.prog Tryd.f44.results.toList = some rv44 := by kernel_rfl
theorem bod44 : Tryd.f44.body = some (Tryd.f44.body.getD .skip) := by kernel_rfl
theorem cal44 : callable Tryd.prog 44 = true := by kernel_rfl

end Go.Proofs.YthghcialeghgoaaDoorE

/-! The code of a function, in the engine's words. -/
namespace Go.Proofs.YthghcialeghgoaaDoorE
open Go Go.RowKit
@[reducible] def ic45 : IC := (.seq (.ops [⟨some 4, .mov (.const (.string ⟨#[]⟩)), none⟩]) (.seq (.ops [⟨some 5, .mov (.tmp 1), none⟩, ⟨some 6, .mov (.tmp 0), none⟩, ⟨some 7, .mov (.tmp 1), none⟩, ⟨some 8, .len (.tmp 7), none⟩, ⟨some 9, .call 46 [(.tmp 6), (.tmp 8)], none⟩, ⟨some 10, .iadr 1 (.tmp 5) (.tmp 9), none⟩, ⟨some 11, .load 1 false (.tmp 10), none⟩, ⟨some 4, .mov (.tmp 11), none⟩]) .ret))
@[reducible] def rv45 : List RV := [.tmp 4]
theorem low45 : lowC Tryd.prog tau Tryd.f45.ntmps (Tryd.f45.body.getD .skip) = some (erase ic45) := by kernel_rfl
theorem res45 : lowR Tryd.prog Tryd.f45.results.toList = some rv45 := by kernel_rfl
theorem bod45 : Tryd.f45.body = some (Tryd.f45.body.getD .skip) := by kernel_rfl
theorem cal45 : callable Tryd.prog 45 = true := by kernel_rfl

end Go.Proofs.YthghcialeghgoaaDoorE
