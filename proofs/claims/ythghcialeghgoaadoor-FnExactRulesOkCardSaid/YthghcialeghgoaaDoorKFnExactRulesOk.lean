/- A part of a proof that a law of the given program holds for every input: no condition. -/
import Derived.Test.YthghcialeghgoaaDoorProg
import Derived.KernelRfl
import Derived.Ground.NamesProg
import Derived.Shelf.Lay
import Derived.Shelf.Strings.SlTrimAscii
import Derived.Deep.Slices
import Derived.OpenShut
import Derived.SizedLaws
import Derived.WideLaws
import Derived.Test.YthghcialeghgoaaDoorRows
import Derived.ProofKit
import Derived.ShutString
import Derived.ChangeOld
import Derived.Below
import Derived.LaidLaws
import Derived.LaidHandle
import Derived.SevenTiedAt
import Derived.Test.YthghcialeghgoaaDoorTie
import Derived.Test.YthghcialeghgoaaDoorCards
import Derived.Test.YthghcialeghgoaaDoorKFnExactRulesOk1

set_option linter.unusedSimpArgs false
set_option linter.unusedVariables false
/-! The code of a function, in the engine's words. -/
namespace Go.Proofs.YthghcialeghgoaaDoorE
open Go Go.RowKit
@[reducible] def ic36 : IC := (.seq (.ops [⟨some 2, .mov (.const (.bool false)), none⟩]) (.seq (.ops [⟨some 3, .mov (.tmp 0), none⟩, ⟨some 4, .slen (.tmp 3), none⟩, ⟨some 5, .bin .leq (.tmp 4) (.const (.int .i64 20)), none⟩, ⟨some 6, .mov (.tmp 5), none⟩, ⟨some 7, .mov (.tmp 0), some (6, true)⟩, ⟨some 8, .call 60 [(.tmp 7), (.const (.string ⟨#[48, 49, 50, 51, 52, 53, 54, 55, 56, 57, 42, 35]⟩))], some (6, true)⟩, ⟨some 9, .bin .eql (.tmp 8) (.const (.string ⟨#[]⟩)), some (6, true)⟩, ⟨some 10, .pick (.tmp 6) (.tmp 9) (.const (.bool false)), none⟩, ⟨some 2, .mov (.tmp 10), none⟩]) .ret))
@[reducible] def rv36 : List RV := [.tmp 2]
theorem low36 : lowC Tryd.prog tau Tryd.f36.ntmps (Tryd.f36.body.getD .skip) = some (erase ic36) := by kernel_rfl
theorem res36 : lowR Tryd.prog Tryd.f36.results.toList = some rv36 := by kernel_rfl
theorem bod36 : Tryd.f36.body = some (Tryd.f36.body.getD .skip) := by kernel_rfl
theorem cal36 : callable Tryd.prog 36 = true := by kernel_rfl

end Go.Proofs.YthghcialeghgoaaDoorE

/-! The code of a function, in the engine's words. -/
namespace Go.Proofs.YthghcialeghgoaaDoorE
open Go Go.RowKit
@[reducible] def ic60 : IC := (.seq (.ops [⟨some 4, .mov (.const (.string ⟨#[]⟩)), none⟩]) (.seq (.seq (.ops [⟨some 7, .mov (.tmp 0), none⟩, ⟨some 8, .bin .eql (.tmp 7) (.const (.string ⟨#[]⟩)), none⟩, ⟨some 9, .mov (.tmp 8), none⟩, ⟨some 10, .mov (.tmp 1), some (9, false)⟩, ⟨some 11, .bin .eql (.tmp 10) (.const (.string ⟨#[]⟩)), some (9, false)⟩, ⟨some 12, .pick (.tmp 9) (.const (.bool true)) (.tmp 11), none⟩]) (.cond (.tmp 12) (.seq (.ops [⟨some 13, .mov (.tmp 0), none⟩, ⟨some 4, .mov (.tmp 13), none⟩]) .ret) .skip)) (.seq (.seq (.ops [⟨some 14, .mov (.tmp 1), none⟩, ⟨some 15, .slen (.tmp 14), none⟩, ⟨some 16, .bin .eql (.tmp 15) (.const (.int .i64 1)), none⟩, ⟨some 17, .mov (.tmp 16), none⟩, ⟨some 18, .mov (.tmp 1), some (17, true)⟩, ⟨some 19, .sidx (.tmp 18) (.const (.int .i64 0)), some (17, true)⟩, ⟨some 20, .bin .lss (.tmp 19) (.const (.int .u8 128)), some (17, true)⟩, ⟨some 21, .pick (.tmp 17) (.tmp 20) (.const (.bool false)), none⟩]) (.cond (.tmp 21) (.seq (.draw [⟨some 22, .mov (.tmp 0), none⟩, ⟨some 23, .mov (.tmp 1), none⟩, ⟨some 24, .sidx (.tmp 23) (.const (.int .i64 0)), none⟩, ⟨some 25, .call 70 [(.tmp 22), (.tmp 24)], none⟩, ⟨some 26, .mov (.tmp 1), none⟩, ⟨some 27, .sidx (.tmp 26) (.const (.int .i64 0)), none⟩, ⟨some 28, .call 69 [(.tmp 25), (.tmp 27)], none⟩, ⟨some 4, .mov (.tmp 28), none⟩] (.held ⟨some 22, .mov (.tmp 0), none⟩ (.held ⟨some 23, .mov (.tmp 1), none⟩ (.held ⟨some 24, .sidx (.tmp 23) (.const (.int .i64 0)), none⟩ (.held ⟨some 26, .mov (.tmp 1), none⟩ (.held ⟨some 27, .sidx (.tmp 26) (.const (.int .i64 0)), none⟩ (.alt ⟨some 25, .call 70 [(.tmp 22), (.tmp 24)], none⟩ (.alt ⟨some 28, .call 69 [(.tmp 25), (.tmp 27)], none⟩ (.held ⟨some 4, .mov (.tmp 28), none⟩ .done) .stop) .stop))))))) .ret) .skip)) (.seq (.seq (.ops [⟨some 30, .mov (.tmp 1), none⟩, ⟨some 31, .call 71 [(.tmp 30)], none⟩, ⟨some 29, .mov (.tmp 31), none⟩, ⟨some 32, .ext (.tmp 29) 0, none⟩, ⟨some 33, .ext (.tmp 29) 1, none⟩, ⟨some 5, .new [(.bool false), (.bool false), (.bool false), (.bool false), (.bool false), (.bool false), (.bool false), (.bool false), (.bool false), (.bool false), (.bool false), (.bool false), (.bool false), (.bool false), (.bool false), (.bool false), (.bool false), (.bool false), (.bool false), (.bool false), (.bool false), (.bool false), (.bool false), (.bool false), (.bool false), (.bool false), (.bool false), (.bool false), (.bool false), (.bool false), (.bool false), (.bool false), (.bool false), (.bool false), (.bool false), (.bool false), (.bool false), (.bool false), (.bool false), (.bool false), (.bool false), (.bool false), (.bool false), (.bool false), (.bool false), (.bool false), (.bool false), (.bool false), (.bool false), (.bool false), (.bool false), (.bool false), (.bool false), (.bool false), (.bool false), (.bool false), (.bool false), (.bool false), (.bool false), (.bool false), (.bool false), (.bool false), (.bool false), (.bool false), (.bool false), (.bool false), (.bool false), (.bool false), (.bool false), (.bool false), (.bool false), (.bool false), (.bool false), (.bool false), (.bool false), (.bool false), (.bool false), (.bool false), (.bool false), (.bool false), (.bool false), (.bool false), (.bool false), (.bool false), (.bool false), (.bool false), (.bool false), (.bool false), (.bool false), (.bool false), (.bool false), (.bool false), (.bool false), (.bool false), (.bool false), (.bool false), (.bool false), (.bool false), (.bool false), (.bool false), (.bool false), (.bool false), (.bool false), (.bool false), (.bool false), (.bool false), (.bool false), (.bool false), (.bool false), (.bool false), (.bool false), (.bool false), (.bool false), (.bool false), (.bool false), (.bool false), (.bool false), (.bool false), (.bool false), (.bool false), (.bool false), (.bool false), (.bool false), (.bool false), (.bool false), (.bool false), (.bool false), (.bool false), (.bool false), (.bool false), (.bool false), (.bool false), (.bool false), (.bool false), (.bool false), (.bool false), (.bool false), (.bool false), (.bool false), (.bool false), (.bool false), (.bool false), (.bool false), (.bool false), (.bool false), (.bool false), (.bool false), (.bool false), (.bool false), (.bool false), (.bool false), (.bool false), (.bool false), (.bool false), (.bool false), (.bool false), (.bool false), (.bool false), (.bool false), (.bool false), (.bool false), (.bool false), (.bool false), (.bool false), (.bool false), (.bool false), (.bool false), (.bool false), (.bool false), (.bool false), (.bool false), (.bool false), (.bool false), (.bool false), (.bool false), (.bool false), (.bool false), (.bool false), (.bool false), (.bool false), (.bool false), (.bool false), (.bool false), (.bool false), (.bool false), (.bool false), (.bool false), (.bool false), (.bool false), (.bool false), (.bool false), (.bool false), (.bool false), (.bool false), (.bool false), (.bool false), (.bool false), (.bool false), (.bool false), (.bool false), (.bool false), (.bool false), (.bool false), (.bool false), (.bool false), (.bool false), (.bool false), (.bool false), (.bool false), (.bool false), (.bool false), (.bool false), (.bool false), (.bool false), (.bool false), (.bool false), (.bool false), (.bool false), (.bool false), (.bool false), (.bool false), (.bool false), (.bool false), (.bool false), (.bool false), (.bool false), (.bool false), (.bool false), (.bool false), (.bool false), (.bool false), (.bool false), (.bool false), (.bool false), (.bool false), (.bool false), (.bool false), (.bool false), (.bool false), (.bool false), (.bool false), (.bool false), (.bool false), (.bool false), (.bool false), (.bool false), (.bool false), (.bool false), (.bool false), (.bool false), (.bool false), (.bool false), (.bool false), (.bool false), (.bool false), (.bool false)], none⟩, ⟨none, .store 256 (.tmp 5) (.tmp 32), none⟩, ⟨some 6, .mov (.tmp 33), none⟩]) (.seq (.ops [⟨some 34, .mov (.tmp 6), none⟩]) (.cond (.tmp 34) (.seq (.ops [⟨some 35, .mov (.tmp 0), none⟩, ⟨some 36, .call 73 [(.tmp 35), (.tmp 5)], none⟩, ⟨some 37, .call 72 [(.tmp 36), (.tmp 5)], none⟩, ⟨some 4, .mov (.tmp 37), none⟩]) .ret) .skip))) (.seq (.ops [⟨some 38, .mov (.tmp 0), none⟩, ⟨some 39, .mov (.tmp 1), none⟩, ⟨some 40, .call 75 [(.tmp 38), (.tmp 39)], none⟩, ⟨some 41, .mov (.tmp 1), none⟩, ⟨some 42, .call 74 [(.tmp 40), (.tmp 41)], none⟩, ⟨some 4, .mov (.tmp 42), none⟩]) .ret)))))
@[reducible] def rv60 : List RV := [.tmp 4]
theorem low60 : lowC Tryd.prog tau Tryd.f60.ntmps (Tryd.f60.body.getD .skip) = some (erase ic60) := by kernel_rfl
theorem res60 : lowR Tryd.prog Tryd.f60.results.toList = some rv60 := by kernel_rfl
theorem bod60 : Tryd.f60.body = some (Tryd.f60.body.getD .skip) := by kernel_rfl
theorem cal60 : callable Tryd.prog 60 = true := by kernel_rfl

end Go.Proofs.YthghcialeghgoaaDoorE

/-! Digits, as the program tells them (strings.Trim by the library's contract). -/
namespace Go.Proofs
open Go.Shelf
shelf_lay Lays.n160 Nm 160 at Tryd as Tryd.lays160
end Go.Proofs
namespace Go.Proofs.YthghcialeghgoaaDoorE
open Go Go.RowKit Go.Shelf
set_option linter.unusedSimpArgs false
set_option linter.unusedVariables false
set_option maxRecDepth 20000
set_option maxHeartbeats 4000000

def cutD : ByteArray := ⟨#[48, 49, 50, 51, 52, 53, 54, 55, 56, 57, 42, 35]⟩
def trimV (s : ByteArray) : ByteArray := ⟨(Lib.trimS s.data.toList [48, 49, 50, 51, 52, 53, 54, 55, 56, 57, 42, 35]).toArray⟩
theorem dw_nil (p : UInt8 → Bool) : ∀ l : List UInt8, l.dropWhile p = [] ↔ ∀ b ∈ l, p b = true
  | [] => by simp
  | x :: r => by
    rw [List.dropWhile_cons]
    cases hp : p x with
    | true => simp only [if_true, dw_nil p r]; exact ⟨fun h b hb => by rcases List.mem_cons.1 hb with rfl | hb; exact hp; exact h b hb, fun h b hb => h b (List.mem_cons_of_mem _ hb)⟩
    | false =>
      constructor
      · intro h; simp at h
      · intro h; have := h x (List.mem_cons_self ..); rw [hp] at this; cases this
theorem tw_mem (p : UInt8 → Bool) : ∀ l : List UInt8, ∀ b ∈ l.takeWhile p, p b = true
  | [], b, h => by simp at h
  | x :: r, b, h => by
    rw [List.takeWhile_cons] at h
    cases hp : p x with
    | true =>
      rw [hp, if_pos rfl] at h
      rcases List.mem_cons.1 h with rfl | h
      · exact hp
      · exact tw_mem p r b h
    | false => rw [hp] at h; simp at h
theorem trimS_nil (l cs : List UInt8) : Lib.trimS l cs = [] ↔ ∀ b ∈ l, cs.contains b = true := by
  unfold Lib.trimS Lib.trimLeftS Lib.trimRightS
  constructor
  · intro h b hb
    have h1 : ∀ x ∈ (l.reverse.dropWhile (cs.contains ·)).reverse, cs.contains x = true := by
      exact (dw_nil _ _).1 h
    have h2 : l.reverse.takeWhile (cs.contains ·) ++ l.reverse.dropWhile (cs.contains ·) = l.reverse := List.takeWhile_append_dropWhile
    have hb2 : b ∈ l.reverse := List.mem_reverse.2 hb
    rw [← h2] at hb2
    rcases List.mem_append.1 hb2 with h3 | h3
    · exact tw_mem _ _ b h3
    · exact h1 b (List.mem_reverse.2 h3)
  · intro h
    have h1 : l.reverse.dropWhile (cs.contains ·) = [] := by
      rw [dw_nil]
      intro x hx
      exact h x (List.mem_reverse.1 hx)
    rw [h1]; rfl
theorem dig_256 : ∀ n : Fin 256, digV ((n.val : Nat) : Int) = ([48, 49, 50, 51, 52, 53, 54, 55, 56, 57, 42, 35] : List UInt8).contains (UInt8.ofNat n.val) := by decide +kernel
theorem dig_byte (b : UInt8) : digV ((b.toNat : Nat) : Int) = ([48, 49, 50, 51, 52, 53, 54, 55, 56, 57, 42, 35] : List UInt8).contains b := by
  have := dig_256 ⟨b.toNat, b.toNat_lt⟩
  dsimp only at this
  rw [UInt8.ofNat_toNat] at this
  exact this
theorem allDig_iff (s : ByteArray) : allDig s ↔ ∀ b ∈ s.data.toList, ([48, 49, 50, 51, 52, 53, 54, 55, 56, 57, 42, 35] : List UInt8).contains b = true := by
  have hlen : s.data.toList.length = s.size := Array.length_toList
  constructor
  · intro h b hb
    obtain ⟨i, hi, rfl⟩ := List.getElem_of_mem hb
    have := h i (by rw [← hlen]; exact hi)
    unfold byteV at this
    rw [List.getD, List.getElem?_eq_getElem hi] at this
    rw [← dig_byte]; exact this
  · intro h i hi
    have hi2 : i < s.data.toList.length := by rw [hlen]; exact hi
    unfold byteV
    rw [List.getD, List.getElem?_eq_getElem hi2]
    show digV _ = true
    rw [Option.getD_some, dig_byte]
    exact h _ (List.getElem_mem hi2)
theorem trim_nil (s : ByteArray) : trimV s = ⟨#[]⟩ ↔ allDig s := by
  rw [allDig_iff, ← trimS_nil]
  unfold trimV
  constructor
  · intro h
    have := congrArg (fun x : ByteArray => x.data.toList) h
    simpa using this
  · intro h; rw [h]
def spTrim : Spec := ⟨fun _ _ => [], fun args objs K => match args, objs with
  | [.v (.string s), .v (.string c)], [] => (c = cutD ∧ s.size ≤ 140737488351232) ∧ K (.v (.string (trimV s))) [] 0
  | _, _ => False, false⟩
theorem spTrim_t {L : Hp} {a : List AVal} : Spec.take spTrim L a = [] := id rfl
theorem spTrim_k : Spec.keep spTrim = false := id rfl
theorem spTrim_f {s} {c} {K : AVal → Hp → Nat → Prop} : Spec.f spTrim ([.v (.string s), .v (.string c)]) ([]) K = ((c = cutD ∧ s.size ≤ 140737488351232) ∧ K (.v (.string (trimV s))) [] 0) := id rfl
theorem valid60 : Valid Tryd.prog 60 spTrim := by
  intro W C ρ args vals objs K hd hp h
  simp only [spTrim] at h
  split at h
  · rename_i s c
    obtain ⟨⟨rfl, hs⟩, h⟩ := h
    obtain ⟨v0, r0, rfl, d0, e0⟩ := hd.cons_inv
    obtain ⟨v1, r1, rfl, d1, e1⟩ := e0.cons_inv
    obtain rfl := e1.nil_inv
    obtain rfl := den_v d0
    obtain rfl := den_v d1
    have hcon := Any.strings_Trim_laid Tryd.lays160 (by kernel_rfl) s cutD W (by omega) (by decide) (ascii_of_all (by decide))
    change Calls Tryd.prog 60 _ _ _ at hcon
    refine hcon.mono fun e w' he => ?_
    obtain ⟨rfl, hB⟩ := he
    exact ⟨_, _, [], 0, ρ, rfl, .v _, hp.below hB, fun i hi => rfl, h⟩
  · exact h.elim
def spDigitsOk : Spec := ⟨fun _ _ => [], fun args objs K => match args, objs with
  | [.v (.string s)], [] => s.size ≤ 140737488351232 ∧ K (.v (.bool (decide (digsP s)))) [] 0
  | _, _ => False, false⟩
theorem spDigitsOk_t {L : Hp} {a : List AVal} : Spec.take spDigitsOk L a = [] := id rfl
theorem spDigitsOk_k : Spec.keep spDigitsOk = false := id rfl
theorem spDigitsOk_f {s} {K : AVal → Hp → Nat → Prop} : Spec.f spDigitsOk ([.v (.string s)]) ([]) K = (s.size ≤ 140737488351232 ∧ K (.v (.bool (decide (digsP s)))) [] 0) := id rfl
theorem valid36 : Valid Tryd.prog 36 spDigitsOk := by
  refine validI (Γ := lk [(60, spTrim)]) Tryd.func36 bod36 low36 res36 (good_of ⟨⟨cal60, valid60⟩, trivial⟩) ?_
  intro E args objs K h hE hG hP
  simp only [spDigitsOk] at h
  split at h
  · refine ⟨by simp [Tryd.ntmps36], ?_⟩
    rename_i s
    obtain ⟨hs, h⟩ := h
    have hc : (⟨#[48, 49, 50, 51, 52, 53, 54, 55, 56, 57, 42, 35]⟩ : ByteArray) = cutD := rfl
    by_cases h1 : s.size ≤ 20
    · have e1 : ((s.size : Int) ≤ 20) = True := by apply eq_true; omega
      simp (config := { maxSteps := 2000000 }) only [go_sem, hG, hP, Nat.reduceEqDiff, ↓reduceIte, reduceCtorEq, Nat.reduceAdd, Nat.reduceSub, Nat.reduceMul, Nat.reduceLT, Nat.reduceLeDiff, Int.reduceAdd, Int.reduceSub, Int.reduceMul, Int.reduceLT, Int.reduceLE, Int.reduceEq, Int.reduceNeg, Int.reduceNe, Int.reduceGE, Int.reduceGT, Nat.reduceBEq, Int.reduceToNat,  spTrim_f, spTrim_t, spTrim_k, e1, hc]
      (try simp (disch := omega) only [wrap_id])
      repeat (refine And.intro (by first | omega | (simp; done) | (simp; omega) | (unfold appRoom; omega)) ?_)
      refine ⟨_, _, _, ?_, h⟩
      simp (config := { maxSteps := 2000000 }) only [go_sem, hG, hP, Nat.reduceEqDiff, ↓reduceIte, reduceCtorEq, Nat.reduceAdd, Nat.reduceSub, Nat.reduceMul, Nat.reduceLT, Nat.reduceLeDiff, Int.reduceAdd, Int.reduceSub, Int.reduceMul, Int.reduceLT, Int.reduceLE, Int.reduceEq, Int.reduceNeg, Int.reduceNe, Int.reduceGE, Int.reduceGT, Nat.reduceBEq, Int.reduceToNat]
      all_goals (congr 1; rw [decide_eq_decide, trim_nil]; exact ⟨fun e => ⟨h1, e⟩, fun e => e.2⟩)
    · have e1 : ((s.size : Int) ≤ 20) = False := by apply eq_false; omega
      rw [decide_eq_false (fun e => h1 e.1)] at h
      simp (config := { maxSteps := 2000000 }) only [go_sem, hG, hP, Nat.reduceEqDiff, ↓reduceIte, reduceCtorEq, Nat.reduceAdd, Nat.reduceSub, Nat.reduceMul, Nat.reduceLT, Nat.reduceLeDiff, Int.reduceAdd, Int.reduceSub, Int.reduceMul, Int.reduceLT, Int.reduceLE, Int.reduceEq, Int.reduceNeg, Int.reduceNe, Int.reduceGE, Int.reduceGT, Nat.reduceBEq, Int.reduceToNat,  spTrim_f, spTrim_t, spTrim_k, e1, hc]
      refine ⟨_, _, _, ?_, h⟩
      simp (config := { maxSteps := 2000000 }) only [go_sem, hG, hP, Nat.reduceEqDiff, ↓reduceIte, reduceCtorEq, Nat.reduceAdd, Nat.reduceSub, Nat.reduceMul, Nat.reduceLT, Nat.reduceLeDiff, Int.reduceAdd, Int.reduceSub, Int.reduceMul, Int.reduceLT, Int.reduceLE, Int.reduceEq, Int.reduceNeg, Int.reduceNe, Int.reduceGE, Int.reduceGT, Nat.reduceBEq, Int.reduceToNat]
  · exact h.elim
end Go.Proofs.YthghcialeghgoaaDoorE

/-! The code of a function, in the engine's words. -/
namespace Go.Proofs.YthghcialeghgoaaDoorE
open Go Go.RowKit
@[reducible] def ic13 : IC := (.seq (.ops [⟨some 2, .mov (.const (.bool false)), none⟩]) (.seq (.seq (.ops [⟨some 6, .mov (.tmp 0), none⟩, ⟨some 7, .len (.tmp 6), none⟩, ⟨some 8, .bin .gtr (.tmp 7) (.const (.int .i64 60)), none⟩]) (.cond (.tmp 8) (.seq (.ops [⟨some 2, .mov (.const (.bool false)), none⟩]) .ret) .skip)) (.seq (.ops [⟨some 9, .mmk .str false, none⟩, ⟨some 3, .mov (.tmp 9), none⟩]) (.seq (.seq (.ops [⟨some 10, .mov (.tmp 0), none⟩, ⟨some 11, .len (.tmp 10), none⟩, ⟨some 12, .mov (.const (.int .i64 0)), none⟩]) (.block 0 (.loop (.seq (.ops [⟨some 13, .bin .lss (.tmp 12) (.tmp 11), none⟩]) (.seq (.cond (.tmp 13) .skip (.exit 0)) (.seq (.block 1 (.seq (.ops [⟨some 14, .iadr 6 (.tmp 10) (.tmp 12), none⟩, ⟨some 15, .load 6 true (.tmp 14), none⟩, ⟨some 5, .new [(.string ⟨#[]⟩), (.int .i64 0), (.int .i64 0), (.int .i64 0), (.int .i64 0), (.string ⟨#[]⟩)], none⟩, ⟨none, .store 6 (.tmp 5) (.tmp 15), none⟩]) (.seq (.seq (.ops [⟨some 16, .fadr 0 (.tmp 5), none⟩, ⟨some 17, .load 1 false (.tmp 16), none⟩, ⟨some 18, .call 36 [(.tmp 17)], none⟩, ⟨some 19, .una .not (.tmp 18), none⟩, ⟨some 20, .mov (.tmp 19), none⟩, ⟨some 21, .fadr 0 (.tmp 5), some (20, false)⟩, ⟨some 22, .load 1 false (.tmp 21), some (20, false)⟩, ⟨some 23, .bin .eql (.tmp 22) (.const (.string ⟨#[]⟩)), some (20, false)⟩, ⟨some 24, .pick (.tmp 20) (.const (.bool true)) (.tmp 23), none⟩, ⟨some 25, .mov (.tmp 24), none⟩, ⟨some 26, .mov (.tmp 3), some (25, false)⟩, ⟨some 27, .fadr 0 (.tmp 5), some (25, false)⟩, ⟨some 28, .load 1 false (.tmp 27), some (25, false)⟩, ⟨some 29, .mget .str false false (.tmp 26) (.tmp 28), some (25, false)⟩, ⟨some 30, .pick (.tmp 25) (.const (.bool true)) (.tmp 29), none⟩, ⟨some 31, .mov (.tmp 30), none⟩, ⟨some 32, .fadr 1 (.tmp 5), some (31, false)⟩, ⟨some 33, .load 1 false (.tmp 32), some (31, false)⟩, ⟨some 34, .fadr 0 (.tmp 5), some (31, false)⟩, ⟨some 35, .load 1 false (.tmp 34), some (31, false)⟩, ⟨some 36, .slen (.tmp 35), some (31, false)⟩, ⟨some 37, .bin .lss (.tmp 33) (.tmp 36), some (31, false)⟩, ⟨some 38, .pick (.tmp 31) (.const (.bool true)) (.tmp 37), none⟩, ⟨some 39, .mov (.tmp 38), none⟩, ⟨some 40, .fadr 1 (.tmp 5), some (39, false)⟩, ⟨some 41, .load 1 false (.tmp 40), some (39, false)⟩, ⟨some 42, .fadr 2 (.tmp 5), some (39, false)⟩, ⟨some 43, .load 1 false (.tmp 42), some (39, false)⟩, ⟨some 44, .bin .gtr (.tmp 41) (.tmp 43), some (39, false)⟩, ⟨some 45, .pick (.tmp 39) (.const (.bool true)) (.tmp 44), none⟩, ⟨some 46, .mov (.tmp 45), none⟩, ⟨some 47, .fadr 2 (.tmp 5), some (46, false)⟩, ⟨some 48, .load 1 false (.tmp 47), some (46, false)⟩, ⟨some 49, .bin .gtr (.tmp 48) (.const (.int .i64 20)), some (46, false)⟩, ⟨some 50, .pick (.tmp 46) (.const (.bool true)) (.tmp 49), none⟩, ⟨some 51, .mov (.tmp 50), none⟩, ⟨some 52, .fadr 3 (.tmp 5), some (51, false)⟩, ⟨some 53, .load 1 false (.tmp 52), some (51, false)⟩, ⟨some 54, .call 37 [(.tmp 53), (.const (.int .i64 0)), (.const (.int .i64 1000))], some (51, false)⟩, ⟨some 55, .una .not (.tmp 54), some (51, false)⟩, ⟨some 56, .pick (.tmp 51) (.const (.bool true)) (.tmp 55), none⟩, ⟨some 57, .mov (.tmp 56), none⟩, ⟨some 58, .fadr 4 (.tmp 5), some (57, false)⟩, ⟨some 59, .load 1 false (.tmp 58), some (57, false)⟩, ⟨some 60, .fadr 1 (.tmp 5), some (57, false)⟩, ⟨some 61, .load 1 false (.tmp 60), some (57, false)⟩, ⟨some 62, .call 37 [(.tmp 59), (.const (.int .i64 0)), (.tmp 61)], some (57, false)⟩, ⟨some 63, .una .not (.tmp 62), some (57, false)⟩, ⟨some 64, .pick (.tmp 57) (.const (.bool true)) (.tmp 63), none⟩, ⟨some 65, .mov (.tmp 64), none⟩, ⟨some 66, .fadr 5 (.tmp 5), some (65, false)⟩, ⟨some 67, .load 1 false (.tmp 66), some (65, false)⟩, ⟨some 68, .call 36 [(.tmp 67)], some (65, false)⟩, ⟨some 69, .una .not (.tmp 68), some (65, false)⟩, ⟨some 70, .pick (.tmp 65) (.const (.bool true)) (.tmp 69), none⟩, ⟨some 71, .mov (.tmp 70), none⟩, ⟨some 72, .fadr 5 (.tmp 5), some (71, false)⟩, ⟨some 73, .load 1 false (.tmp 72), some (71, false)⟩, ⟨some 74, .slen (.tmp 73), some (71, false)⟩, ⟨some 75, .fadr 2 (.tmp 5), some (71, false)⟩, ⟨some 76, .load 1 false (.tmp 75), some (71, false)⟩, ⟨some 77, .bin .add (.tmp 74) (.tmp 76), some (71, false)⟩, ⟨some 78, .fadr 4 (.tmp 5), some (71, false)⟩, ⟨some 79, .load 1 false (.tmp 78), some (71, false)⟩, ⟨some 80, .bin .sub (.tmp 77) (.tmp 79), some (71, false)⟩, ⟨some 81, .bin .gtr (.tmp 80) (.const (.int .i64 20)), some (71, false)⟩, ⟨some 82, .pick (.tmp 71) (.const (.bool true)) (.tmp 81), none⟩]) (.cond (.tmp 82) (.seq (.ops [⟨some 2, .mov (.const (.bool false)), none⟩]) .ret) .skip)) (.ops [⟨some 83, .mov (.tmp 3), none⟩, ⟨some 84, .fadr 0 (.tmp 5), none⟩, ⟨some 85, .load 1 false (.tmp 84), none⟩, ⟨none, .mput .str false (.tmp 83) (.tmp 85) (.const (.bool true)), none⟩])))) (.ops [⟨some 86, .bin .add (.tmp 12) (.const (.int .i64 1)), none⟩, ⟨some 12, .mov (.tmp 86), none⟩]))))))) (.seq (.ops [⟨some 2, .mov (.const (.bool true)), none⟩]) .ret)))))
@[reducible] def rv13 : List RV := [.tmp 2]
theorem low13 : lowC Tryd.prog tau Tryd.f13.ntmps (Tryd.f13.body.getD .skip) = some (erase ic13) := by kernel_rfl
theorem res13 : lowR Tryd.prog Tryd.f13.results.toList = some rv13 := by kernel_rfl
theorem bod13 : Tryd.f13.body = some (Tryd.f13.body.getD .skip) := by kernel_rfl
theorem cal13 : callable Tryd.prog 13 = true := by kernel_rfl

end Go.Proofs.YthghcialeghgoaaDoorE

/-! The program's RulesOk. -/
namespace Go.Proofs.YthghcialeghgoaaDoorE
open Go Go.RowKit
set_option linter.unusedSimpArgs false
set_option linter.unusedVariables false
set_option maxRecDepth 20000
set_option maxHeartbeats 4000000

def esR (l : List Rul) : Nat → List (Key × ByteArray)
  | 0 => []
  | i + 1 => (.s (l.getD i Rulz).pre, ⟨#[]⟩) :: esR l i
theorem esR_has (l : List Rul) (p : ByteArray) : ∀ i, hasM (esR l i) (.s p) = true ↔ ∃ j, j < i ∧ (l.getD j Rulz).pre = p
  | 0 => by simp [esR, hasM, getM]
  | i + 1 => by
    have ih := esR_has l p i
    unfold hasM at ih ⊢
    rw [esR, getM]
    by_cases e : (Key.s (l.getD i Rulz).pre) = Key.s p
    · rw [if_pos e]
      simp only [Option.isSome_some, true_iff]
      exact ⟨i, by omega, by injection e⟩
    · rw [if_neg e, ih]
      constructor
      · rintro ⟨j, hj, h⟩; exact ⟨j, by omega, h⟩
      · rintro ⟨j, hj, h⟩
        by_cases e2 : j = i
        · subst e2; exact absurd (by rw [h]) e
        · exact ⟨j, by omega, h⟩
theorem size_pos {a : ByteArray} (h : ¬ a = ⟨#[]⟩) : 0 < a.size := by
  rcases Nat.eq_zero_or_pos a.size with e | e
  · exfalso; apply h
    have h2 : a.data.size = 0 := e
    have : a.data = #[] := Array.eq_empty_of_size_eq_zero h2
    cases a; simp_all
  · exact e
theorem valid13 : Valid Tryd.prog 13 spRulesOk := by
  refine validI (Γ := lk [(36, spDigitsOk), (37, spIn)]) Tryd.func13 bod13 low13 res13 (good_of ⟨⟨cal36, valid36⟩, ⟨cal37, valid37⟩, trivial⟩) ?_
  intro E args objs K h hE hG hP
  simp only [spRulesOk] at h
  split at h
  · refine ⟨by simp [Tryd.ntmps13], ?_⟩
    rename_i l
    obtain ⟨⟨hs, hl⟩, h⟩ := h
    by_cases hz : 60 < l.length
    · have e1 : ((l.length : Int) > 60) = True := by apply eq_true; omega
      rw [decide_eq_false (show ¬ rulesP l from fun q => by have := q.2; omega)] at h
      simp (config := { maxSteps := 2000000 }) only [go_sem, hG, hP, Nat.reduceEqDiff, ↓reduceIte, reduceCtorEq, Nat.reduceAdd, Nat.reduceSub, Nat.reduceMul, Nat.reduceLT, Nat.reduceLeDiff, Int.reduceAdd, Int.reduceSub, Int.reduceMul, Int.reduceLT, Int.reduceLE, Int.reduceEq, Int.reduceNeg, Int.reduceNe, Int.reduceGE, Int.reduceGT, Nat.reduceBEq, Int.reduceToNat,  e1]
      refine ⟨_, _, _, ?_, h⟩
      simp (config := { maxSteps := 2000000 }) only [go_sem, hG, hP, Nat.reduceEqDiff, ↓reduceIte, reduceCtorEq, Nat.reduceAdd, Nat.reduceSub, Nat.reduceMul, Nat.reduceLT, Nat.reduceLeDiff, Int.reduceAdd, Int.reduceSub, Int.reduceMul, Int.reduceLT, Int.reduceLE, Int.reduceEq, Int.reduceNeg, Int.reduceNe, Int.reduceGE, Int.reduceGT, Nat.reduceBEq, Int.reduceToNat]
    · have e1 : ((l.length : Int) > 60) = False := by apply eq_false; omega
      simp (config := { maxSteps := 2000000 }) only [go_sem, hG, hP, Nat.reduceEqDiff, ↓reduceIte, reduceCtorEq, Nat.reduceAdd, Nat.reduceSub, Nat.reduceMul, Nat.reduceLT, Nat.reduceLeDiff, Int.reduceAdd, Int.reduceSub, Int.reduceMul, Int.reduceLT, Int.reduceLE, Int.reduceEq, Int.reduceNeg, Int.reduceNe, Int.reduceGE, Int.reduceGT, Nat.reduceBEq, Int.reduceToNat,  e1]
      refine loopI hE (fun i : Nat => ⟨[(3, .mp 0), (10, .rs .rule l), (11, .v (.int .i64 l.length)), (12, .v (.int .i64 i))], [(0, .set .str false (esR l i))], 1, Tryd.f13.ntmps⟩) (fun i => i ≤ l.length ∧ ∀ j, j < i → ruleP (l.getD j Rulz) ∧ ∀ k, k < j → (l.getD k Rulz).pre ≠ (l.getD j Rulz).pre) (fun i => l.length - i) ⟨0, ⟨Nat.zero_le _, fun j hj => by omega⟩, SubS.weak ?_⟩ ?_
      · simp (config := { maxSteps := 2000000 }) only [go_sem, hG, hP, Nat.reduceEqDiff, ↓reduceIte, reduceCtorEq, Nat.reduceAdd, Nat.reduceSub, Nat.reduceMul, Nat.reduceLT, Nat.reduceLeDiff, Int.reduceAdd, Int.reduceSub, Int.reduceMul, Int.reduceLT, Int.reduceLE, Int.reduceEq, Int.reduceNeg, Int.reduceNe, Int.reduceGE, Int.reduceGT, Nat.reduceBEq, Int.reduceToNat,  esR]
        repeat' (first | with_reducible rfl | (refine And.intro ?_ ?_) | (refine congrArg (Value.int _) ?_; omega) | omega)
      · rintro i ⟨hi, hpre⟩
        dsimp only at hi hpre ⊢
        by_cases hi2 : i < l.length
        · have e2 : ((i : Int) < l.length) = True := by apply eq_true; omega
          obtain ⟨z1, z2⟩ := hs i hi2
          have hes := esR_has l (l.getD i Rulz).pre i
          have hnx : esR l (i + 1) = (.s (l.getD i Rulz).pre, ⟨#[]⟩) :: esR l i := rfl
          have hbadl : (¬ ruleP (l.getD i Rulz) ∨ hasM (esR l i) (.s (l.getD i Rulz).pre) = true) → ¬ rulesP l := fun e q => by
            obtain ⟨q1, q2⟩ := q.1 i hi2
            rcases e with e | e
            · exact e q1
            · obtain ⟨j, hj, hj2⟩ := hes.1 e
              exact q2 j hj hj2
          have hgood : ruleP (l.getD i Rulz) → hasM (esR l i) (.s (l.getD i Rulz).pre) = false → ∀ j, j < i + 1 → ruleP (l.getD j Rulz) ∧ ∀ k, k < j → (l.getD k Rulz).pre ≠ (l.getD j Rulz).pre := fun q1 q2 j hj => by
            by_cases e : j < i
            · exact hpre j e
            · obtain rfl : j = i := by omega
              refine ⟨q1, fun k hk hk2 => ?_⟩
              rw [hes.2 ⟨k, hk, hk2⟩] at q2
              cases q2
          have hcc : l.getD i Rulz = l.getD i (⟨⟨#[]⟩, 0, 0, 0, 0, ⟨#[]⟩⟩ : Rul) := rfl
          rw [hcc] at hbadl hgood z1 z2 hnx
          generalize hcd : l.getD i (⟨⟨#[]⟩, 0, 0, 0, 0, ⟨#[]⟩⟩ : Rul) = c at hbadl hgood z1 z2 hnx
          obtain ⟨a0, a1, a2, a3, a4, a5⟩ := c
          dsimp only at hbadl hgood z1 z2 hnx
          have sp := @size_pos a0
          by_cases hA : digsP a0 ∧ 0 < a0.size ∧ hasM (esR l i) (.s a0) = false ∧ (a0.size : Int) ≤ a1 ∧ a1 ≤ a2 ∧ a2 ≤ 20 ∧ (0 ≤ a3 ∧ a3 ≤ 1000) ∧ (0 ≤ a4 ∧ a4 ≤ a1) ∧ digsP a5
          · obtain ⟨q1, q2, q3, q4, q5, q6, q7, q8, q9⟩ := hA
            have f1 := eq_true q1
            have f2 : (a0 = ⟨#[]⟩) = False := eq_false (fun e => by rw [e] at q2; exact absurd q2 (by decide))
            have f3 : (a1 < (a0.size : Int)) = False := eq_false (by omega)
            have f4 : (a1 > a2) = False := eq_false (by omega)
            have f5 : (a2 > 20) = False := eq_false (by omega)
            have f6 := eq_true q7
            have f7 := eq_true q8
            have f8 := eq_true q9
            have hz5 := q9.1
            have w1 : wr .i64 ((a5.size : Int) + a2) = (a5.size : Int) + a2 := wrap_id (by omega) (by omega)
            have w2 : wr .i64 ((a5.size : Int) + a2 - a4) = (a5.size : Int) + a2 - a4 := wrap_id (by omega) (by omega)
            by_cases hB : (a5.size : Int) + a2 - a4 ≤ 20
            · have f9 : ((a5.size : Int) + a2 - a4 > 20) = False := eq_false (by omega)
              have hr : ruleP ⟨a0, a1, a2, a3, a4, a5⟩ := ⟨q1, q2, q4, q5, q6, q7, q8, q9, hB⟩
              simp (config := { maxSteps := 2000000 }) only [go_sem, hG, hP, Nat.reduceEqDiff, ↓reduceIte, reduceCtorEq, Nat.reduceAdd, Nat.reduceSub, Nat.reduceMul, Nat.reduceLT, Nat.reduceLeDiff, Int.reduceAdd, Int.reduceSub, Int.reduceMul, Int.reduceLT, Int.reduceLE, Int.reduceEq, Int.reduceNeg, Int.reduceNe, Int.reduceGE, Int.reduceGT, Nat.reduceBEq, Int.reduceToNat,  e2, hcd, spDigitsOk_f, spDigitsOk_t, spDigitsOk_k, spIn_f, spIn_t, spIn_k, z1, z2, f1, f2, q3, f3, f4, f5, f6, f7, f8, w1, w2, f9]
              (try simp (disch := omega) only [wrap_id])
              repeat' (first | (refine And.intro ?_ ?_) | (with_reducible intro _))
              all_goals first
                | omega
                | (refine ⟨i + 1, ⟨⟨by omega, hgood hr q3⟩, by omega⟩, SubS.weak ?_⟩
                   simp (config := { maxSteps := 2000000 }) only [go_sem, hG, hP, Nat.reduceEqDiff, ↓reduceIte, reduceCtorEq, Nat.reduceAdd, Nat.reduceSub, Nat.reduceMul, Nat.reduceLT, Nat.reduceLeDiff, Int.reduceAdd, Int.reduceSub, Int.reduceMul, Int.reduceLT, Int.reduceLE, Int.reduceEq, Int.reduceNeg, Int.reduceNe, Int.reduceGE, Int.reduceGT, Nat.reduceBEq, Int.reduceToNat,  hnx]
                   repeat' (first | with_reducible rfl | (refine And.intro ?_ ?_) | (refine congrArg (Value.int _) ?_; omega) | omega))
            · have f9 : ((a5.size : Int) + a2 - a4 > 20) = True := eq_true (by omega)
              have hn := hbadl (.inl fun q => hB q.2.2.2.2.2.2.2.2)
              rw [decide_eq_false hn] at h
              simp (config := { maxSteps := 2000000 }) only [go_sem, hG, hP, Nat.reduceEqDiff, ↓reduceIte, reduceCtorEq, Nat.reduceAdd, Nat.reduceSub, Nat.reduceMul, Nat.reduceLT, Nat.reduceLeDiff, Int.reduceAdd, Int.reduceSub, Int.reduceMul, Int.reduceLT, Int.reduceLE, Int.reduceEq, Int.reduceNeg, Int.reduceNe, Int.reduceGE, Int.reduceGT, Nat.reduceBEq, Int.reduceToNat,  e2, hcd, spDigitsOk_f, spDigitsOk_t, spDigitsOk_k, spIn_f, spIn_t, spIn_k, z1, z2, f1, f2, q3, f3, f4, f5, f6, f7, f8, w1, w2, f9]
              (try simp (disch := omega) only [wrap_id])
              repeat' (first | (refine And.intro ?_ ?_) | (with_reducible intro _))
              all_goals first
                | omega
                | (refine ⟨_, _, _, ?_, h⟩; simp (config := { maxSteps := 2000000 }) only [go_sem, hG, hP, Nat.reduceEqDiff, ↓reduceIte, reduceCtorEq, Nat.reduceAdd, Nat.reduceSub, Nat.reduceMul, Nat.reduceLT, Nat.reduceLeDiff, Int.reduceAdd, Int.reduceSub, Int.reduceMul, Int.reduceLT, Int.reduceLE, Int.reduceEq, Int.reduceNeg, Int.reduceNe, Int.reduceGE, Int.reduceGT, Nat.reduceBEq, Int.reduceToNat]; done)
          · have hn : ¬ rulesP l := by
              apply hbadl
              by_cases e : hasM (esR l i) (.s a0) = true
              · exact .inr e
              · refine .inl fun q => hA ?_
                obtain ⟨q1, q2, q4, q5, q6, q7, q8, q9, _⟩ := q
                exact ⟨q1, q2, by simpa using e, q4, q5, q6, q7, q8, q9⟩
            rw [decide_eq_false hn] at h
            simp (config := { maxSteps := 2000000 }) only [go_sem, hG, hP, Nat.reduceEqDiff, ↓reduceIte, reduceCtorEq, Nat.reduceAdd, Nat.reduceSub, Nat.reduceMul, Nat.reduceLT, Nat.reduceLeDiff, Int.reduceAdd, Int.reduceSub, Int.reduceMul, Int.reduceLT, Int.reduceLE, Int.reduceEq, Int.reduceNeg, Int.reduceNe, Int.reduceGE, Int.reduceGT, Nat.reduceBEq, Int.reduceToNat,  e2, hcd, spDigitsOk_f, spDigitsOk_t, spDigitsOk_k, spIn_f, spIn_t, spIn_k, z1, z2]
            repeat' (first | (refine And.intro ?_ ?_) | (with_reducible intro _))
            all_goals first
              | omega
              | (refine ⟨_, _, _, ?_, h⟩; simp (config := { maxSteps := 2000000 }) only [go_sem, hG, hP, Nat.reduceEqDiff, ↓reduceIte, reduceCtorEq, Nat.reduceAdd, Nat.reduceSub, Nat.reduceMul, Nat.reduceLT, Nat.reduceLeDiff, Int.reduceAdd, Int.reduceSub, Int.reduceMul, Int.reduceLT, Int.reduceLE, Int.reduceEq, Int.reduceNeg, Int.reduceNe, Int.reduceGE, Int.reduceGT, Nat.reduceBEq, Int.reduceToNat]; done)
              | (exfalso; apply hA; refine ⟨?_, sp (by assumption), ?_, by omega, by omega, by omega, by omega, by omega, ?_⟩ <;> first | assumption | (simp_all; done) | exact ⟨by assumption, by assumption⟩)
              | skip
            skip
            done
        · have e2 : ((i : Int) < l.length) = False := by apply eq_false; omega
          rw [decide_eq_true (show rulesP l from ⟨fun j hj => hpre j (by omega), by omega⟩)] at h
          simp (config := { maxSteps := 2000000 }) only [go_sem, hG, hP, Nat.reduceEqDiff, ↓reduceIte, reduceCtorEq, Nat.reduceAdd, Nat.reduceSub, Nat.reduceMul, Nat.reduceLT, Nat.reduceLeDiff, Int.reduceAdd, Int.reduceSub, Int.reduceMul, Int.reduceLT, Int.reduceLE, Int.reduceEq, Int.reduceNeg, Int.reduceNe, Int.reduceGE, Int.reduceGT, Nat.reduceBEq, Int.reduceToNat,  e2]
          refine ⟨_, _, _, ?_, h⟩
          simp (config := { maxSteps := 2000000 }) only [go_sem, hG, hP, Nat.reduceEqDiff, ↓reduceIte, reduceCtorEq, Nat.reduceAdd, Nat.reduceSub, Nat.reduceMul, Nat.reduceLT, Nat.reduceLeDiff, Int.reduceAdd, Int.reduceSub, Int.reduceMul, Int.reduceLT, Int.reduceLE, Int.reduceEq, Int.reduceNeg, Int.reduceNe, Int.reduceGE, Int.reduceGT, Nat.reduceBEq, Int.reduceToNat]
  · exact h.elim
end Go.Proofs.YthghcialeghgoaaDoorE

/-! The code of a function, in the engine's words. -/
namespace Go.Proofs.YthghcialeghgoaaDoorE
open Go Go.RowKit
@[reducible] def ic3 : IC := (.seq (.ops [⟨some 2, .mov (.const (.bool false)), none⟩]) (.seq (.ops [⟨some 3, .mov (.const (.int .i64 1048576)), none⟩]) (.seq (.ops [⟨some 7, .mov (.tmp 0), none⟩, ⟨some 8, .mov (.tmp 3), none⟩, ⟨some 9, .call 10 [(.tmp 7), (.tmp 8)], none⟩, ⟨some 3, .mov (.tmp 9), none⟩]) (.seq (.seq (.ops [⟨some 10, .mov (.tmp 3), none⟩, ⟨some 11, .bin .lss (.tmp 10) (.const (.int .i64 0)), none⟩]) (.cond (.tmp 11) (.seq (.ops [⟨some 2, .mov (.const (.bool true)), none⟩]) .ret) .skip)) (.seq (.ops [⟨some 12, .mov (.tmp 0), none⟩, ⟨some 13, .call 12 [(.tmp 12)], none⟩, ⟨some 14, .call 11 [(.tmp 13)], none⟩, ⟨some 4, .mov (.tmp 14), none⟩]) (.seq (.ops [⟨some 15, .mov (.tmp 0), none⟩, ⟨some 16, .call 12 [(.tmp 15)], none⟩, ⟨some 5, .mov (.tmp 16), none⟩]) (.seq (.ops [⟨some 17, .mov (.tmp 5), none⟩, ⟨some 18, .call 13 [(.tmp 17)], none⟩, ⟨some 6, .mov (.tmp 18), none⟩]) (.seq (.seq (.ops [⟨some 19, .mov (.tmp 6), none⟩, ⟨some 20, .mov (.tmp 4), none⟩, ⟨some 21, .beq true (.tmp 19) (.tmp 20), none⟩]) (.cond (.tmp 21) (.seq (.ops [⟨some 2, .mov (.const (.bool false)), none⟩]) .ret) .skip)) (.seq (.seq (.ops [⟨some 22, .mov (.tmp 5), none⟩, ⟨some 23, .mov (.tmp 0), none⟩, ⟨some 24, .call 12 [(.tmp 23)], none⟩, ⟨some 25, .call 14 [(.tmp 22), (.tmp 24)], none⟩, ⟨some 26, .una .not (.tmp 25), none⟩]) (.cond (.tmp 26) (.seq (.ops [⟨some 2, .mov (.const (.bool false)), none⟩]) .ret) .skip)) (.seq (.ops [⟨some 2, .mov (.const (.bool true)), none⟩]) .ret))))))))))
@[reducible] def rv3 : List RV := [.tmp 2]
theorem low3 : lowC Tryd.prog tau Tryd.f3.ntmps (Tryd.f3.body.getD .skip) = some (erase ic3) := by kernel_rfl
theorem res3 : lowR Tryd.prog Tryd.f3.results.toList = some rv3 := by kernel_rfl
theorem bod3 : Tryd.f3.body = some (Tryd.f3.body.getD .skip) := by kernel_rfl
theorem cal3 : callable Tryd.prog 3 = true := by kernel_rfl

end Go.Proofs.YthghcialeghgoaaDoorE

/-! The law of RulesOk. -/
namespace Go.Proofs.YthghcialeghgoaaDoorE
open Go Go.RowKit
set_option linter.unusedSimpArgs false
set_option linter.unusedVariables false
set_option maxRecDepth 20000
set_option maxHeartbeats 4000000

theorem bb_self {b : Bool} : (b == b) = true := by simp
def spLaw3 : Spec := ⟨fun _ _ => [], fun args objs K => match args, objs with
  | [.rs .rule l], [] => (szRulAll l 140737488351232 ∧ l.length ≤ 17592186044416) ∧ K (.v (.bool true)) [] 0
  | _, _ => False, false⟩
theorem spLaw3_t {L : Hp} {a : List AVal} : Spec.take spLaw3 L a = [] := id rfl
theorem spLaw3_k : Spec.keep spLaw3 = false := id rfl
theorem spLaw3_f {l} {K : AVal → Hp → Nat → Prop} : Spec.f spLaw3 ([.rs .rule l]) ([]) K = ((szRulAll l 140737488351232 ∧ l.length ≤ 17592186044416) ∧ K (.v (.bool true)) [] 0) := id rfl
theorem valid3 : Valid Tryd.prog 3 spLaw3 := by
  refine validI (Γ := lk [(10, spSzRulS), (11, spRulesOk), (12, spToRulS), (13, spRulesOk), (14, spEqRulS)]) Tryd.func3 bod3 low3 res3 (good_of ⟨⟨cal10, valid10⟩, ⟨cal11, valid11⟩, ⟨cal12, valid12⟩, ⟨cal13, valid13⟩, ⟨cal14, valid14⟩, trivial⟩) ?_
  intro E args objs K h hE hG hP
  simp only [spLaw3] at h
  split at h
  · refine ⟨by simp [Tryd.ntmps3], ?_⟩
    rename_i l
    obtain ⟨⟨hs, hl⟩, h⟩ := h
    have hst := eq_true hs
    simp (config := { maxSteps := 2000000 }) only [go_sem, hG, hP, Nat.reduceEqDiff, ↓reduceIte, reduceCtorEq, Nat.reduceAdd, Nat.reduceSub, Nat.reduceMul, Nat.reduceLT, Nat.reduceLeDiff, Int.reduceAdd, Int.reduceSub, Int.reduceMul, Int.reduceLT, Int.reduceLE, Int.reduceEq, Int.reduceNeg, Int.reduceNe, Int.reduceGE, Int.reduceGT, Nat.reduceBEq, Int.reduceToNat,  spSzRulS_f, spSzRulS_t, spSzRulS_k, spRulesOk_f, spRulesOk_t, spRulesOk_k, spToRulS_f, spToRulS_t, spToRulS_k, spEqRulS_f, spEqRulS_t, spEqRulS_k, hst, bb_self]
    (try simp (disch := omega) only [wrap_id])
    repeat (refine And.intro (by first | omega | (simp; done) | (simp; omega) | (unfold appRoom; omega)) ?_)
    intro r hr
    refine ⟨fun _ => ⟨_, _, _, ?_, h⟩, fun hn => ?_⟩
    · simp (config := { maxSteps := 2000000 }) only [go_sem, hG, hP, Nat.reduceEqDiff, ↓reduceIte, reduceCtorEq, Nat.reduceAdd, Nat.reduceSub, Nat.reduceMul, Nat.reduceLT, Nat.reduceLeDiff, Int.reduceAdd, Int.reduceSub, Int.reduceMul, Int.reduceLT, Int.reduceLE, Int.reduceEq, Int.reduceNeg, Int.reduceNe, Int.reduceGE, Int.reduceGT, Nat.reduceBEq, Int.reduceToNat]
    repeat' (first | (refine And.intro ?_ ?_) | (with_reducible intro _))
    all_goals first
      | omega
      | (refine ⟨_, _, _, ?_, h⟩; simp (config := { maxSteps := 2000000 }) only [go_sem, hG, hP, Nat.reduceEqDiff, ↓reduceIte, reduceCtorEq, Nat.reduceAdd, Nat.reduceSub, Nat.reduceMul, Nat.reduceLT, Nat.reduceLeDiff, Int.reduceAdd, Int.reduceSub, Int.reduceMul, Int.reduceLT, Int.reduceLE, Int.reduceEq, Int.reduceNeg, Int.reduceNe, Int.reduceGE, Int.reduceGT, Nat.reduceBEq, Int.reduceToNat]; done)
      | (exfalso; simp_all; done)
  · exact h.elim
end Go.Proofs.YthghcialeghgoaaDoorE

/-! What an argument of a law reads as, in the engine's words; and what a proved function gives a law. -/
namespace Go.Proofs.YthghcialeghgoaaDoorE
open Go Go.RowKit Go.ChangeShapes Go.WideShapes
set_option linter.unusedSimpArgs false
set_option linter.unusedVariables false

def nm0 : Nm := fun _ => none
def noC : CR := ⟨fun _ => False, fun _ => False, fun _ h => h⟩
/-- What type t's data read as, by d; ok: what is known of it. -/
def Tells (P : Program) (t : TypeId) {α : Type} (n : Nat) (d : α → List AVal) (ok : α → Prop) : Prop :=
  ∀ (H : Type) (enc : TypeId × Value → H) (W : World) (base : Nat) (spare : Nat → Bool) (held : Bool) (fuel : Nat) (cs : List Value) (x : DataW H × List MemPlace),
    DataW.trod enc P W base spare held fuel t cs = some x → (∀ b ∈ x.1.weights P t, b ≤ reachBytes) → ∃ y : α, (DenL W noC nm0 (d y) cs ∧ cs.length = n) ∧ ok y
def TellsF (P : Program) (fs : List Field) (off : Nat) {α : Type} (n : Nat) (d : α → List AVal) (ok : α → Prop) : Prop :=
  ∀ (H : Type) (enc : TypeId × Value → H) (W : World) (base : Nat) (spare : Nat → Bool) (held : Bool) (fuel : Nat) (cs : List Value) (xs : List (DataW H × List MemPlace)),
    (∀ (i : Nat) (f : Field), fs[i]? = some f → DataW.trod enc P W base spare held fuel f.type ((cs.drop f.offset).take (P.cellsOf f.type)) = xs[i]?) → xs.length = fs.length → cs.length = off + n →
    (∀ (i : Nat) (f : Field) x, fs[i]? = some f → xs[i]? = some x → ∀ b ∈ x.1.weights P f.type, b ≤ reachBytes) → ∃ y : α, (DenL W noC nm0 (d y) (cs.drop off)) ∧ ok y

theorem den1 {W : World} (v : Value) : DenL W noC nm0 [.v v] [v] := DenL.cons (.v v) .nil
theorem Tells.int {P : Program} {t : TypeId} {k : IntKind} (ht : P.underlying t = some (.int k)) : Tells P t 1 (fun n : Int => [.v (.int k n)]) (fun n => (Lit.int k n).wf = true) := by
  intro H enc W base spare held fuel cs x h _
  cases fuel with
  | zero => simp [DataW.trod] at h
  | succ m =>
    unfold DataW.trod at h
    rw [ht] at h
    split at h <;> simp_all
    obtain ⟨⟨_, h1⟩, _⟩ := h
    exact ⟨_, den1 _, h1⟩
theorem Tells.bool {P : Program} {t : TypeId} (ht : P.underlying t = some .bool) : Tells P t 1 (fun b : Bool => [.v (.bool b)]) (fun _ => True) := by
  intro H enc W base spare held fuel cs x h _
  cases fuel with
  | zero => simp [DataW.trod] at h
  | succ m =>
    unfold DataW.trod at h
    rw [ht] at h
    split at h <;> simp_all
    rename_i b
    cases b
    · exact .inl (den1 _)
    · exact .inr (den1 _)
theorem Tells.string {P : Program} {t : TypeId} (ht : P.underlying t = some .string) : Tells P t 1 (fun s : ByteArray => [.v (.string s)]) (fun s => s.size ≤ 140737488351232) := by
  intro H enc W base spare held fuel cs x h hw
  cases fuel with
  | zero => simp [DataW.trod] at h
  | succ m =>
    unfold DataW.trod at h
    rw [ht] at h
    split at h <;> simp_all
    obtain ⟨_, h2⟩ := h
    subst h2
    refine ⟨_, den1 _, ?_⟩
    have := hw _ (by simp only [DataW.weights]; exact List.mem_singleton.2 rfl)
    rw [Array.length_toList] at this
    exact this
theorem weights_all {H : Type} {P : Program} {e : TypeId} {ds : List (DataW H)} {d : DataW H} (hd : d ∈ ds) {b : Nat} (hb : b ∈ d.weights P e) : b ∈ DataW.weightsAll P e ds := by
  induction ds with
  | nil => cases hd
  | cons a r ih =>
    simp only [DataW.weightsAll, List.mem_append]
    rcases List.mem_cons.1 hd with rfl | hd
    · exact .inl hb
    · exact .inr (ih hd)
theorem Tells.slice {P : Program} {t e : TypeId} (ht : P.underlying t = some (.slice e)) {τ : Ty} {ok : τ.D → Prop} (he : Tells P e (sz τ) (enc τ) ok) (hs : P.cellsOf e = sz τ) {B : Nat} (hB : P.bytesOf e = B) :
    Tells P t 1 (fun xs : List τ.D => [.rs τ xs]) (fun xs => xs.length * B ≤ 140737488351232 ∧ xs.length ≤ maxLen ∧ ∀ x ∈ xs, ok x) := by
  intro H enc' W base spare held fuel cs x h hw
  rcases Go.Deep.open_slice ht h with ⟨rfl, rfl⟩ | ⟨a, len, cap, m, n, D, Pl, rfl, hb, hl, hm, hmm, rfl, hx⟩
  · exact ⟨[], ⟨DenL.cons (Den.rs (t := τ) (xs := []) (A := none) (c := 0) (fun _ => undef) (.inl (by simp)) (Nat.le_refl _) (fun i f x av hx => by simp at hx)) .nil, rfl⟩, by simp [maxLen]⟩
  · have hlm : len ≤ m := by rw [hmm]; split <;> omega
    have hel : ∀ i, i < len → ∃ y : τ.D, (∃ c, W.cells? base (a.add (i * P.cellsOf e)) (P.cellsOf e) = some c ∧ (DenL W noC nm0 (enc τ y) c ∧ c.length = sz τ)) ∧ ok y := by
      intro i hi
      obtain ⟨c, hc, hd⟩ := hx i (by omega)
      obtain ⟨y, hy, hok⟩ := he H enc' W base spare held n c _ hd (fun b hb => hw b (by
        simp only [DataW.weights, ht, List.mem_cons, List.mem_append]
        exact .inr (.inl (weights_all (List.mem_map.2 ⟨i, List.mem_range.2 hi, rfl⟩) hb))))
      exact ⟨y, ⟨c, hc, hy⟩, hok⟩
    have : Inhabited τ.D := ⟨dflt τ⟩
    obtain ⟨f, hf⟩ := Go.Deep.choose_lt hel
    have hlen : ((List.range len).map f).length = len := by simp
    have hcell : ∀ i, i < len → ∃ c, DenL W noC nm0 (enc τ (f i)) c ∧ c.length = sz τ ∧ ∀ j, j < sz τ → W.cell? (a.add (i * sz τ + j)) = c[j]? := by
      intro i hi
      obtain ⟨⟨c, hc, hd, hcl⟩, _⟩ := hf i hi
      refine ⟨c, hd, hcl, fun j hj => ?_⟩
      have hc' := World.cells?_some hc
      rw [hs] at hc'
      have := hc'.2.2 j hj
      rw [← this, Go.Deep.add_add]
    have hall : ∀ k, k < len * sz τ → ∃ u, W.cell? (a.add k) = some u := by
      intro k hk
      have hz := sz_pos τ
      have hi : k / sz τ < len := Nat.div_lt_of_lt_mul (by rw [Nat.mul_comm]; exact hk)
      have hj : k % sz τ < sz τ := Nat.mod_lt _ hz
      obtain ⟨c, _, hcl, hc⟩ := hcell _ hi
      refine ⟨c[k % sz τ]'(by omega), ?_⟩
      have := hc _ hj
      rw [show k / sz τ * sz τ + k % sz τ = k by rw [Nat.mul_comm]; exact Nat.div_add_mod k (sz τ)] at this
      rw [this, List.getElem?_eq_getElem]
    refine ⟨(List.range len).map f, ⟨DenL.cons ?_ .nil, rfl⟩, ?_, by rw [hlen]; exact Nat.le_trans hl hm, ?_⟩
    · have key : Den W noC nm0 (.rs τ ((List.range len).map f)) (.slice (some a) ((List.range len).map f).length cap) := by
        refine .rs (fun k => (W.cell? (a.add k)).getD undef) ?_ (by rw [hlen]; exact hl) ?_
        · rw [hlen]
          rcases Nat.eq_zero_or_pos (len * sz τ) with h0 | hp
          · exact .inl h0
          · obtain ⟨u, hu⟩ := hall 0 hp
            refine .inr ⟨a, rfl, ?_, fun h => h, fun k hk => ?_⟩
            · have := World.block_lt_of_cell? _ _ hu
              simpa [Addr.add] using this
            · obtain ⟨u, hu⟩ := hall k hk
              simp [hu]
        · intro i j x av hx hav
          have hi : i < len := by
            have := (List.getElem?_eq_some_iff.1 hx).1
            rwa [hlen] at this
          have hx' : f i = x := by simpa [hi] using hx
          subst hx'
          obtain ⟨c, hd, hcl, hc⟩ := hcell i hi
          have hj : j < sz τ := by
            have := (List.getElem?_eq_some_iff.1 hav).1
            rwa [enc_length] at this
          have := hc j hj
          rw [this, List.getElem?_eq_getElem (by omega)]
          exact hd.2 j av _ hav (List.getElem?_eq_getElem (by omega))
      rw [hlen] at key
      exact key
    · rw [hlen]
      have := hw ((((List.range len).map D).length + ((List.range (m - len)).map fun j => D (len + j)).length) * P.bytesOf e) (by simp only [DataW.weights, ht]; exact List.mem_cons_self)
      rw [hB] at this
      simp only [List.length_map, List.length_range] at this
      have h2 : len * B ≤ (len + (m - len)) * B := Nat.mul_le_mul_right _ (by omega)
      unfold reachBytes at this
      omega
    · intro y hy
      obtain ⟨i, hi, rfl⟩ := List.mem_map.1 hy
      exact (hf i (List.mem_range.1 hi)).2
theorem TellsF.one {P : Program} {f : Field} {off n : Nat} {α : Type} {d : α → List AVal} {ok : α → Prop} (h : Tells P f.type n d ok) (ho : f.offset = off) (hc : P.cellsOf f.type = n) : TellsF P [f] off n d ok := by
  intro H enc W base spare held fuel cs xs hx hl hcs hw
  match xs, hl with
  | [x], _ =>
    have h0 := hx 0 f rfl
    rw [ho, hc, List.take_of_length_le (by rw [List.length_drop]; omega)] at h0
    obtain ⟨y, hy, hok⟩ := h H enc W base spare held fuel _ x h0 (hw 0 f x rfl rfl)
    exact ⟨y, hy.1, hok⟩
theorem TellsF.cons {P : Program} {f : Field} {fs : List Field} {off n n' : Nat} {α β : Type} {d : α → List AVal} {d' : β → List AVal} {ok : α → Prop} {ok' : β → Prop} (h : Tells P f.type n d ok) (ho : f.offset = off) (hc : P.cellsOf f.type = n)
    (r : TellsF P fs (off + n) n' d' ok') : TellsF P (f :: fs) off (n + n') (fun x : α × β => d x.1 ++ d' x.2) (fun x => ok x.1 ∧ ok' x.2) := by
  intro H enc W base spare held fuel cs xs hx hl hcs hw
  match xs, hl with
  | x :: xs, hl =>
    have h0 := hx 0 f rfl
    rw [ho, hc] at h0
    obtain ⟨y, hy, hok⟩ := h H enc W base spare held fuel _ x h0 (hw 0 f x rfl rfl)
    obtain ⟨y', hy', hok'⟩ := r H enc W base spare held fuel cs xs (fun i g hg => hx (i + 1) g hg) (by simpa using hl) (by omega) (fun i g z hg hz => hw (i + 1) g z hg hz)
    refine ⟨(y, y'), ?_, hok, hok'⟩
    have := hy.1.append hy'
    rw [← List.drop_drop, List.take_append_drop] at this
    exact this
theorem weights_each {H : Type} {P : Program} {fs : List Field} : ∀ {xs : List (DataW H × List MemPlace)} {i : Nat} {f : Field} {x : DataW H × List MemPlace}, fs[i]? = some f → xs[i]? = some x → ∀ b ∈ x.1.weights P f.type, b ∈ DataW.weightsEach P (fs.map (·.type)) (xs.map (·.1)) := by
  intro xs i f x hf hx b hb
  exact DataW.weights_mem_each (j := i) (t := f.type) (d := x.1) (by simp [hf]) (by simp [hx]) b hb
theorem Tells.struct {P : Program} {t : TypeId} {fs : Array Field} (ht : P.underlying t = some (.struct fs)) {α : Type} {n : Nat} {d : α → List AVal} {ok : α → Prop} (h : TellsF P fs.toList 0 n d ok) (hc : P.cellsOf t = n) : Tells P t n d ok := by
  intro H enc W base spare held fuel cs x hx hw
  obtain ⟨xs, m, _, rfl, hl, hlen, hf⟩ := DataW.trod_struct ht hx
  obtain ⟨y, hy, hok⟩ := h H enc W base spare held m cs xs (fun i f hi => hf i f (by rw [← Array.getElem?_toList]; exact hi)) (by simpa using hlen) (by omega) (fun i f x hi hx b hb => hw b (by
    simp only [DataW.weights, ht]
    exact weights_each hi hx b hb))
  exact ⟨y, ⟨by simpa using hy, by omega⟩, hok⟩
/-- An array's elements in line, as fields. -/
theorem Tells.array {P : Program} {t e : TypeId} {k : Nat} (ht : P.underlying t = some (.array k e)) {α : Type} {n : Nat} {d : α → List AVal} {ok : α → Prop} (h : TellsF P ((List.range k).map fun i => { name := "", type := e, offset := i * P.cellsOf e, embedded := false, tag := "", pkgPath := "", byteOffset := 0 }) 0 n d ok)
    (hc : P.cellsOf t = n) : Tells P t n d ok := by
  intro H enc W base spare held fuel cs x hx hw
  obtain ⟨xs, m, _, rfl, hl, hlen, hf⟩ := DataW.trod_array ht hx
  obtain ⟨y, hy, hok⟩ := h H enc W base spare held m cs xs (fun i f hi => by
      have hin : i < k := by
        rcases Nat.lt_or_ge i k with h | h
        · exact h
        · simp [h] at hi
      simp [hin] at hi
      subst hi
      exact hf i hin) (by simpa using hlen) (by omega) (fun i f x hi hx b hb => hw b (by
    have hin : i < k := by
      rcases Nat.lt_or_ge i k with h | h
      · exact h
      · simp [h] at hi
    simp [hin] at hi
    subst hi
    simp only [DataW.weights, ht]
    exact weights_all (List.mem_map.2 ⟨x, List.mem_iff_getElem?.2 ⟨i, hx⟩, rfl⟩) hb))
  exact ⟨y, ⟨by simpa using hy, by omega⟩, hok⟩
/-- The same data, told by another name. -/
theorem Tells.as {P : Program} {t : TypeId} {α β : Type} {n : Nat} {d : α → List AVal} {ok : α → Prop} (h : Tells P t n d ok) (g : α → β) (d' : β → List AVal) (hd : ∀ a, d' (g a) = d a) (ok' : β → Prop) (hok : ∀ a, ok a → ok' (g a)) : Tells P t n d' ok' := by
  intro H enc W base spare held fuel cs x hx hw
  obtain ⟨y, hy, hk⟩ := h H enc W base spare held fuel cs x hx hw
  exact ⟨g y, by rw [hd]; exact hy, hok y hk⟩
theorem okWide_agg {P : Program} {w : World} {r : Reach} {base : Nat} {t : TypeId} {v : Value} (ht : (∃ fs, P.underlying t = some (.struct fs)) ∨ ∃ n e, P.underlying t = some (.array n e)) (h : Value.okWide P w r base t v) : ∃ cs, v = .agg cs ∧ cs.size = P.cellsOf t := by
  rcases ht with ⟨fs, ht⟩ | ⟨n, e, ht⟩
  all_goals
    simp only [Value.okWide, ht] at h
    obtain ⟨cs, h1, h2, _⟩ := h
    exact ⟨cs, h1, h2⟩
section
variable {P : Program} {t : TypeId} {α : Type} {n : Nat} {d : α → List AVal} {ok : α → Prop} {H : Type} {enc : TypeId × Value → H} {W : World} {base : Nat} {spare : Nat → Bool} {held : Bool} {x : DataW H} {ps : List MemPlace} {ts : List TypeId} {ds : List (DataW H)}
/-- A struct (an array) that came in by value. -/
theorem Tells.agg (h : Tells P t n d ok) {cs : Array Value} (hsz : (DataW.weightsEach P ts ds).all (· ≤ reachBytes) = true) (j : Nat) (ht : ts[j]? = some t) (hd : ds[j]? = some x)
    (hx : DataW.Trod enc P W base spare held t (.agg cs) x ps) : ∃ y : α, Den W noC nm0 (.agg (d y)) (.agg cs) ∧ ok y := by
  obtain ⟨fuel, hf⟩ := hx
  have hf' : DataW.trod enc P W base spare held fuel t cs.toList = some (x, ps) := by simpa [Value.cells] using hf
  obtain ⟨y, ⟨hy, _⟩, hok⟩ := h H enc W base spare held fuel cs.toList (x, ps) hf' (fun b hb => by simpa using List.all_eq_true.1 hsz b (DataW.weights_mem_each ht hd b hb))
  exact ⟨y, .agg cs.toList hy.1 hy.2, hok⟩
/-- A value of one cell that came in. -/
theorem Tells.cell {f : α → AVal} (h : Tells P t 1 (fun y => [f y]) ok) {v : Value} (hv : v.cells = #[v]) (hsz : (DataW.weightsEach P ts ds).all (· ≤ reachBytes) = true) (j : Nat) (ht : ts[j]? = some t) (hd : ds[j]? = some x)
    (hx : DataW.Trod enc P W base spare held t v x ps) : ∃ y : α, Den W noC nm0 (f y) v ∧ ok y := by
  obtain ⟨fuel, hf⟩ := hx
  have hf' : DataW.trod enc P W base spare held fuel t [v] = some (x, ps) := by simpa [hv] using hf
  obtain ⟨y, ⟨hy, _⟩, hok⟩ := h H enc W base spare held fuel [v] (x, ps) hf' (fun b hb => by simpa using List.all_eq_true.1 hsz b (DataW.weights_mem_each ht hd b hb))
  exact ⟨y, hy.2 0 _ v rfl rfl, hok⟩
end
/-- A proved law at arguments that can only be read. -/
theorem law_ok {P : Program} {f : Nat} {sp : Spec} (hv : Valid P f sp) {W : World} {args : List AVal} {vals : List Value} (hd : DenL W noC nm0 args vals) (h : ∀ K : AVal → Hp → Nat → Prop, K (.v (.bool true)) [] 0 → sp.f args [] K) :
    Calls P f ⟨vals⟩ W fun e w' => e = .returned (.bool true) ∧ Below W.heap.size W w' := by
  refine Calls.mono (hv W noC nm0 args vals [] (fun r _ _ => r = .v (.bool true)) hd ?_ (h _ rfl)) ?_
  · exact ⟨fun m o h => (by cases h), fun m o m' o' b x b' x' h => (by cases h), fun m o b x h => (by cases h), fun m _ => rfl, rfl, rfl, rfl, Nat.le_refl _, fun b _ _ => rfl⟩
  · rintro e w' ⟨r, v, L', nx', ρ', rfl, hden, hp, _, hr⟩
    subst hr
    rw [den_v hden]
    exact ⟨rfl, hp.os, hp.tape, hp.output, hp.size, fun k hk => hp.old k hk (fun h => h)⟩
end Go.Proofs.YthghcialeghgoaaDoorE

/-! The law FnExactRulesOk, as its row states it: whatever the input the law returns true; no condition. -/
namespace Go.Proofs.YthghcialeghgoaaDoor.fnExactRulesOk
open Go.ChangeShapes Go.WideShapes Go.ChangeAt Go.RowKit Go.Proofs.YthghcialeghgoaaDoorE
set_option linter.unusedVariables false
theorem own : ownKnob Tryd.prog.godebug = none := by kernel_rfl
theorem laidOut : laidOutB Tryd.prog = true := by kernel_rfl
theorem T3 : Tells Tryd.prog 3 1 (fun n : Int => [.v (.int .i64 n)]) (fun _ => True) := (Tells.int Tryd.underlying3).as id _ (fun _ => rfl) _ (fun _ _ => trivial)
theorem T9 : Tells Tryd.prog 9 1 (fun s : ByteArray => [.v (.string s)]) (fun s => s.size ≤ 140737488351232) := Tells.string Tryd.underlying9
theorem T66 : Tells Tryd.prog 66 (sz .rule) (enc .rule) (fun r => szRulOk r 140737488351232) :=
  (Tells.struct (n := 1 + (1 + (1 + (1 + (1 + 1))))) Tryd.underlying66 (TellsF.cons (n := 1) (n' := 1 + (1 + (1 + (1 + 1)))) T9 (by kernel_rfl) (by kernel_rfl) (TellsF.cons (n := 1) (n' := 1 + (1 + (1 + 1))) T3 (by kernel_rfl) (by kernel_rfl) (TellsF.cons (n := 1) (n' := 1 + (1 + 1)) T3 (by kernel_rfl) (by kernel_rfl) (TellsF.cons (n := 1) (n' := 1 + 1) T3 (by kernel_rfl) (by kernel_rfl) (TellsF.cons (n := 1) (n' := 1) T3 (by kernel_rfl) (by kernel_rfl) (TellsF.one T9 (by kernel_rfl) (by kernel_rfl))))))) (by kernel_rfl)).as (fun x : ByteArray × Int × Int × Int × Int × ByteArray => (⟨x.1, x.2.1, x.2.2.1, x.2.2.2.1, x.2.2.2.2.1, x.2.2.2.2.2⟩ : Rul)) (enc .rule) (fun _ => rfl) _ (fun a h => ⟨h.1, h.2.2.2.2.2⟩)
theorem T22 : Tells Tryd.prog 22 1 (fun xs : List Rul => [.rs .rule xs]) (fun xs => szRulAll xs 140737488351232 ∧ xs.length ≤ 17592186044416) := (Tells.slice (τ := .rule) Tryd.underlying22 T66 (by kernel_rfl) (B := 64) (by kernel_rfl)).as id _ (fun _ => rfl) _ (fun xs h => ⟨fun k hk => h.2.2 _ (by
  simp only [id] at hk ⊢
  rw [List.getD, List.getElem?_eq_getElem hk]; exact List.getElem_mem hk), by have := h.1; simp only [id]; omega⟩)
def cellsD : Nat → DataW Unit → List Value
  | 0, _ => []
  | _ + 1, .lit (.int k n) => [.int k n]
  | f + 1, .agg l => (l.map (cellsD f)).flatten
  | _, _ => []
/-- A world that meets the row's condition: the settled one, the two listed variables laid. -/
noncomputable def laidWorld (os : Os) : World :=
  let w0 := World.holding Tryd.prog os ⟨#[], #[], []⟩
  { w0 with heap := (w0.heap.modify 1 fun
      | .cells _ t frozen => .cells (cellsD 5 Rows.laid_unicode_utf8_acceptRanges).toArray t frozen
      | o => o).modify 0 fun
      | .cells _ t frozen => .cells (cellsD 5 Rows.laid_unicode_utf8_first).toArray t frozen
      | o => o }
set_option maxRecDepth 100000 in
theorem laidWorld_met (os : Os) (args : Array Value) : laidMetH Tryd.prog Rows.fnExactRulesOkRow.laid ((laidWorld os).forCall (fun _ _ => 0) ⟨#[], args, []⟩).memory :=
  laidMetH_of_parts (laidMet_of_run' 8 (by kernel_rfl) (by kernel_rfl)) (by kernel_rfl)
set_option maxRecDepth 100000 in
set_option maxHeartbeats 1000000 in
theorem lifted (os : Os) (started : os.Started) (H : Type) (enc : TypeId × Value → H) :
    ReturnsInHanded {} Tryd.checked os 3 .any (fun w args => (Rows.fnExactRulesOkSpec.pre enc Tryd.prog Tryd.f3 [] false w args ∧ laidMetH Tryd.prog Rows.fnExactRulesOkRow.laid w) ∧ sizedMet enc Tryd.prog Tryd.f3 (OpenSpec.ofChange Rows.fnExactRulesOkSpec) false w args) (Rows.fnExactRulesOkSpec.post enc Tryd.prog Tryd.f3 false true false false) := by
  refine returnsInHanded_of_change_and (C := Tryd.checked) (X := fun w _ => laidMetH Tryd.prog Rows.fnExactRulesOkRow.laid w) (fun _ _ _ hh h => h.of_heap hh) own started (by kernel_rfl) Tryd.func3
    (ChangeSpec.witness_at (enc := enc) (C := Tryd.checked) (os := os) (X := fun w _ => laidMetH Tryd.prog Rows.fnExactRulesOkRow.laid w) false (laidWorld os) #[.slice none 0 0] 8 rfl (by kernel_rfl) (by kernel_rfl) (by kernel_rfl) (by kernel_rfl) (by kernel_rfl) (laidWorld_met os _)) ?_
  intro W base args ds gs before hval0 hW hcnd hsz0 _ _
  have hsz : (DataW.weightsEach Tryd.prog (Tryd.f3.params.toList ++ Rows.fnExactRulesOkSpec.plain.varTypes Tryd.prog) (ds ++ gs)).all (· ≤ reachBytes) = true := hsz0
  have hval : ∀ (j : Nat) t v, Tryd.f3.params[j]? = some t → args[j]? = some v → Value.okWide Tryd.prog W .any base t v := hval0
  have hW' := hW
  obtain ⟨p, q, hA0, hV, rfl, hfz, hnd⟩ := hW
  have hA : DataW.TrodAll enc Tryd.prog W 0 (fun _ => true) true Tryd.f3.params.toList args.toList ds p := hA0
  rw [Tryd.params3] at hA hval hsz
  obtain ⟨v0, vs0, d0, ds0, p0, q0, hargs, rfl, rfl, h0, r0⟩ := trodAll_cons hA
  obtain ⟨rfl, rfl, rfl⟩ := trodAll_nil r0
  obtain rfl : args = #[v0] := by cases args; simp_all
  obtain ⟨rfl, rfl⟩ := trodVars_none hV
  obtain ⟨ax0, len0, cap0, rfl⟩ := okWide_slice Tryd.underlying22 (hval 0 22 v0 rfl rfl)
  have k0 := h0
  have lt0 : ∀ x ∈ p0, x.block < W.heap.size := by obtain ⟨m, hm⟩ := k0; exact DataW.trod_lt m _ _ _ hm
  obtain ⟨y0, hK0, o0⟩ := Tells.cell T22 rfl hsz 0 rfl rfl h0
  clear hA0 hval0 hsz0 hsz
  refine (law_ok valid3 (DenL.cons hK0 .nil) (fun K hk => ⟨o0, hk⟩)).mono fun e W' ⟨he, bel⟩ => ?_
  subst he
  exact ⟨_, rfl, _, _, _, [], _, [], hW', trodAll_mk1 (shut_bool Tryd.underlying4 _), (trodAll_cons_mk (Below.trod laidOut (by kernel_rfl) (of_decide_eq_true (by kernel_rfl)) k0 bel lt0) trodAll_mk0), rfl, bel.frame _, fun h => by cases h⟩
theorem over : Rows.fnExactRulesOkRow.holds Tryd.pinned (OpenSpec.ofChange Rows.fnExactRulesOkSpec) :=
  OpenClaim.holds_of_wide 3 Tryd.f3 rfl rfl rfl rfl rfl rfl rfl ⟨rfl, rfl, rfl, rfl, rfl⟩ rfl rfl rfl rfl rfl (by kernel_rfl) Tryd.func3 (by kernel_rfl)
    (of_decide_eq_true (by kernel_rfl)) (by unfold Func.isWrapper; first | (rw [if_pos (by decide +kernel)]; kernel_rfl) | (rw [if_neg (by decide +kernel)]; exact ⟨rfl, rfl⟩))
    (fun os started H enc _ => lifted os started H enc)
theorem proved : Rows.FnExactRulesOkSaid := over
#print axioms proved
theorem card_holds : Rows.FnExactRulesOkCardSaid :=
  Claim7.holds_tied_plain_at .later [] [.data, .pinned] true (true, "bf0cd3b26e7dbb95da6880f074a3aaa577be5677f8b4a5afac8a3bc93b35382b") false
    over (fun _ h => by cases h) (by kernel_rfl) (fun _ h => by cases h) fnExactRulesOk_row_tie rfl ⟨rfl, rfl⟩ (by kernel_rfl) rfl
    (fun f fn hf hfn => by
      obtain rfl : f = 3 := Option.some.inj ((show Tryd.prog.funcNamed "loop.example/g00052/laws.FnExactRulesOk" = some 3 by kernel_rfl).symm.trans hf) |>.symm
      obtain rfl : fn = Tryd.f3 := (Option.some.inj (Tryd.func3.symm.trans hfn)).symm
      exact ⟨by kernel_rfl, fun j t ht => by
        rw [Tryd.params3] at ht
        have h3 : t = 22 := by
          have := Array.mem_of_getElem? ht
          simpa using this
        rcases h3 with rfl
        · exact (show Tryd.prog.wantsStandIn 22 = false by kernel_rfl)⟩)
    (by kernel_rfl)
#print axioms card_holds
end Go.Proofs.YthghcialeghgoaaDoor.fnExactRulesOk
namespace Go.Proofs.YthghcialeghgoaaDoor
/-- The row, under a short name, for the claim. -/
theorem fnExactRulesOk_holds : Rows.FnExactRulesOkCardSaid := fnExactRulesOk.card_holds
end Go.Proofs.YthghcialeghgoaaDoor
