/- A part of a proof that a law of the given program holds for every input: no condition. -/
import Derived.Test.YtfjfaajdbomhbaaProg
import Derived.KernelRfl
import Derived.Deep.Slices
import Derived.OpenShut
import Derived.SizedLaws
import Derived.WideLaws
import Derived.Test.YtfjfaajdbomhbaaRows
import Derived.ProofKit
import Derived.ShutString
import Derived.ChangeOld
import Derived.Below
import Derived.Test.YtfjfaajdbomhbaaKFnExactCells1

set_option linter.unusedSimpArgs false
set_option linter.unusedVariables false
/-! Bytes are laid into cells. -/
namespace Go.Proofs.YtfjfaajdbomhbaaE
open Go Go.RowKit
set_option linter.unusedSimpArgs false
set_option linter.unusedVariables false
set_option maxRecDepth 50000
set_option maxHeartbeats 8000000

/-- The array of a cell of which n bytes have been laid. -/
def rowN (b : List Int) (p n : Nat) : List Int := (List.range 16).map fun k => if 1 ≤ k ∧ k ≤ n then b.getD (p + (k - 1)) 0 else 0
theorem rowN_len {b : List Int} {p n : Nat} : (rowN b p n).length = 16 := by simp [rowN]
theorem rowN_get {b : List Int} {p n k : Nat} (h : k < 16) : (rowN b p n).getD k 0 = if 1 ≤ k ∧ k ≤ n then b.getD (p + (k - 1)) 0 else 0 := by simp [rowN, List.getD, h]
theorem rowN_zero {b : List Int} {p : Nat} : rowN b p 0 = List.replicate 16 0 := by
  apply List.ext_getElem?
  intro i
  by_cases h : i < 16
  · simp only [rowN, List.getElem?_map, List.getElem?_range h, Option.map_some, List.getElem?_replicate, if_pos h]
    rw [if_neg (by omega)]
  · simp [rowN, h]
theorem rowN_lit {b : List Int} {p : Nat} : rowN b p 0 = [0, 0, 0, 0, 0, 0, 0, 0, 0, 0, 0, 0, 0, 0, 0, 0] := rowN_zero
theorem rowN_set {b : List Int} {p n : Nat} (h : n < 15) : (rowN b p n).set (n + 1) (b.getD (p + n) 0) = rowN b p (n + 1) := by
  apply List.ext_getElem?
  intro i
  rw [List.getElem?_set, rowN_len]
  by_cases hi : i < 16
  · by_cases e : n + 1 = i
    · subst e
      rw [if_pos rfl, if_pos hi]
      simp [rowN, hi]
    · rw [if_neg e]
      simp only [rowN, List.getElem?_map, List.getElem?_range hi, Option.map_some]
      by_cases h2 : 1 ≤ i ∧ i ≤ n
      · rw [if_pos h2, if_pos (by omega)]
      · rw [if_neg h2, if_neg (by omega)]
  · rw [if_neg (by omega)]
    simp [rowN, hi]
theorem cpy_row {b : List Int} {p : Nat} : cpyL (List.replicate 16 0) (b.drop p) 1 15 = rowN b p (min 15 (b.length - p)) := by
  apply List.ext_getElem?
  intro i
  rw [cpyL_get (by simp), List.length_drop]
  by_cases hi : i < 16
  · simp only [rowN, List.getElem?_map, List.getElem?_range hi, Option.map_some]
    by_cases h2 : 1 ≤ i ∧ i < 1 + min 15 (b.length - p)
    · rw [if_pos h2, if_pos (by omega), List.getElem?_drop, List.getD, List.getElem?_eq_getElem (by omega)]
      rfl
    · rw [if_neg h2, if_neg (by omega), List.getElem?_replicate, if_pos hi]
  · rw [if_neg (by omega)]
    simp [rowN, hi]
theorem rowA_cell {b : List Int} {p : Nat} {h : Int} : rowA .byte ((rowN b p (min 15 (b.length - p))).set 0 h) 16 = [.v (.int .u8 h), .v (.int .u8 (b.getD (p + 0) 0)), .v (.int .u8 (b.getD (p + 1) 0)), .v (.int .u8 (b.getD (p + 2) 0)), .v (.int .u8 (b.getD (p + 3) 0)), .v (.int .u8 (b.getD (p + 4) 0)), .v (.int .u8 (b.getD (p + 5) 0)), .v (.int .u8 (b.getD (p + 6) 0)), .v (.int .u8 (b.getD (p + 7) 0)), .v (.int .u8 (b.getD (p + 8) 0)), .v (.int .u8 (b.getD (p + 9) 0)), .v (.int .u8 (b.getD (p + 10) 0)), .v (.int .u8 (b.getD (p + 11) 0)), .v (.int .u8 (b.getD (p + 12) 0)), .v (.int .u8 (b.getD (p + 13) 0)), .v (.int .u8 (b.getD (p + 14) 0))] := by
  have h0 : ∀ k, k < 15 → ((rowN b p (min 15 (b.length - p))).set 0 h).getD (k + 1) 0 = b.getD (p + k) 0 := by
    intro k hk
    have h1 : ((rowN b p (min 15 (b.length - p))).set 0 h).getD (k + 1) 0 = (rowN b p (min 15 (b.length - p))).getD (k + 1) 0 := by
      simp [List.getD, List.getElem?_set]
    rw [h1, rowN_get (by omega)]
    by_cases h2 : 1 ≤ k + 1 ∧ k + 1 ≤ min 15 (b.length - p)
    · rw [if_pos h2]; rfl
    · rw [if_neg h2, List.getD, List.getElem?_eq_none (by omega)]; rfl
  have h1 : ((rowN b p (min 15 (b.length - p))).set 0 h).getD 0 0 = h := by simp [List.getD, rowN_len]
  show [_, _, _, _, _, _, _, _, _, _, _, _, _, _, _, _] = _
  simp only [dflt, h0 0 (by decide), h0 1 (by decide), h0 2 (by decide), h0 3 (by decide), h0 4 (by decide), h0 5 (by decide), h0 6 (by decide), h0 7 (by decide), h0 8 (by decide), h0 9 (by decide), h0 10 (by decide), h0 11 (by decide), h0 12 (by decide), h0 13 (by decide), h0 14 (by decide), h1]
/-- A cell's first byte. -/
def hdC (b : List Int) (j : Nat) : Int := ((min 15 (b.length - 15 * j) : Nat) : Int) + 16 * ((j % 8 : Nat) : Int)
def hdV (b : List Int) (j : Nat) : Int := if b.length ≤ 15 * j + 15 then hdC b j + 128 else hdC b j
def cellAt (b : List Int) (j : Nat) : C16 := ⟨hdV b j, b.getD (15 * j + 0) 0, b.getD (15 * j + 1) 0, b.getD (15 * j + 2) 0, b.getD (15 * j + 3) 0, b.getD (15 * j + 4) 0, b.getD (15 * j + 5) 0, b.getD (15 * j + 6) 0, b.getD (15 * j + 7) 0, b.getD (15 * j + 8) 0, b.getD (15 * j + 9) 0, b.getD (15 * j + 10) 0, b.getD (15 * j + 11) 0, b.getD (15 * j + 12) 0, b.getD (15 * j + 13) 0, b.getD (15 * j + 14) 0⟩
def cellsP (b : List Int) : List C16 := if 900 < b.length then [] else (List.range ((b.length + 14) / 15)).map (cellAt b)
theorem hdC_bd (b : List Int) (j : Nat) : 0 ≤ hdC b j ∧ hdC b j ≤ 127 := by unfold hdC; omega
theorem or_128 : ∀ x : Fin 128, orV .u8 ((x.val : Nat) : Int) 128 = ((x.val : Nat) : Int) + 128 := by unfold orV; rw [wr_eq]; decide +kernel
theorem hdC_or (b : List Int) (j : Nat) : orV .u8 (hdC b j) 128 = hdC b j + 128 := by
  obtain ⟨h1, h2⟩ := hdC_bd b j
  have := or_128 ⟨(hdC b j).toNat, by omega⟩
  simpa [Int.toNat_of_nonneg h1] using this
theorem cells_snoc (b : List Int) (j : Nat) : (List.range j).map (cellAt b) ++ [cellAt b j] = (List.range (j + 1)).map (cellAt b) := by
  rw [List.range_succ, List.map_append]; rfl
theorem cells_len (b : List Int) (j : Nat) : ((List.range j).map (cellAt b)).length = j := by simp
def spCells : Spec := ⟨fun _ _ => [], fun args objs K => match args, objs with
  | [.rs .byte b], [] => K (.sub 0 16 0 (cellsP b).length) [(0, .row .c16 (cellsP b))] 1
  | _, _ => False, false⟩
theorem spCells_t {L : Hp} {a : List AVal} : Spec.take spCells L a = [] := id rfl
theorem spCells_k : Spec.keep spCells = false := id rfl
theorem spCells_f {b} {K : AVal → Hp → Nat → Prop} : Spec.f spCells ([.rs .byte b]) ([]) K = (K (.sub 0 16 0 (cellsP b).length) [(0, .row .c16 (cellsP b))] 1) := id rfl
theorem valid22 : Valid Try.prog 22 spCells := by
  refine validI (Γ := lk []) Try.func22 bod22 low22 res22 (good_of trivial) ?_
  intro E args objs K h hE hG hP
  simp only [spCells] at h
  split at h
  · refine ⟨by simp [Try.ntmps22], ?_⟩
    rename_i b
    by_cases hz : b.length = 0 ∨ 900 < b.length
    · have e0 : cellsP b = [] := by
        unfold cellsP
        rcases hz with hz | hz
        · rw [if_neg (by omega), hz]; rfl
        · rw [if_pos hz]
      rw [e0] at h
      simp (config := { maxSteps := 2000000 }) only [go_sem, hG, hP, Nat.reduceEqDiff, ↓reduceIte, reduceCtorEq, Nat.reduceAdd, Nat.reduceSub, Nat.reduceMul, Nat.reduceLT, Nat.reduceLeDiff, Int.reduceAdd, Int.reduceSub, Int.reduceMul, Int.reduceLT, Int.reduceLE, Int.reduceEq, Int.reduceNeg, Int.reduceNe, Int.reduceGE, Int.reduceGT, Nat.reduceBEq, Int.reduceToNat]
      repeat' (first | (refine And.intro ?_ ?_) | (with_reducible intro _))
      all_goals first
        | (exfalso; omega)
        | (refine ⟨_, _, _, ?_, h⟩; simp (config := { maxSteps := 2000000 }) only [go_sem, hG, hP, Nat.reduceEqDiff, ↓reduceIte, reduceCtorEq, Nat.reduceAdd, Nat.reduceSub, Nat.reduceMul, Nat.reduceLT, Nat.reduceLeDiff, Int.reduceAdd, Int.reduceSub, Int.reduceMul, Int.reduceLT, Int.reduceLE, Int.reduceEq, Int.reduceNeg, Int.reduceNe, Int.reduceGE, Int.reduceGT, Nat.reduceBEq, Int.reduceToNat]; repeat' (first | with_reducible rfl | (refine And.intro ?_ ?_) | (refine congrArg (Value.int _) ?_; omega) | omega); done)
        | skip
      all_goals trace_state
      done
    · have hz1 : ((b.length : Int) = 0) = False := by apply eq_false; omega
      have hz2 : ((b.length : Int) > 900) = False := by apply eq_false; omega
      have e0 : cellsP b = (List.range ((b.length + 14) / 15)).map (cellAt b) := by unfold cellsP; rw [if_neg (by omega)]
      rw [e0, cells_len] at h
      simp (config := { maxSteps := 2000000 }) only [go_sem, hG, hP, Nat.reduceEqDiff, ↓reduceIte, reduceCtorEq, Nat.reduceAdd, Nat.reduceSub, Nat.reduceMul, Nat.reduceLT, Nat.reduceLeDiff, Int.reduceAdd, Int.reduceSub, Int.reduceMul, Int.reduceLT, Int.reduceLE, Int.reduceEq, Int.reduceNeg, Int.reduceNe, Int.reduceGE, Int.reduceGT, Nat.reduceBEq, Int.reduceToNat,  hz1, hz2]
      refine loopI hE (fun j : Nat => ⟨[(0, .rs .byte b), (3, .sub 0 16 0 j), (4, .v (.int .i64 ((15 * j : Nat) : Int)))], [(0, .row .c16 ((List.range j).map (cellAt b)))], 1, Try.f22.ntmps⟩) (fun j => j ≤ (b.length + 14) / 15) (fun j => (b.length + 14) / 15 - j) ⟨0, by omega, SubS.weak ?_⟩ ?_
      · simp (config := { maxSteps := 2000000 }) only [go_sem, hG, hP, Nat.reduceEqDiff, ↓reduceIte, reduceCtorEq, Nat.reduceAdd, Nat.reduceSub, Nat.reduceMul, Nat.reduceLT, Nat.reduceLeDiff, Int.reduceAdd, Int.reduceSub, Int.reduceMul, Int.reduceLT, Int.reduceLE, Int.reduceEq, Int.reduceNeg, Int.reduceNe, Int.reduceGE, Int.reduceGT, Nat.reduceBEq, Int.reduceToNat,  List.range_zero, List.map_nil]
        repeat' (first | with_reducible rfl | (refine And.intro ?_ ?_) | (refine congrArg (Value.int _) ?_; omega) | omega)
      · intro j hj
        dsimp only at hj ⊢
        by_cases hlt : 15 * j < b.length
        · have e1 : (((15 * j : Nat) : Int) < b.length) = True := by apply eq_true; omega
          have ht : (j : Int).tmod 8 = ((j % 8 : Nat) : Int) := rfl
          have hh : ((min 15 (b.length - 15 * j) : Nat) : Int) + 16 * ((j % 8 : Nat) : Int) = hdC b j := rfl
          have hb := hdC_bd b j
          have hw : wr .u8 (hdC b j) = hdC b j := by rw [wr_eq, IntKind.wrap_u8]; omega
          have ho := hdC_or b j
          have htk : List.take ((b.length : Int) - ((15 * j : Nat) : Int)).toNat (List.drop (15 * j) b) = List.drop (15 * j) b := List.take_of_length_le (by rw [List.length_drop]; omega)
          have wa : wr .i64 (((15 * j : Nat) : Int) + 15) = ((15 * j : Nat) : Int) + 15 := wrap_id (by omega) (by omega)
          have wb : wr .i64 (16 * ((j % 8 : Nat) : Int)) = 16 * ((j % 8 : Nat) : Int) := wrap_id (by omega) (by omega)
          have wc : wr .i64 (hdC b j) = hdC b j := wrap_id (by omega) (by omega)
          have hcl : ∀ h, hdV b j = h → (⟨h, b.getD (15 * j) 0, b.getD (15 * j + 1) 0, b.getD (15 * j + 2) 0, b.getD (15 * j + 3) 0, b.getD (15 * j + 4) 0, b.getD (15 * j + 5) 0, b.getD (15 * j + 6) 0, b.getD (15 * j + 7) 0, b.getD (15 * j + 8) 0, b.getD (15 * j + 9) 0, b.getD (15 * j + 10) 0, b.getD (15 * j + 11) 0, b.getD (15 * j + 12) 0, b.getD (15 * j + 13) 0, b.getD (15 * j + 14) 0⟩ : C16) = cellAt b j := fun h e => by unfold cellAt; rw [e]; rfl
          have htj : List.take j (List.map (cellAt b) (List.range j)) = List.map (cellAt b) (List.range j) := List.take_of_length_le (by simp)
          by_cases he : b.length ≤ 15 * j + 15
          · have e2 : (((15 * j : Nat) : Int) + 15 ≥ b.length) = True := by apply eq_true; omega
            have hv : hdV b j = hdC b j + 128 := if_pos he
            simp (config := { maxSteps := 2000000 }) only [go_sem, hG, hP, Nat.reduceEqDiff, ↓reduceIte, reduceCtorEq, Nat.reduceAdd, Nat.reduceSub, Nat.reduceMul, Nat.reduceLT, Nat.reduceLeDiff, Int.reduceAdd, Int.reduceSub, Int.reduceMul, Int.reduceLT, Int.reduceLE, Int.reduceEq, Int.reduceNeg, Int.reduceNe, Int.reduceGE, Int.reduceGT, Nat.reduceBEq, Int.reduceToNat,  e1, e2, ht, htk, cpy_row, rowN_len, List.length_set, List.set_set, gds, List.length_drop, hh, hw, ho, rowA_cell, cells_len, wa, wb, wc, htj, hcl _ hv, cells_snoc]
            (try simp (disch := omega) only [wrap_id])
            repeat (refine And.intro (by first | omega | (simp; done) | (simp; omega) | (unfold appRoom; omega)) ?_)
            refine ⟨j + 1, ⟨by omega, by omega⟩, SubS.weak ?_⟩
            simp (config := { maxSteps := 2000000 }) only [go_sem, hG, hP, Nat.reduceEqDiff, ↓reduceIte, reduceCtorEq, Nat.reduceAdd, Nat.reduceSub, Nat.reduceMul, Nat.reduceLT, Nat.reduceLeDiff, Int.reduceAdd, Int.reduceSub, Int.reduceMul, Int.reduceLT, Int.reduceLE, Int.reduceEq, Int.reduceNeg, Int.reduceNe, Int.reduceGE, Int.reduceGT, Nat.reduceBEq, Int.reduceToNat]
            repeat' (first | with_reducible rfl | (refine And.intro ?_ ?_) | (refine congrArg (Value.int _) ?_; omega) | omega)
          · have e2 : (((15 * j : Nat) : Int) + 15 ≥ b.length) = False := by apply eq_false; omega
            have hv : hdV b j = hdC b j := if_neg he
            simp (config := { maxSteps := 2000000 }) only [go_sem, hG, hP, Nat.reduceEqDiff, ↓reduceIte, reduceCtorEq, Nat.reduceAdd, Nat.reduceSub, Nat.reduceMul, Nat.reduceLT, Nat.reduceLeDiff, Int.reduceAdd, Int.reduceSub, Int.reduceMul, Int.reduceLT, Int.reduceLE, Int.reduceEq, Int.reduceNeg, Int.reduceNe, Int.reduceGE, Int.reduceGT, Nat.reduceBEq, Int.reduceToNat,  e1, e2, ht, htk, cpy_row, rowN_len, List.length_set, List.set_set, gds, List.length_drop, hh, hw, ho, rowA_cell, cells_len, wa, wb, wc, htj, hcl _ hv, cells_snoc]
            (try simp (disch := omega) only [wrap_id])
            repeat (refine And.intro (by first | omega | (simp; done) | (simp; omega) | (unfold appRoom; omega)) ?_)
            refine ⟨j + 1, ⟨by omega, by omega⟩, SubS.weak ?_⟩
            simp (config := { maxSteps := 2000000 }) only [go_sem, hG, hP, Nat.reduceEqDiff, ↓reduceIte, reduceCtorEq, Nat.reduceAdd, Nat.reduceSub, Nat.reduceMul, Nat.reduceLT, Nat.reduceLeDiff, Int.reduceAdd, Int.reduceSub, Int.reduceMul, Int.reduceLT, Int.reduceLE, Int.reduceEq, Int.reduceNeg, Int.reduceNe, Int.reduceGE, Int.reduceGT, Nat.reduceBEq, Int.reduceToNat]
            repeat' (first | with_reducible rfl | (refine And.intro ?_ ?_) | (refine congrArg (Value.int _) ?_; omega) | omega)
        · have e1 : (((15 * j : Nat) : Int) < b.length) = False := by apply eq_false; omega
          have ej : j = (b.length + 14) / 15 := by omega
          simp (config := { maxSteps := 2000000 }) only [go_sem, hG, hP, Nat.reduceEqDiff, ↓reduceIte, reduceCtorEq, Nat.reduceAdd, Nat.reduceSub, Nat.reduceMul, Nat.reduceLT, Nat.reduceLeDiff, Int.reduceAdd, Int.reduceSub, Int.reduceMul, Int.reduceLT, Int.reduceLE, Int.reduceEq, Int.reduceNeg, Int.reduceNe, Int.reduceGE, Int.reduceGT, Nat.reduceBEq, Int.reduceToNat,  e1]
          subst ej
          refine ⟨_, _, _, ?_, h⟩
          simp (config := { maxSteps := 2000000 }) only [go_sem, hG, hP, Nat.reduceEqDiff, ↓reduceIte, reduceCtorEq, Nat.reduceAdd, Nat.reduceSub, Nat.reduceMul, Nat.reduceLT, Nat.reduceLeDiff, Int.reduceAdd, Int.reduceSub, Int.reduceMul, Int.reduceLT, Int.reduceLE, Int.reduceEq, Int.reduceNeg, Int.reduceNe, Int.reduceGE, Int.reduceGT, Nat.reduceBEq, Int.reduceToNat]
          repeat' (first | with_reducible rfl | (refine And.intro ?_ ?_) | (refine congrArg (Value.int _) ?_; omega) | omega)
  · exact h.elim
theorem valid21 : Valid Try.prog 21 spCells := by
  refine validI (Γ := lk []) Try.func21 bod21 low21 res21 (good_of trivial) ?_
  intro E args objs K h hE hG hP
  simp only [spCells] at h
  split at h
  · refine ⟨by simp [Try.ntmps21], ?_⟩
    rename_i b
    by_cases hz : 900 < b.length
    · have e0 : cellsP b = [] := if_pos hz
      have hz2 : ((b.length : Int) > 900) = True := by apply eq_true; omega
      rw [e0] at h
      simp (config := { maxSteps := 2000000 }) only [go_sem, hG, hP, Nat.reduceEqDiff, ↓reduceIte, reduceCtorEq, Nat.reduceAdd, Nat.reduceSub, Nat.reduceMul, Nat.reduceLT, Nat.reduceLeDiff, Int.reduceAdd, Int.reduceSub, Int.reduceMul, Int.reduceLT, Int.reduceLE, Int.reduceEq, Int.reduceNeg, Int.reduceNe, Int.reduceGE, Int.reduceGT, Nat.reduceBEq, Int.reduceToNat,  hz2]
      refine ⟨_, _, _, ?_, h⟩
      simp (config := { maxSteps := 2000000 }) only [go_sem, hG, hP, Nat.reduceEqDiff, ↓reduceIte, reduceCtorEq, Nat.reduceAdd, Nat.reduceSub, Nat.reduceMul, Nat.reduceLT, Nat.reduceLeDiff, Int.reduceAdd, Int.reduceSub, Int.reduceMul, Int.reduceLT, Int.reduceLE, Int.reduceEq, Int.reduceNeg, Int.reduceNe, Int.reduceGE, Int.reduceGT, Nat.reduceBEq, Int.reduceToNat]
      repeat' (first | with_reducible rfl | (refine And.intro ?_ ?_) | (refine congrArg (Value.int _) ?_; omega) | omega)
    · have hz2 : ((b.length : Int) > 900) = False := by apply eq_false; omega
      have e0 : cellsP b = (List.range ((b.length + 14) / 15)).map (cellAt b) := by unfold cellsP; rw [if_neg (by omega)]
      rw [e0, cells_len] at h
      simp (config := { maxSteps := 2000000 }) only [go_sem, hG, hP, Nat.reduceEqDiff, ↓reduceIte, reduceCtorEq, Nat.reduceAdd, Nat.reduceSub, Nat.reduceMul, Nat.reduceLT, Nat.reduceLeDiff, Int.reduceAdd, Int.reduceSub, Int.reduceMul, Int.reduceLT, Int.reduceLE, Int.reduceEq, Int.reduceNeg, Int.reduceNe, Int.reduceGE, Int.reduceGT, Nat.reduceBEq, Int.reduceToNat,  hz2]
      refine loopI hE (fun j : Nat => ⟨[(0, .rs .byte b), (3, .sub 0 16 0 j), (4, .v (.int .i64 ((15 * j : Nat) : Int)))], [(0, .row .c16 ((List.range j).map (cellAt b)))], 1, Try.f21.ntmps⟩) (fun j => j ≤ (b.length + 14) / 15) (fun j => (b.length + 14) / 15 - j) ⟨0, by omega, SubS.weak ?_⟩ ?_
      · simp (config := { maxSteps := 2000000 }) only [go_sem, hG, hP, Nat.reduceEqDiff, ↓reduceIte, reduceCtorEq, Nat.reduceAdd, Nat.reduceSub, Nat.reduceMul, Nat.reduceLT, Nat.reduceLeDiff, Int.reduceAdd, Int.reduceSub, Int.reduceMul, Int.reduceLT, Int.reduceLE, Int.reduceEq, Int.reduceNeg, Int.reduceNe, Int.reduceGE, Int.reduceGT, Nat.reduceBEq, Int.reduceToNat,  List.range_zero, List.map_nil]
        repeat' (first | with_reducible rfl | (refine And.intro ?_ ?_) | (refine congrArg (Value.int _) ?_; omega) | omega)
      · intro j hj
        dsimp only at hj ⊢
        by_cases hlt : 15 * j < b.length
        · have e1 : (((15 * j : Nat) : Int) < b.length) = True := by apply eq_true; omega
          have ht : (j : Int).tmod 8 = ((j % 8 : Nat) : Int) := rfl
          have hh : ((min 15 (b.length - 15 * j) : Nat) : Int) + 16 * ((j % 8 : Nat) : Int) = hdC b j := rfl
          have hb := hdC_bd b j
          have hw : wr .u8 (hdC b j) = hdC b j := by rw [wr_eq, IntKind.wrap_u8]; omega
          have hw2 : wr .u8 (hdC b j + 128) = hdC b j + 128 := by rw [wr_eq, IntKind.wrap_u8]; omega
          have wa : wr .i64 (((15 * j : Nat) : Int) + 15) = ((15 * j : Nat) : Int) + 15 := wrap_id (by omega) (by omega)
          have wb : wr .i64 (16 * ((j % 8 : Nat) : Int)) = 16 * ((j % 8 : Nat) : Int) := wrap_id (by omega) (by omega)
          have wc : wr .i64 (hdC b j) = hdC b j := wrap_id (by omega) (by omega)
          have hcl : ∀ h, hdV b j = h → (⟨h, b.getD (15 * j) 0, b.getD (15 * j + 1) 0, b.getD (15 * j + 2) 0, b.getD (15 * j + 3) 0, b.getD (15 * j + 4) 0, b.getD (15 * j + 5) 0, b.getD (15 * j + 6) 0, b.getD (15 * j + 7) 0, b.getD (15 * j + 8) 0, b.getD (15 * j + 9) 0, b.getD (15 * j + 10) 0, b.getD (15 * j + 11) 0, b.getD (15 * j + 12) 0, b.getD (15 * j + 13) 0, b.getD (15 * j + 14) 0⟩ : C16) = cellAt b j := fun h e => by unfold cellAt; rw [e]; rfl
          have htj : List.take j (List.map (cellAt b) (List.range j)) = List.map (cellAt b) (List.range j) := List.take_of_length_le (by simp)
          simp (config := { maxSteps := 2000000 }) only [go_sem, hG, hP, Nat.reduceEqDiff, ↓reduceIte, reduceCtorEq, Nat.reduceAdd, Nat.reduceSub, Nat.reduceMul, Nat.reduceLT, Nat.reduceLeDiff, Int.reduceAdd, Int.reduceSub, Int.reduceMul, Int.reduceLT, Int.reduceLE, Int.reduceEq, Int.reduceNeg, Int.reduceNe, Int.reduceGE, Int.reduceGT, Nat.reduceBEq, Int.reduceToNat,  e1]
          refine ⟨by simp, ?_⟩
          refine loopI hE (fun n : Nat => ⟨[(0, .rs .byte b), (3, .sub 0 16 0 j), (4, .v (.int .i64 ((15 * j : Nat) : Int))), (5, .arp 1 16), (6, .v (.int .i64 n))], [(0, .row .c16 ((List.range j).map (cellAt b))), (1, .row .byte (rowN b (15 * j) n))], 2, Try.f21.ntmps⟩) (fun n => n ≤ min 15 (b.length - 15 * j)) (fun n => min 15 (b.length - 15 * j) - n) ⟨0, by omega, SubS.weak ?_⟩ ?_
          · simp (config := { maxSteps := 2000000 }) only [go_sem, hG, hP, Nat.reduceEqDiff, ↓reduceIte, reduceCtorEq, Nat.reduceAdd, Nat.reduceSub, Nat.reduceMul, Nat.reduceLT, Nat.reduceLeDiff, Int.reduceAdd, Int.reduceSub, Int.reduceMul, Int.reduceLT, Int.reduceLE, Int.reduceEq, Int.reduceNeg, Int.reduceNe, Int.reduceGE, Int.reduceGT, Nat.reduceBEq, Int.reduceToNat,  rowN_lit]
            repeat' (first | with_reducible rfl | (refine And.intro ?_ ?_) | (refine congrArg (Value.int _) ?_; omega) | omega)
          · intro n hn
            dsimp only at hn ⊢
            by_cases hn2 : n < min 15 (b.length - 15 * j)
            · have e3 : ((n : Int) < 15) = True := by apply eq_true; omega
              have e4 : (((15 * j : Nat) : Int) + n < b.length) = True := by apply eq_true; omega
              have wd : wr .i64 (((15 * j : Nat) : Int) + n) = ((15 * j : Nat) : Int) + n := wrap_id (by omega) (by omega)
              have we : wr .i64 ((n : Int) + 1) = (n : Int) + 1 := wrap_id (by omega) (by omega)
              have hst := rowN_set (b := b) (p := 15 * j) (n := n) (by omega)
              have t1 : ((n : Int) + 1).toNat = n + 1 := by omega
              have t2 : (((15 * j : Nat) : Int) + n).toNat = 15 * j + n := by omega
              simp (config := { maxSteps := 2000000 }) only [go_sem, hG, hP, Nat.reduceEqDiff, ↓reduceIte, reduceCtorEq, Nat.reduceAdd, Nat.reduceSub, Nat.reduceMul, Nat.reduceLT, Nat.reduceLeDiff, Int.reduceAdd, Int.reduceSub, Int.reduceMul, Int.reduceLT, Int.reduceLE, Int.reduceEq, Int.reduceNeg, Int.reduceNe, Int.reduceGE, Int.reduceGT, Nat.reduceBEq, Int.reduceToNat,  e3, e4, wd, we, rowN_len, t1, t2, hst]
              (try simp (disch := omega) only [wrap_id])
              repeat (refine And.intro (by first | omega | (simp; done) | (simp; omega) | (unfold appRoom; omega)) ?_)
              refine ⟨n + 1, ⟨by omega, by omega⟩, SubS.weak ?_⟩
              simp (config := { maxSteps := 2000000 }) only [go_sem, hG, hP, Nat.reduceEqDiff, ↓reduceIte, reduceCtorEq, Nat.reduceAdd, Nat.reduceSub, Nat.reduceMul, Nat.reduceLT, Nat.reduceLeDiff, Int.reduceAdd, Int.reduceSub, Int.reduceMul, Int.reduceLT, Int.reduceLE, Int.reduceEq, Int.reduceNeg, Int.reduceNe, Int.reduceGE, Int.reduceGT, Nat.reduceBEq, Int.reduceToNat]
              repeat' (first | with_reducible rfl | (refine And.intro ?_ ?_) | (refine congrArg (Value.int _) ?_; omega) | omega)
            · have hnn : n = min 15 (b.length - 15 * j) := by omega
              have wd : wr .i64 (((15 * j : Nat) : Int) + n) = ((15 * j : Nat) : Int) + n := wrap_id (by omega) (by omega)
              have e3 : ((n : Int) < 15 ∧ ((15 * j : Nat) : Int) + n < b.length) = False := by apply eq_false; omega
              by_cases he : b.length ≤ 15 * j + 15
              · have e2 : (((15 * j : Nat) : Int) + 15 ≥ b.length) = True := by apply eq_true; omega
                have hv : hdV b j = hdC b j + 128 := if_pos he
                subst hnn
                simp (config := { maxSteps := 2000000 }) only [go_sem, hG, hP, Nat.reduceEqDiff, ↓reduceIte, reduceCtorEq, Nat.reduceAdd, Nat.reduceSub, Nat.reduceMul, Nat.reduceLT, Nat.reduceLeDiff, Int.reduceAdd, Int.reduceSub, Int.reduceMul, Int.reduceLT, Int.reduceLE, Int.reduceEq, Int.reduceNeg, Int.reduceNe, Int.reduceGE, Int.reduceGT, Nat.reduceBEq, Int.reduceToNat,  e2, e3, wd, ht, rowN_len, List.length_set, List.set_set, gds, hh, hw, hw2, rowA_cell, cells_len, wa, wb, wc, htj, hcl _ hv, cells_snoc]
                (try simp (disch := omega) only [wrap_id])
                repeat (refine And.intro (by first | omega | (simp; done) | (simp; omega) | (unfold appRoom; omega)) ?_)
                repeat' (first | (refine And.intro ?_ ?_) | (with_reducible intro _))
                all_goals first
                  | (exfalso; omega)
                  | omega
                  | (unfold appRoom; omega)
                  | (refine ⟨j + 1, ⟨by omega, by omega⟩, SubS.weak ?_⟩; simp (config := { maxSteps := 2000000 }) only [go_sem, hG, hP, Nat.reduceEqDiff, ↓reduceIte, reduceCtorEq, Nat.reduceAdd, Nat.reduceSub, Nat.reduceMul, Nat.reduceLT, Nat.reduceLeDiff, Int.reduceAdd, Int.reduceSub, Int.reduceMul, Int.reduceLT, Int.reduceLE, Int.reduceEq, Int.reduceNeg, Int.reduceNe, Int.reduceGE, Int.reduceGT, Nat.reduceBEq, Int.reduceToNat]; repeat' (first | with_reducible rfl | (refine And.intro ?_ ?_) | (refine congrArg (Value.int _) ?_; omega) | omega); done)
              · have e2 : (((15 * j : Nat) : Int) + 15 ≥ b.length) = False := by apply eq_false; omega
                have hv : hdV b j = hdC b j := if_neg he
                subst hnn
                simp (config := { maxSteps := 2000000 }) only [go_sem, hG, hP, Nat.reduceEqDiff, ↓reduceIte, reduceCtorEq, Nat.reduceAdd, Nat.reduceSub, Nat.reduceMul, Nat.reduceLT, Nat.reduceLeDiff, Int.reduceAdd, Int.reduceSub, Int.reduceMul, Int.reduceLT, Int.reduceLE, Int.reduceEq, Int.reduceNeg, Int.reduceNe, Int.reduceGE, Int.reduceGT, Nat.reduceBEq, Int.reduceToNat,  e2, e3, wd, ht, rowN_len, List.length_set, List.set_set, gds, hh, hw, hw2, rowA_cell, cells_len, wa, wb, wc, htj, hcl _ hv, cells_snoc]
                (try simp (disch := omega) only [wrap_id])
                repeat (refine And.intro (by first | omega | (simp; done) | (simp; omega) | (unfold appRoom; omega)) ?_)
                repeat' (first | (refine And.intro ?_ ?_) | (with_reducible intro _))
                all_goals first
                  | (exfalso; omega)
                  | omega
                  | (unfold appRoom; omega)
                  | (refine ⟨j + 1, ⟨by omega, by omega⟩, SubS.weak ?_⟩; simp (config := { maxSteps := 2000000 }) only [go_sem, hG, hP, Nat.reduceEqDiff, ↓reduceIte, reduceCtorEq, Nat.reduceAdd, Nat.reduceSub, Nat.reduceMul, Nat.reduceLT, Nat.reduceLeDiff, Int.reduceAdd, Int.reduceSub, Int.reduceMul, Int.reduceLT, Int.reduceLE, Int.reduceEq, Int.reduceNeg, Int.reduceNe, Int.reduceGE, Int.reduceGT, Nat.reduceBEq, Int.reduceToNat]; repeat' (first | with_reducible rfl | (refine And.intro ?_ ?_) | (refine congrArg (Value.int _) ?_; omega) | omega); done)
        · have e1 : (((15 * j : Nat) : Int) < b.length) = False := by apply eq_false; omega
          have ej : j = (b.length + 14) / 15 := by omega
          simp (config := { maxSteps := 2000000 }) only [go_sem, hG, hP, Nat.reduceEqDiff, ↓reduceIte, reduceCtorEq, Nat.reduceAdd, Nat.reduceSub, Nat.reduceMul, Nat.reduceLT, Nat.reduceLeDiff, Int.reduceAdd, Int.reduceSub, Int.reduceMul, Int.reduceLT, Int.reduceLE, Int.reduceEq, Int.reduceNeg, Int.reduceNe, Int.reduceGE, Int.reduceGT, Nat.reduceBEq, Int.reduceToNat,  e1]
          subst ej
          refine ⟨_, _, _, ?_, h⟩
          simp (config := { maxSteps := 2000000 }) only [go_sem, hG, hP, Nat.reduceEqDiff, ↓reduceIte, reduceCtorEq, Nat.reduceAdd, Nat.reduceSub, Nat.reduceMul, Nat.reduceLT, Nat.reduceLeDiff, Int.reduceAdd, Int.reduceSub, Int.reduceMul, Int.reduceLT, Int.reduceLE, Int.reduceEq, Int.reduceNeg, Int.reduceNe, Int.reduceGE, Int.reduceGT, Nat.reduceBEq, Int.reduceToNat]
          repeat' (first | with_reducible rfl | (refine And.intro ?_ ?_) | (refine congrArg (Value.int _) ?_; omega) | omega)
  · exact h.elim
end Go.Proofs.YtfjfaajdbomhbaaE

/-! The code of a function, in the engine's words. -/
namespace Go.Proofs.YtfjfaajdbomhbaaE
open Go Go.RowKit
@[reducible] def ic6 : IC := (.seq (.ops [⟨some 2, .mov (.const (.bool false)), none⟩]) (.seq (.seq (.ops [⟨some 10, .mov (.tmp 0), none⟩, ⟨some 11, .len (.tmp 10), none⟩, ⟨some 12, .bin .gtr (.tmp 11) (.const (.int .i64 1048576)), none⟩]) (.cond (.tmp 12) (.seq (.ops [⟨some 2, .mov (.const (.bool true)), none⟩]) .ret) .skip)) (.seq (.ops [⟨some 13, .mov (.tmp 0), none⟩, ⟨some 14, .call 14 [(.tmp 13)], none⟩, ⟨some 15, .call 21 [(.tmp 14)], none⟩, ⟨some 3, .mov (.tmp 15), none⟩]) (.seq (.ops [⟨some 16, .mov (.tmp 0), none⟩, ⟨some 17, .call 14 [(.tmp 16)], none⟩, ⟨some 4, .mov (.tmp 17), none⟩]) (.seq (.ops [⟨some 18, .mov (.tmp 4), none⟩, ⟨some 19, .call 22 [(.tmp 18)], none⟩, ⟨some 5, .mov (.tmp 19), none⟩]) (.seq (.seq (.ops [⟨some 20, .mov (.tmp 5), none⟩, ⟨some 21, .mov (.tmp 3), none⟩, ⟨some 22, .call 23 [(.tmp 20), (.tmp 21)], none⟩, ⟨some 23, .una .not (.tmp 22), none⟩]) (.cond (.tmp 23) (.seq (.ops [⟨some 2, .mov (.const (.bool false)), none⟩]) .ret) .skip)) (.seq (.seq (.ops [⟨some 24, .mov (.tmp 4), none⟩, ⟨some 25, .mov (.tmp 0), none⟩, ⟨some 26, .call 14 [(.tmp 25)], none⟩, ⟨some 27, .call 16 [(.tmp 24), (.tmp 26)], none⟩, ⟨some 28, .una .not (.tmp 27), none⟩]) (.cond (.tmp 28) (.seq (.ops [⟨some 2, .mov (.const (.bool false)), none⟩]) .ret) .skip)) (.seq (.ops [⟨some 6, .mov (.const (.int .i64 1)), none⟩]) (.seq (.ops [⟨some 29, .mov (.tmp 4), none⟩, ⟨some 30, .mov (.tmp 6), none⟩, ⟨some 31, .call 24 [(.tmp 29), (.tmp 30)], none⟩, ⟨some 6, .mov (.tmp 31), none⟩]) (.seq (.seq (.ops [⟨some 32, .mov (.tmp 6), none⟩, ⟨some 33, .bin .lss (.tmp 32) (.const (.int .i64 0)), none⟩, ⟨some 34, .mov (.tmp 33), none⟩, ⟨some 35, .mov (.tmp 5), some (34, false)⟩, ⟨some 36, .mov (.tmp 3), some (34, false)⟩, ⟨some 37, .call 23 [(.tmp 35), (.tmp 36)], some (34, false)⟩, ⟨some 38, .una .not (.tmp 37), some (34, false)⟩, ⟨some 39, .pick (.tmp 34) (.const (.bool true)) (.tmp 38), none⟩]) (.cond (.tmp 39) (.seq (.ops [⟨some 2, .mov (.const (.bool false)), none⟩]) .ret) .skip)) (.seq (.ops [⟨some 7, .mov (.const (.int .i64 1)), none⟩]) (.seq (.ops [⟨some 40, .mov (.tmp 5), none⟩, ⟨some 41, .mov (.tmp 7), none⟩, ⟨some 42, .call 25 [(.tmp 40), (.tmp 41)], none⟩, ⟨some 7, .mov (.tmp 42), none⟩]) (.seq (.ops [⟨some 8, .mov (.const (.int .i64 1)), none⟩]) (.seq (.ops [⟨some 43, .mov (.tmp 5), none⟩, ⟨some 44, .mov (.tmp 8), none⟩, ⟨some 45, .call 26 [(.tmp 43), (.tmp 44)], none⟩, ⟨some 8, .mov (.tmp 45), none⟩]) (.seq (.seq (.ops [⟨some 46, .mov (.tmp 8), none⟩, ⟨some 47, .bin .lss (.tmp 46) (.const (.int .i64 0)), none⟩]) (.cond (.tmp 47) (.seq (.ops [⟨some 2, .mov (.const (.bool false)), none⟩]) .ret) .skip)) (.seq (.seq (.ops [⟨some 48, .mov (.tmp 8), none⟩, ⟨some 49, .mov (.tmp 7), none⟩, ⟨some 50, .bin .neq (.tmp 48) (.tmp 49), none⟩]) (.cond (.tmp 50) (.seq (.ops [⟨some 2, .mov (.const (.bool false)), none⟩]) .ret) .skip)) (.seq (.ops [⟨some 51, .mov (.tmp 0), none⟩, ⟨some 52, .call 14 [(.tmp 51)], none⟩, ⟨some 53, .call 22 [(.tmp 52)], none⟩, ⟨some 9, .mov (.tmp 53), none⟩]) (.seq (.seq (.ops [⟨some 54, .mov (.tmp 9), none⟩, ⟨some 55, .mov (.tmp 3), none⟩, ⟨some 56, .call 23 [(.tmp 54), (.tmp 55)], none⟩, ⟨some 57, .una .not (.tmp 56), none⟩]) (.cond (.tmp 57) (.seq (.ops [⟨some 2, .mov (.const (.bool false)), none⟩]) .ret) .skip)) (.seq (.ops [⟨some 8, .mov (.const (.int .i64 1)), none⟩]) (.seq (.ops [⟨some 58, .mov (.tmp 5), none⟩, ⟨some 59, .mov (.tmp 8), none⟩, ⟨some 60, .call 26 [(.tmp 58), (.tmp 59)], none⟩, ⟨some 8, .mov (.tmp 60), none⟩]) (.seq (.seq (.ops [⟨some 61, .mov (.tmp 8), none⟩, ⟨some 62, .bin .lss (.tmp 61) (.const (.int .i64 0)), none⟩]) (.cond (.tmp 62) (.seq (.ops [⟨some 2, .mov (.const (.bool false)), none⟩]) .ret) .skip)) (.seq (.seq (.ops [⟨some 63, .mov (.tmp 8), none⟩, ⟨some 64, .mov (.tmp 7), none⟩, ⟨some 65, .bin .neq (.tmp 63) (.tmp 64), none⟩]) (.cond (.tmp 65) (.seq (.ops [⟨some 2, .mov (.const (.bool false)), none⟩]) .ret) .skip)) (.seq (.ops [⟨some 2, .mov (.const (.bool true)), none⟩]) .ret)))))))))))))))))))))))
@[reducible] def rv6 : List RV := [.tmp 2]
theorem low6 : lowC Try.prog tau Try.f6.ntmps (Try.f6.body.getD .skip) = some (erase ic6) := by kernel_rfl
theorem res6 : lowR Try.prog Try.f6.results.toList = some rv6 := by kernel_rfl
theorem bod6 : Try.f6.body = some (Try.f6.body.getD .skip) := by kernel_rfl
theorem cal6 : callable Try.prog 6 = true := by kernel_rfl

end Go.Proofs.YtfjfaajdbomhbaaE

/-! The law of Cells. -/
namespace Go.Proofs.YtfjfaajdbomhbaaE
open Go Go.RowKit
set_option linter.unusedSimpArgs false
set_option linter.unusedVariables false
set_option maxRecDepth 50000
set_option maxHeartbeats 8000000

theorem cellsP_len (b : List Int) : (cellsP b).length ≤ 60 := by
  unfold cellsP
  split
  · simp
  · simp; omega
theorem held_cm {k : Int} {n : Nat} : heldC (cMarks k n) k = k + 16 * n := by unfold heldC; rw [cMarks_len, if_pos rfl]
theorem take_cm {k : Int} {n : Nat} : (cMarks k n).take n = cMarks k n := List.take_of_length_le (by rw [cMarks_len]; omega)
theorem held_bm {k : Int} {n : Nat} : heldB (bMarks k n) k = k + n := by unfold heldB; rw [bMarks_len, if_pos rfl]
theorem take_bm {k : Int} {n : Nat} : (bMarks k n).take n = bMarks k n := List.take_of_length_le (by rw [bMarks_len]; omega)
def spLaw6 : Spec := ⟨fun _ _ => [], fun args objs K => match args, objs with
  | [.rs .byte b], [] => K (.v (.bool true)) [] 0
  | _, _ => False, false⟩
theorem spLaw6_t {L : Hp} {a : List AVal} : Spec.take spLaw6 L a = [] := id rfl
theorem spLaw6_k : Spec.keep spLaw6 = false := id rfl
theorem spLaw6_f {b} {K : AVal → Hp → Nat → Prop} : Spec.f spLaw6 ([.rs .byte b]) ([]) K = (K (.v (.bool true)) [] 0) := id rfl
theorem valid6 : Valid Try.prog 6 spLaw6 := by
  refine validI (Γ := lk [(14, spToByteS), (16, spEqByteS), (21, spCells), (22, spCells), (23, spEqCS), (24, spMarkB), (25, spMarkC), (26, spHeldC)]) Try.func6 bod6 low6 res6 (good_of ⟨⟨cal14, valid14⟩, ⟨cal16, valid16⟩, ⟨cal21, valid21⟩, ⟨cal22, valid22⟩, ⟨cal23, valid23⟩, ⟨cal24, valid24⟩, ⟨cal25, valid25⟩, ⟨cal26, valid26⟩, trivial⟩) ?_
  intro E args objs K h hE hG hP
  simp only [spLaw6] at h
  split at h
  · refine ⟨by simp [Try.ntmps6], ?_⟩
    rename_i b
    have hlen := cellsP_len b
    generalize hl : cellsP b = l at *
    simp (config := { maxSteps := 2000000 }) only [go_sem, hG, hP, Nat.reduceEqDiff, ↓reduceIte, reduceCtorEq, Nat.reduceAdd, Nat.reduceSub, Nat.reduceMul, Nat.reduceLT, Nat.reduceLeDiff, Int.reduceAdd, Int.reduceSub, Int.reduceMul, Int.reduceLT, Int.reduceLE, Int.reduceEq, Int.reduceNeg, Int.reduceNe, Int.reduceGE, Int.reduceGT, Nat.reduceBEq, Int.reduceToNat,  spToByteS_f, spToByteS_t, spToByteS_k, spEqByteS_f, spEqByteS_t, spEqByteS_k, spCells_f, spCells_t, spCells_k, spEqCS_f, spEqCS_t, spEqCS_k, spMarkB_f, spMarkB_t, spMarkB_k, spMarkC_f, spMarkC_t, spMarkC_k, spHeldC_f, spHeldC_t, spHeldC_k, hl, take1_eq, take_cm, take_bm, cMarks_len, bMarks_len, held_cm]
    repeat (refine And.intro (by first | omega | (simp; done) | (simp; omega) | (unfold appRoom; omega)) ?_)
    refine ⟨fun hs => ⟨_, _, _, ?_, h⟩, fun hs => ?_⟩
    · simp (config := { maxSteps := 2000000 }) only [go_sem, hG, hP, Nat.reduceEqDiff, ↓reduceIte, reduceCtorEq, Nat.reduceAdd, Nat.reduceSub, Nat.reduceMul, Nat.reduceLT, Nat.reduceLeDiff, Int.reduceAdd, Int.reduceSub, Int.reduceMul, Int.reduceLT, Int.reduceLE, Int.reduceEq, Int.reduceNeg, Int.reduceNe, Int.reduceGE, Int.reduceGT, Nat.reduceBEq, Int.reduceToNat]
    have b1 : b.length ≤ 1048576 := by omega
    repeat' (first | (refine And.intro ?_ ?_) | (with_reducible intro _))
    all_goals first | omega | (refine ⟨_, _, _, ?_, h⟩; simp (config := { maxSteps := 2000000 }) only [go_sem, hG, hP, Nat.reduceEqDiff, ↓reduceIte, reduceCtorEq, Nat.reduceAdd, Nat.reduceSub, Nat.reduceMul, Nat.reduceLT, Nat.reduceLeDiff, Int.reduceAdd, Int.reduceSub, Int.reduceMul, Int.reduceLT, Int.reduceLE, Int.reduceEq, Int.reduceNeg, Int.reduceNe, Int.reduceGE, Int.reduceGT, Nat.reduceBEq, Int.reduceToNat]; all_goals (first | (simp; done) | omega))
  · exact h.elim
end Go.Proofs.YtfjfaajdbomhbaaE

/-! What an argument of a law reads as, in the engine's words; and what a proved function gives a law. -/
namespace Go.Proofs.YtfjfaajdbomhbaaE
open Go Go.RowKit Go.ChangeShapes Go.WideShapes
set_option linter.unusedSimpArgs false
set_option linter.unusedVariables false

def nm0 : Nm := fun _ => none
def noC : CR := ⟨fun _ => False, fun _ => False, fun _ h => h⟩
/-- What type t's data read as, by d; ok: what is known of it. -/
def Tells (P : Program) (t : TypeId) {α : Type} (n : Nat) (d : α → List AVal) (ok : α → Prop) : Prop :=
  ∀ (H : Type) (enc : TypeId × Value → H) (W : World) (base : Nat) (spare : Nat → Bool) (held : Bool) (fuel : Nat) (cs : List Value) (x : DataW H × List MemPlace),
    DataW.trod enc P W base spare held fuel t cs = some x → (∀ b ∈ x.1.weights P t, b ≤ reachBytes) → ∃ y : α, (DenL W noC nm0 (d y) cs ∧ cs.length = n) ∧ ok y
def TellsF (P : Program) (fs : List Field) (off : Nat) {α : Type} (n : Nat) (d : α → List AVal) (ok : α → Prop) : Prop :=
  ∀ (H : Type) (enc : TypeId × Value → H) (W : World) (base : Nat) (spare : Nat → Bool) (held : Bool) (fuel : Nat) (cs : List Value) (xs : List (DataW H × List MemPlace)),
    (∀ (i : Nat) (f : Field), fs[i]? = some f → DataW.trod enc P W base spare held fuel f.type ((cs.drop f.offset).take (P.cellsOf f.type)) = xs[i]?) → xs.length = fs.length → cs.length = off + n →
    (∀ (i : Nat) (f : Field) x, fs[i]? = some f → xs[i]? = some x → ∀ b ∈ x.1.weights P f.type, b ≤ reachBytes) → ∃ y : α, (DenL W noC nm0 (d y) (cs.drop off)) ∧ ok y

theorem den1 {W : World} (v : Value) : DenL W noC nm0 [.v v] [v] := DenL.cons (.v v) .nil
theorem Tells.int {P : Program} {t : TypeId} {k : IntKind} (ht : P.underlying t = some (.int k)) : Tells P t 1 (fun n : Int => [.v (.int k n)]) (fun n => (Lit.int k n).wf = true) := by
  intro H enc W base spare held fuel cs x h _
  cases fuel with
  | zero => simp [DataW.trod] at h
  | succ m =>
    unfold DataW.trod at h
    rw [ht] at h
    split at h <;> simp_all
    obtain ⟨⟨_, h1⟩, _⟩ := h
    exact ⟨_, den1 _, h1⟩
theorem Tells.bool {P : Program} {t : TypeId} (ht : P.underlying t = some .bool) : Tells P t 1 (fun b : Bool => [.v (.bool b)]) (fun _ => True) := by
  intro H enc W base spare held fuel cs x h _
  cases fuel with
  | zero => simp [DataW.trod] at h
  | succ m =>
    unfold DataW.trod at h
    rw [ht] at h
    split at h <;> simp_all
    rename_i b
    cases b
    · exact .inl (den1 _)
    · exact .inr (den1 _)
theorem Tells.string {P : Program} {t : TypeId} (ht : P.underlying t = some .string) : Tells P t 1 (fun s : ByteArray => [.v (.string s)]) (fun s => s.size ≤ 140737488351232) := by
  intro H enc W base spare held fuel cs x h hw
  cases fuel with
  | zero => simp [DataW.trod] at h
  | succ m =>
    unfold DataW.trod at h
    rw [ht] at h
    split at h <;> simp_all
    obtain ⟨_, h2⟩ := h
    subst h2
    refine ⟨_, den1 _, ?_⟩
    have := hw _ (by simp only [DataW.weights]; exact List.mem_singleton.2 rfl)
    rw [Array.length_toList] at this
    exact this
theorem weights_all {H : Type} {P : Program} {e : TypeId} {ds : List (DataW H)} {d : DataW H} (hd : d ∈ ds) {b : Nat} (hb : b ∈ d.weights P e) : b ∈ DataW.weightsAll P e ds := by
  induction ds with
  | nil => cases hd
  | cons a r ih =>
    simp only [DataW.weightsAll, List.mem_append]
    rcases List.mem_cons.1 hd with rfl | hd
    · exact .inl hb
    · exact .inr (ih hd)
theorem Tells.slice {P : Program} {t e : TypeId} (ht : P.underlying t = some (.slice e)) {τ : Ty} {ok : τ.D → Prop} (he : Tells P e (sz τ) (enc τ) ok) (hs : P.cellsOf e = sz τ) {B : Nat} (hB : P.bytesOf e = B) :
    Tells P t 1 (fun xs : List τ.D => [.rs τ xs]) (fun xs => xs.length * B ≤ 140737488351232 ∧ xs.length ≤ maxLen ∧ ∀ x ∈ xs, ok x) := by
  intro H enc' W base spare held fuel cs x h hw
  rcases Go.Deep.open_slice ht h with ⟨rfl, rfl⟩ | ⟨a, len, cap, m, n, D, Pl, rfl, hb, hl, hm, hmm, rfl, hx⟩
  · exact ⟨[], ⟨DenL.cons (Den.rs (t := τ) (xs := []) (A := none) (c := 0) (fun _ => undef) (.inl (by simp)) (Nat.le_refl _) (fun i f x av hx => by simp at hx)) .nil, rfl⟩, by simp [maxLen]⟩
  · have hlm : len ≤ m := by rw [hmm]; split <;> omega
    have hel : ∀ i, i < len → ∃ y : τ.D, (∃ c, W.cells? base (a.add (i * P.cellsOf e)) (P.cellsOf e) = some c ∧ (DenL W noC nm0 (enc τ y) c ∧ c.length = sz τ)) ∧ ok y := by
      intro i hi
      obtain ⟨c, hc, hd⟩ := hx i (by omega)
      obtain ⟨y, hy, hok⟩ := he H enc' W base spare held n c _ hd (fun b hb => hw b (by
        simp only [DataW.weights, ht, List.mem_cons, List.mem_append]
        exact .inr (.inl (weights_all (List.mem_map.2 ⟨i, List.mem_range.2 hi, rfl⟩) hb))))
      exact ⟨y, ⟨c, hc, hy⟩, hok⟩
    have : Inhabited τ.D := ⟨dflt τ⟩
    obtain ⟨f, hf⟩ := Go.Deep.choose_lt hel
    have hlen : ((List.range len).map f).length = len := by simp
    have hcell : ∀ i, i < len → ∃ c, DenL W noC nm0 (enc τ (f i)) c ∧ c.length = sz τ ∧ ∀ j, j < sz τ → W.cell? (a.add (i * sz τ + j)) = c[j]? := by
      intro i hi
      obtain ⟨⟨c, hc, hd, hcl⟩, _⟩ := hf i hi
      refine ⟨c, hd, hcl, fun j hj => ?_⟩
      have hc' := World.cells?_some hc
      rw [hs] at hc'
      have := hc'.2.2 j hj
      rw [← this, Go.Deep.add_add]
    have hall : ∀ k, k < len * sz τ → ∃ u, W.cell? (a.add k) = some u := by
      intro k hk
      have hz := sz_pos τ
      have hi : k / sz τ < len := Nat.div_lt_of_lt_mul (by rw [Nat.mul_comm]; exact hk)
      have hj : k % sz τ < sz τ := Nat.mod_lt _ hz
      obtain ⟨c, _, hcl, hc⟩ := hcell _ hi
      refine ⟨c[k % sz τ]'(by omega), ?_⟩
      have := hc _ hj
      rw [show k / sz τ * sz τ + k % sz τ = k by rw [Nat.mul_comm]; exact Nat.div_add_mod k (sz τ)] at this
      rw [this, List.getElem?_eq_getElem]
    refine ⟨(List.range len).map f, ⟨DenL.cons ?_ .nil, rfl⟩, ?_, by rw [hlen]; exact Nat.le_trans hl hm, ?_⟩
    · have key : Den W noC nm0 (.rs τ ((List.range len).map f)) (.slice (some a) ((List.range len).map f).length cap) := by
        refine .rs (fun k => (W.cell? (a.add k)).getD undef) ?_ (by rw [hlen]; exact hl) ?_
        · rw [hlen]
          rcases Nat.eq_zero_or_pos (len * sz τ) with h0 | hp
          · exact .inl h0
          · obtain ⟨u, hu⟩ := hall 0 hp
            refine .inr ⟨a, rfl, ?_, fun h => h, fun k hk => ?_⟩
            · have := World.block_lt_of_cell? _ _ hu
              simpa [Addr.add] using this
            · obtain ⟨u, hu⟩ := hall k hk
              simp [hu]
        · intro i j x av hx hav
          have hi : i < len := by
            have := (List.getElem?_eq_some_iff.1 hx).1
            rwa [hlen] at this
          have hx' : f i = x := by simpa [hi] using hx
          subst hx'
          obtain ⟨c, hd, hcl, hc⟩ := hcell i hi
          have hj : j < sz τ := by
            have := (List.getElem?_eq_some_iff.1 hav).1
            rwa [enc_length] at this
          have := hc j hj
          rw [this, List.getElem?_eq_getElem (by omega)]
          exact hd.2 j av _ hav (List.getElem?_eq_getElem (by omega))
      rw [hlen] at key
      exact key
    · rw [hlen]
      have := hw ((((List.range len).map D).length + ((List.range (m - len)).map fun j => D (len + j)).length) * P.bytesOf e) (by simp only [DataW.weights, ht]; exact List.mem_cons_self)
      rw [hB] at this
      simp only [List.length_map, List.length_range] at this
      have h2 : len * B ≤ (len + (m - len)) * B := Nat.mul_le_mul_right _ (by omega)
      unfold reachBytes at this
      omega
    · intro y hy
      obtain ⟨i, hi, rfl⟩ := List.mem_map.1 hy
      exact (hf i (List.mem_range.1 hi)).2
theorem TellsF.one {P : Program} {f : Field} {off n : Nat} {α : Type} {d : α → List AVal} {ok : α → Prop} (h : Tells P f.type n d ok) (ho : f.offset = off) (hc : P.cellsOf f.type = n) : TellsF P [f] off n d ok := by
  intro H enc W base spare held fuel cs xs hx hl hcs hw
  match xs, hl with
  | [x], _ =>
    have h0 := hx 0 f rfl
    rw [ho, hc, List.take_of_length_le (by rw [List.length_drop]; omega)] at h0
    obtain ⟨y, hy, hok⟩ := h H enc W base spare held fuel _ x h0 (hw 0 f x rfl rfl)
    exact ⟨y, hy.1, hok⟩
theorem TellsF.cons {P : Program} {f : Field} {fs : List Field} {off n n' : Nat} {α β : Type} {d : α → List AVal} {d' : β → List AVal} {ok : α → Prop} {ok' : β → Prop} (h : Tells P f.type n d ok) (ho : f.offset = off) (hc : P.cellsOf f.type = n)
    (r : TellsF P fs (off + n) n' d' ok') : TellsF P (f :: fs) off (n + n') (fun x : α × β => d x.1 ++ d' x.2) (fun x => ok x.1 ∧ ok' x.2) := by
  intro H enc W base spare held fuel cs xs hx hl hcs hw
  match xs, hl with
  | x :: xs, hl =>
    have h0 := hx 0 f rfl
    rw [ho, hc] at h0
    obtain ⟨y, hy, hok⟩ := h H enc W base spare held fuel _ x h0 (hw 0 f x rfl rfl)
    obtain ⟨y', hy', hok'⟩ := r H enc W base spare held fuel cs xs (fun i g hg => hx (i + 1) g hg) (by simpa using hl) (by omega) (fun i g z hg hz => hw (i + 1) g z hg hz)
    refine ⟨(y, y'), ?_, hok, hok'⟩
    have := hy.1.append hy'
    rw [← List.drop_drop, List.take_append_drop] at this
    exact this
theorem weights_each {H : Type} {P : Program} {fs : List Field} : ∀ {xs : List (DataW H × List MemPlace)} {i : Nat} {f : Field} {x : DataW H × List MemPlace}, fs[i]? = some f → xs[i]? = some x → ∀ b ∈ x.1.weights P f.type, b ∈ DataW.weightsEach P (fs.map (·.type)) (xs.map (·.1)) := by
  intro xs i f x hf hx b hb
  exact DataW.weights_mem_each (j := i) (t := f.type) (d := x.1) (by simp [hf]) (by simp [hx]) b hb
theorem Tells.struct {P : Program} {t : TypeId} {fs : Array Field} (ht : P.underlying t = some (.struct fs)) {α : Type} {n : Nat} {d : α → List AVal} {ok : α → Prop} (h : TellsF P fs.toList 0 n d ok) (hc : P.cellsOf t = n) : Tells P t n d ok := by
  intro H enc W base spare held fuel cs x hx hw
  obtain ⟨xs, m, _, rfl, hl, hlen, hf⟩ := DataW.trod_struct ht hx
  obtain ⟨y, hy, hok⟩ := h H enc W base spare held m cs xs (fun i f hi => hf i f (by rw [← Array.getElem?_toList]; exact hi)) (by simpa using hlen) (by omega) (fun i f x hi hx b hb => hw b (by
    simp only [DataW.weights, ht]
    exact weights_each hi hx b hb))
  exact ⟨y, ⟨by simpa using hy, by omega⟩, hok⟩
/-- An array's elements in line, as fields. -/
theorem Tells.array {P : Program} {t e : TypeId} {k : Nat} (ht : P.underlying t = some (.array k e)) {α : Type} {n : Nat} {d : α → List AVal} {ok : α → Prop} (h : TellsF P ((List.range k).map fun i => { name := "", type := e, offset := i * P.cellsOf e, embedded := false, tag := "", pkgPath := "", byteOffset := 0 }) 0 n d ok)
    (hc : P.cellsOf t = n) : Tells P t n d ok := by
  intro H enc W base spare held fuel cs x hx hw
  obtain ⟨xs, m, _, rfl, hl, hlen, hf⟩ := DataW.trod_array ht hx
  obtain ⟨y, hy, hok⟩ := h H enc W base spare held m cs xs (fun i f hi => by
      have hin : i < k := by
        rcases Nat.lt_or_ge i k with h | h
        · exact h
        · simp [h] at hi
      simp [hin] at hi
      subst hi
      exact hf i hin) (by simpa using hlen) (by omega) (fun i f x hi hx b hb => hw b (by
    have hin : i < k := by
      rcases Nat.lt_or_ge i k with h | h
      · exact h
      · simp [h] at hi
    simp [hin] at hi
    subst hi
    simp only [DataW.weights, ht]
    exact weights_all (List.mem_map.2 ⟨x, List.mem_iff_getElem?.2 ⟨i, hx⟩, rfl⟩) hb))
  exact ⟨y, ⟨by simpa using hy, by omega⟩, hok⟩
/-- The same data, told by another name. -/
theorem Tells.as {P : Program} {t : TypeId} {α β : Type} {n : Nat} {d : α → List AVal} {ok : α → Prop} (h : Tells P t n d ok) (g : α → β) (d' : β → List AVal) (hd : ∀ a, d' (g a) = d a) (ok' : β → Prop) (hok : ∀ a, ok a → ok' (g a)) : Tells P t n d' ok' := by
  intro H enc W base spare held fuel cs x hx hw
  obtain ⟨y, hy, hk⟩ := h H enc W base spare held fuel cs x hx hw
  exact ⟨g y, by rw [hd]; exact hy, hok y hk⟩
theorem okWide_agg {P : Program} {w : World} {r : Reach} {base : Nat} {t : TypeId} {v : Value} (ht : (∃ fs, P.underlying t = some (.struct fs)) ∨ ∃ n e, P.underlying t = some (.array n e)) (h : Value.okWide P w r base t v) : ∃ cs, v = .agg cs ∧ cs.size = P.cellsOf t := by
  rcases ht with ⟨fs, ht⟩ | ⟨n, e, ht⟩
  all_goals
    simp only [Value.okWide, ht] at h
    obtain ⟨cs, h1, h2, _⟩ := h
    exact ⟨cs, h1, h2⟩
section
variable {P : Program} {t : TypeId} {α : Type} {n : Nat} {d : α → List AVal} {ok : α → Prop} {H : Type} {enc : TypeId × Value → H} {W : World} {base : Nat} {spare : Nat → Bool} {held : Bool} {x : DataW H} {ps : List MemPlace} {ts : List TypeId} {ds : List (DataW H)}
/-- A struct (an array) that came in by value. -/
theorem Tells.agg (h : Tells P t n d ok) {cs : Array Value} (hsz : (DataW.weightsEach P ts ds).all (· ≤ reachBytes) = true) (j : Nat) (ht : ts[j]? = some t) (hd : ds[j]? = some x)
    (hx : DataW.Trod enc P W base spare held t (.agg cs) x ps) : ∃ y : α, Den W noC nm0 (.agg (d y)) (.agg cs) ∧ ok y := by
  obtain ⟨fuel, hf⟩ := hx
  have hf' : DataW.trod enc P W base spare held fuel t cs.toList = some (x, ps) := by simpa [Value.cells] using hf
  obtain ⟨y, ⟨hy, _⟩, hok⟩ := h H enc W base spare held fuel cs.toList (x, ps) hf' (fun b hb => by simpa using List.all_eq_true.1 hsz b (DataW.weights_mem_each ht hd b hb))
  exact ⟨y, .agg cs.toList hy.1 hy.2, hok⟩
/-- A value of one cell that came in. -/
theorem Tells.cell {f : α → AVal} (h : Tells P t 1 (fun y => [f y]) ok) {v : Value} (hv : v.cells = #[v]) (hsz : (DataW.weightsEach P ts ds).all (· ≤ reachBytes) = true) (j : Nat) (ht : ts[j]? = some t) (hd : ds[j]? = some x)
    (hx : DataW.Trod enc P W base spare held t v x ps) : ∃ y : α, Den W noC nm0 (f y) v ∧ ok y := by
  obtain ⟨fuel, hf⟩ := hx
  have hf' : DataW.trod enc P W base spare held fuel t [v] = some (x, ps) := by simpa [hv] using hf
  obtain ⟨y, ⟨hy, _⟩, hok⟩ := h H enc W base spare held fuel [v] (x, ps) hf' (fun b hb => by simpa using List.all_eq_true.1 hsz b (DataW.weights_mem_each ht hd b hb))
  exact ⟨y, hy.2 0 _ v rfl rfl, hok⟩
end
/-- A proved law at arguments that can only be read. -/
theorem law_ok {P : Program} {f : Nat} {sp : Spec} (hv : Valid P f sp) {W : World} {args : List AVal} {vals : List Value} (hd : DenL W noC nm0 args vals) (h : ∀ K : AVal → Hp → Nat → Prop, K (.v (.bool true)) [] 0 → sp.f args [] K) :
    Calls P f ⟨vals⟩ W fun e w' => e = .returned (.bool true) ∧ Below W.heap.size W w' := by
  refine Calls.mono (hv W noC nm0 args vals [] (fun r _ _ => r = .v (.bool true)) hd ?_ (h _ rfl)) ?_
  · exact ⟨fun m o h => (by cases h), fun m o m' o' b x b' x' h => (by cases h), fun m o b x h => (by cases h), fun m _ => rfl, rfl, rfl, rfl, Nat.le_refl _, fun b _ _ => rfl⟩
  · rintro e w' ⟨r, v, L', nx', ρ', rfl, hden, hp, _, hr⟩
    subst hr
    rw [den_v hden]
    exact ⟨rfl, hp.os, hp.tape, hp.output, hp.size, fun k hk => hp.old k hk (fun h => h)⟩
end Go.Proofs.YtfjfaajdbomhbaaE

/-! The law FnExactCells, as its row states it: whatever the input the law returns true; no condition. -/
namespace Go.Proofs.Ytfjfaajdbomhbaa.fnExactCells
open Go.ChangeShapes Go.WideShapes Go.ChangeAt Go.RowKit Go.Proofs.YtfjfaajdbomhbaaE
set_option linter.unusedVariables false
theorem own : ownKnob Try.prog.godebug = none := by kernel_rfl
theorem laidOut : laidOutB Try.prog = true := by kernel_rfl
theorem T5 : Tells Try.prog 5 (sz .byte) (enc .byte) (fun x : Int => 0 ≤ x ∧ x ≤ 255) := (Tells.int Try.underlying5).as (fun n : Int => n) (enc .byte) (fun _ => rfl) _ (fun n h => by
  simp [Lit.wf, IntKind.min, IntKind.max, IntKind.bits, IntKind.signed] at h
  omega)
theorem T26 : Tells Try.prog 26 1 (fun xs : List Int => [.rs .byte xs]) (fun xs => ∀ x ∈ xs, 0 ≤ x ∧ x ≤ 255) := (Tells.slice (τ := .byte) Try.underlying26 T5 (by kernel_rfl) (B := 1) (by kernel_rfl)).as id _ (fun _ => rfl) _ (fun xs h => h.2.2)
set_option maxRecDepth 100000 in
set_option maxHeartbeats 1000000 in
theorem lifted (os : Os) (started : os.Started) (H : Type) (enc : TypeId × Value → H) :
    ReturnsInHanded {} Try.checked os 6 .any (Rows.fnExactCellsSpec.pre6 enc Try.prog Try.f6 Rows.fnExactCellsRow.domain false) (Rows.fnExactCellsSpec.post enc Try.prog Try.f6 false true false false) := by
  refine returnsInHanded_of_change_sized (C := Try.checked) own started (by kernel_rfl) Try.func6
    (ChangeSpec.witness6 (enc := enc) (C := Try.checked) false ⟨#[], #[.slice none 0 0], []⟩ 8 (by kernel_rfl) (by kernel_rfl) (by kernel_rfl) (by kernel_rfl)) ?_
  intro W base args ds gs before hval0 hW hcnd hsz0 _
  have hsz : (DataW.weightsEach Try.prog (Try.f6.params.toList ++ Rows.fnExactCellsSpec.plain.varTypes Try.prog) (ds ++ gs)).all (· ≤ reachBytes) = true := hsz0
  have hval : ∀ (j : Nat) t v, Try.f6.params[j]? = some t → args[j]? = some v → Value.okWide Try.prog W .any base t v := hval0
  have hW' := hW
  obtain ⟨p, q, hA0, hV, rfl, hfz, hnd⟩ := hW
  have hA : DataW.TrodAll enc Try.prog W 0 (fun _ => true) true Try.f6.params.toList args.toList ds p := hA0
  rw [Try.params6] at hA hval hsz
  obtain ⟨v0, vs0, d0, ds0, p0, q0, hargs, rfl, rfl, h0, r0⟩ := trodAll_cons hA
  obtain ⟨rfl, rfl, rfl⟩ := trodAll_nil r0
  obtain rfl : args = #[v0] := by cases args; simp_all
  obtain ⟨rfl, rfl⟩ := trodVars_none hV
  obtain ⟨ax0, len0, cap0, rfl⟩ := okWide_slice Try.underlying26 (hval 0 26 v0 rfl rfl)
  have k0 := h0
  have lt0 : ∀ x ∈ p0, x.block < W.heap.size := by obtain ⟨m, hm⟩ := k0; exact DataW.trod_lt m _ _ _ hm
  obtain ⟨y0, hK0, o0⟩ := Tells.cell T26 rfl hsz 0 rfl rfl h0
  clear hA0 hval0 hsz0 hsz
  refine (law_ok valid6 (DenL.cons hK0 .nil) (fun K hk => hk)).mono fun e W' ⟨he, bel⟩ => ?_
  subst he
  exact ⟨_, rfl, _, _, _, [], _, [], hW', trodAll_mk1 (shut_bool Try.underlying4 _), (trodAll_cons_mk (Below.trod laidOut (by kernel_rfl) (of_decide_eq_true (by kernel_rfl)) k0 bel lt0) trodAll_mk0), rfl, bel.frame _, fun h => by cases h⟩
theorem over : Rows.fnExactCellsRow.holds Try.pinned (OpenSpec.ofChange Rows.fnExactCellsSpec) :=
  OpenClaim.holds_of_wide 6 Try.f6 rfl rfl rfl rfl rfl rfl rfl ⟨rfl, rfl, rfl, rfl, rfl⟩ rfl rfl rfl rfl rfl (by kernel_rfl) Try.func6 (by kernel_rfl)
    (of_decide_eq_true (by kernel_rfl)) (by unfold Func.isWrapper; first | (rw [if_pos (by decide +kernel)]; kernel_rfl) | (rw [if_neg (by decide +kernel)]; exact ⟨rfl, rfl⟩))
    (fun os started H enc _ => lifted os started H enc)
theorem proved : Rows.FnExactCellsSaid := over
#print axioms proved
end Go.Proofs.Ytfjfaajdbomhbaa.fnExactCells
namespace Go.Proofs.Ytfjfaajdbomhbaa
/-- The row, under a short name, for the claim. -/
theorem fnExactCells_holds : Rows.FnExactCellsSaid := fnExactCells.proved
end Go.Proofs.Ytfjfaajdbomhbaa
