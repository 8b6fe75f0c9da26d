/- A part of a proof that a law of the given program holds for every input: no condition. -/
import Derived.Test.YtfjfaajdbomhbaaProg
import Derived.KernelRfl
import Derived.Test.YtfjfaajdbomhbaaKFnCellsBack1

set_option linter.unusedSimpArgs false
set_option linter.unusedVariables false
/-! Bytes are laid into cells. -/
namespace Go.Proofs.YtfjfaajdbomhbaaE
open Go Go.RowKit
set_option linter.unusedSimpArgs false
set_option linter.unusedVariables false
set_option maxRecDepth 50000
set_option maxHeartbeats 8000000

/-- The array of a cell of which n bytes have been laid. -/
def rowN (b : List Int) (p n : Nat) : List Int := (List.range 16).map fun k => if 1 ≤ k ∧ k ≤ n then b.getD (p + (k - 1)) 0 else 0
theorem rowN_len {b : List Int} {p n : Nat} : (rowN b p n).length = 16 := by simp [rowN]
theorem rowN_get {b : List Int} {p n k : Nat} (h : k < 16) : (rowN b p n).getD k 0 = if 1 ≤ k ∧ k ≤ n then b.getD (p + (k - 1)) 0 else 0 := by simp [rowN, List.getD, h]
theorem rowN_zero {b : List Int} {p : Nat} : rowN b p 0 = List.replicate 16 0 := by
  apply List.ext_getElem?
  intro i
  by_cases h : i < 16
  · simp only [rowN, List.getElem?_map, List.getElem?_range h, Option.map_some, List.getElem?_replicate, if_pos h]
    rw [if_neg (by omega)]
  · simp [rowN, h]
theorem rowN_lit {b : List Int} {p : Nat} : rowN b p 0 = [0, 0, 0, 0, 0, 0, 0, 0, 0, 0, 0, 0, 0, 0, 0, 0] := rowN_zero
theorem rowN_set {b : List Int} {p n : Nat} (h : n < 15) : (rowN b p n).set (n + 1) (b.getD (p + n) 0) = rowN b p (n + 1) := by
  apply List.ext_getElem?
  intro i
  rw [List.getElem?_set, rowN_len]
  by_cases hi : i < 16
  · by_cases e : n + 1 = i
    · subst e
      rw [if_pos rfl, if_pos hi]
      simp [rowN, hi]
    · rw [if_neg e]
      simp only [rowN, List.getElem?_map, List.getElem?_range hi, Option.map_some]
      by_cases h2 : 1 ≤ i ∧ i ≤ n
      · rw [if_pos h2, if_pos (by omega)]
      · rw [if_neg h2, if_neg (by omega)]
  · rw [if_neg (by omega)]
    simp [rowN, hi]
theorem cpy_row {b : List Int} {p : Nat} : cpyL (List.replicate 16 0) (b.drop p) 1 15 = rowN b p (min 15 (b.length - p)) := by
  apply List.ext_getElem?
  intro i
  rw [cpyL_get (by simp), List.length_drop]
  by_cases hi : i < 16
  · simp only [rowN, List.getElem?_map, List.getElem?_range hi, Option.map_some]
    by_cases h2 : 1 ≤ i ∧ i < 1 + min 15 (b.length - p)
    · rw [if_pos h2, if_pos (by omega), List.getElem?_drop, List.getD, List.getElem?_eq_getElem (by omega)]
      rfl
    · rw [if_neg h2, if_neg (by omega), List.getElem?_replicate, if_pos hi]
  · rw [if_neg (by omega)]
    simp [rowN, hi]
theorem rowA_cell {b : List Int} {p : Nat} {h : Int} : rowA .byte ((rowN b p (min 15 (b.length - p))).set 0 h) 16 = [.v (.int .u8 h), .v (.int .u8 (b.getD (p + 0) 0)), .v (.int .u8 (b.getD (p + 1) 0)), .v (.int .u8 (b.getD (p + 2) 0)), .v (.int .u8 (b.getD (p + 3) 0)), .v (.int .u8 (b.getD (p + 4) 0)), .v (.int .u8 (b.getD (p + 5) 0)), .v (.int .u8 (b.getD (p + 6) 0)), .v (.int .u8 (b.getD (p + 7) 0)), .v (.int .u8 (b.getD (p + 8) 0)), .v (.int .u8 (b.getD (p + 9) 0)), .v (.int .u8 (b.getD (p + 10) 0)), .v (.int .u8 (b.getD (p + 11) 0)), .v (.int .u8 (b.getD (p + 12) 0)), .v (.int .u8 (b.getD (p + 13) 0)), .v (.int .u8 (b.getD (p + 14) 0))] := by
  have h0 : ∀ k, k < 15 → ((rowN b p (min 15 (b.length - p))).set 0 h).getD (k + 1) 0 = b.getD (p + k) 0 := by
    intro k hk
    have h1 : ((rowN b p (min 15 (b.length - p))).set 0 h).getD (k + 1) 0 = (rowN b p (min 15 (b.length - p))).getD (k + 1) 0 := by
      simp [List.getD, List.getElem?_set]
    rw [h1, rowN_get (by omega)]
    by_cases h2 : 1 ≤ k + 1 ∧ k + 1 ≤ min 15 (b.length - p)
    · rw [if_pos h2]; rfl
    · rw [if_neg h2, List.getD, List.getElem?_eq_none (by omega)]; rfl
  have h1 : ((rowN b p (min 15 (b.length - p))).set 0 h).getD 0 0 = h := by simp [List.getD, rowN_len]
  show [_, _, _, _, _, _, _, _, _, _, _, _, _, _, _, _] = _
  simp only [dflt, h0 0 (by decide), h0 1 (by decide), h0 2 (by decide), h0 3 (by decide), h0 4 (by decide), h0 5 (by decide), h0 6 (by decide), h0 7 (by decide), h0 8 (by decide), h0 9 (by decide), h0 10 (by decide), h0 11 (by decide), h0 12 (by decide), h0 13 (by decide), h0 14 (by decide), h1]
/-- A cell's first byte. -/
def hdC (b : List Int) (j : Nat) : Int := ((min 15 (b.length - 15 * j) : Nat) : Int) + 16 * ((j % 8 : Nat) : Int)
def hdV (b : List Int) (j : Nat) : Int := if b.length ≤ 15 * j + 15 then hdC b j + 128 else hdC b j
def cellAt (b : List Int) (j : Nat) : C16 := ⟨hdV b j, b.getD (15 * j + 0) 0, b.getD (15 * j + 1) 0, b.getD (15 * j + 2) 0, b.getD (15 * j + 3) 0, b.getD (15 * j + 4) 0, b.getD (15 * j + 5) 0, b.getD (15 * j + 6) 0, b.getD (15 * j + 7) 0, b.getD (15 * j + 8) 0, b.getD (15 * j + 9) 0, b.getD (15 * j + 10) 0, b.getD (15 * j + 11) 0, b.getD (15 * j + 12) 0, b.getD (15 * j + 13) 0, b.getD (15 * j + 14) 0⟩
def cellsP (b : List Int) : List C16 := if 900 < b.length then [] else (List.range ((b.length + 14) / 15)).map (cellAt b)
theorem hdC_bd (b : List Int) (j : Nat) : 0 ≤ hdC b j ∧ hdC b j ≤ 127 := by unfold hdC; omega
theorem or_128 : ∀ x : Fin 128, orV .u8 ((x.val : Nat) : Int) 128 = ((x.val : Nat) : Int) + 128 := by unfold orV; rw [wr_eq]; decide +kernel
theorem hdC_or (b : List Int) (j : Nat) : orV .u8 (hdC b j) 128 = hdC b j + 128 := by
  obtain ⟨h1, h2⟩ := hdC_bd b j
  have := or_128 ⟨(hdC b j).toNat, by omega⟩
  simpa [Int.toNat_of_nonneg h1] using this
theorem cells_snoc (b : List Int) (j : Nat) : (List.range j).map (cellAt b) ++ [cellAt b j] = (List.range (j + 1)).map (cellAt b) := by
  rw [List.range_succ, List.map_append]; rfl
theorem cells_len (b : List Int) (j : Nat) : ((List.range j).map (cellAt b)).length = j := by simp
def spCells : Spec := ⟨fun _ _ => [], fun args objs K => match args, objs with
  | [.rs .byte b], [] => K (.sub 0 16 0 (cellsP b).length) [(0, .row .c16 (cellsP b))] 1
  | _, _ => False, false⟩
theorem spCells_t {L : Hp} {a : List AVal} : Spec.take spCells L a = [] := id rfl
theorem spCells_k : Spec.keep spCells = false := id rfl
theorem spCells_f {b} {K : AVal → Hp → Nat → Prop} : Spec.f spCells ([.rs .byte b]) ([]) K = (K (.sub 0 16 0 (cellsP b).length) [(0, .row .c16 (cellsP b))] 1) := id rfl
theorem valid22 : Valid Try.prog 22 spCells := by
  refine validI (Γ := lk []) Try.func22 bod22 low22 res22 (good_of trivial) ?_
  intro E args objs K h hE hG hP
  simp only [spCells] at h
  split at h
  · refine ⟨by simp [Try.ntmps22], ?_⟩
    rename_i b
    by_cases hz : b.length = 0 ∨ 900 < b.length
    · have e0 : cellsP b = [] := by
        unfold cellsP
        rcases hz with hz | hz
        · rw [if_neg (by omega), hz]; rfl
        · rw [if_pos hz]
      rw [e0] at h
      simp (config := { maxSteps := 2000000 }) only [go_sem, hG, hP, Nat.reduceEqDiff, ↓reduceIte, reduceCtorEq, Nat.reduceAdd, Nat.reduceSub, Nat.reduceMul, Nat.reduceLT, Nat.reduceLeDiff, Int.reduceAdd, Int.reduceSub, Int.reduceMul, Int.reduceLT, Int.reduceLE, Int.reduceEq, Int.reduceNeg, Int.reduceNe, Int.reduceGE, Int.reduceGT, Nat.reduceBEq, Int.reduceToNat]
      repeat' (first | (refine And.intro ?_ ?_) | (with_reducible intro _))
      all_goals first
        | (exfalso; omega)
        | (refine ⟨_, _, _, ?_, h⟩; simp (config := { maxSteps := 2000000 }) only [go_sem, hG, hP, Nat.reduceEqDiff, ↓reduceIte, reduceCtorEq, Nat.reduceAdd, Nat.reduceSub, Nat.reduceMul, Nat.reduceLT, Nat.reduceLeDiff, Int.reduceAdd, Int.reduceSub, Int.reduceMul, Int.reduceLT, Int.reduceLE, Int.reduceEq, Int.reduceNeg, Int.reduceNe, Int.reduceGE, Int.reduceGT, Nat.reduceBEq, Int.reduceToNat]; repeat' (first | with_reducible rfl | (refine And.intro ?_ ?_) | (refine congrArg (Value.int _) ?_; omega) | omega); done)
        | skip
      all_goals trace_state
      done
    · have hz1 : ((b.length : Int) = 0) = False := by apply eq_false; omega
      have hz2 : ((b.length : Int) > 900) = False := by apply eq_false; omega
      have e0 : cellsP b = (List.range ((b.length + 14) / 15)).map (cellAt b) := by unfold cellsP; rw [if_neg (by omega)]
      rw [e0, cells_len] at h
      simp (config := { maxSteps := 2000000 }) only [go_sem, hG, hP, Nat.reduceEqDiff, ↓reduceIte, reduceCtorEq, Nat.reduceAdd, Nat.reduceSub, Nat.reduceMul, Nat.reduceLT, Nat.reduceLeDiff, Int.reduceAdd, Int.reduceSub, Int.reduceMul, Int.reduceLT, Int.reduceLE, Int.reduceEq, Int.reduceNeg, Int.reduceNe, Int.reduceGE, Int.reduceGT, Nat.reduceBEq, Int.reduceToNat,  hz1, hz2]
      refine loopI hE (fun j : Nat => ⟨[(0, .rs .byte b), (3, .sub 0 16 0 j), (4, .v (.int .i64 ((15 * j : Nat) : Int)))], [(0, .row .c16 ((List.range j).map (cellAt b)))], 1, Try.f22.ntmps⟩) (fun j => j ≤ (b.length + 14) / 15) (fun j => (b.length + 14) / 15 - j) ⟨0, by omega, SubS.weak ?_⟩ ?_
      · simp (config := { maxSteps := 2000000 }) only [go_sem, hG, hP, Nat.reduceEqDiff, ↓reduceIte, reduceCtorEq, Nat.reduceAdd, Nat.reduceSub, Nat.reduceMul, Nat.reduceLT, Nat.reduceLeDiff, Int.reduceAdd, Int.reduceSub, Int.reduceMul, Int.reduceLT, Int.reduceLE, Int.reduceEq, Int.reduceNeg, Int.reduceNe, Int.reduceGE, Int.reduceGT, Nat.reduceBEq, Int.reduceToNat,  List.range_zero, List.map_nil]
        repeat' (first | with_reducible rfl | (refine And.intro ?_ ?_) | (refine congrArg (Value.int _) ?_; omega) | omega)
      · intro j hj
        dsimp only at hj ⊢
        by_cases hlt : 15 * j < b.length
        · have e1 : (((15 * j : Nat) : Int) < b.length) = True := by apply eq_true; omega
          have ht : (j : Int).tmod 8 = ((j % 8 : Nat) : Int) := rfl
          have hh : ((min 15 (b.length - 15 * j) : Nat) : Int) + 16 * ((j % 8 : Nat) : Int) = hdC b j := rfl
          have hb := hdC_bd b j
          have hw : wr .u8 (hdC b j) = hdC b j := by rw [wr_eq, IntKind.wrap_u8]; omega
          have ho := hdC_or b j
          have htk : List.take ((b.length : Int) - ((15 * j : Nat) : Int)).toNat (List.drop (15 * j) b) = List.drop (15 * j) b := List.take_of_length_le (by rw [List.length_drop]; omega)
          have wa : wr .i64 (((15 * j : Nat) : Int) + 15) = ((15 * j : Nat) : Int) + 15 := wrap_id (by omega) (by omega)
          have wb : wr .i64 (16 * ((j % 8 : Nat) : Int)) = 16 * ((j % 8 : Nat) : Int) := wrap_id (by omega) (by omega)
          have wc : wr .i64 (hdC b j) = hdC b j := wrap_id (by omega) (by omega)
          have hcl : ∀ h, hdV b j = h → (⟨h, b.getD (15 * j) 0, b.getD (15 * j + 1) 0, b.getD (15 * j + 2) 0, b.getD (15 * j + 3) 0, b.getD (15 * j + 4) 0, b.getD (15 * j + 5) 0, b.getD (15 * j + 6) 0, b.getD (15 * j + 7) 0, b.getD (15 * j + 8) 0, b.getD (15 * j + 9) 0, b.getD (15 * j + 10) 0, b.getD (15 * j + 11) 0, b.getD (15 * j + 12) 0, b.getD (15 * j + 13) 0, b.getD (15 * j + 14) 0⟩ : C16) = cellAt b j := fun h e => by unfold cellAt; rw [e]; rfl
          have htj : List.take j (List.map (cellAt b) (List.range j)) = List.map (cellAt b) (List.range j) := List.take_of_length_le (by simp)
          by_cases he : b.length ≤ 15 * j + 15
          · have e2 : (((15 * j : Nat) : Int) + 15 ≥ b.length) = True := by apply eq_true; omega
            have hv : hdV b j = hdC b j + 128 := if_pos he
            simp (config := { maxSteps := 2000000 }) only [go_sem, hG, hP, Nat.reduceEqDiff, ↓reduceIte, reduceCtorEq, Nat.reduceAdd, Nat.reduceSub, Nat.reduceMul, Nat.reduceLT, Nat.reduceLeDiff, Int.reduceAdd, Int.reduceSub, Int.reduceMul, Int.reduceLT, Int.reduceLE, Int.reduceEq, Int.reduceNeg, Int.reduceNe, Int.reduceGE, Int.reduceGT, Nat.reduceBEq, Int.reduceToNat,  e1, e2, ht, htk, cpy_row, rowN_len, List.length_set, List.set_set, gds, List.length_drop, hh, hw, ho, rowA_cell, cells_len, wa, wb, wc, htj, hcl _ hv, cells_snoc]
            (try simp (disch := omega) only [wrap_id])
            repeat (refine And.intro (by first | omega | (simp; done) | (simp; omega) | (unfold appRoom; omega)) ?_)
            refine ⟨j + 1, ⟨by omega, by omega⟩, SubS.weak ?_⟩
            simp (config := { maxSteps := 2000000 }) only [go_sem, hG, hP, Nat.reduceEqDiff, ↓reduceIte, reduceCtorEq, Nat.reduceAdd, Nat.reduceSub, Nat.reduceMul, Nat.reduceLT, Nat.reduceLeDiff, Int.reduceAdd, Int.reduceSub, Int.reduceMul, Int.reduceLT, Int.reduceLE, Int.reduceEq, Int.reduceNeg, Int.reduceNe, Int.reduceGE, Int.reduceGT, Nat.reduceBEq, Int.reduceToNat]
            repeat' (first | with_reducible rfl | (refine And.intro ?_ ?_) | (refine congrArg (Value.int _) ?_; omega) | omega)
          · have e2 : (((15 * j : Nat) : Int) + 15 ≥ b.length) = False := by apply eq_false; omega
            have hv : hdV b j = hdC b j := if_neg he
            simp (config := { maxSteps := 2000000 }) only [go_sem, hG, hP, Nat.reduceEqDiff, ↓reduceIte, reduceCtorEq, Nat.reduceAdd, Nat.reduceSub, Nat.reduceMul, Nat.reduceLT, Nat.reduceLeDiff, Int.reduceAdd, Int.reduceSub, Int.reduceMul, Int.reduceLT, Int.reduceLE, Int.reduceEq, Int.reduceNeg, Int.reduceNe, Int.reduceGE, Int.reduceGT, Nat.reduceBEq, Int.reduceToNat,  e1, e2, ht, htk, cpy_row, rowN_len, List.length_set, List.set_set, gds, List.length_drop, hh, hw, ho, rowA_cell, cells_len, wa, wb, wc, htj, hcl _ hv, cells_snoc]
            (try simp (disch := omega) only [wrap_id])
            repeat (refine And.intro (by first | omega | (simp; done) | (simp; omega) | (unfold appRoom; omega)) ?_)
            refine ⟨j + 1, ⟨by omega, by omega⟩, SubS.weak ?_⟩
            simp (config := { maxSteps := 2000000 }) only [go_sem, hG, hP, Nat.reduceEqDiff, ↓reduceIte, reduceCtorEq, Nat.reduceAdd, Nat.reduceSub, Nat.reduceMul, Nat.reduceLT, Nat.reduceLeDiff, Int.reduceAdd, Int.reduceSub, Int.reduceMul, Int.reduceLT, Int.reduceLE, Int.reduceEq, Int.reduceNeg, Int.reduceNe, Int.reduceGE, Int.reduceGT, Nat.reduceBEq, Int.reduceToNat]
            repeat' (first | with_reducible rfl | (refine And.intro ?_ ?_) | (refine congrArg (Value.int _) ?_; omega) | omega)
        · have e1 : (((15 * j : Nat) : Int) < b.length) = False := by apply eq_false; omega
          have ej : j = (b.length + 14) / 15 := by omega
          simp (config := { maxSteps := 2000000 }) only [go_sem, hG, hP, Nat.reduceEqDiff, ↓reduceIte, reduceCtorEq, Nat.reduceAdd, Nat.reduceSub, Nat.reduceMul, Nat.reduceLT, Nat.reduceLeDiff, Int.reduceAdd, Int.reduceSub, Int.reduceMul, Int.reduceLT, Int.reduceLE, Int.reduceEq, Int.reduceNeg, Int.reduceNe, Int.reduceGE, Int.reduceGT, Nat.reduceBEq, Int.reduceToNat,  e1]
          subst ej
          refine ⟨_, _, _, ?_, h⟩
          simp (config := { maxSteps := 2000000 }) only [go_sem, hG, hP, Nat.reduceEqDiff, ↓reduceIte, reduceCtorEq, Nat.reduceAdd, Nat.reduceSub, Nat.reduceMul, Nat.reduceLT, Nat.reduceLeDiff, Int.reduceAdd, Int.reduceSub, Int.reduceMul, Int.reduceLT, Int.reduceLE, Int.reduceEq, Int.reduceNeg, Int.reduceNe, Int.reduceGE, Int.reduceGT, Nat.reduceBEq, Int.reduceToNat]
          repeat' (first | with_reducible rfl | (refine And.intro ?_ ?_) | (refine congrArg (Value.int _) ?_; omega) | omega)
  · exact h.elim
theorem valid21 : Valid Try.prog 21 spCells := by
  refine validI (Γ := lk []) Try.func21 bod21 low21 res21 (good_of trivial) ?_
  intro E args objs K h hE hG hP
  simp only [spCells] at h
  split at h
  · refine ⟨by simp [Try.ntmps21], ?_⟩
    rename_i b
    by_cases hz : 900 < b.length
    · have e0 : cellsP b = [] := if_pos hz
      have hz2 : ((b.length : Int) > 900) = True := by apply eq_true; omega
      rw [e0] at h
      simp (config := { maxSteps := 2000000 }) only [go_sem, hG, hP, Nat.reduceEqDiff, ↓reduceIte, reduceCtorEq, Nat.reduceAdd, Nat.reduceSub, Nat.reduceMul, Nat.reduceLT, Nat.reduceLeDiff, Int.reduceAdd, Int.reduceSub, Int.reduceMul, Int.reduceLT, Int.reduceLE, Int.reduceEq, Int.reduceNeg, Int.reduceNe, Int.reduceGE, Int.reduceGT, Nat.reduceBEq, Int.reduceToNat,  hz2]
      refine ⟨_, _, _, ?_, h⟩
      simp (config := { maxSteps := 2000000 }) only [go_sem, hG, hP, Nat.reduceEqDiff, ↓reduceIte, reduceCtorEq, Nat.reduceAdd, Nat.reduceSub, Nat.reduceMul, Nat.reduceLT, Nat.reduceLeDiff, Int.reduceAdd, Int.reduceSub, Int.reduceMul, Int.reduceLT, Int.reduceLE, Int.reduceEq, Int.reduceNeg, Int.reduceNe, Int.reduceGE, Int.reduceGT, Nat.reduceBEq, Int.reduceToNat]
      repeat' (first | with_reducible rfl | (refine And.intro ?_ ?_) | (refine congrArg (Value.int _) ?_; omega) | omega)
    · have hz2 : ((b.length : Int) > 900) = False := by apply eq_false; omega
      have e0 : cellsP b = (List.range ((b.length + 14) / 15)).map (cellAt b) := by unfold cellsP; rw [if_neg (by omega)]
      rw [e0, cells_len] at h
      simp (config := { maxSteps := 2000000 }) only [go_sem, hG, hP, Nat.reduceEqDiff, ↓reduceIte, reduceCtorEq, Nat.reduceAdd, Nat.reduceSub, Nat.reduceMul, Nat.reduceLT, Nat.reduceLeDiff, Int.reduceAdd, Int.reduceSub, Int.reduceMul, Int.reduceLT, Int.reduceLE, Int.reduceEq, Int.reduceNeg, Int.reduceNe, Int.reduceGE, Int.reduceGT, Nat.reduceBEq, Int.reduceToNat,  hz2]
      refine loopI hE (fun j : Nat => ⟨[(0, .rs .byte b), (3, .sub 0 16 0 j), (4, .v (.int .i64 ((15 * j : Nat) : Int)))], [(0, .row .c16 ((List.range j).map (cellAt b)))], 1, Try.f21.ntmps⟩) (fun j => j ≤ (b.length + 14) / 15) (fun j => (b.length + 14) / 15 - j) ⟨0, by omega, SubS.weak ?_⟩ ?_
      · simp (config := { maxSteps := 2000000 }) only [go_sem, hG, hP, Nat.reduceEqDiff, ↓reduceIte, reduceCtorEq, Nat.reduceAdd, Nat.reduceSub, Nat.reduceMul, Nat.reduceLT, Nat.reduceLeDiff, Int.reduceAdd, Int.reduceSub, Int.reduceMul, Int.reduceLT, Int.reduceLE, Int.reduceEq, Int.reduceNeg, Int.reduceNe, Int.reduceGE, Int.reduceGT, Nat.reduceBEq, Int.reduceToNat,  List.range_zero, List.map_nil]
        repeat' (first | with_reducible rfl | (refine And.intro ?_ ?_) | (refine congrArg (Value.int _) ?_; omega) | omega)
      · intro j hj
        dsimp only at hj ⊢
        by_cases hlt : 15 * j < b.length
        · have e1 : (((15 * j : Nat) : Int) < b.length) = True := by apply eq_true; omega
          have ht : (j : Int).tmod 8 = ((j % 8 : Nat) : Int) := rfl
          have hh : ((min 15 (b.length - 15 * j) : Nat) : Int) + 16 * ((j % 8 : Nat) : Int) = hdC b j := rfl
          have hb := hdC_bd b j
          have hw : wr .u8 (hdC b j) = hdC b j := by rw [wr_eq, IntKind.wrap_u8]; omega
          have hw2 : wr .u8 (hdC b j + 128) = hdC b j + 128 := by rw [wr_eq, IntKind.wrap_u8]; omega
          have wa : wr .i64 (((15 * j : Nat) : Int) + 15) = ((15 * j : Nat) : Int) + 15 := wrap_id (by omega) (by omega)
          have wb : wr .i64 (16 * ((j % 8 : Nat) : Int)) = 16 * ((j % 8 : Nat) : Int) := wrap_id (by omega) (by omega)
          have wc : wr .i64 (hdC b j) = hdC b j := wrap_id (by omega) (by omega)
          have hcl : ∀ h, hdV b j = h → (⟨h, b.getD (15 * j) 0, b.getD (15 * j + 1) 0, b.getD (15 * j + 2) 0, b.getD (15 * j + 3) 0, b.getD (15 * j + 4) 0, b.getD (15 * j + 5) 0, b.getD (15 * j + 6) 0, b.getD (15 * j + 7) 0, b.getD (15 * j + 8) 0, b.getD (15 * j + 9) 0, b.getD (15 * j + 10) 0, b.getD (15 * j + 11) 0, b.getD (15 * j + 12) 0, b.getD (15 * j + 13) 0, b.getD (15 * j + 14) 0⟩ : C16) = cellAt b j := fun h e => by unfold cellAt; rw [e]; rfl
          have htj : List.take j (List.map (cellAt b) (List.range j)) = List.map (cellAt b) (List.range j) := List.take_of_length_le (by simp)
          simp (config := { maxSteps := 2000000 }) only [go_sem, hG, hP, Nat.reduceEqDiff, ↓reduceIte, reduceCtorEq, Nat.reduceAdd, Nat.reduceSub, Nat.reduceMul, Nat.reduceLT, Nat.reduceLeDiff, Int.reduceAdd, Int.reduceSub, Int.reduceMul, Int.reduceLT, Int.reduceLE, Int.reduceEq, Int.reduceNeg, Int.reduceNe, Int.reduceGE, Int.reduceGT, Nat.reduceBEq, Int.reduceToNat,  e1]
          refine ⟨by simp, ?_⟩
          refine loopI hE (fun n : Nat => ⟨[(0, .rs .byte b), (3, .sub 0 16 0 j), (4, .v (.int .i64 ((15 * j : Nat) : Int))), (5, .arp 1 16), (6, .v (.int .i64 n))], [(0, .row .c16 ((List.range j).map (cellAt b))), (1, .row .byte (rowN b (15 * j) n))], 2, Try.f21.ntmps⟩) (fun n => n ≤ min 15 (b.length - 15 * j)) (fun n => min 15 (b.length - 15 * j) - n) ⟨0, by omega, SubS.weak ?_⟩ ?_
          · simp (config := { maxSteps := 2000000 }) only [go_sem, hG, hP, Nat.reduceEqDiff, ↓reduceIte, reduceCtorEq, Nat.reduceAdd, Nat.reduceSub, Nat.reduceMul, Nat.reduceLT, Nat.reduceLeDiff, Int.reduceAdd, Int.reduceSub, Int.reduceMul, Int.reduceLT, Int.reduceLE, Int.reduceEq, Int.reduceNeg, Int.reduceNe, Int.reduceGE, Int.reduceGT, Nat.reduceBEq, Int.reduceToNat,  rowN_lit]
            repeat' (first | with_reducible rfl | (refine And.intro ?_ ?_) | (refine congrArg (Value.int _) ?_; omega) | omega)
          · intro n hn
            dsimp only at hn ⊢
            by_cases hn2 : n < min 15 (b.length - 15 * j)
            · have e3 : ((n : Int) < 15) = True := by apply eq_true; omega
              have e4 : (((15 * j : Nat) : Int) + n < b.length) = True := by apply eq_true; omega
              have wd : wr .i64 (((15 * j : Nat) : Int) + n) = ((15 * j : Nat) : Int) + n := wrap_id (by omega) (by omega)
              have we : wr .i64 ((n : Int) + 1) = (n : Int) + 1 := wrap_id (by omega) (by omega)
              have hst := rowN_set (b := b) (p := 15 * j) (n := n) (by omega)
              have t1 : ((n : Int) + 1).toNat = n + 1 := by omega
              have t2 : (((15 * j : Nat) : Int) + n).toNat = 15 * j + n := by omega
              simp (config := { maxSteps := 2000000 }) only [go_sem, hG, hP, Nat.reduceEqDiff, ↓reduceIte, reduceCtorEq, Nat.reduceAdd, Nat.reduceSub, Nat.reduceMul, Nat.reduceLT, Nat.reduceLeDiff, Int.reduceAdd, Int.reduceSub, Int.reduceMul, Int.reduceLT, Int.reduceLE, Int.reduceEq, Int.reduceNeg, Int.reduceNe, Int.reduceGE, Int.reduceGT, Nat.reduceBEq, Int.reduceToNat,  e3, e4, wd, we, rowN_len, t1, t2, hst]
              (try simp (disch := omega) only [wrap_id])
              repeat (refine And.intro (by first | omega | (simp; done) | (simp; omega) | (unfold appRoom; omega)) ?_)
              refine ⟨n + 1, ⟨by omega, by omega⟩, SubS.weak ?_⟩
              simp (config := { maxSteps := 2000000 }) only [go_sem, hG, hP, Nat.reduceEqDiff, ↓reduceIte, reduceCtorEq, Nat.reduceAdd, Nat.reduceSub, Nat.reduceMul, Nat.reduceLT, Nat.reduceLeDiff, Int.reduceAdd, Int.reduceSub, Int.reduceMul, Int.reduceLT, Int.reduceLE, Int.reduceEq, Int.reduceNeg, Int.reduceNe, Int.reduceGE, Int.reduceGT, Nat.reduceBEq, Int.reduceToNat]
              repeat' (first | with_reducible rfl | (refine And.intro ?_ ?_) | (refine congrArg (Value.int _) ?_; omega) | omega)
            · have hnn : n = min 15 (b.length - 15 * j) := by omega
              have wd : wr .i64 (((15 * j : Nat) : Int) + n) = ((15 * j : Nat) : Int) + n := wrap_id (by omega) (by omega)
              have e3 : ((n : Int) < 15 ∧ ((15 * j : Nat) : Int) + n < b.length) = False := by apply eq_false; omega
              by_cases he : b.length ≤ 15 * j + 15
              · have e2 : (((15 * j : Nat) : Int) + 15 ≥ b.length) = True := by apply eq_true; omega
                have hv : hdV b j = hdC b j + 128 := if_pos he
                subst hnn
                simp (config := { maxSteps := 2000000 }) only [go_sem, hG, hP, Nat.reduceEqDiff, ↓reduceIte, reduceCtorEq, Nat.reduceAdd, Nat.reduceSub, Nat.reduceMul, Nat.reduceLT, Nat.reduceLeDiff, Int.reduceAdd, Int.reduceSub, Int.reduceMul, Int.reduceLT, Int.reduceLE, Int.reduceEq, Int.reduceNeg, Int.reduceNe, Int.reduceGE, Int.reduceGT, Nat.reduceBEq, Int.reduceToNat,  e2, e3, wd, ht, rowN_len, List.length_set, List.set_set, gds, hh, hw, hw2, rowA_cell, cells_len, wa, wb, wc, htj, hcl _ hv, cells_snoc]
                (try simp (disch := omega) only [wrap_id])
                repeat (refine And.intro (by first | omega | (simp; done) | (simp; omega) | (unfold appRoom; omega)) ?_)
                repeat' (first | (refine And.intro ?_ ?_) | (with_reducible intro _))
                all_goals first
                  | (exfalso; omega)
                  | omega
                  | (unfold appRoom; omega)
                  | (refine ⟨j + 1, ⟨by omega, by omega⟩, SubS.weak ?_⟩; simp (config := { maxSteps := 2000000 }) only [go_sem, hG, hP, Nat.reduceEqDiff, ↓reduceIte, reduceCtorEq, Nat.reduceAdd, Nat.reduceSub, Nat.reduceMul, Nat.reduceLT, Nat.reduceLeDiff, Int.reduceAdd, Int.reduceSub, Int.reduceMul, Int.reduceLT, Int.reduceLE, Int.reduceEq, Int.reduceNeg, Int.reduceNe, Int.reduceGE, Int.reduceGT, Nat.reduceBEq, Int.reduceToNat]; repeat' (first | with_reducible rfl | (refine And.intro ?_ ?_) | (refine congrArg (Value.int _) ?_; omega) | omega); done)
              · have e2 : (((15 * j : Nat) : Int) + 15 ≥ b.length) = False := by apply eq_false; omega
                have hv : hdV b j = hdC b j := if_neg he
                subst hnn
                simp (config := { maxSteps := 2000000 }) only [go_sem, hG, hP, Nat.reduceEqDiff, ↓reduceIte, reduceCtorEq, Nat.reduceAdd, Nat.reduceSub, Nat.reduceMul, Nat.reduceLT, Nat.reduceLeDiff, Int.reduceAdd, Int.reduceSub, Int.reduceMul, Int.reduceLT, Int.reduceLE, Int.reduceEq, Int.reduceNeg, Int.reduceNe, Int.reduceGE, Int.reduceGT, Nat.reduceBEq, Int.reduceToNat,  e2, e3, wd, ht, rowN_len, List.length_set, List.set_set, gds, hh, hw, hw2, rowA_cell, cells_len, wa, wb, wc, htj, hcl _ hv, cells_snoc]
                (try simp (disch := omega) only [wrap_id])
                repeat (refine And.intro (by first | omega | (simp; done) | (simp; omega) | (unfold appRoom; omega)) ?_)
                repeat' (first | (refine And.intro ?_ ?_) | (with_reducible intro _))
                all_goals first
                  | (exfalso; omega)
                  | omega
                  | (unfold appRoom; omega)
                  | (refine ⟨j + 1, ⟨by omega, by omega⟩, SubS.weak ?_⟩; simp (config := { maxSteps := 2000000 }) only [go_sem, hG, hP, Nat.reduceEqDiff, ↓reduceIte, reduceCtorEq, Nat.reduceAdd, Nat.reduceSub, Nat.reduceMul, Nat.reduceLT, Nat.reduceLeDiff, Int.reduceAdd, Int.reduceSub, Int.reduceMul, Int.reduceLT, Int.reduceLE, Int.reduceEq, Int.reduceNeg, Int.reduceNe, Int.reduceGE, Int.reduceGT, Nat.reduceBEq, Int.reduceToNat]; repeat' (first | with_reducible rfl | (refine And.intro ?_ ?_) | (refine congrArg (Value.int _) ?_; omega) | omega); done)
        · have e1 : (((15 * j : Nat) : Int) < b.length) = False := by apply eq_false; omega
          have ej : j = (b.length + 14) / 15 := by omega
          simp (config := { maxSteps := 2000000 }) only [go_sem, hG, hP, Nat.reduceEqDiff, ↓reduceIte, reduceCtorEq, Nat.reduceAdd, Nat.reduceSub, Nat.reduceMul, Nat.reduceLT, Nat.reduceLeDiff, Int.reduceAdd, Int.reduceSub, Int.reduceMul, Int.reduceLT, Int.reduceLE, Int.reduceEq, Int.reduceNeg, Int.reduceNe, Int.reduceGE, Int.reduceGT, Nat.reduceBEq, Int.reduceToNat,  e1]
          subst ej
          refine ⟨_, _, _, ?_, h⟩
          simp (config := { maxSteps := 2000000 }) only [go_sem, hG, hP, Nat.reduceEqDiff, ↓reduceIte, reduceCtorEq, Nat.reduceAdd, Nat.reduceSub, Nat.reduceMul, Nat.reduceLT, Nat.reduceLeDiff, Int.reduceAdd, Int.reduceSub, Int.reduceMul, Int.reduceLT, Int.reduceLE, Int.reduceEq, Int.reduceNeg, Int.reduceNe, Int.reduceGE, Int.reduceGT, Nat.reduceBEq, Int.reduceToNat]
          repeat' (first | with_reducible rfl | (refine And.intro ?_ ?_) | (refine congrArg (Value.int _) ?_; omega) | omega)
  · exact h.elim
end Go.Proofs.YtfjfaajdbomhbaaE

/-! The code of a function, in the engine's words. -/
namespace Go.Proofs.YtfjfaajdbomhbaaE
open Go Go.RowKit
@[reducible] def ic6 : IC := (.seq (.ops [⟨some 2, .mov (.const (.bool false)), none⟩]) (.seq (.seq (.ops [⟨some 10, .mov (.tmp 0), none⟩, ⟨some 11, .len (.tmp 10), none⟩, ⟨some 12, .bin .gtr (.tmp 11) (.const (.int .i64 1048576)), none⟩]) (.cond (.tmp 12) (.seq (.ops [⟨some 2, .mov (.const (.bool true)), none⟩]) .ret) .skip)) (.seq (.ops [⟨some 13, .mov (.tmp 0), none⟩, ⟨some 14, .call 14 [(.tmp 13)], none⟩, ⟨some 15, .call 21 [(.tmp 14)], none⟩, ⟨some 3, .mov (.tmp 15), none⟩]) (.seq (.ops [⟨some 16, .mov (.tmp 0), none⟩, ⟨some 17, .call 14 [(.tmp 16)], none⟩, ⟨some 4, .mov (.tmp 17), none⟩]) (.seq (.ops [⟨some 18, .mov (.tmp 4), none⟩, ⟨some 19, .call 22 [(.tmp 18)], none⟩, ⟨some 5, .mov (.tmp 19), none⟩]) (.seq (.seq (.ops [⟨some 20, .mov (.tmp 5), none⟩, ⟨some 21, .mov (.tmp 3), none⟩, ⟨some 22, .call 23 [(.tmp 20), (.tmp 21)], none⟩, ⟨some 23, .una .not (.tmp 22), none⟩]) (.cond (.tmp 23) (.seq (.ops [⟨some 2, .mov (.const (.bool false)), none⟩]) .ret) .skip)) (.seq (.seq (.ops [⟨some 24, .mov (.tmp 4), none⟩, ⟨some 25, .mov (.tmp 0), none⟩, ⟨some 26, .call 14 [(.tmp 25)], none⟩, ⟨some 27, .call 16 [(.tmp 24), (.tmp 26)], none⟩, ⟨some 28, .una .not (.tmp 27), none⟩]) (.cond (.tmp 28) (.seq (.ops [⟨some 2, .mov (.const (.bool false)), none⟩]) .ret) .skip)) (.seq (.ops [⟨some 6, .mov (.const (.int .i64 1)), none⟩]) (.seq (.ops [⟨some 29, .mov (.tmp 4), none⟩, ⟨some 30, .mov (.tmp 6), none⟩, ⟨some 31, .call 24 [(.tmp 29), (.tmp 30)], none⟩, ⟨some 6, .mov (.tmp 31), none⟩]) (.seq (.seq (.ops [⟨some 32, .mov (.tmp 6), none⟩, ⟨some 33, .bin .lss (.tmp 32) (.const (.int .i64 0)), none⟩, ⟨some 34, .mov (.tmp 33), none⟩, ⟨some 35, .mov (.tmp 5), some (34, false)⟩, ⟨some 36, .mov (.tmp 3), some (34, false)⟩, ⟨some 37, .call 23 [(.tmp 35), (.tmp 36)], some (34, false)⟩, ⟨some 38, .una .not (.tmp 37), some (34, false)⟩, ⟨some 39, .pick (.tmp 34) (.const (.bool true)) (.tmp 38), none⟩]) (.cond (.tmp 39) (.seq (.ops [⟨some 2, .mov (.const (.bool false)), none⟩]) .ret) .skip)) (.seq (.ops [⟨some 7, .mov (.const (.int .i64 1)), none⟩]) (.seq (.ops [⟨some 40, .mov (.tmp 5), none⟩, ⟨some 41, .mov (.tmp 7), none⟩, ⟨some 42, .call 25 [(.tmp 40), (.tmp 41)], none⟩, ⟨some 7, .mov (.tmp 42), none⟩]) (.seq (.ops [⟨some 8, .mov (.const (.int .i64 1)), none⟩]) (.seq (.ops [⟨some 43, .mov (.tmp 5), none⟩, ⟨some 44, .mov (.tmp 8), none⟩, ⟨some 45, .call 26 [(.tmp 43), (.tmp 44)], none⟩, ⟨some 8, .mov (.tmp 45), none⟩]) (.seq (.seq (.ops [⟨some 46, .mov (.tmp 8), none⟩, ⟨some 47, .bin .lss (.tmp 46) (.const (.int .i64 0)), none⟩]) (.cond (.tmp 47) (.seq (.ops [⟨some 2, .mov (.const (.bool false)), none⟩]) .ret) .skip)) (.seq (.seq (.ops [⟨some 48, .mov (.tmp 8), none⟩, ⟨some 49, .mov (.tmp 7), none⟩, ⟨some 50, .bin .neq (.tmp 48) (.tmp 49), none⟩]) (.cond (.tmp 50) (.seq (.ops [⟨some 2, .mov (.const (.bool false)), none⟩]) .ret) .skip)) (.seq (.ops [⟨some 51, .mov (.tmp 0), none⟩, ⟨some 52, .call 14 [(.tmp 51)], none⟩, ⟨some 53, .call 22 [(.tmp 52)], none⟩, ⟨some 9, .mov (.tmp 53), none⟩]) (.seq (.seq (.ops [⟨some 54, .mov (.tmp 9), none⟩, ⟨some 55, .mov (.tmp 3), none⟩, ⟨some 56, .call 23 [(.tmp 54), (.tmp 55)], none⟩, ⟨some 57, .una .not (.tmp 56), none⟩]) (.cond (.tmp 57) (.seq (.ops [⟨some 2, .mov (.const (.bool false)), none⟩]) .ret) .skip)) (.seq (.ops [⟨some 8, .mov (.const (.int .i64 1)), none⟩]) (.seq (.ops [⟨some 58, .mov (.tmp 5), none⟩, ⟨some 59, .mov (.tmp 8), none⟩, ⟨some 60, .call 26 [(.tmp 58), (.tmp 59)], none⟩, ⟨some 8, .mov (.tmp 60), none⟩]) (.seq (.seq (.ops [⟨some 61, .mov (.tmp 8), none⟩, ⟨some 62, .bin .lss (.tmp 61) (.const (.int .i64 0)), none⟩]) (.cond (.tmp 62) (.seq (.ops [⟨some 2, .mov (.const (.bool false)), none⟩]) .ret) .skip)) (.seq (.seq (.ops [⟨some 63, .mov (.tmp 8), none⟩, ⟨some 64, .mov (.tmp 7), none⟩, ⟨some 65, .bin .neq (.tmp 63) (.tmp 64), none⟩]) (.cond (.tmp 65) (.seq (.ops [⟨some 2, .mov (.const (.bool false)), none⟩]) .ret) .skip)) (.seq (.ops [⟨some 2, .mov (.const (.bool true)), none⟩]) .ret)))))))))))))))))))))))
@[reducible] def rv6 : List RV := [.tmp 2]
theorem low6 : lowC Try.prog tau Try.f6.ntmps (Try.f6.body.getD .skip) = some (erase ic6) := by kernel_rfl
theorem res6 : lowR Try.prog Try.f6.results.toList = some rv6 := by kernel_rfl
theorem bod6 : Try.f6.body = some (Try.f6.body.getD .skip) := by kernel_rfl
theorem cal6 : callable Try.prog 6 = true := by kernel_rfl

end Go.Proofs.YtfjfaajdbomhbaaE

/-! The law of Cells. -/
namespace Go.Proofs.YtfjfaajdbomhbaaE
open Go Go.RowKit
set_option linter.unusedSimpArgs false
set_option linter.unusedVariables false
set_option maxRecDepth 50000
set_option maxHeartbeats 8000000

theorem cellsP_len (b : List Int) : (cellsP b).length ≤ 60 := by
  unfold cellsP
  split
  · simp
  · simp; omega
theorem held_cm {k : Int} {n : Nat} : heldC (cMarks k n) k = k + 16 * n := by unfold heldC; rw [cMarks_len, if_pos rfl]
theorem take_cm {k : Int} {n : Nat} : (cMarks k n).take n = cMarks k n := List.take_of_length_le (by rw [cMarks_len]; omega)
theorem held_bm {k : Int} {n : Nat} : heldB (bMarks k n) k = k + n := by unfold heldB; rw [bMarks_len, if_pos rfl]
theorem take_bm {k : Int} {n : Nat} : (bMarks k n).take n = bMarks k n := List.take_of_length_le (by rw [bMarks_len]; omega)
def spLaw6 : Spec := ⟨fun _ _ => [], fun args objs K => match args, objs with
  | [.rs .byte b], [] => K (.v (.bool true)) [] 0
  | _, _ => False, false⟩
theorem spLaw6_t {L : Hp} {a : List AVal} : Spec.take spLaw6 L a = [] := id rfl
theorem spLaw6_k : Spec.keep spLaw6 = false := id rfl
theorem spLaw6_f {b} {K : AVal → Hp → Nat → Prop} : Spec.f spLaw6 ([.rs .byte b]) ([]) K = (K (.v (.bool true)) [] 0) := id rfl
theorem valid6 : Valid Try.prog 6 spLaw6 := by
  refine validI (Γ := lk [(14, spToByteS), (16, spEqByteS), (21, spCells), (22, spCells), (23, spEqCS), (24, spMarkB), (25, spMarkC), (26, spHeldC)]) Try.func6 bod6 low6 res6 (good_of ⟨⟨cal14, valid14⟩, ⟨cal16, valid16⟩, ⟨cal21, valid21⟩, ⟨cal22, valid22⟩, ⟨cal23, valid23⟩, ⟨cal24, valid24⟩, ⟨cal25, valid25⟩, ⟨cal26, valid26⟩, trivial⟩) ?_
  intro E args objs K h hE hG hP
  simp only [spLaw6] at h
  split at h
  · refine ⟨by simp [Try.ntmps6], ?_⟩
    rename_i b
    have hlen := cellsP_len b
    generalize hl : cellsP b = l at *
    simp (config := { maxSteps := 2000000 }) only [go_sem, hG, hP, Nat.reduceEqDiff, ↓reduceIte, reduceCtorEq, Nat.reduceAdd, Nat.reduceSub, Nat.reduceMul, Nat.reduceLT, Nat.reduceLeDiff, Int.reduceAdd, Int.reduceSub, Int.reduceMul, Int.reduceLT, Int.reduceLE, Int.reduceEq, Int.reduceNeg, Int.reduceNe, Int.reduceGE, Int.reduceGT, Nat.reduceBEq, Int.reduceToNat,  spToByteS_f, spToByteS_t, spToByteS_k, spEqByteS_f, spEqByteS_t, spEqByteS_k, spCells_f, spCells_t, spCells_k, spEqCS_f, spEqCS_t, spEqCS_k, spMarkB_f, spMarkB_t, spMarkB_k, spMarkC_f, spMarkC_t, spMarkC_k, spHeldC_f, spHeldC_t, spHeldC_k, hl, take1_eq, take_cm, take_bm, cMarks_len, bMarks_len, held_cm]
    repeat (refine And.intro (by first | omega | (simp; done) | (simp; omega) | (unfold appRoom; omega)) ?_)
    refine ⟨fun hs => ⟨_, _, _, ?_, h⟩, fun hs => ?_⟩
    · simp (config := { maxSteps := 2000000 }) only [go_sem, hG, hP, Nat.reduceEqDiff, ↓reduceIte, reduceCtorEq, Nat.reduceAdd, Nat.reduceSub, Nat.reduceMul, Nat.reduceLT, Nat.reduceLeDiff, Int.reduceAdd, Int.reduceSub, Int.reduceMul, Int.reduceLT, Int.reduceLE, Int.reduceEq, Int.reduceNeg, Int.reduceNe, Int.reduceGE, Int.reduceGT, Nat.reduceBEq, Int.reduceToNat]
    have b1 : b.length ≤ 1048576 := by omega
    repeat' (first | (refine And.intro ?_ ?_) | (with_reducible intro _))
    all_goals first | omega | (refine ⟨_, _, _, ?_, h⟩; simp (config := { maxSteps := 2000000 }) only [go_sem, hG, hP, Nat.reduceEqDiff, ↓reduceIte, reduceCtorEq, Nat.reduceAdd, Nat.reduceSub, Nat.reduceMul, Nat.reduceLT, Nat.reduceLeDiff, Int.reduceAdd, Int.reduceSub, Int.reduceMul, Int.reduceLT, Int.reduceLE, Int.reduceEq, Int.reduceNeg, Int.reduceNe, Int.reduceGE, Int.reduceGT, Nat.reduceBEq, Int.reduceToNat]; all_goals (first | (simp; done) | omega))
  · exact h.elim
end Go.Proofs.YtfjfaajdbomhbaaE

/-! The code of a function, in the engine's words. -/
namespace Go.Proofs.YtfjfaajdbomhbaaE
open Go Go.RowKit
@[reducible] def ic39 : IC := (.seq (.ops [⟨some 3, .box (.tmp 0), none⟩, ⟨some 6, .mov (.const (.int .i64 0)), none⟩]) (.seq (.ops [⟨some 9, .iarr 1 16 (.tmp 3) (.const (.int .i64 0)), none⟩, ⟨some 10, .load 1 false (.tmp 9), none⟩, ⟨some 11, .bin .rem (.tmp 10) (.const (.int .u8 16)), none⟩, ⟨some 12, .cvi .i64 (.tmp 11), none⟩, ⟨some 7, .mov (.tmp 12), none⟩]) (.seq (.seq (.ops [⟨some 13, .mov (.tmp 7), none⟩, ⟨some 14, .bin .eql (.tmp 13) (.const (.int .i64 0)), none⟩, ⟨some 15, .mov (.tmp 14), none⟩, ⟨some 16, .mov (.tmp 7), some (15, false)⟩, ⟨some 17, .bin .lss (.tmp 16) (.const (.int .i64 15)), some (15, false)⟩, ⟨some 18, .mov (.tmp 17), some (15, false)⟩, ⟨some 19, .iarr 1 16 (.tmp 3) (.const (.int .i64 0)), some (18, true)⟩, ⟨some 20, .load 1 false (.tmp 19), some (18, true)⟩, ⟨some 21, .bin .lss (.tmp 20) (.const (.int .u8 128)), some (18, true)⟩, ⟨some 22, .pick (.tmp 18) (.tmp 21) (.const (.bool false)), some (15, false)⟩, ⟨some 23, .pick (.tmp 15) (.const (.bool true)) (.tmp 22), none⟩]) (.cond (.tmp 23) (.seq (.ops [⟨some 6, .mov (.const (.int .i64 1)), none⟩]) .ret) .skip)) (.seq (.seq (.ops [⟨some 24, .mov (.tmp 7), none⟩, ⟨some 25, .bin .add (.tmp 24) (.const (.int .i64 1)), none⟩, ⟨some 8, .mov (.tmp 25), none⟩]) (.block 0 (.loop (.seq (.seq (.ops [⟨some 26, .mov (.tmp 8), none⟩, ⟨some 27, .bin .lss (.tmp 26) (.const (.int .i64 16)), none⟩]) (.cond (.tmp 27) .skip (.exit 0))) (.seq (.block 1 (.seq (.ops [⟨some 30, .mov (.tmp 8), none⟩, ⟨some 31, .iarr 1 16 (.tmp 3) (.tmp 30), none⟩, ⟨some 32, .load 1 false (.tmp 31), none⟩, ⟨some 33, .bin .neq (.tmp 32) (.const (.int .u8 0)), none⟩]) (.cond (.tmp 33) (.seq (.ops [⟨some 6, .mov (.const (.int .i64 2)), none⟩]) .ret) .skip))) (.ops [⟨some 28, .mov (.tmp 8), none⟩, ⟨some 29, .bin .add (.tmp 28) (.const (.int .i64 1)), none⟩, ⟨some 8, .mov (.tmp 29), none⟩])))))) (.seq (.seq (.ops [⟨some 34, .iarr 1 16 (.tmp 3) (.const (.int .i64 0)), none⟩, ⟨some 35, .load 1 false (.tmp 34), none⟩, ⟨some 36, .bin .quo (.tmp 35) (.const (.int .u8 16)), none⟩, ⟨some 37, .bin .rem (.tmp 36) (.const (.int .u8 8)), none⟩, ⟨some 38, .cvi .i64 (.tmp 37), none⟩, ⟨some 39, .mov (.tmp 1), none⟩, ⟨some 40, .bin .rem (.tmp 39) (.const (.int .i64 8)), none⟩, ⟨some 41, .bin .neq (.tmp 38) (.tmp 40), none⟩]) (.cond (.tmp 41) (.seq (.ops [⟨some 6, .mov (.const (.int .i64 3)), none⟩]) .ret) .skip)) (.seq (.seq (.ops [⟨some 42, .mov (.tmp 2), none⟩]) (.cond (.tmp 42) (.seq (.ops [⟨some 6, .mov (.const (.int .i64 4)), none⟩]) .ret) .skip)) (.seq (.ops [⟨some 6, .mov (.const (.int .i64 0)), none⟩]) .ret)))))))
@[reducible] def rv39 : List RV := [.tmp 6]
theorem low39 : lowC Try.prog tau Try.f39.ntmps (Try.f39.body.getD .skip) = some (erase ic39) := by kernel_rfl
theorem res39 : lowR Try.prog Try.f39.results.toList = some rv39 := by kernel_rfl
theorem bod39 : Try.f39.body = some (Try.f39.body.getD .skip) := by kernel_rfl
theorem cal39 : callable Try.prog 39 = true := by kernel_rfl

end Go.Proofs.YtfjfaajdbomhbaaE

/-! The code of a function, in the engine's words. -/
namespace Go.Proofs.YtfjfaajdbomhbaaE
open Go Go.RowKit
@[reducible] def ic30 : IC := (.seq (.ops [⟨some 2, .mov (.const (.slice none 0 0)), none⟩, ⟨some 3, .mov (.const (.int .i64 0)), none⟩]) (.seq (.ops [⟨some 9, .blds .byte 0 [], none⟩, ⟨some 4, .mov (.tmp 9), none⟩]) (.seq (.seq (.ops [⟨some 10, .mov (.tmp 0), none⟩, ⟨some 11, .len (.tmp 10), none⟩, ⟨some 12, .bin .gtr (.tmp 11) (.const (.int .i64 60)), none⟩]) (.cond (.tmp 12) (.seq (.ops [⟨some 13, .mov (.tmp 4), none⟩, ⟨some 2, .mov (.tmp 13), none⟩, ⟨some 3, .mov (.const (.int .i64 5)), none⟩]) .ret) .skip)) (.seq (.ops [⟨some 5, .mov (.const (.bool false)), none⟩]) (.seq (.seq (.ops [⟨some 6, .mov (.const (.int .i64 0)), none⟩]) (.block 0 (.loop (.seq (.seq (.ops [⟨some 14, .mov (.tmp 6), none⟩, ⟨some 15, .mov (.tmp 0), none⟩, ⟨some 16, .len (.tmp 15), none⟩, ⟨some 17, .bin .lss (.tmp 14) (.tmp 16), none⟩]) (.cond (.tmp 17) .skip (.exit 0))) (.seq (.block 1 (.seq (.seq (.ops [⟨some 20, .mov (.tmp 0), none⟩, ⟨some 21, .mov (.tmp 6), none⟩, ⟨some 22, .iadr 16 (.tmp 20) (.tmp 21), none⟩, ⟨some 23, .load 16 true (.tmp 22), none⟩, ⟨some 24, .mov (.tmp 6), none⟩, ⟨some 25, .mov (.tmp 5), none⟩, ⟨some 26, .call 39 [(.tmp 23), (.tmp 24), (.tmp 25)], none⟩, ⟨some 7, .mov (.tmp 26), none⟩]) (.seq (.ops [⟨some 27, .mov (.tmp 7), none⟩, ⟨some 28, .bin .neq (.tmp 27) (.const (.int .i64 0)), none⟩]) (.cond (.tmp 28) (.seq (.ops [⟨some 29, .mov (.tmp 4), none⟩, ⟨some 30, .mov (.tmp 7), none⟩, ⟨some 2, .mov (.tmp 29), none⟩, ⟨some 3, .mov (.tmp 30), none⟩]) .ret) .skip))) (.seq (.seq (.ops [⟨some 8, .mov (.const (.int .i64 1)), none⟩]) (.block 2 (.loop (.seq (.seq (.ops [⟨some 31, .mov (.tmp 8), none⟩, ⟨some 32, .mov (.tmp 0), none⟩, ⟨some 33, .mov (.tmp 6), none⟩, ⟨some 34, .iadr 16 (.tmp 32) (.tmp 33), none⟩, ⟨some 35, .iarr 1 16 (.tmp 34) (.const (.int .i64 0)), none⟩, ⟨some 36, .load 1 false (.tmp 35), none⟩, ⟨some 37, .bin .rem (.tmp 36) (.const (.int .u8 16)), none⟩, ⟨some 38, .cvi .i64 (.tmp 37), none⟩, ⟨some 39, .bin .leq (.tmp 31) (.tmp 38), none⟩]) (.cond (.tmp 39) .skip (.exit 2))) (.seq (.block 3 (.ops [⟨some 42, .mov (.tmp 4), none⟩, ⟨some 43, .mov (.tmp 0), none⟩, ⟨some 44, .mov (.tmp 6), none⟩, ⟨some 45, .mov (.tmp 8), none⟩, ⟨some 46, .iadr 16 (.tmp 43) (.tmp 44), none⟩, ⟨some 47, .iarr 1 16 (.tmp 46) (.tmp 45), none⟩, ⟨some 48, .load 1 false (.tmp 47), none⟩, ⟨some 49, .blds .byte 1 [(0, 1, (.tmp 48))], none⟩, ⟨some 50, .app .byte 1 (.tmp 42) (.tmp 49), none⟩, ⟨some 4, .mov (.tmp 50), none⟩])) (.ops [⟨some 40, .mov (.tmp 8), none⟩, ⟨some 41, .bin .add (.tmp 40) (.const (.int .i64 1)), none⟩, ⟨some 8, .mov (.tmp 41), none⟩])))))) (.ops [⟨some 51, .mov (.tmp 0), none⟩, ⟨some 52, .mov (.tmp 6), none⟩, ⟨some 53, .iadr 16 (.tmp 51) (.tmp 52), none⟩, ⟨some 54, .iarr 1 16 (.tmp 53) (.const (.int .i64 0)), none⟩, ⟨some 55, .load 1 false (.tmp 54), none⟩, ⟨some 56, .bin .geq (.tmp 55) (.const (.int .u8 128)), none⟩, ⟨some 5, .mov (.tmp 56), none⟩])))) (.ops [⟨some 18, .mov (.tmp 6), none⟩, ⟨some 19, .bin .add (.tmp 18) (.const (.int .i64 1)), none⟩, ⟨some 6, .mov (.tmp 19), none⟩])))))) (.seq (.seq (.ops [⟨some 57, .mov (.tmp 5), none⟩, ⟨some 58, .una .not (.tmp 57), none⟩]) (.cond (.tmp 58) (.seq (.ops [⟨some 59, .mov (.tmp 4), none⟩, ⟨some 2, .mov (.tmp 59), none⟩, ⟨some 3, .mov (.const (.int .i64 4)), none⟩]) .ret) .skip)) (.seq (.ops [⟨some 60, .mov (.tmp 4), none⟩, ⟨some 2, .mov (.tmp 60), none⟩, ⟨some 3, .mov (.const (.int .i64 0)), none⟩]) .ret)))))))
@[reducible] def rv30 : List RV := [.tmp 2, .tmp 3]
theorem low30 : lowC Try.prog tau Try.f30.ntmps (Try.f30.body.getD .skip) = some (erase ic30) := by kernel_rfl
theorem res30 : lowR Try.prog Try.f30.results.toList = some rv30 := by kernel_rfl
theorem bod30 : Try.f30.body = some (Try.f30.body.getD .skip) := by kernel_rfl
theorem cal30 : callable Try.prog 30 = true := by kernel_rfl

end Go.Proofs.YtfjfaajdbomhbaaE

/-! Cells are read back: one cell's check; the reference. -/
namespace Go.Proofs.YtfjfaajdbomhbaaE
open Go Go.RowKit
set_option linter.unusedSimpArgs false
set_option linter.unusedVariables false
set_option maxRecDepth 50000
set_option maxHeartbeats 8000000

def Cz : C16 := ⟨0, 0, 0, 0, 0, 0, 0, 0, 0, 0, 0, 0, 0, 0, 0, 0⟩
def lst (c : C16) : List Int := [c.a0, c.a1, c.a2, c.a3, c.a4, c.a5, c.a6, c.a7, c.a8, c.a9, c.a10, c.a11, c.a12, c.a13, c.a14, c.a15]
def cnt (c : C16) : Nat := (c.a0.tmod 16).toNat
def bad1 (c : C16) : Prop := c.a0.tmod 16 = 0 ∨ (c.a0.tmod 16 < 15 ∧ c.a0 < 128)
instance (c : C16) : Decidable (bad1 c) := by unfold bad1; infer_instance
def padP (c : C16) : Prop := ∀ q, q < 16 → cnt c < q → (lst c).getD q 0 = 0
instance (c : C16) : Decidable (padP c) := by unfold padP; infer_instance
def seqC (c : C16) : Int := (c.a0.tdiv 16).tmod 8
/-- What is wrong with a cell. -/
def chkC (c : C16) (i : Int) (last : Bool) : Int :=
  if bad1 c then 1 else if padP c then (if seqC c = i.tmod 8 then (if last = true then 4 else 0) else 3) else 2
def hd8 (c : C16) : Prop := 0 ≤ c.a0 ∧ c.a0 ≤ 255
theorem cnt_eq {c : C16} (h : hd8 c) : c.a0.tmod 16 = (cnt c : Int) ∧ cnt c ≤ 15 := by
  obtain ⟨h1, h2⟩ := h
  unfold cnt
  have := Int.tmod_eq_emod_of_nonneg (b := 16) h1
  rw [this]; omega
def spCell1 : Spec := ⟨fun _ _ => [], fun args objs K => match args, objs with
  | [.agg [.v (.int .u8 a0), .v (.int .u8 a1), .v (.int .u8 a2), .v (.int .u8 a3), .v (.int .u8 a4), .v (.int .u8 a5), .v (.int .u8 a6), .v (.int .u8 a7), .v (.int .u8 a8), .v (.int .u8 a9), .v (.int .u8 a10), .v (.int .u8 a11), .v (.int .u8 a12), .v (.int .u8 a13), .v (.int .u8 a14), .v (.int .u8 a15)], .v (.int .i64 i), .v (.bool last)], [] => hd8 ⟨a0, a1, a2, a3, a4, a5, a6, a7, a8, a9, a10, a11, a12, a13, a14, a15⟩ ∧ K (.v (.int .i64 (chkC ⟨a0, a1, a2, a3, a4, a5, a6, a7, a8, a9, a10, a11, a12, a13, a14, a15⟩ i last))) [] 0
  | _, _ => False, false⟩
theorem spCell1_t {L : Hp} {a : List AVal} : Spec.take spCell1 L a = [] := id rfl
theorem spCell1_k : Spec.keep spCell1 = false := id rfl
theorem spCell1_f {a0} {a1} {a2} {a3} {a4} {a5} {a6} {a7} {a8} {a9} {a10} {a11} {a12} {a13} {a14} {a15} {i} {last} {K : AVal → Hp → Nat → Prop} : Spec.f spCell1 ([.agg [.v (.int .u8 a0), .v (.int .u8 a1), .v (.int .u8 a2), .v (.int .u8 a3), .v (.int .u8 a4), .v (.int .u8 a5), .v (.int .u8 a6), .v (.int .u8 a7), .v (.int .u8 a8), .v (.int .u8 a9), .v (.int .u8 a10), .v (.int .u8 a11), .v (.int .u8 a12), .v (.int .u8 a13), .v (.int .u8 a14), .v (.int .u8 a15)], .v (.int .i64 i), .v (.bool last)]) ([]) K = (hd8 ⟨a0, a1, a2, a3, a4, a5, a6, a7, a8, a9, a10, a11, a12, a13, a14, a15⟩ ∧ K (.v (.int .i64 (chkC ⟨a0, a1, a2, a3, a4, a5, a6, a7, a8, a9, a10, a11, a12, a13, a14, a15⟩ i last))) [] 0) := id rfl
theorem valid39 : Valid Try.prog 39 spCell1 := by
  refine validI (Γ := lk []) Try.func39 bod39 low39 res39 (good_of trivial) ?_
  intro E args objs K h hE hG hP
  simp only [spCell1] at h
  split at h
  · refine ⟨by simp [Try.ntmps39], ?_⟩
    rename_i a0 a1 a2 a3 a4 a5 a6 a7 a8 a9 a10 a11 a12 a13 a14 a15 i last
    obtain ⟨hb, h⟩ := h
    generalize hc : (⟨a0, a1, a2, a3, a4, a5, a6, a7, a8, a9, a10, a11, a12, a13, a14, a15⟩ : C16) = c at h hb
    have q0 : c.a0 = a0 := by rw [← hc]
    obtain ⟨hn, hn15⟩ := cnt_eq hb
    rw [q0] at hn
    have hbd := hb
    unfold hd8 at hbd
    rw [q0] at hbd
    generalize hnn : cnt c = n at hn hn15
    have wn : wr .i64 (n : Int) = (n : Int) := wrap_id (by omega) (by omega)
    have wn1 : wr .i64 ((n : Int) + 1) = (n : Int) + 1 := wrap_id (by omega) (by omega)
    have hb1 : bad1 c ↔ ((n : Int) = 0 ∨ ((n : Int) < 15 ∧ a0 < 128)) := by unfold bad1; rw [q0, hn]
    by_cases c1 : bad1 c
    · have e1 : chkC c i last = 1 := if_pos c1
      rw [e1] at h
      have c1' := hb1.1 c1
      have x3 : (n : Int) = 0 ∨ (a0 < 128) = True := by
        rcases c1' with e | e
        · exact .inl e
        · exact .inr (eq_true e.2)
      simp (config := { maxSteps := 2000000 }) only [go_sem, hG, hP, Nat.reduceEqDiff, ↓reduceIte, reduceCtorEq, Nat.reduceAdd, Nat.reduceSub, Nat.reduceMul, Nat.reduceLT, Nat.reduceLeDiff, Int.reduceAdd, Int.reduceSub, Int.reduceMul, Int.reduceLT, Int.reduceLE, Int.reduceEq, Int.reduceNeg, Int.reduceNe, Int.reduceGE, Int.reduceGT, Nat.reduceBEq, Int.reduceToNat,  hn, wn]
      repeat' (first | (refine And.intro ?_ ?_) | (with_reducible intro _))
      all_goals first
        | (exfalso; omega)
        | (refine ⟨_, _, _, ?_, h⟩; simp (config := { maxSteps := 2000000 }) only [go_sem, hG, hP, Nat.reduceEqDiff, ↓reduceIte, reduceCtorEq, Nat.reduceAdd, Nat.reduceSub, Nat.reduceMul, Nat.reduceLT, Nat.reduceLeDiff, Int.reduceAdd, Int.reduceSub, Int.reduceMul, Int.reduceLT, Int.reduceLE, Int.reduceEq, Int.reduceNeg, Int.reduceNe, Int.reduceGE, Int.reduceGT, Nat.reduceBEq, Int.reduceToNat]; done)
        | skip
      all_goals trace_state
      done
    · have c1' : ¬ ((n : Int) = 0 ∨ ((n : Int) < 15 ∧ a0 < 128)) := fun e => c1 (hb1.2 e)
      have z1 : ((n : Int) = 0) = False := eq_false (fun e => c1' (.inl e))
      have h2 : ¬ padP c → K (.v (.int .i64 2)) [] 0 := fun hp => by
        have e : chkC c i last = 2 := by unfold chkC; rw [if_neg c1, if_neg hp]
        rw [e] at h; exact h
      have h3 : padP c → seqC c ≠ i.tmod 8 → K (.v (.int .i64 3)) [] 0 := fun hp hs => by
        have e : chkC c i last = 3 := by unfold chkC; rw [if_neg c1, if_pos hp, if_neg hs]
        rw [e] at h; exact h
      have h4 : padP c → seqC c = i.tmod 8 → K (.v (.int .i64 (if last = true then 4 else 0))) [] 0 := fun hp hs => by
        have e : chkC c i last = (if last = true then 4 else 0) := by unfold chkC; rw [if_neg c1, if_pos hp, if_pos hs]
        rw [e] at h; exact h
      have wq : wr .u8 (a0.tdiv 16) = a0.tdiv 16 := by rw [wr_eq, IntKind.wrap_u8, Int.tdiv_eq_ediv_of_nonneg hbd.1]; omega
      have hseq : (a0.tdiv 16).tmod 8 = seqC c := by unfold seqC; rw [q0]
      have ws : wr .i64 (seqC c) = seqC c := by
        have e1 : 0 ≤ a0.tdiv 16 := by rw [Int.tdiv_eq_ediv_of_nonneg hbd.1]; omega
        rw [← hseq, Int.tmod_eq_emod_of_nonneg e1]
        exact wrap_id (by omega) (by omega)
      have hx : (((n : Int) < 15) = True ∧ (a0 < 128) = False) ∨ (((n : Int) < 15) = False ∧ (0 = 0) = True) := by
        by_cases e : (n : Int) < 15
        · exact .inl ⟨eq_true e, eq_false fun e2 => c1' (.inr ⟨e, e2⟩)⟩
        · exact .inr ⟨eq_false e, by simp⟩
      rcases hx with ⟨x1, x2⟩ | ⟨x1, x2⟩
      all_goals
        simp (config := { maxSteps := 2000000 }) only [go_sem, hG, hP, Nat.reduceEqDiff, ↓reduceIte, reduceCtorEq, Nat.reduceAdd, Nat.reduceSub, Nat.reduceMul, Nat.reduceLT, Nat.reduceLeDiff, Int.reduceAdd, Int.reduceSub, Int.reduceMul, Int.reduceLT, Int.reduceLE, Int.reduceEq, Int.reduceNeg, Int.reduceNe, Int.reduceGE, Int.reduceGT, Nat.reduceBEq, Int.reduceToNat,  hn, wn, wn1, z1, x1, x2]
        refine loopI hE (fun k : Nat => ⟨[(1, .v (.int .i64 i)), (2, .v (.bool last)), (3, .ptr 0 0), (8, .v (.int .i64 k))], [(0, .box [.v (.int .u8 a0), .v (.int .u8 a1), .v (.int .u8 a2), .v (.int .u8 a3), .v (.int .u8 a4), .v (.int .u8 a5), .v (.int .u8 a6), .v (.int .u8 a7), .v (.int .u8 a8), .v (.int .u8 a9), .v (.int .u8 a10), .v (.int .u8 a11), .v (.int .u8 a12), .v (.int .u8 a13), .v (.int .u8 a14), .v (.int .u8 a15)])], 1, Try.f39.ntmps⟩) (fun k => (n < k ∧ k ≤ 16) ∧ ∀ q, q < k → n < q → (lst c).getD q 0 = 0) (fun k => 16 - k) ⟨n + 1, ⟨⟨by omega, by omega⟩, fun q h1 h2 => by omega⟩, SubS.weak ?_⟩ ?_
        · simp (config := { maxSteps := 2000000 }) only [go_sem, hG, hP, Nat.reduceEqDiff, ↓reduceIte, reduceCtorEq, Nat.reduceAdd, Nat.reduceSub, Nat.reduceMul, Nat.reduceLT, Nat.reduceLeDiff, Int.reduceAdd, Int.reduceSub, Int.reduceMul, Int.reduceLT, Int.reduceLE, Int.reduceEq, Int.reduceNeg, Int.reduceNe, Int.reduceGE, Int.reduceGT, Nat.reduceBEq, Int.reduceToNat]
          repeat' (first | with_reducible rfl | (refine And.intro ?_ ?_) | (refine congrArg (Value.int _) ?_; omega) | omega)
        · rintro k ⟨⟨k1, k2⟩, hz⟩
          dsimp only at k1 k2 hz ⊢
          by_cases k3 : k < 16
          · have hk : k = 1 ∨ k = 2 ∨ k = 3 ∨ k = 4 ∨ k = 5 ∨ k = 6 ∨ k = 7 ∨ k = 8 ∨ k = 9 ∨ k = 10 ∨ k = 11 ∨ k = 12 ∨ k = 13 ∨ k = 14 ∨ k = 15 := by omega
            rcases hk with rfl | rfl | rfl | rfl | rfl | rfl | rfl | rfl | rfl | rfl | rfl | rfl | rfl | rfl | rfl
            · simp (config := { maxSteps := 2000000 }) only [go_sem, hG, hP, Nat.reduceEqDiff, ↓reduceIte, reduceCtorEq, Nat.reduceAdd, Nat.reduceSub, Nat.reduceMul, Nat.reduceLT, Nat.reduceLeDiff, Int.reduceAdd, Int.reduceSub, Int.reduceMul, Int.reduceLT, Int.reduceLE, Int.reduceEq, Int.reduceNeg, Int.reduceNe, Int.reduceGE, Int.reduceGT, Nat.reduceBEq, Int.reduceToNat]
              (try simp (disch := omega) only [wrap_id])
              repeat (refine And.intro (by first | omega | (simp; done) | (simp; omega) | (unfold appRoom; omega)) ?_)
              repeat' (first | (refine And.intro ?_ ?_) | (with_reducible intro _))
              all_goals first
                | (exfalso; omega)
                | (have hq : ¬ padP c := fun hp => by
                    have := hp 1 k3 (by omega)
                    rw [← hc] at this
                    exact absurd this (by assumption)
                   refine ⟨_, _, _, ?_, h2 hq⟩
                   simp (config := { maxSteps := 2000000 }) only [go_sem, hG, hP, Nat.reduceEqDiff, ↓reduceIte, reduceCtorEq, Nat.reduceAdd, Nat.reduceSub, Nat.reduceMul, Nat.reduceLT, Nat.reduceLeDiff, Int.reduceAdd, Int.reduceSub, Int.reduceMul, Int.reduceLT, Int.reduceLE, Int.reduceEq, Int.reduceNeg, Int.reduceNe, Int.reduceGE, Int.reduceGT, Nat.reduceBEq, Int.reduceToNat]
                   done)
                | (have hq : ∀ q, q < 2 → n < q → (lst c).getD q 0 = 0 := fun q u1 u2 => by
                    by_cases u3 : q < 1
                    · exact hz q u3 u2
                    · have u4 : q = 1 := by omega
                      subst u4
                      rw [← hc]
                      exact Decidable.not_not.1 (by assumption)
                   refine ⟨2, ⟨⟨⟨by omega, by omega⟩, hq⟩, by omega⟩, SubS.weak ?_⟩
                   simp (config := { maxSteps := 2000000 }) only [go_sem, hG, hP, Nat.reduceEqDiff, ↓reduceIte, reduceCtorEq, Nat.reduceAdd, Nat.reduceSub, Nat.reduceMul, Nat.reduceLT, Nat.reduceLeDiff, Int.reduceAdd, Int.reduceSub, Int.reduceMul, Int.reduceLT, Int.reduceLE, Int.reduceEq, Int.reduceNeg, Int.reduceNe, Int.reduceGE, Int.reduceGT, Nat.reduceBEq, Int.reduceToNat]
                   repeat' (first | with_reducible rfl | (refine And.intro ?_ ?_) | (refine congrArg (Value.int _) ?_; omega) | omega)
                   done)
            · simp (config := { maxSteps := 2000000 }) only [go_sem, hG, hP, Nat.reduceEqDiff, ↓reduceIte, reduceCtorEq, Nat.reduceAdd, Nat.reduceSub, Nat.reduceMul, Nat.reduceLT, Nat.reduceLeDiff, Int.reduceAdd, Int.reduceSub, Int.reduceMul, Int.reduceLT, Int.reduceLE, Int.reduceEq, Int.reduceNeg, Int.reduceNe, Int.reduceGE, Int.reduceGT, Nat.reduceBEq, Int.reduceToNat]
              (try simp (disch := omega) only [wrap_id])
              repeat (refine And.intro (by first | omega | (simp; done) | (simp; omega) | (unfold appRoom; omega)) ?_)
              repeat' (first | (refine And.intro ?_ ?_) | (with_reducible intro _))
              all_goals first
                | (exfalso; omega)
                | (have hq : ¬ padP c := fun hp => by
                    have := hp 2 k3 (by omega)
                    rw [← hc] at this
                    exact absurd this (by assumption)
                   refine ⟨_, _, _, ?_, h2 hq⟩
                   simp (config := { maxSteps := 2000000 }) only [go_sem, hG, hP, Nat.reduceEqDiff, ↓reduceIte, reduceCtorEq, Nat.reduceAdd, Nat.reduceSub, Nat.reduceMul, Nat.reduceLT, Nat.reduceLeDiff, Int.reduceAdd, Int.reduceSub, Int.reduceMul, Int.reduceLT, Int.reduceLE, Int.reduceEq, Int.reduceNeg, Int.reduceNe, Int.reduceGE, Int.reduceGT, Nat.reduceBEq, Int.reduceToNat]
                   done)
                | (have hq : ∀ q, q < 3 → n < q → (lst c).getD q 0 = 0 := fun q u1 u2 => by
                    by_cases u3 : q < 2
                    · exact hz q u3 u2
                    · have u4 : q = 2 := by omega
                      subst u4
                      rw [← hc]
                      exact Decidable.not_not.1 (by assumption)
                   refine ⟨3, ⟨⟨⟨by omega, by omega⟩, hq⟩, by omega⟩, SubS.weak ?_⟩
                   simp (config := { maxSteps := 2000000 }) only [go_sem, hG, hP, Nat.reduceEqDiff, ↓reduceIte, reduceCtorEq, Nat.reduceAdd, Nat.reduceSub, Nat.reduceMul, Nat.reduceLT, Nat.reduceLeDiff, Int.reduceAdd, Int.reduceSub, Int.reduceMul, Int.reduceLT, Int.reduceLE, Int.reduceEq, Int.reduceNeg, Int.reduceNe, Int.reduceGE, Int.reduceGT, Nat.reduceBEq, Int.reduceToNat]
                   repeat' (first | with_reducible rfl | (refine And.intro ?_ ?_) | (refine congrArg (Value.int _) ?_; omega) | omega)
                   done)
            · simp (config := { maxSteps := 2000000 }) only [go_sem, hG, hP, Nat.reduceEqDiff, ↓reduceIte, reduceCtorEq, Nat.reduceAdd, Nat.reduceSub, Nat.reduceMul, Nat.reduceLT, Nat.reduceLeDiff, Int.reduceAdd, Int.reduceSub, Int.reduceMul, Int.reduceLT, Int.reduceLE, Int.reduceEq, Int.reduceNeg, Int.reduceNe, Int.reduceGE, Int.reduceGT, Nat.reduceBEq, Int.reduceToNat]
              (try simp (disch := omega) only [wrap_id])
              repeat (refine And.intro (by first | omega | (simp; done) | (simp; omega) | (unfold appRoom; omega)) ?_)
              repeat' (first | (refine And.intro ?_ ?_) | (with_reducible intro _))
              all_goals first
                | (exfalso; omega)
                | (have hq : ¬ padP c := fun hp => by
                    have := hp 3 k3 (by omega)
                    rw [← hc] at this
                    exact absurd this (by assumption)
                   refine ⟨_, _, _, ?_, h2 hq⟩
                   simp (config := { maxSteps := 2000000 }) only [go_sem, hG, hP, Nat.reduceEqDiff, ↓reduceIte, reduceCtorEq, Nat.reduceAdd, Nat.reduceSub, Nat.reduceMul, Nat.reduceLT, Nat.reduceLeDiff, Int.reduceAdd, Int.reduceSub, Int.reduceMul, Int.reduceLT, Int.reduceLE, Int.reduceEq, Int.reduceNeg, Int.reduceNe, Int.reduceGE, Int.reduceGT, Nat.reduceBEq, Int.reduceToNat]
                   done)
                | (have hq : ∀ q, q < 4 → n < q → (lst c).getD q 0 = 0 := fun q u1 u2 => by
                    by_cases u3 : q < 3
                    · exact hz q u3 u2
                    · have u4 : q = 3 := by omega
                      subst u4
                      rw [← hc]
                      exact Decidable.not_not.1 (by assumption)
                   refine ⟨4, ⟨⟨⟨by omega, by omega⟩, hq⟩, by omega⟩, SubS.weak ?_⟩
                   simp (config := { maxSteps := 2000000 }) only [go_sem, hG, hP, Nat.reduceEqDiff, ↓reduceIte, reduceCtorEq, Nat.reduceAdd, Nat.reduceSub, Nat.reduceMul, Nat.reduceLT, Nat.reduceLeDiff, Int.reduceAdd, Int.reduceSub, Int.reduceMul, Int.reduceLT, Int.reduceLE, Int.reduceEq, Int.reduceNeg, Int.reduceNe, Int.reduceGE, Int.reduceGT, Nat.reduceBEq, Int.reduceToNat]
                   repeat' (first | with_reducible rfl | (refine And.intro ?_ ?_) | (refine congrArg (Value.int _) ?_; omega) | omega)
                   done)
            · simp (config := { maxSteps := 2000000 }) only [go_sem, hG, hP, Nat.reduceEqDiff, ↓reduceIte, reduceCtorEq, Nat.reduceAdd, Nat.reduceSub, Nat.reduceMul, Nat.reduceLT, Nat.reduceLeDiff, Int.reduceAdd, Int.reduceSub, Int.reduceMul, Int.reduceLT, Int.reduceLE, Int.reduceEq, Int.reduceNeg, Int.reduceNe, Int.reduceGE, Int.reduceGT, Nat.reduceBEq, Int.reduceToNat]
              (try simp (disch := omega) only [wrap_id])
              repeat (refine And.intro (by first | omega | (simp; done) | (simp; omega) | (unfold appRoom; omega)) ?_)
              repeat' (first | (refine And.intro ?_ ?_) | (with_reducible intro _))
              all_goals first
                | (exfalso; omega)
                | (have hq : ¬ padP c := fun hp => by
                    have := hp 4 k3 (by omega)
                    rw [← hc] at this
                    exact absurd this (by assumption)
                   refine ⟨_, _, _, ?_, h2 hq⟩
                   simp (config := { maxSteps := 2000000 }) only [go_sem, hG, hP, Nat.reduceEqDiff, ↓reduceIte, reduceCtorEq, Nat.reduceAdd, Nat.reduceSub, Nat.reduceMul, Nat.reduceLT, Nat.reduceLeDiff, Int.reduceAdd, Int.reduceSub, Int.reduceMul, Int.reduceLT, Int.reduceLE, Int.reduceEq, Int.reduceNeg, Int.reduceNe, Int.reduceGE, Int.reduceGT, Nat.reduceBEq, Int.reduceToNat]
                   done)
                | (have hq : ∀ q, q < 5 → n < q → (lst c).getD q 0 = 0 := fun q u1 u2 => by
                    by_cases u3 : q < 4
                    · exact hz q u3 u2
                    · have u4 : q = 4 := by omega
                      subst u4
                      rw [← hc]
                      exact Decidable.not_not.1 (by assumption)
                   refine ⟨5, ⟨⟨⟨by omega, by omega⟩, hq⟩, by omega⟩, SubS.weak ?_⟩
                   simp (config := { maxSteps := 2000000 }) only [go_sem, hG, hP, Nat.reduceEqDiff, ↓reduceIte, reduceCtorEq, Nat.reduceAdd, Nat.reduceSub, Nat.reduceMul, Nat.reduceLT, Nat.reduceLeDiff, Int.reduceAdd, Int.reduceSub, Int.reduceMul, Int.reduceLT, Int.reduceLE, Int.reduceEq, Int.reduceNeg, Int.reduceNe, Int.reduceGE, Int.reduceGT, Nat.reduceBEq, Int.reduceToNat]
                   repeat' (first | with_reducible rfl | (refine And.intro ?_ ?_) | (refine congrArg (Value.int _) ?_; omega) | omega)
                   done)
            · simp (config := { maxSteps := 2000000 }) only [go_sem, hG, hP, Nat.reduceEqDiff, ↓reduceIte, reduceCtorEq, Nat.reduceAdd, Nat.reduceSub, Nat.reduceMul, Nat.reduceLT, Nat.reduceLeDiff, Int.reduceAdd, Int.reduceSub, Int.reduceMul, Int.reduceLT, Int.reduceLE, Int.reduceEq, Int.reduceNeg, Int.reduceNe, Int.reduceGE, Int.reduceGT, Nat.reduceBEq, Int.reduceToNat]
              (try simp (disch := omega) only [wrap_id])
              repeat (refine And.intro (by first | omega | (simp; done) | (simp; omega) | (unfold appRoom; omega)) ?_)
              repeat' (first | (refine And.intro ?_ ?_) | (with_reducible intro _))
              all_goals first
                | (exfalso; omega)
                | (have hq : ¬ padP c := fun hp => by
                    have := hp 5 k3 (by omega)
                    rw [← hc] at this
                    exact absurd this (by assumption)
                   refine ⟨_, _, _, ?_, h2 hq⟩
                   simp (config := { maxSteps := 2000000 }) only [go_sem, hG, hP, Nat.reduceEqDiff, ↓reduceIte, reduceCtorEq, Nat.reduceAdd, Nat.reduceSub, Nat.reduceMul, Nat.reduceLT, Nat.reduceLeDiff, Int.reduceAdd, Int.reduceSub, Int.reduceMul, Int.reduceLT, Int.reduceLE, Int.reduceEq, Int.reduceNeg, Int.reduceNe, Int.reduceGE, Int.reduceGT, Nat.reduceBEq, Int.reduceToNat]
                   done)
                | (have hq : ∀ q, q < 6 → n < q → (lst c).getD q 0 = 0 := fun q u1 u2 => by
                    by_cases u3 : q < 5
                    · exact hz q u3 u2
                    · have u4 : q = 5 := by omega
                      subst u4
                      rw [← hc]
                      exact Decidable.not_not.1 (by assumption)
                   refine ⟨6, ⟨⟨⟨by omega, by omega⟩, hq⟩, by omega⟩, SubS.weak ?_⟩
                   simp (config := { maxSteps := 2000000 }) only [go_sem, hG, hP, Nat.reduceEqDiff, ↓reduceIte, reduceCtorEq, Nat.reduceAdd, Nat.reduceSub, Nat.reduceMul, Nat.reduceLT, Nat.reduceLeDiff, Int.reduceAdd, Int.reduceSub, Int.reduceMul, Int.reduceLT, Int.reduceLE, Int.reduceEq, Int.reduceNeg, Int.reduceNe, Int.reduceGE, Int.reduceGT, Nat.reduceBEq, Int.reduceToNat]
                   repeat' (first | with_reducible rfl | (refine And.intro ?_ ?_) | (refine congrArg (Value.int _) ?_; omega) | omega)
                   done)
            · simp (config := { maxSteps := 2000000 }) only [go_sem, hG, hP, Nat.reduceEqDiff, ↓reduceIte, reduceCtorEq, Nat.reduceAdd, Nat.reduceSub, Nat.reduceMul, Nat.reduceLT, Nat.reduceLeDiff, Int.reduceAdd, Int.reduceSub, Int.reduceMul, Int.reduceLT, Int.reduceLE, Int.reduceEq, Int.reduceNeg, Int.reduceNe, Int.reduceGE, Int.reduceGT, Nat.reduceBEq, Int.reduceToNat]
              (try simp (disch := omega) only [wrap_id])
              repeat (refine And.intro (by first | omega | (simp; done) | (simp; omega) | (unfold appRoom; omega)) ?_)
              repeat' (first | (refine And.intro ?_ ?_) | (with_reducible intro _))
              all_goals first
                | (exfalso; omega)
                | (have hq : ¬ padP c := fun hp => by
                    have := hp 6 k3 (by omega)
                    rw [← hc] at this
                    exact absurd this (by assumption)
                   refine ⟨_, _, _, ?_, h2 hq⟩
                   simp (config := { maxSteps := 2000000 }) only [go_sem, hG, hP, Nat.reduceEqDiff, ↓reduceIte, reduceCtorEq, Nat.reduceAdd, Nat.reduceSub, Nat.reduceMul, Nat.reduceLT, Nat.reduceLeDiff, Int.reduceAdd, Int.reduceSub, Int.reduceMul, Int.reduceLT, Int.reduceLE, Int.reduceEq, Int.reduceNeg, Int.reduceNe, Int.reduceGE, Int.reduceGT, Nat.reduceBEq, Int.reduceToNat]
                   done)
                | (have hq : ∀ q, q < 7 → n < q → (lst c).getD q 0 = 0 := fun q u1 u2 => by
                    by_cases u3 : q < 6
                    · exact hz q u3 u2
                    · have u4 : q = 6 := by omega
                      subst u4
                      rw [← hc]
                      exact Decidable.not_not.1 (by assumption)
                   refine ⟨7, ⟨⟨⟨by omega, by omega⟩, hq⟩, by omega⟩, SubS.weak ?_⟩
                   simp (config := { maxSteps := 2000000 }) only [go_sem, hG, hP, Nat.reduceEqDiff, ↓reduceIte, reduceCtorEq, Nat.reduceAdd, Nat.reduceSub, Nat.reduceMul, Nat.reduceLT, Nat.reduceLeDiff, Int.reduceAdd, Int.reduceSub, Int.reduceMul, Int.reduceLT, Int.reduceLE, Int.reduceEq, Int.reduceNeg, Int.reduceNe, Int.reduceGE, Int.reduceGT, Nat.reduceBEq, Int.reduceToNat]
                   repeat' (first | with_reducible rfl | (refine And.intro ?_ ?_) | (refine congrArg (Value.int _) ?_; omega) | omega)
                   done)
            · simp (config := { maxSteps := 2000000 }) only [go_sem, hG, hP, Nat.reduceEqDiff, ↓reduceIte, reduceCtorEq, Nat.reduceAdd, Nat.reduceSub, Nat.reduceMul, Nat.reduceLT, Nat.reduceLeDiff, Int.reduceAdd, Int.reduceSub, Int.reduceMul, Int.reduceLT, Int.reduceLE, Int.reduceEq, Int.reduceNeg, Int.reduceNe, Int.reduceGE, Int.reduceGT, Nat.reduceBEq, Int.reduceToNat]
              (try simp (disch := omega) only [wrap_id])
              repeat (refine And.intro (by first | omega | (simp; done) | (simp; omega) | (unfold appRoom; omega)) ?_)
              repeat' (first | (refine And.intro ?_ ?_) | (with_reducible intro _))
              all_goals first
                | (exfalso; omega)
                | (have hq : ¬ padP c := fun hp => by
                    have := hp 7 k3 (by omega)
                    rw [← hc] at this
                    exact absurd this (by assumption)
                   refine ⟨_, _, _, ?_, h2 hq⟩
                   simp (config := { maxSteps := 2000000 }) only [go_sem, hG, hP, Nat.reduceEqDiff, ↓reduceIte, reduceCtorEq, Nat.reduceAdd, Nat.reduceSub, Nat.reduceMul, Nat.reduceLT, Nat.reduceLeDiff, Int.reduceAdd, Int.reduceSub, Int.reduceMul, Int.reduceLT, Int.reduceLE, Int.reduceEq, Int.reduceNeg, Int.reduceNe, Int.reduceGE, Int.reduceGT, Nat.reduceBEq, Int.reduceToNat]
                   done)
                | (have hq : ∀ q, q < 8 → n < q → (lst c).getD q 0 = 0 := fun q u1 u2 => by
                    by_cases u3 : q < 7
                    · exact hz q u3 u2
                    · have u4 : q = 7 := by omega
                      subst u4
                      rw [← hc]
                      exact Decidable.not_not.1 (by assumption)
                   refine ⟨8, ⟨⟨⟨by omega, by omega⟩, hq⟩, by omega⟩, SubS.weak ?_⟩
                   simp (config := { maxSteps := 2000000 }) only [go_sem, hG, hP, Nat.reduceEqDiff, ↓reduceIte, reduceCtorEq, Nat.reduceAdd, Nat.reduceSub, Nat.reduceMul, Nat.reduceLT, Nat.reduceLeDiff, Int.reduceAdd, Int.reduceSub, Int.reduceMul, Int.reduceLT, Int.reduceLE, Int.reduceEq, Int.reduceNeg, Int.reduceNe, Int.reduceGE, Int.reduceGT, Nat.reduceBEq, Int.reduceToNat]
                   repeat' (first | with_reducible rfl | (refine And.intro ?_ ?_) | (refine congrArg (Value.int _) ?_; omega) | omega)
                   done)
            · simp (config := { maxSteps := 2000000 }) only [go_sem, hG, hP, Nat.reduceEqDiff, ↓reduceIte, reduceCtorEq, Nat.reduceAdd, Nat.reduceSub, Nat.reduceMul, Nat.reduceLT, Nat.reduceLeDiff, Int.reduceAdd, Int.reduceSub, Int.reduceMul, Int.reduceLT, Int.reduceLE, Int.reduceEq, Int.reduceNeg, Int.reduceNe, Int.reduceGE, Int.reduceGT, Nat.reduceBEq, Int.reduceToNat]
              (try simp (disch := omega) only [wrap_id])
              repeat (refine And.intro (by first | omega | (simp; done) | (simp; omega) | (unfold appRoom; omega)) ?_)
              repeat' (first | (refine And.intro ?_ ?_) | (with_reducible intro _))
              all_goals first
                | (exfalso; omega)
                | (have hq : ¬ padP c := fun hp => by
                    have := hp 8 k3 (by omega)
                    rw [← hc] at this
                    exact absurd this (by assumption)
                   refine ⟨_, _, _, ?_, h2 hq⟩
                   simp (config := { maxSteps := 2000000 }) only [go_sem, hG, hP, Nat.reduceEqDiff, ↓reduceIte, reduceCtorEq, Nat.reduceAdd, Nat.reduceSub, Nat.reduceMul, Nat.reduceLT, Nat.reduceLeDiff, Int.reduceAdd, Int.reduceSub, Int.reduceMul, Int.reduceLT, Int.reduceLE, Int.reduceEq, Int.reduceNeg, Int.reduceNe, Int.reduceGE, Int.reduceGT, Nat.reduceBEq, Int.reduceToNat]
                   done)
                | (have hq : ∀ q, q < 9 → n < q → (lst c).getD q 0 = 0 := fun q u1 u2 => by
                    by_cases u3 : q < 8
                    · exact hz q u3 u2
                    · have u4 : q = 8 := by omega
                      subst u4
                      rw [← hc]
                      exact Decidable.not_not.1 (by assumption)
                   refine ⟨9, ⟨⟨⟨by omega, by omega⟩, hq⟩, by omega⟩, SubS.weak ?_⟩
                   simp (config := { maxSteps := 2000000 }) only [go_sem, hG, hP, Nat.reduceEqDiff, ↓reduceIte, reduceCtorEq, Nat.reduceAdd, Nat.reduceSub, Nat.reduceMul, Nat.reduceLT, Nat.reduceLeDiff, Int.reduceAdd, Int.reduceSub, Int.reduceMul, Int.reduceLT, Int.reduceLE, Int.reduceEq, Int.reduceNeg, Int.reduceNe, Int.reduceGE, Int.reduceGT, Nat.reduceBEq, Int.reduceToNat]
                   repeat' (first | with_reducible rfl | (refine And.intro ?_ ?_) | (refine congrArg (Value.int _) ?_; omega) | omega)
                   done)
            · simp (config := { maxSteps := 2000000 }) only [go_sem, hG, hP, Nat.reduceEqDiff, ↓reduceIte, reduceCtorEq, Nat.reduceAdd, Nat.reduceSub, Nat.reduceMul, Nat.reduceLT, Nat.reduceLeDiff, Int.reduceAdd, Int.reduceSub, Int.reduceMul, Int.reduceLT, Int.reduceLE, Int.reduceEq, Int.reduceNeg, Int.reduceNe, Int.reduceGE, Int.reduceGT, Nat.reduceBEq, Int.reduceToNat]
              (try simp (disch := omega) only [wrap_id])
              repeat (refine And.intro (by first | omega | (simp; done) | (simp; omega) | (unfold appRoom; omega)) ?_)
              repeat' (first | (refine And.intro ?_ ?_) | (with_reducible intro _))
              all_goals first
                | (exfalso; omega)
                | (have hq : ¬ padP c := fun hp => by
                    have := hp 9 k3 (by omega)
                    rw [← hc] at this
                    exact absurd this (by assumption)
                   refine ⟨_, _, _, ?_, h2 hq⟩
                   simp (config := { maxSteps := 2000000 }) only [go_sem, hG, hP, Nat.reduceEqDiff, ↓reduceIte, reduceCtorEq, Nat.reduceAdd, Nat.reduceSub, Nat.reduceMul, Nat.reduceLT, Nat.reduceLeDiff, Int.reduceAdd, Int.reduceSub, Int.reduceMul, Int.reduceLT, Int.reduceLE, Int.reduceEq, Int.reduceNeg, Int.reduceNe, Int.reduceGE, Int.reduceGT, Nat.reduceBEq, Int.reduceToNat]
                   done)
                | (have hq : ∀ q, q < 10 → n < q → (lst c).getD q 0 = 0 := fun q u1 u2 => by
                    by_cases u3 : q < 9
                    · exact hz q u3 u2
                    · have u4 : q = 9 := by omega
                      subst u4
                      rw [← hc]
                      exact Decidable.not_not.1 (by assumption)
                   refine ⟨10, ⟨⟨⟨by omega, by omega⟩, hq⟩, by omega⟩, SubS.weak ?_⟩
                   simp (config := { maxSteps := 2000000 }) only [go_sem, hG, hP, Nat.reduceEqDiff, ↓reduceIte, reduceCtorEq, Nat.reduceAdd, Nat.reduceSub, Nat.reduceMul, Nat.reduceLT, Nat.reduceLeDiff, Int.reduceAdd, Int.reduceSub, Int.reduceMul, Int.reduceLT, Int.reduceLE, Int.reduceEq, Int.reduceNeg, Int.reduceNe, Int.reduceGE, Int.reduceGT, Nat.reduceBEq, Int.reduceToNat]
                   repeat' (first | with_reducible rfl | (refine And.intro ?_ ?_) | (refine congrArg (Value.int _) ?_; omega) | omega)
                   done)
            · simp (config := { maxSteps := 2000000 }) only [go_sem, hG, hP, Nat.reduceEqDiff, ↓reduceIte, reduceCtorEq, Nat.reduceAdd, Nat.reduceSub, Nat.reduceMul, Nat.reduceLT, Nat.reduceLeDiff, Int.reduceAdd, Int.reduceSub, Int.reduceMul, Int.reduceLT, Int.reduceLE, Int.reduceEq, Int.reduceNeg, Int.reduceNe, Int.reduceGE, Int.reduceGT, Nat.reduceBEq, Int.reduceToNat]
              (try simp (disch := omega) only [wrap_id])
              repeat (refine And.intro (by first | omega | (simp; done) | (simp; omega) | (unfold appRoom; omega)) ?_)
              repeat' (first | (refine And.intro ?_ ?_) | (with_reducible intro _))
              all_goals first
                | (exfalso; omega)
                | (have hq : ¬ padP c := fun hp => by
                    have := hp 10 k3 (by omega)
                    rw [← hc] at this
                    exact absurd this (by assumption)
                   refine ⟨_, _, _, ?_, h2 hq⟩
                   simp (config := { maxSteps := 2000000 }) only [go_sem, hG, hP, Nat.reduceEqDiff, ↓reduceIte, reduceCtorEq, Nat.reduceAdd, Nat.reduceSub, Nat.reduceMul, Nat.reduceLT, Nat.reduceLeDiff, Int.reduceAdd, Int.reduceSub, Int.reduceMul, Int.reduceLT, Int.reduceLE, Int.reduceEq, Int.reduceNeg, Int.reduceNe, Int.reduceGE, Int.reduceGT, Nat.reduceBEq, Int.reduceToNat]
                   done)
                | (have hq : ∀ q, q < 11 → n < q → (lst c).getD q 0 = 0 := fun q u1 u2 => by
                    by_cases u3 : q < 10
                    · exact hz q u3 u2
                    · have u4 : q = 10 := by omega
                      subst u4
                      rw [← hc]
                      exact Decidable.not_not.1 (by assumption)
                   refine ⟨11, ⟨⟨⟨by omega, by omega⟩, hq⟩, by omega⟩, SubS.weak ?_⟩
                   simp (config := { maxSteps := 2000000 }) only [go_sem, hG, hP, Nat.reduceEqDiff, ↓reduceIte, reduceCtorEq, Nat.reduceAdd, Nat.reduceSub, Nat.reduceMul, Nat.reduceLT, Nat.reduceLeDiff, Int.reduceAdd, Int.reduceSub, Int.reduceMul, Int.reduceLT, Int.reduceLE, Int.reduceEq, Int.reduceNeg, Int.reduceNe, Int.reduceGE, Int.reduceGT, Nat.reduceBEq, Int.reduceToNat]
                   repeat' (first | with_reducible rfl | (refine And.intro ?_ ?_) | (refine congrArg (Value.int _) ?_; omega) | omega)
                   done)
            · simp (config := { maxSteps := 2000000 }) only [go_sem, hG, hP, Nat.reduceEqDiff, ↓reduceIte, reduceCtorEq, Nat.reduceAdd, Nat.reduceSub, Nat.reduceMul, Nat.reduceLT, Nat.reduceLeDiff, Int.reduceAdd, Int.reduceSub, Int.reduceMul, Int.reduceLT, Int.reduceLE, Int.reduceEq, Int.reduceNeg, Int.reduceNe, Int.reduceGE, Int.reduceGT, Nat.reduceBEq, Int.reduceToNat]
              (try simp (disch := omega) only [wrap_id])
              repeat (refine And.intro (by first | omega | (simp; done) | (simp; omega) | (unfold appRoom; omega)) ?_)
              repeat' (first | (refine And.intro ?_ ?_) | (with_reducible intro _))
              all_goals first
                | (exfalso; omega)
                | (have hq : ¬ padP c := fun hp => by
                    have := hp 11 k3 (by omega)
                    rw [← hc] at this
                    exact absurd this (by assumption)
                   refine ⟨_, _, _, ?_, h2 hq⟩
                   simp (config := { maxSteps := 2000000 }) only [go_sem, hG, hP, Nat.reduceEqDiff, ↓reduceIte, reduceCtorEq, Nat.reduceAdd, Nat.reduceSub, Nat.reduceMul, Nat.reduceLT, Nat.reduceLeDiff, Int.reduceAdd, Int.reduceSub, Int.reduceMul, Int.reduceLT, Int.reduceLE, Int.reduceEq, Int.reduceNeg, Int.reduceNe, Int.reduceGE, Int.reduceGT, Nat.reduceBEq, Int.reduceToNat]
                   done)
                | (have hq : ∀ q, q < 12 → n < q → (lst c).getD q 0 = 0 := fun q u1 u2 => by
                    by_cases u3 : q < 11
                    · exact hz q u3 u2
                    · have u4 : q = 11 := by omega
                      subst u4
                      rw [← hc]
                      exact Decidable.not_not.1 (by assumption)
                   refine ⟨12, ⟨⟨⟨by omega, by omega⟩, hq⟩, by omega⟩, SubS.weak ?_⟩
                   simp (config := { maxSteps := 2000000 }) only [go_sem, hG, hP, Nat.reduceEqDiff, ↓reduceIte, reduceCtorEq, Nat.reduceAdd, Nat.reduceSub, Nat.reduceMul, Nat.reduceLT, Nat.reduceLeDiff, Int.reduceAdd, Int.reduceSub, Int.reduceMul, Int.reduceLT, Int.reduceLE, Int.reduceEq, Int.reduceNeg, Int.reduceNe, Int.reduceGE, Int.reduceGT, Nat.reduceBEq, Int.reduceToNat]
                   repeat' (first | with_reducible rfl | (refine And.intro ?_ ?_) | (refine congrArg (Value.int _) ?_; omega) | omega)
                   done)
            · simp (config := { maxSteps := 2000000 }) only [go_sem, hG, hP, Nat.reduceEqDiff, ↓reduceIte, reduceCtorEq, Nat.reduceAdd, Nat.reduceSub, Nat.reduceMul, Nat.reduceLT, Nat.reduceLeDiff, Int.reduceAdd, Int.reduceSub, Int.reduceMul, Int.reduceLT, Int.reduceLE, Int.reduceEq, Int.reduceNeg, Int.reduceNe, Int.reduceGE, Int.reduceGT, Nat.reduceBEq, Int.reduceToNat]
              (try simp (disch := omega) only [wrap_id])
              repeat (refine And.intro (by first | omega | (simp; done) | (simp; omega) | (unfold appRoom; omega)) ?_)
              repeat' (first | (refine And.intro ?_ ?_) | (with_reducible intro _))
              all_goals first
                | (exfalso; omega)
                | (have hq : ¬ padP c := fun hp => by
                    have := hp 12 k3 (by omega)
                    rw [← hc] at this
                    exact absurd this (by assumption)
                   refine ⟨_, _, _, ?_, h2 hq⟩
                   simp (config := { maxSteps := 2000000 }) only [go_sem, hG, hP, Nat.reduceEqDiff, ↓reduceIte, reduceCtorEq, Nat.reduceAdd, Nat.reduceSub, Nat.reduceMul, Nat.reduceLT, Nat.reduceLeDiff, Int.reduceAdd, Int.reduceSub, Int.reduceMul, Int.reduceLT, Int.reduceLE, Int.reduceEq, Int.reduceNeg, Int.reduceNe, Int.reduceGE, Int.reduceGT, Nat.reduceBEq, Int.reduceToNat]
                   done)
                | (have hq : ∀ q, q < 13 → n < q → (lst c).getD q 0 = 0 := fun q u1 u2 => by
                    by_cases u3 : q < 12
                    · exact hz q u3 u2
                    · have u4 : q = 12 := by omega
                      subst u4
                      rw [← hc]
                      exact Decidable.not_not.1 (by assumption)
                   refine ⟨13, ⟨⟨⟨by omega, by omega⟩, hq⟩, by omega⟩, SubS.weak ?_⟩
                   simp (config := { maxSteps := 2000000 }) only [go_sem, hG, hP, Nat.reduceEqDiff, ↓reduceIte, reduceCtorEq, Nat.reduceAdd, Nat.reduceSub, Nat.reduceMul, Nat.reduceLT, Nat.reduceLeDiff, Int.reduceAdd, Int.reduceSub, Int.reduceMul, Int.reduceLT, Int.reduceLE, Int.reduceEq, Int.reduceNeg, Int.reduceNe, Int.reduceGE, Int.reduceGT, Nat.reduceBEq, Int.reduceToNat]
                   repeat' (first | with_reducible rfl | (refine And.intro ?_ ?_) | (refine congrArg (Value.int _) ?_; omega) | omega)
                   done)
            · simp (config := { maxSteps := 2000000 }) only [go_sem, hG, hP, Nat.reduceEqDiff, ↓reduceIte, reduceCtorEq, Nat.reduceAdd, Nat.reduceSub, Nat.reduceMul, Nat.reduceLT, Nat.reduceLeDiff, Int.reduceAdd, Int.reduceSub, Int.reduceMul, Int.reduceLT, Int.reduceLE, Int.reduceEq, Int.reduceNeg, Int.reduceNe, Int.reduceGE, Int.reduceGT, Nat.reduceBEq, Int.reduceToNat]
              (try simp (disch := omega) only [wrap_id])
              repeat (refine And.intro (by first | omega | (simp; done) | (simp; omega) | (unfold appRoom; omega)) ?_)
              repeat' (first | (refine And.intro ?_ ?_) | (with_reducible intro _))
              all_goals first
                | (exfalso; omega)
                | (have hq : ¬ padP c := fun hp => by
                    have := hp 13 k3 (by omega)
                    rw [← hc] at this
                    exact absurd this (by assumption)
                   refine ⟨_, _, _, ?_, h2 hq⟩
                   simp (config := { maxSteps := 2000000 }) only [go_sem, hG, hP, Nat.reduceEqDiff, ↓reduceIte, reduceCtorEq, Nat.reduceAdd, Nat.reduceSub, Nat.reduceMul, Nat.reduceLT, Nat.reduceLeDiff, Int.reduceAdd, Int.reduceSub, Int.reduceMul, Int.reduceLT, Int.reduceLE, Int.reduceEq, Int.reduceNeg, Int.reduceNe, Int.reduceGE, Int.reduceGT, Nat.reduceBEq, Int.reduceToNat]
                   done)
                | (have hq : ∀ q, q < 14 → n < q → (lst c).getD q 0 = 0 := fun q u1 u2 => by
                    by_cases u3 : q < 13
                    · exact hz q u3 u2
                    · have u4 : q = 13 := by omega
                      subst u4
                      rw [← hc]
                      exact Decidable.not_not.1 (by assumption)
                   refine ⟨14, ⟨⟨⟨by omega, by omega⟩, hq⟩, by omega⟩, SubS.weak ?_⟩
                   simp (config := { maxSteps := 2000000 }) only [go_sem, hG, hP, Nat.reduceEqDiff, ↓reduceIte, reduceCtorEq, Nat.reduceAdd, Nat.reduceSub, Nat.reduceMul, Nat.reduceLT, Nat.reduceLeDiff, Int.reduceAdd, Int.reduceSub, Int.reduceMul, Int.reduceLT, Int.reduceLE, Int.reduceEq, Int.reduceNeg, Int.reduceNe, Int.reduceGE, Int.reduceGT, Nat.reduceBEq, Int.reduceToNat]
                   repeat' (first | with_reducible rfl | (refine And.intro ?_ ?_) | (refine congrArg (Value.int _) ?_; omega) | omega)
                   done)
            · simp (config := { maxSteps := 2000000 }) only [go_sem, hG, hP, Nat.reduceEqDiff, ↓reduceIte, reduceCtorEq, Nat.reduceAdd, Nat.reduceSub, Nat.reduceMul, Nat.reduceLT, Nat.reduceLeDiff, Int.reduceAdd, Int.reduceSub, Int.reduceMul, Int.reduceLT, Int.reduceLE, Int.reduceEq, Int.reduceNeg, Int.reduceNe, Int.reduceGE, Int.reduceGT, Nat.reduceBEq, Int.reduceToNat]
              (try simp (disch := omega) only [wrap_id])
              repeat (refine And.intro (by first | omega | (simp; done) | (simp; omega) | (unfold appRoom; omega)) ?_)
              repeat' (first | (refine And.intro ?_ ?_) | (with_reducible intro _))
              all_goals first
                | (exfalso; omega)
                | (have hq : ¬ padP c := fun hp => by
                    have := hp 14 k3 (by omega)
                    rw [← hc] at this
                    exact absurd this (by assumption)
                   refine ⟨_, _, _, ?_, h2 hq⟩
                   simp (config := { maxSteps := 2000000 }) only [go_sem, hG, hP, Nat.reduceEqDiff, ↓reduceIte, reduceCtorEq, Nat.reduceAdd, Nat.reduceSub, Nat.reduceMul, Nat.reduceLT, Nat.reduceLeDiff, Int.reduceAdd, Int.reduceSub, Int.reduceMul, Int.reduceLT, Int.reduceLE, Int.reduceEq, Int.reduceNeg, Int.reduceNe, Int.reduceGE, Int.reduceGT, Nat.reduceBEq, Int.reduceToNat]
                   done)
                | (have hq : ∀ q, q < 15 → n < q → (lst c).getD q 0 = 0 := fun q u1 u2 => by
                    by_cases u3 : q < 14
                    · exact hz q u3 u2
                    · have u4 : q = 14 := by omega
                      subst u4
                      rw [← hc]
                      exact Decidable.not_not.1 (by assumption)
                   refine ⟨15, ⟨⟨⟨by omega, by omega⟩, hq⟩, by omega⟩, SubS.weak ?_⟩
                   simp (config := { maxSteps := 2000000 }) only [go_sem, hG, hP, Nat.reduceEqDiff, ↓reduceIte, reduceCtorEq, Nat.reduceAdd, Nat.reduceSub, Nat.reduceMul, Nat.reduceLT, Nat.reduceLeDiff, Int.reduceAdd, Int.reduceSub, Int.reduceMul, Int.reduceLT, Int.reduceLE, Int.reduceEq, Int.reduceNeg, Int.reduceNe, Int.reduceGE, Int.reduceGT, Nat.reduceBEq, Int.reduceToNat]
                   repeat' (first | with_reducible rfl | (refine And.intro ?_ ?_) | (refine congrArg (Value.int _) ?_; omega) | omega)
                   done)
            · simp (config := { maxSteps := 2000000 }) only [go_sem, hG, hP, Nat.reduceEqDiff, ↓reduceIte, reduceCtorEq, Nat.reduceAdd, Nat.reduceSub, Nat.reduceMul, Nat.reduceLT, Nat.reduceLeDiff, Int.reduceAdd, Int.reduceSub, Int.reduceMul, Int.reduceLT, Int.reduceLE, Int.reduceEq, Int.reduceNeg, Int.reduceNe, Int.reduceGE, Int.reduceGT, Nat.reduceBEq, Int.reduceToNat]
              (try simp (disch := omega) only [wrap_id])
              repeat (refine And.intro (by first | omega | (simp; done) | (simp; omega) | (unfold appRoom; omega)) ?_)
              repeat' (first | (refine And.intro ?_ ?_) | (with_reducible intro _))
              all_goals first
                | (exfalso; omega)
                | (have hq : ¬ padP c := fun hp => by
                    have := hp 15 k3 (by omega)
                    rw [← hc] at this
                    exact absurd this (by assumption)
                   refine ⟨_, _, _, ?_, h2 hq⟩
                   simp (config := { maxSteps := 2000000 }) only [go_sem, hG, hP, Nat.reduceEqDiff, ↓reduceIte, reduceCtorEq, Nat.reduceAdd, Nat.reduceSub, Nat.reduceMul, Nat.reduceLT, Nat.reduceLeDiff, Int.reduceAdd, Int.reduceSub, Int.reduceMul, Int.reduceLT, Int.reduceLE, Int.reduceEq, Int.reduceNeg, Int.reduceNe, Int.reduceGE, Int.reduceGT, Nat.reduceBEq, Int.reduceToNat]
                   done)
                | (have hq : ∀ q, q < 16 → n < q → (lst c).getD q 0 = 0 := fun q u1 u2 => by
                    by_cases u3 : q < 15
                    · exact hz q u3 u2
                    · have u4 : q = 15 := by omega
                      subst u4
                      rw [← hc]
                      exact Decidable.not_not.1 (by assumption)
                   refine ⟨16, ⟨⟨⟨by omega, by omega⟩, hq⟩, by omega⟩, SubS.weak ?_⟩
                   simp (config := { maxSteps := 2000000 }) only [go_sem, hG, hP, Nat.reduceEqDiff, ↓reduceIte, reduceCtorEq, Nat.reduceAdd, Nat.reduceSub, Nat.reduceMul, Nat.reduceLT, Nat.reduceLeDiff, Int.reduceAdd, Int.reduceSub, Int.reduceMul, Int.reduceLT, Int.reduceLE, Int.reduceEq, Int.reduceNeg, Int.reduceNe, Int.reduceGE, Int.reduceGT, Nat.reduceBEq, Int.reduceToNat]
                   repeat' (first | with_reducible rfl | (refine And.intro ?_ ?_) | (refine congrArg (Value.int _) ?_; omega) | omega)
                   done)
          · have ek : k = 16 := by omega
            subst ek
            have hp : padP c := fun q u1 u2 => hz q u1 (by omega)
            by_cases hs : seqC c = i.tmod 8
            · have hs1 := eq_true hs
              simp (config := { maxSteps := 2000000 }) only [go_sem, hG, hP, Nat.reduceEqDiff, ↓reduceIte, reduceCtorEq, Nat.reduceAdd, Nat.reduceSub, Nat.reduceMul, Nat.reduceLT, Nat.reduceLeDiff, Int.reduceAdd, Int.reduceSub, Int.reduceMul, Int.reduceLT, Int.reduceLE, Int.reduceEq, Int.reduceNeg, Int.reduceNe, Int.reduceGE, Int.reduceGT, Nat.reduceBEq, Int.reduceToNat,  wq, hseq, ws, hs1]
              (try simp (disch := omega) only [wrap_id])
              repeat (refine And.intro (by first | omega | (simp; done) | (simp; omega) | (unfold appRoom; omega)) ?_)
              have h5 := h4 hp hs
              refine ⟨fun e => ?_, fun e => ?_⟩
              · rw [if_pos e] at h5
                refine ⟨_, _, _, ?_, h5⟩
                simp (config := { maxSteps := 2000000 }) only [go_sem, hG, hP, Nat.reduceEqDiff, ↓reduceIte, reduceCtorEq, Nat.reduceAdd, Nat.reduceSub, Nat.reduceMul, Nat.reduceLT, Nat.reduceLeDiff, Int.reduceAdd, Int.reduceSub, Int.reduceMul, Int.reduceLT, Int.reduceLE, Int.reduceEq, Int.reduceNeg, Int.reduceNe, Int.reduceGE, Int.reduceGT, Nat.reduceBEq, Int.reduceToNat]
              · rw [e, if_neg (by decide)] at h5
                refine ⟨_, _, _, ?_, h5⟩
                simp (config := { maxSteps := 2000000 }) only [go_sem, hG, hP, Nat.reduceEqDiff, ↓reduceIte, reduceCtorEq, Nat.reduceAdd, Nat.reduceSub, Nat.reduceMul, Nat.reduceLT, Nat.reduceLeDiff, Int.reduceAdd, Int.reduceSub, Int.reduceMul, Int.reduceLT, Int.reduceLE, Int.reduceEq, Int.reduceNeg, Int.reduceNe, Int.reduceGE, Int.reduceGT, Nat.reduceBEq, Int.reduceToNat]
            · have hs1 := eq_false hs
              simp (config := { maxSteps := 2000000 }) only [go_sem, hG, hP, Nat.reduceEqDiff, ↓reduceIte, reduceCtorEq, Nat.reduceAdd, Nat.reduceSub, Nat.reduceMul, Nat.reduceLT, Nat.reduceLeDiff, Int.reduceAdd, Int.reduceSub, Int.reduceMul, Int.reduceLT, Int.reduceLE, Int.reduceEq, Int.reduceNeg, Int.reduceNe, Int.reduceGE, Int.reduceGT, Nat.reduceBEq, Int.reduceToNat,  wq, hseq, ws, hs1]
              (try simp (disch := omega) only [wrap_id])
              repeat (refine And.intro (by first | omega | (simp; done) | (simp; omega) | (unfold appRoom; omega)) ?_)
              refine ⟨_, _, _, ?_, h3 hp hs⟩
              simp (config := { maxSteps := 2000000 }) only [go_sem, hG, hP, Nat.reduceEqDiff, ↓reduceIte, reduceCtorEq, Nat.reduceAdd, Nat.reduceSub, Nat.reduceMul, Nat.reduceLT, Nat.reduceLeDiff, Int.reduceAdd, Int.reduceSub, Int.reduceMul, Int.reduceLT, Int.reduceLE, Int.reduceEq, Int.reduceNeg, Int.reduceNe, Int.reduceGE, Int.reduceGT, Nat.reduceBEq, Int.reduceToNat]
  · exact h.elim
def unc : List C16 → Nat → Bool → List Int → List Int × Int
  | [], _, last, out => (out, if last = true then 0 else 4)
  | c :: r, i, last, out => if chkC c i last = 0 then unc r (i + 1) (decide (128 ≤ c.a0)) (out ++ ((lst c).drop 1).take (cnt c)) else (out, chkC c i last)
def uncP (l : List C16) : List Int × Int := if 60 < l.length then ([], 5) else unc l 0 false []
def hdB (l : List C16) : Prop := ∀ k, k < l.length → hd8 (l.getD k (⟨0, 0, 0, 0, 0, 0, 0, 0, 0, 0, 0, 0, 0, 0, 0, 0⟩ : C16))
theorem drop_cons {α : Type} (l : List α) (d : α) {k : Nat} (h : k < l.length) : l.drop k = l.getD k d :: l.drop (k + 1) := by
  rw [List.drop_eq_getElem_cons h]; simp [List.getD, h]
theorem part_len (c : C16) {n : Nat} (h : n ≤ 15) : (((lst c).drop 1).take n).length = n := by simp [lst]; omega
def spUnc : Spec := ⟨fun _ _ => [], fun args objs K => match args, objs with
  | [.rs .c16 l], [] => hdB l ∧ K (.tup [.sub 0 1 0 (uncP l).1.length, .v (.int .i64 (uncP l).2)]) [(0, .row .byte (uncP l).1)] 1
  | _, _ => False, false⟩
theorem spUnc_t {L : Hp} {a : List AVal} : Spec.take spUnc L a = [] := id rfl
theorem spUnc_k : Spec.keep spUnc = false := id rfl
theorem spUnc_f {l} {K : AVal → Hp → Nat → Prop} : Spec.f spUnc ([.rs .c16 l]) ([]) K = (hdB l ∧ K (.tup [.sub 0 1 0 (uncP l).1.length, .v (.int .i64 (uncP l).2)]) [(0, .row .byte (uncP l).1)] 1) := id rfl
theorem valid30 : Valid Try.prog 30 spUnc := by
  refine validI (Γ := lk [(39, spCell1)]) Try.func30 bod30 low30 res30 (good_of ⟨⟨cal39, valid39⟩, trivial⟩) ?_
  intro E args objs K h hE hG hP
  simp only [spUnc] at h
  split at h
  · refine ⟨by simp [Try.ntmps30], ?_⟩
    rename_i l
    obtain ⟨hB, h⟩ := h
    by_cases hz : 60 < l.length
    · have e0 : uncP l = ([], 5) := if_pos hz
      have hz2 : ((l.length : Int) > 60) = True := by apply eq_true; omega
      rw [e0] at h
      simp (config := { maxSteps := 2000000 }) only [go_sem, hG, hP, Nat.reduceEqDiff, ↓reduceIte, reduceCtorEq, Nat.reduceAdd, Nat.reduceSub, Nat.reduceMul, Nat.reduceLT, Nat.reduceLeDiff, Int.reduceAdd, Int.reduceSub, Int.reduceMul, Int.reduceLT, Int.reduceLE, Int.reduceEq, Int.reduceNeg, Int.reduceNe, Int.reduceGE, Int.reduceGT, Nat.reduceBEq, Int.reduceToNat,  hz2]
      refine ⟨_, _, _, ?_, h⟩
      simp (config := { maxSteps := 2000000 }) only [go_sem, hG, hP, Nat.reduceEqDiff, ↓reduceIte, reduceCtorEq, Nat.reduceAdd, Nat.reduceSub, Nat.reduceMul, Nat.reduceLT, Nat.reduceLeDiff, Int.reduceAdd, Int.reduceSub, Int.reduceMul, Int.reduceLT, Int.reduceLE, Int.reduceEq, Int.reduceNeg, Int.reduceNe, Int.reduceGE, Int.reduceGT, Nat.reduceBEq, Int.reduceToNat]
      repeat' (first | with_reducible rfl | (refine And.intro ?_ ?_) | (refine congrArg (Value.int _) ?_; omega) | omega)
    · have e0 : uncP l = unc l 0 false [] := if_neg hz
      have hz2 : ((l.length : Int) > 60) = False := by apply eq_false; omega
      simp (config := { maxSteps := 2000000 }) only [go_sem, hG, hP, Nat.reduceEqDiff, ↓reduceIte, reduceCtorEq, Nat.reduceAdd, Nat.reduceSub, Nat.reduceMul, Nat.reduceLT, Nat.reduceLeDiff, Int.reduceAdd, Int.reduceSub, Int.reduceMul, Int.reduceLT, Int.reduceLE, Int.reduceEq, Int.reduceNeg, Int.reduceNe, Int.reduceGE, Int.reduceGT, Nat.reduceBEq, Int.reduceToNat,  hz2]
      refine loopI hE (fun p : Nat × Bool × List Int => ⟨[(0, .rs .c16 l), (4, .sub 0 1 0 p.2.2.length), (5, .v (.bool p.2.1)), (6, .v (.int .i64 p.1))], [(0, .row .byte p.2.2)], 1, Try.f30.ntmps⟩) (fun p => p.1 ≤ l.length ∧ p.2.2.length ≤ 15 * p.1 ∧ uncP l = unc (l.drop p.1) p.1 p.2.1 p.2.2) (fun p => l.length - p.1) ⟨(0, false, []), ⟨by dsimp only; omega, by simp, e0⟩, SubS.weak ?_⟩ ?_
      · simp (config := { maxSteps := 2000000 }) only [go_sem, hG, hP, Nat.reduceEqDiff, ↓reduceIte, reduceCtorEq, Nat.reduceAdd, Nat.reduceSub, Nat.reduceMul, Nat.reduceLT, Nat.reduceLeDiff, Int.reduceAdd, Int.reduceSub, Int.reduceMul, Int.reduceLT, Int.reduceLE, Int.reduceEq, Int.reduceNeg, Int.reduceNe, Int.reduceGE, Int.reduceGT, Nat.reduceBEq, Int.reduceToNat]
        repeat' (first | with_reducible rfl | (refine And.intro ?_ ?_) | (refine congrArg (Value.int _) ?_; omega) | omega)
      · rintro ⟨k, last, out⟩ ⟨k1, k2, hI⟩
        dsimp only at k1 k2 hI ⊢
        by_cases k3 : k < l.length
        · have e1 : ((k : Int) < l.length) = True := by apply eq_true; omega
          have hb := hB k k3
          rw [drop_cons l (⟨0, 0, 0, 0, 0, 0, 0, 0, 0, 0, 0, 0, 0, 0, 0, 0⟩ : C16) k3] at hI
          generalize hcc : l.getD k (⟨0, 0, 0, 0, 0, 0, 0, 0, 0, 0, 0, 0, 0, 0, 0, 0⟩ : C16) = c at hb hI
          obtain ⟨hn, hn15⟩ := cnt_eq hb
          obtain ⟨a0, a1, a2, a3, a4, a5, a6, a7, a8, a9, a10, a11, a12, a13, a14, a15⟩ := c
          dsimp only at hn
          simp only [unc] at hI
          have hpl := part_len (⟨a0, a1, a2, a3, a4, a5, a6, a7, a8, a9, a10, a11, a12, a13, a14, a15⟩ : C16) hn15
          by_cases ch : chkC ⟨a0, a1, a2, a3, a4, a5, a6, a7, a8, a9, a10, a11, a12, a13, a14, a15⟩ k last = 0
          · rw [if_pos ch] at hI
            generalize hp : (lst ⟨a0, a1, a2, a3, a4, a5, a6, a7, a8, a9, a10, a11, a12, a13, a14, a15⟩).drop 1 = P at hpl hI
            generalize hnn : cnt ⟨a0, a1, a2, a3, a4, a5, a6, a7, a8, a9, a10, a11, a12, a13, a14, a15⟩ = n at hn hn15 hpl hI
            have wn : wr .i64 (n : Int) = (n : Int) := wrap_id (by omega) (by omega)
            simp (config := { maxSteps := 2000000 }) only [go_sem, hG, hP, Nat.reduceEqDiff, ↓reduceIte, reduceCtorEq, Nat.reduceAdd, Nat.reduceSub, Nat.reduceMul, Nat.reduceLT, Nat.reduceLeDiff, Int.reduceAdd, Int.reduceSub, Int.reduceMul, Int.reduceLT, Int.reduceLE, Int.reduceEq, Int.reduceNeg, Int.reduceNe, Int.reduceGE, Int.reduceGT, Nat.reduceBEq, Int.reduceToNat,  e1, spCell1_f, spCell1_t, spCell1_k, hcc, hb, ch]
            (try simp (disch := omega) only [wrap_id])
            repeat (refine And.intro (by first | omega | (simp; done) | (simp; omega) | (unfold appRoom; omega)) ?_)
            have hPt : P = [a1, a2, a3, a4, a5, a6, a7, a8, a9, a10, a11, a12, a13, a14, a15] := hp.symm
            have htl : ∀ q, q ≤ n → (P.take q).length = q := fun q hq => by rw [hPt]; simp; omega
            refine loopI hE (fun q : Nat => ⟨[(0, .rs .c16 l), (4, .sub 0 1 0 (out ++ P.take q).length), (6, .v (.int .i64 k)), (8, .v (.int .i64 ((q : Int) + 1)))], [(0, .row .byte (out ++ P.take q))], 1, Try.f30.ntmps⟩) (fun q => q ≤ n) (fun q => n - q) ⟨0, by omega, SubS.weak ?_⟩ ?_
            · simp (config := { maxSteps := 2000000 }) only [go_sem, hG, hP, Nat.reduceEqDiff, ↓reduceIte, reduceCtorEq, Nat.reduceAdd, Nat.reduceSub, Nat.reduceMul, Nat.reduceLT, Nat.reduceLeDiff, Int.reduceAdd, Int.reduceSub, Int.reduceMul, Int.reduceLT, Int.reduceLE, Int.reduceEq, Int.reduceNeg, Int.reduceNe, Int.reduceGE, Int.reduceGT, Nat.reduceBEq, Int.reduceToNat,  List.take_zero, List.append_nil]
              repeat' (first | with_reducible rfl | (refine And.intro ?_ ?_) | (refine congrArg (Value.int _) ?_; omega) | omega)
            · intro q hq
              dsimp only at hq ⊢
              by_cases hq2 : q < n
              · have hq3 : q = 0 ∨ q = 1 ∨ q = 2 ∨ q = 3 ∨ q = 4 ∨ q = 5 ∨ q = 6 ∨ q = 7 ∨ q = 8 ∨ q = 9 ∨ q = 10 ∨ q = 11 ∨ q = 12 ∨ q = 13 ∨ q = 14 := by omega
                have hlq : (out ++ P.take q).length = out.length + q := by rw [List.length_append, htl q hq]
                rcases hq3 with rfl | rfl | rfl | rfl | rfl | rfl | rfl | rfl | rfl | rfl | rfl | rfl | rfl | rfl | rfl
                · simp (config := { maxSteps := 2000000 }) only [go_sem, hG, hP, Nat.reduceEqDiff, ↓reduceIte, reduceCtorEq, Nat.reduceAdd, Nat.reduceSub, Nat.reduceMul, Nat.reduceLT, Nat.reduceLeDiff, Int.reduceAdd, Int.reduceSub, Int.reduceMul, Int.reduceLT, Int.reduceLE, Int.reduceEq, Int.reduceNeg, Int.reduceNe, Int.reduceGE, Int.reduceGT, Nat.reduceBEq, Int.reduceToNat,  e1, hcc, hn, wn]
                  (try simp (disch := omega) only [wrap_id])
                  repeat' (first | (refine And.intro ?_ ?_) | (with_reducible intro _))
                  all_goals first
                    | (exfalso; omega)
                    | omega
                    | (unfold appRoom; omega)
                    | (refine ⟨1, ⟨by omega, by omega⟩, SubS.weak ?_⟩
                       simp (config := { maxSteps := 2000000 }) only [go_sem, hG, hP, Nat.reduceEqDiff, ↓reduceIte, reduceCtorEq, Nat.reduceAdd, Nat.reduceSub, Nat.reduceMul, Nat.reduceLT, Nat.reduceLeDiff, Int.reduceAdd, Int.reduceSub, Int.reduceMul, Int.reduceLT, Int.reduceLE, Int.reduceEq, Int.reduceNeg, Int.reduceNe, Int.reduceGE, Int.reduceGT, Nat.reduceBEq, Int.reduceToNat]
                       all_goals simp [hPt]
                       done)
                    | (refine ⟨1, ⟨by omega, by omega⟩, SubS.weak ?_⟩
                       simp (config := { maxSteps := 2000000 }) only [go_sem, hG, hP, Nat.reduceEqDiff, ↓reduceIte, reduceCtorEq, Nat.reduceAdd, Nat.reduceSub, Nat.reduceMul, Nat.reduceLT, Nat.reduceLeDiff, Int.reduceAdd, Int.reduceSub, Int.reduceMul, Int.reduceLT, Int.reduceLE, Int.reduceEq, Int.reduceNeg, Int.reduceNe, Int.reduceGE, Int.reduceGT, Nat.reduceBEq, Int.reduceToNat]
                       all_goals trace_state
                       done)
                · simp (config := { maxSteps := 2000000 }) only [go_sem, hG, hP, Nat.reduceEqDiff, ↓reduceIte, reduceCtorEq, Nat.reduceAdd, Nat.reduceSub, Nat.reduceMul, Nat.reduceLT, Nat.reduceLeDiff, Int.reduceAdd, Int.reduceSub, Int.reduceMul, Int.reduceLT, Int.reduceLE, Int.reduceEq, Int.reduceNeg, Int.reduceNe, Int.reduceGE, Int.reduceGT, Nat.reduceBEq, Int.reduceToNat,  e1, hcc, hn, wn]
                  (try simp (disch := omega) only [wrap_id])
                  repeat' (first | (refine And.intro ?_ ?_) | (with_reducible intro _))
                  all_goals first
                    | (exfalso; omega)
                    | omega
                    | (unfold appRoom; omega)
                    | (refine ⟨2, ⟨by omega, by omega⟩, SubS.weak ?_⟩
                       simp (config := { maxSteps := 2000000 }) only [go_sem, hG, hP, Nat.reduceEqDiff, ↓reduceIte, reduceCtorEq, Nat.reduceAdd, Nat.reduceSub, Nat.reduceMul, Nat.reduceLT, Nat.reduceLeDiff, Int.reduceAdd, Int.reduceSub, Int.reduceMul, Int.reduceLT, Int.reduceLE, Int.reduceEq, Int.reduceNeg, Int.reduceNe, Int.reduceGE, Int.reduceGT, Nat.reduceBEq, Int.reduceToNat]
                       all_goals simp [hPt]
                       done)
                    | (refine ⟨2, ⟨by omega, by omega⟩, SubS.weak ?_⟩
                       simp (config := { maxSteps := 2000000 }) only [go_sem, hG, hP, Nat.reduceEqDiff, ↓reduceIte, reduceCtorEq, Nat.reduceAdd, Nat.reduceSub, Nat.reduceMul, Nat.reduceLT, Nat.reduceLeDiff, Int.reduceAdd, Int.reduceSub, Int.reduceMul, Int.reduceLT, Int.reduceLE, Int.reduceEq, Int.reduceNeg, Int.reduceNe, Int.reduceGE, Int.reduceGT, Nat.reduceBEq, Int.reduceToNat]
                       all_goals trace_state
                       done)
                · simp (config := { maxSteps := 2000000 }) only [go_sem, hG, hP, Nat.reduceEqDiff, ↓reduceIte, reduceCtorEq, Nat.reduceAdd, Nat.reduceSub, Nat.reduceMul, Nat.reduceLT, Nat.reduceLeDiff, Int.reduceAdd, Int.reduceSub, Int.reduceMul, Int.reduceLT, Int.reduceLE, Int.reduceEq, Int.reduceNeg, Int.reduceNe, Int.reduceGE, Int.reduceGT, Nat.reduceBEq, Int.reduceToNat,  e1, hcc, hn, wn]
                  (try simp (disch := omega) only [wrap_id])
                  repeat' (first | (refine And.intro ?_ ?_) | (with_reducible intro _))
                  all_goals first
                    | (exfalso; omega)
                    | omega
                    | (unfold appRoom; omega)
                    | (refine ⟨3, ⟨by omega, by omega⟩, SubS.weak ?_⟩
                       simp (config := { maxSteps := 2000000 }) only [go_sem, hG, hP, Nat.reduceEqDiff, ↓reduceIte, reduceCtorEq, Nat.reduceAdd, Nat.reduceSub, Nat.reduceMul, Nat.reduceLT, Nat.reduceLeDiff, Int.reduceAdd, Int.reduceSub, Int.reduceMul, Int.reduceLT, Int.reduceLE, Int.reduceEq, Int.reduceNeg, Int.reduceNe, Int.reduceGE, Int.reduceGT, Nat.reduceBEq, Int.reduceToNat]
                       all_goals simp [hPt]
                       done)
                    | (refine ⟨3, ⟨by omega, by omega⟩, SubS.weak ?_⟩
                       simp (config := { maxSteps := 2000000 }) only [go_sem, hG, hP, Nat.reduceEqDiff, ↓reduceIte, reduceCtorEq, Nat.reduceAdd, Nat.reduceSub, Nat.reduceMul, Nat.reduceLT, Nat.reduceLeDiff, Int.reduceAdd, Int.reduceSub, Int.reduceMul, Int.reduceLT, Int.reduceLE, Int.reduceEq, Int.reduceNeg, Int.reduceNe, Int.reduceGE, Int.reduceGT, Nat.reduceBEq, Int.reduceToNat]
                       all_goals trace_state
                       done)
                · simp (config := { maxSteps := 2000000 }) only [go_sem, hG, hP, Nat.reduceEqDiff, ↓reduceIte, reduceCtorEq, Nat.reduceAdd, Nat.reduceSub, Nat.reduceMul, Nat.reduceLT, Nat.reduceLeDiff, Int.reduceAdd, Int.reduceSub, Int.reduceMul, Int.reduceLT, Int.reduceLE, Int.reduceEq, Int.reduceNeg, Int.reduceNe, Int.reduceGE, Int.reduceGT, Nat.reduceBEq, Int.reduceToNat,  e1, hcc, hn, wn]
                  (try simp (disch := omega) only [wrap_id])
                  repeat' (first | (refine And.intro ?_ ?_) | (with_reducible intro _))
                  all_goals first
                    | (exfalso; omega)
                    | omega
                    | (unfold appRoom; omega)
                    | (refine ⟨4, ⟨by omega, by omega⟩, SubS.weak ?_⟩
                       simp (config := { maxSteps := 2000000 }) only [go_sem, hG, hP, Nat.reduceEqDiff, ↓reduceIte, reduceCtorEq, Nat.reduceAdd, Nat.reduceSub, Nat.reduceMul, Nat.reduceLT, Nat.reduceLeDiff, Int.reduceAdd, Int.reduceSub, Int.reduceMul, Int.reduceLT, Int.reduceLE, Int.reduceEq, Int.reduceNeg, Int.reduceNe, Int.reduceGE, Int.reduceGT, Nat.reduceBEq, Int.reduceToNat]
                       all_goals simp [hPt]
                       done)
                    | (refine ⟨4, ⟨by omega, by omega⟩, SubS.weak ?_⟩
                       simp (config := { maxSteps := 2000000 }) only [go_sem, hG, hP, Nat.reduceEqDiff, ↓reduceIte, reduceCtorEq, Nat.reduceAdd, Nat.reduceSub, Nat.reduceMul, Nat.reduceLT, Nat.reduceLeDiff, Int.reduceAdd, Int.reduceSub, Int.reduceMul, Int.reduceLT, Int.reduceLE, Int.reduceEq, Int.reduceNeg, Int.reduceNe, Int.reduceGE, Int.reduceGT, Nat.reduceBEq, Int.reduceToNat]
                       all_goals trace_state
                       done)
                · simp (config := { maxSteps := 2000000 }) only [go_sem, hG, hP, Nat.reduceEqDiff, ↓reduceIte, reduceCtorEq, Nat.reduceAdd, Nat.reduceSub, Nat.reduceMul, Nat.reduceLT, Nat.reduceLeDiff, Int.reduceAdd, Int.reduceSub, Int.reduceMul, Int.reduceLT, Int.reduceLE, Int.reduceEq, Int.reduceNeg, Int.reduceNe, Int.reduceGE, Int.reduceGT, Nat.reduceBEq, Int.reduceToNat,  e1, hcc, hn, wn]
                  (try simp (disch := omega) only [wrap_id])
                  repeat' (first | (refine And.intro ?_ ?_) | (with_reducible intro _))
                  all_goals first
                    | (exfalso; omega)
                    | omega
                    | (unfold appRoom; omega)
                    | (refine ⟨5, ⟨by omega, by omega⟩, SubS.weak ?_⟩
                       simp (config := { maxSteps := 2000000 }) only [go_sem, hG, hP, Nat.reduceEqDiff, ↓reduceIte, reduceCtorEq, Nat.reduceAdd, Nat.reduceSub, Nat.reduceMul, Nat.reduceLT, Nat.reduceLeDiff, Int.reduceAdd, Int.reduceSub, Int.reduceMul, Int.reduceLT, Int.reduceLE, Int.reduceEq, Int.reduceNeg, Int.reduceNe, Int.reduceGE, Int.reduceGT, Nat.reduceBEq, Int.reduceToNat]
                       all_goals simp [hPt]
                       done)
                    | (refine ⟨5, ⟨by omega, by omega⟩, SubS.weak ?_⟩
                       simp (config := { maxSteps := 2000000 }) only [go_sem, hG, hP, Nat.reduceEqDiff, ↓reduceIte, reduceCtorEq, Nat.reduceAdd, Nat.reduceSub, Nat.reduceMul, Nat.reduceLT, Nat.reduceLeDiff, Int.reduceAdd, Int.reduceSub, Int.reduceMul, Int.reduceLT, Int.reduceLE, Int.reduceEq, Int.reduceNeg, Int.reduceNe, Int.reduceGE, Int.reduceGT, Nat.reduceBEq, Int.reduceToNat]
                       all_goals trace_state
                       done)
                · simp (config := { maxSteps := 2000000 }) only [go_sem, hG, hP, Nat.reduceEqDiff, ↓reduceIte, reduceCtorEq, Nat.reduceAdd, Nat.reduceSub, Nat.reduceMul, Nat.reduceLT, Nat.reduceLeDiff, Int.reduceAdd, Int.reduceSub, Int.reduceMul, Int.reduceLT, Int.reduceLE, Int.reduceEq, Int.reduceNeg, Int.reduceNe, Int.reduceGE, Int.reduceGT, Nat.reduceBEq, Int.reduceToNat,  e1, hcc, hn, wn]
                  (try simp (disch := omega) only [wrap_id])
                  repeat' (first | (refine And.intro ?_ ?_) | (with_reducible intro _))
                  all_goals first
                    | (exfalso; omega)
                    | omega
                    | (unfold appRoom; omega)
                    | (refine ⟨6, ⟨by omega, by omega⟩, SubS.weak ?_⟩
                       simp (config := { maxSteps := 2000000 }) only [go_sem, hG, hP, Nat.reduceEqDiff, ↓reduceIte, reduceCtorEq, Nat.reduceAdd, Nat.reduceSub, Nat.reduceMul, Nat.reduceLT, Nat.reduceLeDiff, Int.reduceAdd, Int.reduceSub, Int.reduceMul, Int.reduceLT, Int.reduceLE, Int.reduceEq, Int.reduceNeg, Int.reduceNe, Int.reduceGE, Int.reduceGT, Nat.reduceBEq, Int.reduceToNat]
                       all_goals simp [hPt]
                       done)
                    | (refine ⟨6, ⟨by omega, by omega⟩, SubS.weak ?_⟩
                       simp (config := { maxSteps := 2000000 }) only [go_sem, hG, hP, Nat.reduceEqDiff, ↓reduceIte, reduceCtorEq, Nat.reduceAdd, Nat.reduceSub, Nat.reduceMul, Nat.reduceLT, Nat.reduceLeDiff, Int.reduceAdd, Int.reduceSub, Int.reduceMul, Int.reduceLT, Int.reduceLE, Int.reduceEq, Int.reduceNeg, Int.reduceNe, Int.reduceGE, Int.reduceGT, Nat.reduceBEq, Int.reduceToNat]
                       all_goals trace_state
                       done)
                · simp (config := { maxSteps := 2000000 }) only [go_sem, hG, hP, Nat.reduceEqDiff, ↓reduceIte, reduceCtorEq, Nat.reduceAdd, Nat.reduceSub, Nat.reduceMul, Nat.reduceLT, Nat.reduceLeDiff, Int.reduceAdd, Int.reduceSub, Int.reduceMul, Int.reduceLT, Int.reduceLE, Int.reduceEq, Int.reduceNeg, Int.reduceNe, Int.reduceGE, Int.reduceGT, Nat.reduceBEq, Int.reduceToNat,  e1, hcc, hn, wn]
                  (try simp (disch := omega) only [wrap_id])
                  repeat' (first | (refine And.intro ?_ ?_) | (with_reducible intro _))
                  all_goals first
                    | (exfalso; omega)
                    | omega
                    | (unfold appRoom; omega)
                    | (refine ⟨7, ⟨by omega, by omega⟩, SubS.weak ?_⟩
                       simp (config := { maxSteps := 2000000 }) only [go_sem, hG, hP, Nat.reduceEqDiff, ↓reduceIte, reduceCtorEq, Nat.reduceAdd, Nat.reduceSub, Nat.reduceMul, Nat.reduceLT, Nat.reduceLeDiff, Int.reduceAdd, Int.reduceSub, Int.reduceMul, Int.reduceLT, Int.reduceLE, Int.reduceEq, Int.reduceNeg, Int.reduceNe, Int.reduceGE, Int.reduceGT, Nat.reduceBEq, Int.reduceToNat]
                       all_goals simp [hPt]
                       done)
                    | (refine ⟨7, ⟨by omega, by omega⟩, SubS.weak ?_⟩
                       simp (config := { maxSteps := 2000000 }) only [go_sem, hG, hP, Nat.reduceEqDiff, ↓reduceIte, reduceCtorEq, Nat.reduceAdd, Nat.reduceSub, Nat.reduceMul, Nat.reduceLT, Nat.reduceLeDiff, Int.reduceAdd, Int.reduceSub, Int.reduceMul, Int.reduceLT, Int.reduceLE, Int.reduceEq, Int.reduceNeg, Int.reduceNe, Int.reduceGE, Int.reduceGT, Nat.reduceBEq, Int.reduceToNat]
                       all_goals trace_state
                       done)
                · simp (config := { maxSteps := 2000000 }) only [go_sem, hG, hP, Nat.reduceEqDiff, ↓reduceIte, reduceCtorEq, Nat.reduceAdd, Nat.reduceSub, Nat.reduceMul, Nat.reduceLT, Nat.reduceLeDiff, Int.reduceAdd, Int.reduceSub, Int.reduceMul, Int.reduceLT, Int.reduceLE, Int.reduceEq, Int.reduceNeg, Int.reduceNe, Int.reduceGE, Int.reduceGT, Nat.reduceBEq, Int.reduceToNat,  e1, hcc, hn, wn]
                  (try simp (disch := omega) only [wrap_id])
                  repeat' (first | (refine And.intro ?_ ?_) | (with_reducible intro _))
                  all_goals first
                    | (exfalso; omega)
                    | omega
                    | (unfold appRoom; omega)
                    | (refine ⟨8, ⟨by omega, by omega⟩, SubS.weak ?_⟩
                       simp (config := { maxSteps := 2000000 }) only [go_sem, hG, hP, Nat.reduceEqDiff, ↓reduceIte, reduceCtorEq, Nat.reduceAdd, Nat.reduceSub, Nat.reduceMul, Nat.reduceLT, Nat.reduceLeDiff, Int.reduceAdd, Int.reduceSub, Int.reduceMul, Int.reduceLT, Int.reduceLE, Int.reduceEq, Int.reduceNeg, Int.reduceNe, Int.reduceGE, Int.reduceGT, Nat.reduceBEq, Int.reduceToNat]
                       all_goals simp [hPt]
                       done)
                    | (refine ⟨8, ⟨by omega, by omega⟩, SubS.weak ?_⟩
                       simp (config := { maxSteps := 2000000 }) only [go_sem, hG, hP, Nat.reduceEqDiff, ↓reduceIte, reduceCtorEq, Nat.reduceAdd, Nat.reduceSub, Nat.reduceMul, Nat.reduceLT, Nat.reduceLeDiff, Int.reduceAdd, Int.reduceSub, Int.reduceMul, Int.reduceLT, Int.reduceLE, Int.reduceEq, Int.reduceNeg, Int.reduceNe, Int.reduceGE, Int.reduceGT, Nat.reduceBEq, Int.reduceToNat]
                       all_goals trace_state
                       done)
                · simp (config := { maxSteps := 2000000 }) only [go_sem, hG, hP, Nat.reduceEqDiff, ↓reduceIte, reduceCtorEq, Nat.reduceAdd, Nat.reduceSub, Nat.reduceMul, Nat.reduceLT, Nat.reduceLeDiff, Int.reduceAdd, Int.reduceSub, Int.reduceMul, Int.reduceLT, Int.reduceLE, Int.reduceEq, Int.reduceNeg, Int.reduceNe, Int.reduceGE, Int.reduceGT, Nat.reduceBEq, Int.reduceToNat,  e1, hcc, hn, wn]
                  (try simp (disch := omega) only [wrap_id])
                  repeat' (first | (refine And.intro ?_ ?_) | (with_reducible intro _))
                  all_goals first
                    | (exfalso; omega)
                    | omega
                    | (unfold appRoom; omega)
                    | (refine ⟨9, ⟨by omega, by omega⟩, SubS.weak ?_⟩
                       simp (config := { maxSteps := 2000000 }) only [go_sem, hG, hP, Nat.reduceEqDiff, ↓reduceIte, reduceCtorEq, Nat.reduceAdd, Nat.reduceSub, Nat.reduceMul, Nat.reduceLT, Nat.reduceLeDiff, Int.reduceAdd, Int.reduceSub, Int.reduceMul, Int.reduceLT, Int.reduceLE, Int.reduceEq, Int.reduceNeg, Int.reduceNe, Int.reduceGE, Int.reduceGT, Nat.reduceBEq, Int.reduceToNat]
                       all_goals simp [hPt]
                       done)
                    | (refine ⟨9, ⟨by omega, by omega⟩, SubS.weak ?_⟩
                       simp (config := { maxSteps := 2000000 }) only [go_sem, hG, hP, Nat.reduceEqDiff, ↓reduceIte, reduceCtorEq, Nat.reduceAdd, Nat.reduceSub, Nat.reduceMul, Nat.reduceLT, Nat.reduceLeDiff, Int.reduceAdd, Int.reduceSub, Int.reduceMul, Int.reduceLT, Int.reduceLE, Int.reduceEq, Int.reduceNeg, Int.reduceNe, Int.reduceGE, Int.reduceGT, Nat.reduceBEq, Int.reduceToNat]
                       all_goals trace_state
                       done)
                · simp (config := { maxSteps := 2000000 }) only [go_sem, hG, hP, Nat.reduceEqDiff, ↓reduceIte, reduceCtorEq, Nat.reduceAdd, Nat.reduceSub, Nat.reduceMul, Nat.reduceLT, Nat.reduceLeDiff, Int.reduceAdd, Int.reduceSub, Int.reduceMul, Int.reduceLT, Int.reduceLE, Int.reduceEq, Int.reduceNeg, Int.reduceNe, Int.reduceGE, Int.reduceGT, Nat.reduceBEq, Int.reduceToNat,  e1, hcc, hn, wn]
                  (try simp (disch := omega) only [wrap_id])
                  repeat' (first | (refine And.intro ?_ ?_) | (with_reducible intro _))
                  all_goals first
                    | (exfalso; omega)
                    | omega
                    | (unfold appRoom; omega)
                    | (refine ⟨10, ⟨by omega, by omega⟩, SubS.weak ?_⟩
                       simp (config := { maxSteps := 2000000 }) only [go_sem, hG, hP, Nat.reduceEqDiff, ↓reduceIte, reduceCtorEq, Nat.reduceAdd, Nat.reduceSub, Nat.reduceMul, Nat.reduceLT, Nat.reduceLeDiff, Int.reduceAdd, Int.reduceSub, Int.reduceMul, Int.reduceLT, Int.reduceLE, Int.reduceEq, Int.reduceNeg, Int.reduceNe, Int.reduceGE, Int.reduceGT, Nat.reduceBEq, Int.reduceToNat]
                       all_goals simp [hPt]
                       done)
                    | (refine ⟨10, ⟨by omega, by omega⟩, SubS.weak ?_⟩
                       simp (config := { maxSteps := 2000000 }) only [go_sem, hG, hP, Nat.reduceEqDiff, ↓reduceIte, reduceCtorEq, Nat.reduceAdd, Nat.reduceSub, Nat.reduceMul, Nat.reduceLT, Nat.reduceLeDiff, Int.reduceAdd, Int.reduceSub, Int.reduceMul, Int.reduceLT, Int.reduceLE, Int.reduceEq, Int.reduceNeg, Int.reduceNe, Int.reduceGE, Int.reduceGT, Nat.reduceBEq, Int.reduceToNat]
                       all_goals trace_state
                       done)
                · simp (config := { maxSteps := 2000000 }) only [go_sem, hG, hP, Nat.reduceEqDiff, ↓reduceIte, reduceCtorEq, Nat.reduceAdd, Nat.reduceSub, Nat.reduceMul, Nat.reduceLT, Nat.reduceLeDiff, Int.reduceAdd, Int.reduceSub, Int.reduceMul, Int.reduceLT, Int.reduceLE, Int.reduceEq, Int.reduceNeg, Int.reduceNe, Int.reduceGE, Int.reduceGT, Nat.reduceBEq, Int.reduceToNat,  e1, hcc, hn, wn]
                  (try simp (disch := omega) only [wrap_id])
                  repeat' (first | (refine And.intro ?_ ?_) | (with_reducible intro _))
                  all_goals first
                    | (exfalso; omega)
                    | omega
                    | (unfold appRoom; omega)
                    | (refine ⟨11, ⟨by omega, by omega⟩, SubS.weak ?_⟩
                       simp (config := { maxSteps := 2000000 }) only [go_sem, hG, hP, Nat.reduceEqDiff, ↓reduceIte, reduceCtorEq, Nat.reduceAdd, Nat.reduceSub, Nat.reduceMul, Nat.reduceLT, Nat.reduceLeDiff, Int.reduceAdd, Int.reduceSub, Int.reduceMul, Int.reduceLT, Int.reduceLE, Int.reduceEq, Int.reduceNeg, Int.reduceNe, Int.reduceGE, Int.reduceGT, Nat.reduceBEq, Int.reduceToNat]
                       all_goals simp [hPt]
                       done)
                    | (refine ⟨11, ⟨by omega, by omega⟩, SubS.weak ?_⟩
                       simp (config := { maxSteps := 2000000 }) only [go_sem, hG, hP, Nat.reduceEqDiff, ↓reduceIte, reduceCtorEq, Nat.reduceAdd, Nat.reduceSub, Nat.reduceMul, Nat.reduceLT, Nat.reduceLeDiff, Int.reduceAdd, Int.reduceSub, Int.reduceMul, Int.reduceLT, Int.reduceLE, Int.reduceEq, Int.reduceNeg, Int.reduceNe, Int.reduceGE, Int.reduceGT, Nat.reduceBEq, Int.reduceToNat]
                       all_goals trace_state
                       done)
                · simp (config := { maxSteps := 2000000 }) only [go_sem, hG, hP, Nat.reduceEqDiff, ↓reduceIte, reduceCtorEq, Nat.reduceAdd, Nat.reduceSub, Nat.reduceMul, Nat.reduceLT, Nat.reduceLeDiff, Int.reduceAdd, Int.reduceSub, Int.reduceMul, Int.reduceLT, Int.reduceLE, Int.reduceEq, Int.reduceNeg, Int.reduceNe, Int.reduceGE, Int.reduceGT, Nat.reduceBEq, Int.reduceToNat,  e1, hcc, hn, wn]
                  (try simp (disch := omega) only [wrap_id])
                  repeat' (first | (refine And.intro ?_ ?_) | (with_reducible intro _))
                  all_goals first
                    | (exfalso; omega)
                    | omega
                    | (unfold appRoom; omega)
                    | (refine ⟨12, ⟨by omega, by omega⟩, SubS.weak ?_⟩
                       simp (config := { maxSteps := 2000000 }) only [go_sem, hG, hP, Nat.reduceEqDiff, ↓reduceIte, reduceCtorEq, Nat.reduceAdd, Nat.reduceSub, Nat.reduceMul, Nat.reduceLT, Nat.reduceLeDiff, Int.reduceAdd, Int.reduceSub, Int.reduceMul, Int.reduceLT, Int.reduceLE, Int.reduceEq, Int.reduceNeg, Int.reduceNe, Int.reduceGE, Int.reduceGT, Nat.reduceBEq, Int.reduceToNat]
                       all_goals simp [hPt]
                       done)
                    | (refine ⟨12, ⟨by omega, by omega⟩, SubS.weak ?_⟩
                       simp (config := { maxSteps := 2000000 }) only [go_sem, hG, hP, Nat.reduceEqDiff, ↓reduceIte, reduceCtorEq, Nat.reduceAdd, Nat.reduceSub, Nat.reduceMul, Nat.reduceLT, Nat.reduceLeDiff, Int.reduceAdd, Int.reduceSub, Int.reduceMul, Int.reduceLT, Int.reduceLE, Int.reduceEq, Int.reduceNeg, Int.reduceNe, Int.reduceGE, Int.reduceGT, Nat.reduceBEq, Int.reduceToNat]
                       all_goals trace_state
                       done)
                · simp (config := { maxSteps := 2000000 }) only [go_sem, hG, hP, Nat.reduceEqDiff, ↓reduceIte, reduceCtorEq, Nat.reduceAdd, Nat.reduceSub, Nat.reduceMul, Nat.reduceLT, Nat.reduceLeDiff, Int.reduceAdd, Int.reduceSub, Int.reduceMul, Int.reduceLT, Int.reduceLE, Int.reduceEq, Int.reduceNeg, Int.reduceNe, Int.reduceGE, Int.reduceGT, Nat.reduceBEq, Int.reduceToNat,  e1, hcc, hn, wn]
                  (try simp (disch := omega) only [wrap_id])
                  repeat' (first | (refine And.intro ?_ ?_) | (with_reducible intro _))
                  all_goals first
                    | (exfalso; omega)
                    | omega
                    | (unfold appRoom; omega)
                    | (refine ⟨13, ⟨by omega, by omega⟩, SubS.weak ?_⟩
                       simp (config := { maxSteps := 2000000 }) only [go_sem, hG, hP, Nat.reduceEqDiff, ↓reduceIte, reduceCtorEq, Nat.reduceAdd, Nat.reduceSub, Nat.reduceMul, Nat.reduceLT, Nat.reduceLeDiff, Int.reduceAdd, Int.reduceSub, Int.reduceMul, Int.reduceLT, Int.reduceLE, Int.reduceEq, Int.reduceNeg, Int.reduceNe, Int.reduceGE, Int.reduceGT, Nat.reduceBEq, Int.reduceToNat]
                       all_goals simp [hPt]
                       done)
                    | (refine ⟨13, ⟨by omega, by omega⟩, SubS.weak ?_⟩
                       simp (config := { maxSteps := 2000000 }) only [go_sem, hG, hP, Nat.reduceEqDiff, ↓reduceIte, reduceCtorEq, Nat.reduceAdd, Nat.reduceSub, Nat.reduceMul, Nat.reduceLT, Nat.reduceLeDiff, Int.reduceAdd, Int.reduceSub, Int.reduceMul, Int.reduceLT, Int.reduceLE, Int.reduceEq, Int.reduceNeg, Int.reduceNe, Int.reduceGE, Int.reduceGT, Nat.reduceBEq, Int.reduceToNat]
                       all_goals trace_state
                       done)
                · simp (config := { maxSteps := 2000000 }) only [go_sem, hG, hP, Nat.reduceEqDiff, ↓reduceIte, reduceCtorEq, Nat.reduceAdd, Nat.reduceSub, Nat.reduceMul, Nat.reduceLT, Nat.reduceLeDiff, Int.reduceAdd, Int.reduceSub, Int.reduceMul, Int.reduceLT, Int.reduceLE, Int.reduceEq, Int.reduceNeg, Int.reduceNe, Int.reduceGE, Int.reduceGT, Nat.reduceBEq, Int.reduceToNat,  e1, hcc, hn, wn]
                  (try simp (disch := omega) only [wrap_id])
                  repeat' (first | (refine And.intro ?_ ?_) | (with_reducible intro _))
                  all_goals first
                    | (exfalso; omega)
                    | omega
                    | (unfold appRoom; omega)
                    | (refine ⟨14, ⟨by omega, by omega⟩, SubS.weak ?_⟩
                       simp (config := { maxSteps := 2000000 }) only [go_sem, hG, hP, Nat.reduceEqDiff, ↓reduceIte, reduceCtorEq, Nat.reduceAdd, Nat.reduceSub, Nat.reduceMul, Nat.reduceLT, Nat.reduceLeDiff, Int.reduceAdd, Int.reduceSub, Int.reduceMul, Int.reduceLT, Int.reduceLE, Int.reduceEq, Int.reduceNeg, Int.reduceNe, Int.reduceGE, Int.reduceGT, Nat.reduceBEq, Int.reduceToNat]
                       all_goals simp [hPt]
                       done)
                    | (refine ⟨14, ⟨by omega, by omega⟩, SubS.weak ?_⟩
                       simp (config := { maxSteps := 2000000 }) only [go_sem, hG, hP, Nat.reduceEqDiff, ↓reduceIte, reduceCtorEq, Nat.reduceAdd, Nat.reduceSub, Nat.reduceMul, Nat.reduceLT, Nat.reduceLeDiff, Int.reduceAdd, Int.reduceSub, Int.reduceMul, Int.reduceLT, Int.reduceLE, Int.reduceEq, Int.reduceNeg, Int.reduceNe, Int.reduceGE, Int.reduceGT, Nat.reduceBEq, Int.reduceToNat]
                       all_goals trace_state
                       done)
                · simp (config := { maxSteps := 2000000 }) only [go_sem, hG, hP, Nat.reduceEqDiff, ↓reduceIte, reduceCtorEq, Nat.reduceAdd, Nat.reduceSub, Nat.reduceMul, Nat.reduceLT, Nat.reduceLeDiff, Int.reduceAdd, Int.reduceSub, Int.reduceMul, Int.reduceLT, Int.reduceLE, Int.reduceEq, Int.reduceNeg, Int.reduceNe, Int.reduceGE, Int.reduceGT, Nat.reduceBEq, Int.reduceToNat,  e1, hcc, hn, wn]
                  (try simp (disch := omega) only [wrap_id])
                  repeat' (first | (refine And.intro ?_ ?_) | (with_reducible intro _))
                  all_goals first
                    | (exfalso; omega)
                    | omega
                    | (unfold appRoom; omega)
                    | (refine ⟨15, ⟨by omega, by omega⟩, SubS.weak ?_⟩
                       simp (config := { maxSteps := 2000000 }) only [go_sem, hG, hP, Nat.reduceEqDiff, ↓reduceIte, reduceCtorEq, Nat.reduceAdd, Nat.reduceSub, Nat.reduceMul, Nat.reduceLT, Nat.reduceLeDiff, Int.reduceAdd, Int.reduceSub, Int.reduceMul, Int.reduceLT, Int.reduceLE, Int.reduceEq, Int.reduceNeg, Int.reduceNe, Int.reduceGE, Int.reduceGT, Nat.reduceBEq, Int.reduceToNat]
                       all_goals simp [hPt]
                       done)
                    | (refine ⟨15, ⟨by omega, by omega⟩, SubS.weak ?_⟩
                       simp (config := { maxSteps := 2000000 }) only [go_sem, hG, hP, Nat.reduceEqDiff, ↓reduceIte, reduceCtorEq, Nat.reduceAdd, Nat.reduceSub, Nat.reduceMul, Nat.reduceLT, Nat.reduceLeDiff, Int.reduceAdd, Int.reduceSub, Int.reduceMul, Int.reduceLT, Int.reduceLE, Int.reduceEq, Int.reduceNeg, Int.reduceNe, Int.reduceGE, Int.reduceGT, Nat.reduceBEq, Int.reduceToNat]
                       all_goals trace_state
                       done)
              · have eq1 : q = n := by omega
                subst eq1
                have x1 : ((q : Int) + 1 ≤ q) = False := by apply eq_false; omega
                simp (config := { maxSteps := 2000000 }) only [go_sem, hG, hP, Nat.reduceEqDiff, ↓reduceIte, reduceCtorEq, Nat.reduceAdd, Nat.reduceSub, Nat.reduceMul, Nat.reduceLT, Nat.reduceLeDiff, Int.reduceAdd, Int.reduceSub, Int.reduceMul, Int.reduceLT, Int.reduceLE, Int.reduceEq, Int.reduceNeg, Int.reduceNe, Int.reduceGE, Int.reduceGT, Nat.reduceBEq, Int.reduceToNat,  e1, hcc, hn, wn, x1]
                (try simp (disch := omega) only [wrap_id])
                repeat (refine And.intro (by first | omega | (simp; done) | (simp; omega) | (unfold appRoom; omega)) ?_)
                refine ⟨(k + 1, decide (128 ≤ a0), out ++ P.take q), ⟨⟨by dsimp only; omega, by dsimp only; rw [List.length_append, hpl]; omega, hI⟩, by dsimp only; omega⟩, SubS.weak ?_⟩
                simp (config := { maxSteps := 2000000 }) only [go_sem, hG, hP, Nat.reduceEqDiff, ↓reduceIte, reduceCtorEq, Nat.reduceAdd, Nat.reduceSub, Nat.reduceMul, Nat.reduceLT, Nat.reduceLeDiff, Int.reduceAdd, Int.reduceSub, Int.reduceMul, Int.reduceLT, Int.reduceLE, Int.reduceEq, Int.reduceNeg, Int.reduceNe, Int.reduceGE, Int.reduceGT, Nat.reduceBEq, Int.reduceToNat]
                repeat' (first | with_reducible rfl | (refine And.intro ?_ ?_) | (refine congrArg (Value.int _) ?_; omega) | omega)
          · have ch2 := eq_false ch
            rw [if_neg ch] at hI
            simp (config := { maxSteps := 2000000 }) only [go_sem, hG, hP, Nat.reduceEqDiff, ↓reduceIte, reduceCtorEq, Nat.reduceAdd, Nat.reduceSub, Nat.reduceMul, Nat.reduceLT, Nat.reduceLeDiff, Int.reduceAdd, Int.reduceSub, Int.reduceMul, Int.reduceLT, Int.reduceLE, Int.reduceEq, Int.reduceNeg, Int.reduceNe, Int.reduceGE, Int.reduceGT, Nat.reduceBEq, Int.reduceToNat,  e1, spCell1_f, spCell1_t, spCell1_k, hcc, hb, ch2]
            (try simp (disch := omega) only [wrap_id])
            repeat (refine And.intro (by first | omega | (simp; done) | (simp; omega) | (unfold appRoom; omega)) ?_)
            rw [hI] at h
            refine ⟨_, _, _, ?_, h⟩
            simp (config := { maxSteps := 2000000 }) only [go_sem, hG, hP, Nat.reduceEqDiff, ↓reduceIte, reduceCtorEq, Nat.reduceAdd, Nat.reduceSub, Nat.reduceMul, Nat.reduceLT, Nat.reduceLeDiff, Int.reduceAdd, Int.reduceSub, Int.reduceMul, Int.reduceLT, Int.reduceLE, Int.reduceEq, Int.reduceNeg, Int.reduceNe, Int.reduceGE, Int.reduceGT, Nat.reduceBEq, Int.reduceToNat]
            repeat' (first | with_reducible rfl | (refine And.intro ?_ ?_) | (refine congrArg (Value.int _) ?_; omega) | omega)
        · have e1 : ((k : Int) < l.length) = False := by apply eq_false; omega
          have ek : k = l.length := by omega
          subst ek
          rw [List.drop_length] at hI
          simp only [unc] at hI
          rw [hI] at h
          simp (config := { maxSteps := 2000000 }) only [go_sem, hG, hP, Nat.reduceEqDiff, ↓reduceIte, reduceCtorEq, Nat.reduceAdd, Nat.reduceSub, Nat.reduceMul, Nat.reduceLT, Nat.reduceLeDiff, Int.reduceAdd, Int.reduceSub, Int.reduceMul, Int.reduceLT, Int.reduceLE, Int.reduceEq, Int.reduceNeg, Int.reduceNe, Int.reduceGE, Int.reduceGT, Nat.reduceBEq, Int.reduceToNat,  e1]
          cases last
          · simp only [Bool.false_eq_true, if_false] at h
            repeat' (first | (refine And.intro ?_ ?_) | (with_reducible intro _))
            all_goals first
              | (exfalso; simp_all; done)
              | (refine ⟨_, _, _, ?_, h⟩; simp (config := { maxSteps := 2000000 }) only [go_sem, hG, hP, Nat.reduceEqDiff, ↓reduceIte, reduceCtorEq, Nat.reduceAdd, Nat.reduceSub, Nat.reduceMul, Nat.reduceLT, Nat.reduceLeDiff, Int.reduceAdd, Int.reduceSub, Int.reduceMul, Int.reduceLT, Int.reduceLE, Int.reduceEq, Int.reduceNeg, Int.reduceNe, Int.reduceGE, Int.reduceGT, Nat.reduceBEq, Int.reduceToNat]; repeat' (first | with_reducible rfl | (refine And.intro ?_ ?_) | (refine congrArg (Value.int _) ?_; omega) | omega); done)
          · simp only [if_true] at h
            repeat' (first | (refine And.intro ?_ ?_) | (with_reducible intro _))
            all_goals first
              | (exfalso; simp_all; done)
              | (refine ⟨_, _, _, ?_, h⟩; simp (config := { maxSteps := 2000000 }) only [go_sem, hG, hP, Nat.reduceEqDiff, ↓reduceIte, reduceCtorEq, Nat.reduceAdd, Nat.reduceSub, Nat.reduceMul, Nat.reduceLT, Nat.reduceLeDiff, Int.reduceAdd, Int.reduceSub, Int.reduceMul, Int.reduceLT, Int.reduceLE, Int.reduceEq, Int.reduceNeg, Int.reduceNe, Int.reduceGE, Int.reduceGT, Nat.reduceBEq, Int.reduceToNat]; repeat' (first | with_reducible rfl | (refine And.intro ?_ ?_) | (refine congrArg (Value.int _) ?_; omega) | omega); done)
  · exact h.elim
end Go.Proofs.YtfjfaajdbomhbaaE

/-! The code of a function, in the engine's words. -/
namespace Go.Proofs.YtfjfaajdbomhbaaE
open Go Go.RowKit
@[reducible] def ic28 : IC := (.seq (.ops [⟨some 2, .mov (.const (.slice none 0 0)), none⟩, ⟨some 3, .mov (.const (.int .i64 0)), none⟩]) (.seq (.seq (.ops [⟨some 11, .mov (.tmp 0), none⟩, ⟨some 12, .len (.tmp 11), none⟩, ⟨some 13, .bin .gtr (.tmp 12) (.const (.int .i64 60)), none⟩]) (.cond (.tmp 13) (.seq (.ops [⟨some 2, .mov (.const (.slice none 0 0)), none⟩, ⟨some 3, .mov (.const (.int .i64 5)), none⟩]) .ret) .skip)) (.seq (.ops [⟨some 4, .mov (.const (.slice none 0 0)), none⟩]) (.seq (.ops [⟨some 5, .mov (.const (.bool false)), none⟩]) (.seq (.seq (.ops [⟨some 14, .mov (.tmp 0), none⟩, ⟨some 15, .len (.tmp 14), none⟩, ⟨some 16, .mov (.const (.int .i64 0)), none⟩]) (.block 0 (.loop (.seq (.ops [⟨some 17, .bin .lss (.tmp 16) (.tmp 15), none⟩]) (.seq (.cond (.tmp 17) .skip (.exit 0)) (.seq (.block 1 (.seq (.ops [⟨some 18, .mov (.tmp 16), none⟩, ⟨some 19, .iadr 16 (.tmp 14) (.tmp 16), none⟩, ⟨some 20, .load 16 true (.tmp 19), none⟩, ⟨some 7, .newr .byte 16, none⟩, ⟨some 6, .mov (.tmp 18), none⟩, ⟨none, .store 16 (.tmp 7) (.tmp 20), none⟩]) (.seq (.ops [⟨some 21, .iarr 1 16 (.tmp 7) (.const (.int .i64 0)), none⟩, ⟨some 22, .load 1 false (.tmp 21), none⟩, ⟨some 23, .bin .and (.tmp 22) (.const (.int .u8 15)), none⟩, ⟨some 24, .cvi .i64 (.tmp 23), none⟩, ⟨some 8, .mov (.tmp 24), none⟩]) (.seq (.seq (.ops [⟨some 25, .mov (.tmp 8), none⟩, ⟨some 26, .bin .eql (.tmp 25) (.const (.int .i64 0)), none⟩, ⟨some 27, .mov (.tmp 26), none⟩, ⟨some 28, .mov (.tmp 8), some (27, false)⟩, ⟨some 29, .bin .lss (.tmp 28) (.const (.int .i64 15)), some (27, false)⟩, ⟨some 30, .mov (.tmp 29), some (27, false)⟩, ⟨some 31, .iarr 1 16 (.tmp 7) (.const (.int .i64 0)), some (30, true)⟩, ⟨some 32, .load 1 false (.tmp 31), some (30, true)⟩, ⟨some 33, .bin .lss (.tmp 32) (.const (.int .u8 128)), some (30, true)⟩, ⟨some 34, .pick (.tmp 30) (.tmp 33) (.const (.bool false)), some (27, false)⟩, ⟨some 35, .pick (.tmp 27) (.const (.bool true)) (.tmp 34), none⟩]) (.cond (.tmp 35) (.seq (.ops [⟨some 36, .mov (.tmp 4), none⟩, ⟨some 2, .mov (.tmp 36), none⟩, ⟨some 3, .mov (.const (.int .i64 1)), none⟩]) .ret) .skip)) (.seq (.seq (.ops [⟨some 37, .mov (.tmp 8), none⟩, ⟨some 38, .bin .add (.const (.int .i64 1)) (.tmp 37), none⟩, ⟨some 39, .slca 1 16 (.tmp 7) (some (.tmp 38)) none, none⟩, ⟨some 40, .len (.tmp 39), none⟩, ⟨some 41, .mov (.const (.int .i64 0)), none⟩]) (.block 2 (.loop (.seq (.ops [⟨some 42, .bin .lss (.tmp 41) (.tmp 40), none⟩]) (.seq (.cond (.tmp 42) .skip (.exit 2)) (.seq (.block 3 (.seq (.ops [⟨some 43, .iadr 1 (.tmp 39) (.tmp 41), none⟩, ⟨some 44, .load 1 false (.tmp 43), none⟩, ⟨some 10, .mov (.tmp 44), none⟩]) (.seq (.ops [⟨some 45, .mov (.tmp 10), none⟩, ⟨some 46, .bin .neq (.tmp 45) (.const (.int .u8 0)), none⟩]) (.cond (.tmp 46) (.seq (.ops [⟨some 47, .mov (.tmp 4), none⟩, ⟨some 2, .mov (.tmp 47), none⟩, ⟨some 3, .mov (.const (.int .i64 2)), none⟩]) .ret) .skip)))) (.ops [⟨some 48, .bin .add (.tmp 41) (.const (.int .i64 1)), none⟩, ⟨some 41, .mov (.tmp 48), none⟩]))))))) (.seq (.seq (.ops [⟨some 49, .iarr 1 16 (.tmp 7) (.const (.int .i64 0)), none⟩, ⟨some 50, .load 1 false (.tmp 49), none⟩, ⟨some 51, .bin .shr (.tmp 50) (.const (.int .u64 4)), none⟩, ⟨some 52, .bin .and (.tmp 51) (.const (.int .u8 7)), none⟩, ⟨some 53, .cvi .i64 (.tmp 52), none⟩, ⟨some 54, .mov (.tmp 6), none⟩, ⟨some 55, .bin .rem (.tmp 54) (.const (.int .i64 8)), none⟩, ⟨some 56, .bin .neq (.tmp 53) (.tmp 55), none⟩]) (.cond (.tmp 56) (.seq (.ops [⟨some 57, .mov (.tmp 4), none⟩, ⟨some 2, .mov (.tmp 57), none⟩, ⟨some 3, .mov (.const (.int .i64 3)), none⟩]) .ret) .skip)) (.seq (.seq (.ops [⟨some 58, .mov (.tmp 5), none⟩]) (.cond (.tmp 58) (.seq (.ops [⟨some 59, .mov (.tmp 4), none⟩, ⟨some 2, .mov (.tmp 59), none⟩, ⟨some 3, .mov (.const (.int .i64 4)), none⟩]) .ret) .skip)) (.seq (.ops [⟨some 60, .iarr 1 16 (.tmp 7) (.const (.int .i64 0)), none⟩, ⟨some 61, .load 1 false (.tmp 60), none⟩, ⟨some 62, .bin .geq (.tmp 61) (.const (.int .u8 128)), none⟩, ⟨some 5, .mov (.tmp 62), none⟩]) (.ops [⟨some 63, .mov (.tmp 4), none⟩, ⟨some 64, .mov (.tmp 8), none⟩, ⟨some 65, .bin .add (.const (.int .i64 1)) (.tmp 64), none⟩, ⟨some 66, .slca 1 16 (.tmp 7) (some (.const (.int .i64 1))) (some (.tmp 65)), none⟩, ⟨some 67, .app .byte 1 (.tmp 63) (.tmp 66), none⟩, ⟨some 4, .mov (.tmp 67), none⟩]))))))))) (.ops [⟨some 68, .bin .add (.tmp 16) (.const (.int .i64 1)), none⟩, ⟨some 16, .mov (.tmp 68), none⟩]))))))) (.seq (.seq (.ops [⟨some 69, .mov (.tmp 5), none⟩, ⟨some 70, .una .not (.tmp 69), none⟩]) (.cond (.tmp 70) (.seq (.ops [⟨some 71, .mov (.tmp 4), none⟩, ⟨some 2, .mov (.tmp 71), none⟩, ⟨some 3, .mov (.const (.int .i64 4)), none⟩]) .ret) .skip)) (.seq (.ops [⟨some 72, .mov (.tmp 4), none⟩, ⟨some 2, .mov (.tmp 72), none⟩, ⟨some 3, .mov (.const (.int .i64 0)), none⟩]) .ret)))))))
@[reducible] def rv28 : List RV := [.tmp 2, .tmp 3]
theorem low28 : lowC Try.prog ((1000022, .byte) :: tau) Try.f28.ntmps (Try.f28.body.getD .skip) = some (erase ic28) := by kernel_rfl
theorem res28 : lowR Try.prog Try.f28.results.toList = some rv28 := by kernel_rfl
theorem bod28 : Try.f28.body = some (Try.f28.body.getD .skip) := by kernel_rfl
theorem cal28 : callable Try.prog 28 = true := by kernel_rfl

end Go.Proofs.YtfjfaajdbomhbaaE

/-! Cells are read back by the program. -/
namespace Go.Proofs.YtfjfaajdbomhbaaE
open Go Go.RowKit
set_option linter.unusedSimpArgs false
set_option linter.unusedVariables false
set_option maxRecDepth 50000
set_option maxHeartbeats 8000000

theorem and_15 : ∀ x : Fin 256, andV .u8 ((x.val : Nat) : Int) 15 = ((x.val : Nat) : Int).tmod 16 := by unfold andV; rw [wr_eq]; decide +kernel
theorem shr_7 : ∀ x : Fin 256, andV .u8 (shrV .u8 ((x.val : Nat) : Int) 4) 7 = (((x.val : Nat) : Int).tdiv 16).tmod 8 := by unfold andV shrV; rw [wr_eq]; decide +kernel
theorem and15 {x : Int} (h : 0 ≤ x ∧ x ≤ 255) : andV .u8 x 15 = x.tmod 16 := by
  have := and_15 ⟨x.toNat, by omega⟩
  simpa [Int.toNat_of_nonneg h.1] using this
theorem shr7 {x : Int} (h : 0 ≤ x ∧ x ≤ 255) : andV .u8 (shrV .u8 x 4) 7 = (x.tdiv 16).tmod 8 := by
  have := shr_7 ⟨x.toNat, by omega⟩
  simpa [Int.toNat_of_nonneg h.1] using this
theorem chk1 {c : C16} {i : Int} {b : Bool} (h : bad1 c) : chkC c i b = 1 := if_pos h
theorem chk2 {c : C16} {i : Int} {b : Bool} (h : ¬ bad1 c) (h2 : ¬ padP c) : chkC c i b = 2 := by unfold chkC; rw [if_neg h, if_neg h2]
theorem chk3 {c : C16} {i : Int} {b : Bool} (h : ¬ bad1 c) (h2 : padP c) (h3 : seqC c ≠ i.tmod 8) : chkC c i b = 3 := by unfold chkC; rw [if_neg h, if_pos h2, if_neg h3]
theorem chk4 {c : C16} {i : Int} {b : Bool} (h : ¬ bad1 c) (h2 : padP c) (h3 : seqC c = i.tmod 8) : chkC c i b = if b = true then 4 else 0 := by unfold chkC; rw [if_neg h, if_pos h2, if_pos h3]
theorem unc_stop {c : C16} {r : List C16} {i : Nat} {b : Bool} {o : List Int} {e : Int} (h : chkC c i b = e) (he : e ≠ 0) : unc (c :: r) i b o = (o, e) := by subst h; exact if_neg he
theorem unc_go {c : C16} {r : List C16} {i : Nat} {b : Bool} {o : List Int} (h : chkC c i b = 0) : unc (c :: r) i b o = unc r (i + 1) (decide (128 ≤ c.a0)) (o ++ ((lst c).drop 1).take (cnt c)) := if_pos h
theorem valid28 : Valid Try.prog 28 spUnc := by
  refine validI (Γ := lk []) Try.func28 bod28 low28 res28 (good_of trivial) ?_
  intro E args objs K h hE hG hP
  simp only [spUnc] at h
  split at h
  · refine ⟨by simp [Try.ntmps28], ?_⟩
    rename_i l
    obtain ⟨hB, h⟩ := h
    by_cases hz : 60 < l.length
    · have e0 : uncP l = ([], 5) := if_pos hz
      have hz2 : ((l.length : Int) > 60) = True := by apply eq_true; omega
      rw [e0] at h
      simp (config := { maxSteps := 2000000 }) only [go_sem, hG, hP, Nat.reduceEqDiff, ↓reduceIte, reduceCtorEq, Nat.reduceAdd, Nat.reduceSub, Nat.reduceMul, Nat.reduceLT, Nat.reduceLeDiff, Int.reduceAdd, Int.reduceSub, Int.reduceMul, Int.reduceLT, Int.reduceLE, Int.reduceEq, Int.reduceNeg, Int.reduceNe, Int.reduceGE, Int.reduceGT, Nat.reduceBEq, Int.reduceToNat,  hz2]
      refine ⟨_, _, _, ?_, h⟩
      simp (config := { maxSteps := 2000000 }) only [go_sem, hG, hP, Nat.reduceEqDiff, ↓reduceIte, reduceCtorEq, Nat.reduceAdd, Nat.reduceSub, Nat.reduceMul, Nat.reduceLT, Nat.reduceLeDiff, Int.reduceAdd, Int.reduceSub, Int.reduceMul, Int.reduceLT, Int.reduceLE, Int.reduceEq, Int.reduceNeg, Int.reduceNe, Int.reduceGE, Int.reduceGT, Nat.reduceBEq, Int.reduceToNat]
      repeat' (first | with_reducible rfl | (refine And.intro ?_ ?_) | (refine congrArg (Value.int _) ?_; omega) | omega)
    · have e0 : uncP l = unc l 0 false [] := if_neg hz
      have hz2 : ((l.length : Int) > 60) = False := by apply eq_false; omega
      simp (config := { maxSteps := 2000000 }) only [go_sem, hG, hP, Nat.reduceEqDiff, ↓reduceIte, reduceCtorEq, Nat.reduceAdd, Nat.reduceSub, Nat.reduceMul, Nat.reduceLT, Nat.reduceLeDiff, Int.reduceAdd, Int.reduceSub, Int.reduceMul, Int.reduceLT, Int.reduceLE, Int.reduceEq, Int.reduceNeg, Int.reduceNe, Int.reduceGE, Int.reduceGT, Nat.reduceBEq, Int.reduceToNat,  hz2]
      refine loopI hE (fun p : Nat × Bool × List Int => ⟨[(0, .rs .c16 l), (4, .sub 0 1 0 p.2.2.length), (5, .v (.bool p.2.1)), (14, .rs .c16 l), (15, .v (.int .i64 l.length)), (16, .v (.int .i64 p.1))], [(0, .row .byte p.2.2)], 1, Try.f28.ntmps⟩) (fun p => p.1 ≤ l.length ∧ p.2.2.length ≤ 15 * p.1 ∧ uncP l = unc (l.drop p.1) p.1 p.2.1 p.2.2) (fun p => l.length - p.1) ⟨(0, false, []), ⟨by dsimp only; omega, by simp, e0⟩, SubS.weak ?_⟩ ?_
      · simp (config := { maxSteps := 2000000 }) only [go_sem, hG, hP, Nat.reduceEqDiff, ↓reduceIte, reduceCtorEq, Nat.reduceAdd, Nat.reduceSub, Nat.reduceMul, Nat.reduceLT, Nat.reduceLeDiff, Int.reduceAdd, Int.reduceSub, Int.reduceMul, Int.reduceLT, Int.reduceLE, Int.reduceEq, Int.reduceNeg, Int.reduceNe, Int.reduceGE, Int.reduceGT, Nat.reduceBEq, Int.reduceToNat]
        repeat' (first | with_reducible rfl | (refine And.intro ?_ ?_) | (refine congrArg (Value.int _) ?_; omega) | omega)
      · rintro ⟨k, last, out⟩ ⟨k1, k2, hI⟩
        dsimp only at k1 k2 hI ⊢
        by_cases k3 : k < l.length
        · have e1 : ((k : Int) < l.length) = True := by apply eq_true; omega
          have hb := hB k k3
          rw [drop_cons l (⟨0, 0, 0, 0, 0, 0, 0, 0, 0, 0, 0, 0, 0, 0, 0, 0⟩ : C16) k3] at hI
          generalize hcc : l.getD k (⟨0, 0, 0, 0, 0, 0, 0, 0, 0, 0, 0, 0, 0, 0, 0, 0⟩ : C16) = c at hb hI
          obtain ⟨hn, hn15⟩ := cnt_eq hb
          have hbd := hb
          unfold hd8 at hbd
          obtain ⟨a0, a1, a2, a3, a4, a5, a6, a7, a8, a9, a10, a11, a12, a13, a14, a15⟩ := c
          dsimp only at hn hbd
          have hpl := part_len (⟨a0, a1, a2, a3, a4, a5, a6, a7, a8, a9, a10, a11, a12, a13, a14, a15⟩ : C16) hn15
          have hba : bad1 ⟨a0, a1, a2, a3, a4, a5, a6, a7, a8, a9, a10, a11, a12, a13, a14, a15⟩ ↔ (a0.tmod 16 = 0 ∨ (a0.tmod 16 < 15 ∧ a0 < 128)) := Iff.rfl
          have hpa : padP ⟨a0, a1, a2, a3, a4, a5, a6, a7, a8, a9, a10, a11, a12, a13, a14, a15⟩ ↔ ∀ q, q < 16 → cnt ⟨a0, a1, a2, a3, a4, a5, a6, a7, a8, a9, a10, a11, a12, a13, a14, a15⟩ < q → (lst ⟨a0, a1, a2, a3, a4, a5, a6, a7, a8, a9, a10, a11, a12, a13, a14, a15⟩).getD q 0 = 0 := Iff.rfl
          have hseq : (a0.tdiv 16).tmod 8 = seqC ⟨a0, a1, a2, a3, a4, a5, a6, a7, a8, a9, a10, a11, a12, a13, a14, a15⟩ := rfl
          have hR0 : (lst ⟨a0, a1, a2, a3, a4, a5, a6, a7, a8, a9, a10, a11, a12, a13, a14, a15⟩).getD 0 0 = a0 := rfl
          have hRl : (lst ⟨a0, a1, a2, a3, a4, a5, a6, a7, a8, a9, a10, a11, a12, a13, a14, a15⟩).length = 16 := rfl
          have hRf : [a0, a1, a2, a3, a4, a5, a6, a7, a8, a9, a10, a11, a12, a13, a14, a15] = lst ⟨a0, a1, a2, a3, a4, a5, a6, a7, a8, a9, a10, a11, a12, a13, a14, a15⟩ := rfl
          have H1 : bad1 ⟨a0, a1, a2, a3, a4, a5, a6, a7, a8, a9, a10, a11, a12, a13, a14, a15⟩ → uncP l = (out, 1) := fun b => by
            rw [hI]; exact unc_stop (chk1 b) (by decide)
          have H2 : ¬ bad1 ⟨a0, a1, a2, a3, a4, a5, a6, a7, a8, a9, a10, a11, a12, a13, a14, a15⟩ → ¬ padP ⟨a0, a1, a2, a3, a4, a5, a6, a7, a8, a9, a10, a11, a12, a13, a14, a15⟩ → uncP l = (out, 2) := fun b p => by
            rw [hI]; exact unc_stop (chk2 b p) (by decide)
          have H3 : ¬ bad1 ⟨a0, a1, a2, a3, a4, a5, a6, a7, a8, a9, a10, a11, a12, a13, a14, a15⟩ → padP ⟨a0, a1, a2, a3, a4, a5, a6, a7, a8, a9, a10, a11, a12, a13, a14, a15⟩ → seqC ⟨a0, a1, a2, a3, a4, a5, a6, a7, a8, a9, a10, a11, a12, a13, a14, a15⟩ ≠ (k : Int).tmod 8 → uncP l = (out, 3) := fun b p q => by
            rw [hI]; exact unc_stop (chk3 b p q) (by decide)
          have H4 : ¬ bad1 ⟨a0, a1, a2, a3, a4, a5, a6, a7, a8, a9, a10, a11, a12, a13, a14, a15⟩ → padP ⟨a0, a1, a2, a3, a4, a5, a6, a7, a8, a9, a10, a11, a12, a13, a14, a15⟩ → seqC ⟨a0, a1, a2, a3, a4, a5, a6, a7, a8, a9, a10, a11, a12, a13, a14, a15⟩ = (k : Int).tmod 8 → last = true → uncP l = (out, 4) := fun b p q r => by
            rw [hI]; exact unc_stop ((chk4 b p q).trans (if_pos r)) (by decide)
          have H0 : ¬ bad1 ⟨a0, a1, a2, a3, a4, a5, a6, a7, a8, a9, a10, a11, a12, a13, a14, a15⟩ → padP ⟨a0, a1, a2, a3, a4, a5, a6, a7, a8, a9, a10, a11, a12, a13, a14, a15⟩ → seqC ⟨a0, a1, a2, a3, a4, a5, a6, a7, a8, a9, a10, a11, a12, a13, a14, a15⟩ = (k : Int).tmod 8 → last = false → uncP l = unc (l.drop (k + 1)) (k + 1) (decide (128 ≤ a0)) (out ++ ((lst ⟨a0, a1, a2, a3, a4, a5, a6, a7, a8, a9, a10, a11, a12, a13, a14, a15⟩).drop 1).take (cnt ⟨a0, a1, a2, a3, a4, a5, a6, a7, a8, a9, a10, a11, a12, a13, a14, a15⟩)) := fun b p q r => by
            rw [hI]; exact unc_go ((chk4 b p q).trans (if_neg (by rw [r]; decide)))
          clear hI
          generalize hnn : cnt ⟨a0, a1, a2, a3, a4, a5, a6, a7, a8, a9, a10, a11, a12, a13, a14, a15⟩ = n at hn hn15 hpl H0 hpa
          generalize lst ⟨a0, a1, a2, a3, a4, a5, a6, a7, a8, a9, a10, a11, a12, a13, a14, a15⟩ = R at hpl H0 hpa hR0 hRl hRf
          rw [hn] at hba
          generalize seqC ⟨a0, a1, a2, a3, a4, a5, a6, a7, a8, a9, a10, a11, a12, a13, a14, a15⟩ = sq at hseq H3 H4 H0
          generalize bad1 ⟨a0, a1, a2, a3, a4, a5, a6, a7, a8, a9, a10, a11, a12, a13, a14, a15⟩ = B1 at hba H1 H2 H3 H4 H0
          generalize padP ⟨a0, a1, a2, a3, a4, a5, a6, a7, a8, a9, a10, a11, a12, a13, a14, a15⟩ = P1 at hpa H2 H3 H4 H0
          have ha := and15 hbd
          have wn : wr .i64 (n : Int) = (n : Int) := wrap_id (by omega) (by omega)
          have w1 : wr .i64 (1 + (n : Int)) = 1 + (n : Int) := wrap_id (by omega) (by omega)
          have t1 : (1 + (n : Int)).toNat = 1 + n := by omega
          have t2 : ((16 : Int) - (1 + (n : Int))).toNat = 15 - n := by omega
          by_cases c1 : B1
          · have e2 := H1 c1
            rw [e2] at h
            have c1' := hba.1 c1
            simp (config := { maxSteps := 2000000 }) only [go_sem, hG, hP, Nat.reduceEqDiff, ↓reduceIte, reduceCtorEq, Nat.reduceAdd, Nat.reduceSub, Nat.reduceMul, Nat.reduceLT, Nat.reduceLeDiff, Int.reduceAdd, Int.reduceSub, Int.reduceMul, Int.reduceLT, Int.reduceLE, Int.reduceEq, Int.reduceNeg, Int.reduceNe, Int.reduceGE, Int.reduceGT, Nat.reduceBEq, Int.reduceToNat,  e1, hcc, hRf, hR0, hRl, ha, hn, wn]
            (try simp (disch := omega) only [wrap_id])
            repeat' (first | (refine And.intro ?_ ?_) | (with_reducible intro _))
            all_goals first
              | (exfalso; omega)
              | omega
              | (simp; done)
              | (refine ⟨_, _, _, ?_, h⟩; simp (config := { maxSteps := 2000000 }) only [go_sem, hG, hP, Nat.reduceEqDiff, ↓reduceIte, reduceCtorEq, Nat.reduceAdd, Nat.reduceSub, Nat.reduceMul, Nat.reduceLT, Nat.reduceLeDiff, Int.reduceAdd, Int.reduceSub, Int.reduceMul, Int.reduceLT, Int.reduceLE, Int.reduceEq, Int.reduceNeg, Int.reduceNe, Int.reduceGE, Int.reduceGT, Nat.reduceBEq, Int.reduceToNat]; repeat' (first | with_reducible rfl | (refine And.intro ?_ ?_) | (refine congrArg (Value.int _) ?_; omega) | omega); done)
          · have c1' : ¬ ((n : Int) = 0 ∨ ((n : Int) < 15 ∧ a0 < 128)) := fun e => c1 (hba.2 e)
            have z1 : ((n : Int) = 0) = False := eq_false (fun e => c1' (.inl e))
            have hx : (((n : Int) < 15) = True ∧ (a0 < 128) = False) ∨ (((n : Int) < 15) = False ∧ (0 = 0) = True) := by
              by_cases e : (n : Int) < 15
              · exact .inl ⟨eq_true e, eq_false fun e2 => c1' (.inr ⟨e, e2⟩)⟩
              · exact .inr ⟨eq_false e, by simp⟩
            rcases hx with ⟨x1, x2⟩ | ⟨x1, x2⟩
            all_goals
              simp (config := { maxSteps := 2000000 }) only [go_sem, hG, hP, Nat.reduceEqDiff, ↓reduceIte, reduceCtorEq, Nat.reduceAdd, Nat.reduceSub, Nat.reduceMul, Nat.reduceLT, Nat.reduceLeDiff, Int.reduceAdd, Int.reduceSub, Int.reduceMul, Int.reduceLT, Int.reduceLE, Int.reduceEq, Int.reduceNeg, Int.reduceNe, Int.reduceGE, Int.reduceGT, Nat.reduceBEq, Int.reduceToNat,  e1, hcc, hRf, hR0, hRl, ha, hn, wn, w1, t1, t2, z1, x1, x2]
              (try simp (disch := omega) only [wrap_id])
              repeat (refine And.intro (by first | omega | (simp; done) | (simp; omega) | (unfold appRoom; omega)) ?_)
              refine loopI hE (fun q : Nat => ⟨[(0, .rs .c16 l), (4, .sub 0 1 0 out.length), (5, .v (.bool last)), (6, .v (.int .i64 k)), (7, .arp 1 16), (8, .v (.int .i64 n)), (14, .rs .c16 l), (15, .v (.int .i64 l.length)), (16, .v (.int .i64 k)), (39, .sub 1 1 (1 + n) (15 - n)), (40, .v (.int .i64 ((15 - n : Nat) : Int))), (41, .v (.int .i64 q))], [(0, .row .byte out), (1, .row .byte R)], 2, Try.f28.ntmps⟩) (fun q => q ≤ 15 - n ∧ ∀ p, p < q → R.getD (1 + n + p) 0 = 0) (fun q => 15 - n - q) ⟨0, ⟨by omega, fun p hp => by omega⟩, SubS.weak ?_⟩ ?_
              · simp (config := { maxSteps := 2000000 }) only [go_sem, hG, hP, Nat.reduceEqDiff, ↓reduceIte, reduceCtorEq, Nat.reduceAdd, Nat.reduceSub, Nat.reduceMul, Nat.reduceLT, Nat.reduceLeDiff, Int.reduceAdd, Int.reduceSub, Int.reduceMul, Int.reduceLT, Int.reduceLE, Int.reduceEq, Int.reduceNeg, Int.reduceNe, Int.reduceGE, Int.reduceGT, Nat.reduceBEq, Int.reduceToNat]
                repeat' (first | with_reducible rfl | (refine And.intro ?_ ?_) | (refine congrArg (Value.int _) ?_; omega) | omega)
              · rintro q ⟨q1, hq⟩
                dsimp only at q1 hq ⊢
                by_cases q2 : q < 15 - n
                · have y1 : ((q : Int) < ((15 - n : Nat) : Int)) = True := by apply eq_true; omega
                  by_cases q3 : R.getD (1 + n + q) 0 = 0
                  · simp (config := { maxSteps := 2000000 }) only [go_sem, hG, hP, Nat.reduceEqDiff, ↓reduceIte, reduceCtorEq, Nat.reduceAdd, Nat.reduceSub, Nat.reduceMul, Nat.reduceLT, Nat.reduceLeDiff, Int.reduceAdd, Int.reduceSub, Int.reduceMul, Int.reduceLT, Int.reduceLE, Int.reduceEq, Int.reduceNeg, Int.reduceNe, Int.reduceGE, Int.reduceGT, Nat.reduceBEq, Int.reduceToNat,  y1, q3, hRl]
                    (try simp (disch := omega) only [wrap_id])
                    repeat' (first | (refine And.intro ?_ ?_) | (with_reducible intro _))
                    all_goals first
                      | omega
                      | (refine ⟨q + 1, ⟨⟨by omega, fun p hp => ?_⟩, by omega⟩, SubS.weak ?_⟩
                         · by_cases e : p < q
                           · exact hq p e
                           · obtain rfl : p = q := by omega
                             exact q3
                         · simp (config := { maxSteps := 2000000 }) only [go_sem, hG, hP, Nat.reduceEqDiff, ↓reduceIte, reduceCtorEq, Nat.reduceAdd, Nat.reduceSub, Nat.reduceMul, Nat.reduceLT, Nat.reduceLeDiff, Int.reduceAdd, Int.reduceSub, Int.reduceMul, Int.reduceLT, Int.reduceLE, Int.reduceEq, Int.reduceNeg, Int.reduceNe, Int.reduceGE, Int.reduceGT, Nat.reduceBEq, Int.reduceToNat]
                           repeat' (first | with_reducible rfl | (refine And.intro ?_ ?_) | (refine congrArg (Value.int _) ?_; omega) | omega))
                  · have q4 := eq_false q3
                    have hp : ¬ P1 := fun hp => q3 (hpa.1 hp (1 + n + q) (by omega) (by omega))
                    have e2 := H2 c1 hp
                    rw [e2] at h
                    simp (config := { maxSteps := 2000000 }) only [go_sem, hG, hP, Nat.reduceEqDiff, ↓reduceIte, reduceCtorEq, Nat.reduceAdd, Nat.reduceSub, Nat.reduceMul, Nat.reduceLT, Nat.reduceLeDiff, Int.reduceAdd, Int.reduceSub, Int.reduceMul, Int.reduceLT, Int.reduceLE, Int.reduceEq, Int.reduceNeg, Int.reduceNe, Int.reduceGE, Int.reduceGT, Nat.reduceBEq, Int.reduceToNat,  y1, q4, hRl]
                    (try simp (disch := omega) only [wrap_id])
                    repeat' (first | (refine And.intro ?_ ?_) | (with_reducible intro _))
                    all_goals first
                      | omega
                      | (refine ⟨_, _, _, ?_, h⟩; simp (config := { maxSteps := 2000000 }) only [go_sem, hG, hP, Nat.reduceEqDiff, ↓reduceIte, reduceCtorEq, Nat.reduceAdd, Nat.reduceSub, Nat.reduceMul, Nat.reduceLT, Nat.reduceLeDiff, Int.reduceAdd, Int.reduceSub, Int.reduceMul, Int.reduceLT, Int.reduceLE, Int.reduceEq, Int.reduceNeg, Int.reduceNe, Int.reduceGE, Int.reduceGT, Nat.reduceBEq, Int.reduceToNat]; repeat' (first | with_reducible rfl | (refine And.intro ?_ ?_) | (refine congrArg (Value.int _) ?_; omega) | omega); done)
                · have y1 : ((q : Int) < ((15 - n : Nat) : Int)) = False := by apply eq_false; omega
                  have eq1 : q = 15 - n := by omega
                  have hp : P1 := hpa.2 fun p u1 u2 => by
                    have := hq (p - 1 - n) (by omega)
                    rwa [show 1 + n + (p - 1 - n) = p by omega] at this
                  have hs7 := shr7 hbd
                  have ws : wr .i64 sq = sq := by
                    have e1 : 0 ≤ a0.tdiv 16 := by rw [Int.tdiv_eq_ediv_of_nonneg hbd.1]; omega
                    rw [← hseq, Int.tmod_eq_emod_of_nonneg e1]
                    exact wrap_id (by omega) (by omega)
                  by_cases hs : sq = (k : Int).tmod 8
                  · have hs1 := eq_true hs
                    cases last with
                    | true =>
                      have e2 := H4 c1 hp hs rfl
                      rw [e2] at h
                      simp (config := { maxSteps := 2000000 }) only [go_sem, hG, hP, Nat.reduceEqDiff, ↓reduceIte, reduceCtorEq, Nat.reduceAdd, Nat.reduceSub, Nat.reduceMul, Nat.reduceLT, Nat.reduceLeDiff, Int.reduceAdd, Int.reduceSub, Int.reduceMul, Int.reduceLT, Int.reduceLE, Int.reduceEq, Int.reduceNeg, Int.reduceNe, Int.reduceGE, Int.reduceGT, Nat.reduceBEq, Int.reduceToNat,  y1, hRl, hR0, hs7, hseq, ws, hs1]
                      (try simp (disch := omega) only [wrap_id])
                      repeat' (first | (refine And.intro ?_ ?_) | (with_reducible intro _))
                      all_goals first
                        | omega
                        | (refine ⟨_, _, _, ?_, h⟩; simp (config := { maxSteps := 2000000 }) only [go_sem, hG, hP, Nat.reduceEqDiff, ↓reduceIte, reduceCtorEq, Nat.reduceAdd, Nat.reduceSub, Nat.reduceMul, Nat.reduceLT, Nat.reduceLeDiff, Int.reduceAdd, Int.reduceSub, Int.reduceMul, Int.reduceLT, Int.reduceLE, Int.reduceEq, Int.reduceNeg, Int.reduceNe, Int.reduceGE, Int.reduceGT, Nat.reduceBEq, Int.reduceToNat]; repeat' (first | with_reducible rfl | (refine And.intro ?_ ?_) | (refine congrArg (Value.int _) ?_; omega) | omega); done)
                    | false =>
                      have e2 := H0 c1 hp hs rfl
                      have t3 : ((1 : Int) + n - 1).toNat = n := by omega
                      simp (config := { maxSteps := 2000000 }) only [go_sem, hG, hP, Nat.reduceEqDiff, ↓reduceIte, reduceCtorEq, Nat.reduceAdd, Nat.reduceSub, Nat.reduceMul, Nat.reduceLT, Nat.reduceLeDiff, Int.reduceAdd, Int.reduceSub, Int.reduceMul, Int.reduceLT, Int.reduceLE, Int.reduceEq, Int.reduceNeg, Int.reduceNe, Int.reduceGE, Int.reduceGT, Nat.reduceBEq, Int.reduceToNat,  y1, hRl, hR0, hs7, hseq, ws, hs1, w1, t1, t3, hpl]
                      (try simp (disch := omega) only [wrap_id])
                      repeat' (first | (refine And.intro ?_ ?_) | (with_reducible intro _))
                      all_goals first
                        | omega
                        | (unfold appRoom; omega)
                        | (refine ⟨(k + 1, decide (128 ≤ a0), out ++ (R.drop 1).take n), ⟨⟨by dsimp only; omega, by dsimp only; rw [List.length_append, hpl]; omega, e2⟩, by dsimp only; omega⟩, SubS.weak ?_⟩
                           simp (config := { maxSteps := 2000000 }) only [go_sem, hG, hP, Nat.reduceEqDiff, ↓reduceIte, reduceCtorEq, Nat.reduceAdd, Nat.reduceSub, Nat.reduceMul, Nat.reduceLT, Nat.reduceLeDiff, Int.reduceAdd, Int.reduceSub, Int.reduceMul, Int.reduceLT, Int.reduceLE, Int.reduceEq, Int.reduceNeg, Int.reduceNe, Int.reduceGE, Int.reduceGT, Nat.reduceBEq, Int.reduceToNat]
                           repeat' (first | with_reducible rfl | (refine And.intro ?_ ?_) | (refine congrArg (Value.int _) ?_; omega) | omega)
                           all_goals rw [List.length_append, hpl])
                  · have hs1 := eq_false hs
                    have e2 := H3 c1 hp hs
                    rw [e2] at h
                    simp (config := { maxSteps := 2000000 }) only [go_sem, hG, hP, Nat.reduceEqDiff, ↓reduceIte, reduceCtorEq, Nat.reduceAdd, Nat.reduceSub, Nat.reduceMul, Nat.reduceLT, Nat.reduceLeDiff, Int.reduceAdd, Int.reduceSub, Int.reduceMul, Int.reduceLT, Int.reduceLE, Int.reduceEq, Int.reduceNeg, Int.reduceNe, Int.reduceGE, Int.reduceGT, Nat.reduceBEq, Int.reduceToNat,  y1, hRl, hR0, hs7, hseq, ws, hs1]
                    (try simp (disch := omega) only [wrap_id])
                    repeat' (first | (refine And.intro ?_ ?_) | (with_reducible intro _))
                    all_goals first
                      | omega
                      | (refine ⟨_, _, _, ?_, h⟩; simp (config := { maxSteps := 2000000 }) only [go_sem, hG, hP, Nat.reduceEqDiff, ↓reduceIte, reduceCtorEq, Nat.reduceAdd, Nat.reduceSub, Nat.reduceMul, Nat.reduceLT, Nat.reduceLeDiff, Int.reduceAdd, Int.reduceSub, Int.reduceMul, Int.reduceLT, Int.reduceLE, Int.reduceEq, Int.reduceNeg, Int.reduceNe, Int.reduceGE, Int.reduceGT, Nat.reduceBEq, Int.reduceToNat]; repeat' (first | with_reducible rfl | (refine And.intro ?_ ?_) | (refine congrArg (Value.int _) ?_; omega) | omega); done)
        · have e1 : ((k : Int) < l.length) = False := by apply eq_false; omega
          have ek : k = l.length := by omega
          subst ek
          rw [List.drop_length] at hI
          simp only [unc] at hI
          rw [hI] at h
          simp (config := { maxSteps := 2000000 }) only [go_sem, hG, hP, Nat.reduceEqDiff, ↓reduceIte, reduceCtorEq, Nat.reduceAdd, Nat.reduceSub, Nat.reduceMul, Nat.reduceLT, Nat.reduceLeDiff, Int.reduceAdd, Int.reduceSub, Int.reduceMul, Int.reduceLT, Int.reduceLE, Int.reduceEq, Int.reduceNeg, Int.reduceNe, Int.reduceGE, Int.reduceGT, Nat.reduceBEq, Int.reduceToNat,  e1]
          cases last
          · simp only [Bool.false_eq_true, if_false] at h
            repeat' (first | (refine And.intro ?_ ?_) | (with_reducible intro _))
            all_goals first
              | (exfalso; simp_all; done)
              | (refine ⟨_, _, _, ?_, h⟩; simp (config := { maxSteps := 2000000 }) only [go_sem, hG, hP, Nat.reduceEqDiff, ↓reduceIte, reduceCtorEq, Nat.reduceAdd, Nat.reduceSub, Nat.reduceMul, Nat.reduceLT, Nat.reduceLeDiff, Int.reduceAdd, Int.reduceSub, Int.reduceMul, Int.reduceLT, Int.reduceLE, Int.reduceEq, Int.reduceNeg, Int.reduceNe, Int.reduceGE, Int.reduceGT, Nat.reduceBEq, Int.reduceToNat]; repeat' (first | with_reducible rfl | (refine And.intro ?_ ?_) | (refine congrArg (Value.int _) ?_; omega) | omega); done)
          · simp only [if_true] at h
            repeat' (first | (refine And.intro ?_ ?_) | (with_reducible intro _))
            all_goals first
              | (exfalso; simp_all; done)
              | (refine ⟨_, _, _, ?_, h⟩; simp (config := { maxSteps := 2000000 }) only [go_sem, hG, hP, Nat.reduceEqDiff, ↓reduceIte, reduceCtorEq, Nat.reduceAdd, Nat.reduceSub, Nat.reduceMul, Nat.reduceLT, Nat.reduceLeDiff, Int.reduceAdd, Int.reduceSub, Int.reduceMul, Int.reduceLT, Int.reduceLE, Int.reduceEq, Int.reduceNeg, Int.reduceNe, Int.reduceGE, Int.reduceGT, Nat.reduceBEq, Int.reduceToNat]; repeat' (first | with_reducible rfl | (refine And.intro ?_ ?_) | (refine congrArg (Value.int _) ?_; omega) | omega); done)
  · exact h.elim
end Go.Proofs.YtfjfaajdbomhbaaE

/-! Bytes come back from their cells, plainly. -/
namespace Go.Proofs.YtfjfaajdbomhbaaE
open Go Go.RowKit
set_option linter.unusedSimpArgs false
set_option linter.unusedVariables false
set_option maxRecDepth 50000
set_option maxHeartbeats 4000000

theorem lst_cell (b : List Int) (j : Nat) : lst (cellAt b j) = hdV b j :: (List.range 15).map fun i => b.getD (15 * j + i) 0 := rfl
theorem lst_get (b : List Int) (j q : Nat) (h : q < 15) : (lst (cellAt b j)).getD (q + 1) 0 = b.getD (15 * j + q) 0 := by
  rw [lst_cell]; simp [List.getD, h]
theorem part_cell (b : List Int) (j : Nat) {n : Nat} (hn : n = min 15 (b.length - 15 * j)) : ((lst (cellAt b j)).drop 1).take n = (b.drop (15 * j)).take 15 := by
  rw [lst_cell]
  apply List.ext_getElem?
  intro i
  simp only [List.drop_succ_cons, List.drop_zero]
  rw [List.getElem?_take, List.getElem?_take, List.getElem?_drop]
  by_cases h : i < n
  · rw [if_pos h, if_pos (by omega), List.getElem?_map, List.getElem?_range (by omega), Option.map_some, List.getD, List.getElem?_eq_getElem (by omega)]; rfl
  · rw [if_neg h]
    by_cases h2 : i < 15
    · rw [if_pos h2, List.getElem?_eq_none (by omega)]
    · rw [if_neg h2]
theorem hdV_bd (b : List Int) (j : Nat) : 0 ≤ hdV b j ∧ hdV b j ≤ 255 := by
  have := hdC_bd b j
  unfold hdV; split <;> omega
theorem hdV_mod (b : List Int) (j : Nat) : (hdV b j).tmod 16 = ((min 15 (b.length - 15 * j) : Nat) : Int) := by
  rw [Int.tmod_eq_emod_of_nonneg (hdV_bd b j).1]
  unfold hdV hdC; split <;> omega
theorem cnt_cell (b : List Int) (j : Nat) : cnt (cellAt b j) = min 15 (b.length - 15 * j) := by
  unfold cnt
  show ((hdV b j).tmod 16).toNat = _
  rw [hdV_mod]; rfl
theorem chk_cell {b : List Int} {j : Nat} (h : 15 * j < b.length) : chkC (cellAt b j) j false = 0 := by
  have h1 : ¬ bad1 (cellAt b j) := by
    unfold bad1
    show ¬ ((hdV b j).tmod 16 = 0 ∨ ((hdV b j).tmod 16 < 15 ∧ hdV b j < 128))
    rw [hdV_mod]
    have := hdC_bd b j
    unfold hdV; split <;> omega
  have h2 : padP (cellAt b j) := fun q u1 u2 => by
    rw [cnt_cell] at u2
    have := lst_get b j (q - 1) (by omega)
    rw [show q - 1 + 1 = q by omega] at this
    rw [this, List.getD, List.getElem?_eq_none (by omega)]; rfl
  have h3 : seqC (cellAt b j) = (j : Int).tmod 8 := by
    unfold seqC
    show ((hdV b j).tdiv 16).tmod 8 = _
    have h0 := hdV_bd b j
    have e1 : (0 : Int) ≤ hdV b j / 16 := by omega
    rw [Int.tdiv_eq_ediv_of_nonneg h0.1, Int.tmod_eq_emod_of_nonneg e1, Int.tmod_eq_emod_of_nonneg (by omega)]
    unfold hdV hdC; split <;> omega
  rw [chk4 h1 h2 h3]; rfl
theorem back_all {b : List Int} {N : Nat} (hN : N = (b.length + 14) / 15) (h0 : 0 < N) : ∀ (m j : Nat), j + m = N → unc (((List.range N).map (cellAt b)).drop j) j (decide (j = N ∧ 0 < j)) (b.take (15 * j)) = (b, 0)
  | 0, j, h => by
    have e : ((List.range N).map (cellAt b)).drop j = [] := List.drop_eq_nil_of_le (by simp; omega)
    rw [e]
    simp only [unc]
    rw [List.take_of_length_le (by omega), if_pos (by simp; omega)]
  | m + 1, j, h => by
    have hj : j < ((List.range N).map (cellAt b)).length := by simp; omega
    have hg : ((List.range N).map (cellAt b)).getD j Cz = cellAt b j := by simp [List.getD, show j < N by omega]
    rw [drop_cons _ Cz hj, hg]
    have e0 : decide (j = N ∧ 0 < j) = false := by simp; omega
    rw [e0, unc_go (chk_cell (by omega))]
    have ih := back_all hN h0 m (j + 1) (by omega)
    have e1 : decide (128 ≤ (cellAt b j).a0) = decide (j + 1 = N ∧ 0 < j + 1) := by
      show decide (128 ≤ hdV b j) = _
      have := hdC_bd b j
      rw [decide_eq_decide]
      unfold hdV; split <;> omega
    have e2 : b.take (15 * j) ++ ((lst (cellAt b j)).drop 1).take (cnt (cellAt b j)) = b.take (15 * (j + 1)) := by
      rw [part_cell b j (cnt_cell b j), show 15 * (j + 1) = 15 * j + 15 by omega, List.take_add]
    rw [e1, e2]; exact ih
theorem back_ok {b : List Int} (h : cellsP b ≠ []) : uncP (cellsP b) = (b, 0) := by
  have hb : ¬ 900 < b.length := fun e => h (if_pos e)
  have hc : cellsP b = (List.range ((b.length + 14) / 15)).map (cellAt b) := if_neg hb
  have h0 : 0 < (b.length + 14) / 15 := by
    rcases Nat.eq_zero_or_pos ((b.length + 14) / 15) with e | e
    · rw [hc, e] at h; exact absurd rfl h
    · exact e
  unfold uncP
  rw [if_neg (by rw [hc]; simp; omega), hc]
  have := back_all (b := b) rfl h0 ((b.length + 14) / 15) 0 (by omega)
  simpa using this
theorem hdB_cells (b : List Int) : hdB (cellsP b) := fun k hk => by
  unfold cellsP at hk ⊢
  split at hk
  · simp at hk
  · rename_i h
    rw [if_neg h]
    simp only [List.length_map, List.length_range] at hk
    have : ((List.range ((b.length + 14) / 15)).map (cellAt b)).getD k Cz = cellAt b k := by simp [List.getD, hk]
    show hd8 (((List.range ((b.length + 14) / 15)).map (cellAt b)).getD k Cz)
    rw [this]; exact hdV_bd b k
/-- All cells' bytes, one behind the other. -/
def allB (l : List C16) : List Int := (l.map lst).flatten
theorem lst_len (c : C16) : (lst c).length = 16 := rfl
theorem allB_len : ∀ l : List C16, (allB l).length = 16 * l.length
  | [] => rfl
  | c :: r => by
    have := allB_len r
    simp only [allB, List.map_cons, List.flatten_cons, List.length_append, lst_len, List.length_cons] at this ⊢
    omega
theorem allB_get : ∀ (l : List C16) (i k : Nat), i < l.length → k < 16 → (allB l).getD (16 * i + k) 0 = (lst (l.getD i Cz)).getD k 0
  | [], i, k, h, _ => by simp at h
  | c :: r, 0, k, _, hk => by
    simp only [allB, List.map_cons, List.flatten_cons, Nat.mul_zero, Nat.zero_add]
    rw [List.getD, List.getElem?_append_left (by rw [lst_len]; omega)]; rfl
  | c :: r, i + 1, k, h, hk => by
    have ih := allB_get r i k (by simpa using h) hk
    have e : (allB (c :: r)).getD (16 * (i + 1) + k) 0 = (allB r).getD (16 * i + k) 0 := by
      simp only [allB, List.map_cons, List.flatten_cons]
      rw [List.getD, List.getElem?_append_right (by rw [lst_len]; omega), lst_len, show 16 * (i + 1) + k - 16 = 16 * i + k by omega]; rfl
    rw [e, ih]; rfl
theorem allB_snoc (l : List C16) {k : Nat} (h : k < l.length) : allB (l.take (k + 1)) = allB (l.take k) ++ lst (l.getD k Cz) := by
  unfold allB
  rw [List.take_succ_eq_append_getElem h, List.map_append, List.flatten_append]
  simp [List.getD, h]
theorem cut_all {l : List C16} {i : Nat} (hi : i < l.length) : cutOk (allB l) ((16 * i : Nat) : Int) ∧ ∀ k : Nat, k < 16 → cutX (allB l) ((16 * i : Nat) : Int) k = (lst (l.getD i Cz)).getD k 0 := by
  have h1 : cutOk (allB l) ((16 * i : Nat) : Int) := by unfold cutOk; rw [allB_len]; omega
  refine ⟨h1, fun k hk => ?_⟩
  rw [cutX_yes h1, show (((16 * i : Nat) : Int) + (k : Int)).toNat = 16 * i + k by omega, allB_get l i k hi hk]
end Go.Proofs.YtfjfaajdbomhbaaE

/-! The code of a function, in the engine's words. -/
namespace Go.Proofs.YtfjfaajdbomhbaaE
open Go Go.RowKit
@[reducible] def ic33 : IC := (.seq (.ops [⟨some 2, .mov (.const (.pointer none)), none⟩]) (.seq (.ops [⟨some 5, .mov (.tmp 0), none⟩, ⟨some 6, .len (.tmp 5), none⟩, ⟨some 7, .bin .add (.const (.int .i64 71933)) (.tmp 6), none⟩, ⟨some 3, .mov (.tmp 7), none⟩]) (.seq (.seq (.ops [⟨some 4, .mov (.const (.int .i64 0)), none⟩]) (.block 0 (.loop (.seq (.seq (.ops [⟨some 8, .mov (.tmp 4), none⟩, ⟨some 9, .mov (.tmp 0), none⟩, ⟨some 10, .len (.tmp 9), none⟩, ⟨some 11, .bin .lss (.tmp 8) (.tmp 10), none⟩, ⟨some 12, .mov (.tmp 11), none⟩, ⟨some 13, .mov (.tmp 4), some (12, true)⟩, ⟨some 14, .bin .lss (.tmp 13) (.const (.int .i64 4000)), some (12, true)⟩, ⟨some 15, .pick (.tmp 12) (.tmp 14) (.const (.bool false)), none⟩]) (.cond (.tmp 15) .skip (.exit 0))) (.seq (.block 1 (.ops [⟨some 18, .mov (.tmp 3), none⟩, ⟨some 19, .bin .mul (.tmp 18) (.const (.int .i64 131)), none⟩, ⟨some 20, .mov (.tmp 0), none⟩, ⟨some 21, .mov (.tmp 4), none⟩, ⟨some 22, .iadr 1 (.tmp 20) (.tmp 21), none⟩, ⟨some 23, .load 1 false (.tmp 22), none⟩, ⟨some 24, .cvi .i64 (.tmp 23), none⟩, ⟨some 25, .bin .add (.tmp 19) (.tmp 24), none⟩, ⟨some 26, .bin .add (.tmp 25) (.const (.int .i64 7)), none⟩, ⟨some 27, .bin .and (.tmp 26) (.const (.int .i64 1073741823)), none⟩, ⟨some 3, .mov (.tmp 27), none⟩])) (.ops [⟨some 16, .mov (.tmp 4), none⟩, ⟨some 17, .bin .add (.tmp 16) (.const (.int .i64 1)), none⟩, ⟨some 4, .mov (.tmp 17), none⟩])))))) (.seq (.ops [⟨some 28, .mov (.tmp 0), none⟩, ⟨some 29, .mov (.tmp 3), none⟩, ⟨some 30, .bld [(.slice none 0 0), (.int .i64 0), (.int .i64 0)] [(0, 1, (.tmp 28)), (2, 1, (.tmp 29))], none⟩, ⟨some 31, .box (.tmp 30), none⟩, ⟨some 2, .mov (.tmp 31), none⟩]) .ret))))
@[reducible] def rv33 : List RV := [.tmp 2]
theorem low33 : lowC Try.prog tau Try.f33.ntmps (Try.f33.body.getD .skip) = some (erase ic33) := by kernel_rfl
theorem res33 : lowR Try.prog Try.f33.results.toList = some rv33 := by kernel_rfl
theorem bod33 : Try.f33.body = some (Try.f33.body.getD .skip) := by kernel_rfl
theorem cal33 : callable Try.prog 33 = true := by kernel_rfl

end Go.Proofs.YtfjfaajdbomhbaaE

/-! The code of a function, in the engine's words. -/
namespace Go.Proofs.YtfjfaajdbomhbaaE
open Go Go.RowKit
@[reducible] def ic36 : IC := (.seq (.ops [⟨some 4, .mov (.const (.int .i64 0)), none⟩]) (.seq (.seq (.ops [⟨some 9, .mov (.tmp 1), none⟩, ⟨some 10, .bin .leq (.tmp 9) (.const (.int .i64 0)), none⟩]) (.cond (.tmp 10) (.seq (.ops [⟨some 4, .mov (.const (.int .i64 0)), none⟩]) .ret) .skip)) (.seq (.seq (.ops [⟨some 11, .mov (.tmp 1), none⟩, ⟨some 12, .bin .leq (.tmp 11) (.const (.int .i64 256)), none⟩]) (.cond (.tmp 12) (.seq (.ops [⟨some 13, .mov (.tmp 0), none⟩, ⟨some 14, .call 40 [(.tmp 13)], none⟩, ⟨some 15, .mov (.tmp 1), none⟩, ⟨some 16, .bin .rem (.tmp 14) (.tmp 15), none⟩, ⟨some 4, .mov (.tmp 16), none⟩]) .ret) .skip)) (.seq (.ops [⟨some 17, .mov (.tmp 0), none⟩, ⟨some 18, .call 40 [(.tmp 17)], none⟩, ⟨some 5, .mov (.tmp 18), none⟩]) (.seq (.ops [⟨some 19, .mov (.tmp 0), none⟩, ⟨some 20, .call 40 [(.tmp 19)], none⟩, ⟨some 6, .mov (.tmp 20), none⟩]) (.seq (.ops [⟨some 21, .mov (.tmp 0), none⟩, ⟨some 22, .call 40 [(.tmp 21)], none⟩, ⟨some 7, .mov (.tmp 22), none⟩]) (.seq (.ops [⟨some 23, .mov (.tmp 0), none⟩, ⟨some 24, .call 40 [(.tmp 23)], none⟩, ⟨some 8, .mov (.tmp 24), none⟩]) (.seq (.ops [⟨some 25, .mov (.tmp 5), none⟩, ⟨some 26, .bin .mul (.tmp 25) (.const (.int .i64 16777216)), none⟩, ⟨some 27, .mov (.tmp 6), none⟩, ⟨some 28, .bin .mul (.tmp 27) (.const (.int .i64 65536)), none⟩, ⟨some 29, .bin .add (.tmp 26) (.tmp 28), none⟩, ⟨some 30, .mov (.tmp 7), none⟩, ⟨some 31, .bin .mul (.tmp 30) (.const (.int .i64 256)), none⟩, ⟨some 32, .bin .add (.tmp 29) (.tmp 31), none⟩, ⟨some 33, .mov (.tmp 8), none⟩, ⟨some 34, .bin .add (.tmp 32) (.tmp 33), none⟩, ⟨some 35, .mov (.tmp 1), none⟩, ⟨some 36, .bin .rem (.tmp 34) (.tmp 35), none⟩, ⟨some 4, .mov (.tmp 36), none⟩]) .ret))))))))
@[reducible] def rv36 : List RV := [.tmp 4]
theorem low36 : lowC Try.prog tau Try.f36.ntmps (Try.f36.body.getD .skip) = some (erase ic36) := by kernel_rfl
theorem res36 : lowR Try.prog Try.f36.results.toList = some rv36 := by kernel_rfl
theorem bod36 : Try.f36.body = some (Try.f36.body.getD .skip) := by kernel_rfl
theorem cal36 : callable Try.prog 36 = true := by kernel_rfl

end Go.Proofs.YtfjfaajdbomhbaaE

/-! The code of a function, in the engine's words. -/
namespace Go.Proofs.YtfjfaajdbomhbaaE
open Go Go.RowKit
@[reducible] def ic40 : IC := (.seq (.ops [⟨some 2, .mov (.const (.int .i64 0)), none⟩]) (.seq (.ops [⟨some 4, .mov (.tmp 0), none⟩, ⟨some 5, .mov (.tmp 0), none⟩, ⟨some 6, .nilc (.tmp 5), none⟩, ⟨some 7, .fadr 2 (.tmp 6), none⟩, ⟨some 8, .load 1 false (.tmp 7), none⟩, ⟨some 9, .bin .mul (.tmp 8) (.const (.int .i64 6364136223846793005)), none⟩, ⟨some 10, .bin .add (.tmp 9) (.const (.int .i64 1442695040888963407)), none⟩, ⟨some 11, .nilc (.tmp 4), none⟩, ⟨some 12, .fadr 2 (.tmp 11), none⟩, ⟨none, .store 1 (.tmp 12) (.tmp 10), none⟩]) (.seq (.draw [⟨some 13, .mov (.tmp 0), none⟩, ⟨some 14, .nilc (.tmp 13), none⟩, ⟨some 15, .fadr 2 (.tmp 14), none⟩, ⟨some 16, .load 1 false (.tmp 15), none⟩, ⟨some 17, .bin .shr (.tmp 16) (.const (.int .u64 33)), none⟩, ⟨some 18, .mov (.tmp 0), none⟩, ⟨some 19, .nilc (.tmp 18), none⟩, ⟨some 20, .fadr 2 (.tmp 19), none⟩, ⟨some 21, .load 1 false (.tmp 20), none⟩, ⟨some 22, .bin .shr (.tmp 21) (.const (.int .u64 45)), none⟩, ⟨some 23, .bin .xor (.tmp 17) (.tmp 22), none⟩, ⟨some 24, .bin .and (.tmp 23) (.const (.int .i64 255)), none⟩, ⟨some 3, .mov (.tmp 24), none⟩] (.held ⟨some 13, .mov (.tmp 0), none⟩ (.held ⟨some 14, .nilc (.tmp 13), none⟩ (.held ⟨some 15, .fadr 2 (.tmp 14), none⟩ (.held ⟨some 16, .load 1 false (.tmp 15), none⟩ (.held ⟨some 17, .bin .shr (.tmp 16) (.const (.int .u64 33)), none⟩ (.held ⟨some 18, .mov (.tmp 0), none⟩ (.held ⟨some 19, .nilc (.tmp 18), none⟩ (.held ⟨some 20, .fadr 2 (.tmp 19), none⟩ (.held ⟨some 21, .load 1 false (.tmp 20), none⟩ (.held ⟨some 22, .bin .shr (.tmp 21) (.const (.int .u64 45)), none⟩ (.held ⟨some 23, .bin .xor (.tmp 17) (.tmp 22), none⟩ (.held ⟨some 24, .bin .and (.tmp 23) (.const (.int .i64 255)), none⟩ (.held ⟨some 3, .mov (.tmp 24), none⟩ .done)))))))))))))) (.seq (.seq (.draw [⟨some 25, .mov (.tmp 0), none⟩, ⟨some 26, .nilc (.tmp 25), none⟩, ⟨some 27, .fadr 1 (.tmp 26), none⟩, ⟨some 28, .load 1 false (.tmp 27), none⟩, ⟨some 29, .mov (.tmp 0), none⟩, ⟨some 30, .nilc (.tmp 29), none⟩, ⟨some 31, .fadr 0 (.tmp 30), none⟩, ⟨some 32, .load 1 false (.tmp 31), none⟩, ⟨some 33, .len (.tmp 32), none⟩, ⟨some 34, .bin .lss (.tmp 28) (.tmp 33), none⟩] (.held ⟨some 25, .mov (.tmp 0), none⟩ (.held ⟨some 26, .nilc (.tmp 25), none⟩ (.held ⟨some 27, .fadr 1 (.tmp 26), none⟩ (.held ⟨some 28, .load 1 false (.tmp 27), none⟩ (.held ⟨some 29, .mov (.tmp 0), none⟩ (.held ⟨some 30, .nilc (.tmp 29), none⟩ (.held ⟨some 31, .fadr 0 (.tmp 30), none⟩ (.held ⟨some 32, .load 1 false (.tmp 31), none⟩ (.held ⟨some 33, .len (.tmp 32), none⟩ (.held ⟨some 34, .bin .lss (.tmp 28) (.tmp 33), none⟩ .done))))))))))) (.cond (.tmp 34) (.seq (.draw [⟨some 35, .mov (.tmp 3), none⟩, ⟨some 36, .mov (.tmp 0), none⟩, ⟨some 37, .nilc (.tmp 36), none⟩, ⟨some 38, .fadr 0 (.tmp 37), none⟩, ⟨some 39, .load 1 false (.tmp 38), none⟩, ⟨some 40, .mov (.tmp 0), none⟩, ⟨some 41, .nilc (.tmp 40), none⟩, ⟨some 42, .fadr 1 (.tmp 41), none⟩, ⟨some 43, .load 1 false (.tmp 42), none⟩, ⟨some 44, .iadr 1 (.tmp 39) (.tmp 43), none⟩, ⟨some 45, .load 1 false (.tmp 44), none⟩, ⟨some 46, .cvi .i64 (.tmp 45), none⟩, ⟨some 47, .bin .add (.tmp 35) (.tmp 46), none⟩, ⟨some 48, .bin .and (.tmp 47) (.const (.int .i64 255)), none⟩, ⟨some 3, .mov (.tmp 48), none⟩] (.held ⟨some 35, .mov (.tmp 3), none⟩ (.held ⟨some 36, .mov (.tmp 0), none⟩ (.held ⟨some 37, .nilc (.tmp 36), none⟩ (.held ⟨some 38, .fadr 0 (.tmp 37), none⟩ (.held ⟨some 39, .load 1 false (.tmp 38), none⟩ (.held ⟨some 40, .mov (.tmp 0), none⟩ (.held ⟨some 41, .nilc (.tmp 40), none⟩ (.held ⟨some 42, .fadr 1 (.tmp 41), none⟩ (.held ⟨some 43, .load 1 false (.tmp 42), none⟩ (.held ⟨some 44, .iadr 1 (.tmp 39) (.tmp 43), none⟩ (.held ⟨some 45, .load 1 false (.tmp 44), none⟩ (.held ⟨some 46, .cvi .i64 (.tmp 45), none⟩ (.held ⟨some 47, .bin .add (.tmp 35) (.tmp 46), none⟩ (.held ⟨some 48, .bin .and (.tmp 47) (.const (.int .i64 255)), none⟩ (.held ⟨some 3, .mov (.tmp 48), none⟩ .done)))))))))))))))) (.ops [⟨some 49, .mov (.tmp 0), none⟩, ⟨some 50, .mov (.tmp 0), none⟩, ⟨some 51, .nilc (.tmp 50), none⟩, ⟨some 52, .fadr 1 (.tmp 51), none⟩, ⟨some 53, .load 1 false (.tmp 52), none⟩, ⟨some 54, .bin .add (.tmp 53) (.const (.int .i64 1)), none⟩, ⟨some 55, .nilc (.tmp 49), none⟩, ⟨some 56, .fadr 1 (.tmp 55), none⟩, ⟨none, .store 1 (.tmp 56) (.tmp 54), none⟩])) .skip)) (.seq (.ops [⟨some 57, .mov (.tmp 3), none⟩, ⟨some 2, .mov (.tmp 57), none⟩]) .ret)))))
@[reducible] def rv40 : List RV := [.tmp 2]
theorem low40 : lowC Try.prog tau Try.f40.ntmps (Try.f40.body.getD .skip) = some (erase ic40) := by kernel_rfl
theorem res40 : lowR Try.prog Try.f40.results.toList = some rv40 := by kernel_rfl
theorem bod40 : Try.f40.body = some (Try.f40.body.getD .skip) := by kernel_rfl
theorem cal40 : callable Try.prog 40 = true := by kernel_rfl

end Go.Proofs.YtfjfaajdbomhbaaE

/-! The cursor over a draw: one byte, a number below another, a new cursor. -/
namespace Go.Proofs.YtfjfaajdbomhbaaE
open Go Go.RowKit
set_option linter.unusedSimpArgs false
set_option linter.unusedVariables false
set_option maxRecDepth 20000
set_option maxHeartbeats 4000000

def takeP : List AVal → List Nat
  | .ptr m _ :: _ => [m]
  | _ => []
theorem takeP_eq {m off : Nat} {r : List AVal} : takeP (.ptr m off :: r) = [m] := id rfl
/-- A cursor's three cells. -/
def cur (b : List Int) (i h : Int) : List AVal := [.rs .byte b, .v (.int .i64 i), .v (.int .i64 h)]
noncomputable def curH (h : Int) : Int := wr .i64 (wr .i64 (h * 6364136223846793005) + 1442695040888963407)
noncomputable def curX0 (h : Int) : Int := andV .i64 (xorV .i64 (shrV .i64 (curH h) 33) (shrV .i64 (curH h) 45)) 255
noncomputable def curX (b : List Int) (i h : Int) : Int := if i < b.length then andV .i64 (wr .i64 (curX0 h + wr .i64 (b.getD i.toNat 0))) 255 else curX0 h
def curI (b : List Int) (i : Int) : Int := if i < b.length then i + 1 else i
theorem curH_eq {h : Int} : curH h = wr .i64 (wr .i64 (h * 6364136223846793005) + 1442695040888963407) := id rfl
theorem curX0_eq {h : Int} : curX0 h = andV .i64 (xorV .i64 (shrV .i64 (curH h) 33) (shrV .i64 (curH h) 45)) 255 := id rfl
def spByte : Spec := ⟨fun _ => takeP, fun args objs K => match args, objs with
  | [.ptr 0 0], [.box [.rs .byte b, .v (.int .i64 i), .v (.int .i64 h)]] => (0 ≤ i ∧ i ≤ b.length ∧ b.length ≤ 1099511627776) ∧
      K (.v (.int .i64 (curX b i h))) [(0, .box [.rs .byte b, .v (.int .i64 (curI b i)), .v (.int .i64 (curH h))])] 1
  | _, _ => False, true⟩
theorem spByte_t {L : Hp} {a : List AVal} : Spec.take spByte L a = takeP a := id rfl
theorem spByte_k : Spec.keep spByte = true := id rfl
theorem spByte_f {b} {i} {h} {K : AVal → Hp → Nat → Prop} : Spec.f spByte ([.ptr 0 0]) ([.box [.rs .byte b, .v (.int .i64 i), .v (.int .i64 h)]]) K = ((0 ≤ i ∧ i ≤ b.length ∧ b.length ≤ 1099511627776) ∧
      K (.v (.int .i64 (curX b i h))) [(0, .box [.rs .byte b, .v (.int .i64 (curI b i)), .v (.int .i64 (curH h))])] 1) := id rfl
theorem valid40 : Valid Try.prog 40 spByte := by
  refine validI (Γ := lk []) Try.func40 bod40 low40 res40 (good_of trivial) ?_
  intro E args objs K h0 hE hG hP
  simp only [spByte] at h0
  split at h0
  · refine ⟨by simp [Try.ntmps40], ?_⟩
    rename_i b i h
    obtain ⟨⟨b1, b2, b3⟩, h0⟩ := h0
    have hw : wr .i64 (i + 1) = i + 1 := wrap_id (by omega) (by omega)
    by_cases hi : i < b.length
    · simp only [curX, curI, if_pos hi] at h0
      simp (config := { maxSteps := 2000000 }) only [go_sem, hG, hP, Nat.reduceEqDiff, ↓reduceIte, reduceCtorEq, Nat.reduceAdd, Nat.reduceSub, Nat.reduceMul, Nat.reduceLT, Nat.reduceLeDiff, Int.reduceAdd, Int.reduceSub, Int.reduceMul, Int.reduceLT, Int.reduceLE, Int.reduceEq, Int.reduceNeg, Int.reduceNe, Int.reduceGE, Int.reduceGT, Nat.reduceBEq, Int.reduceToNat,  hi, hw, ← curH_eq, ← curX0_eq]
      repeat (refine And.intro (by first | omega | (simp; done) | (simp; omega) | (unfold appRoom; omega)) ?_)
      refine ⟨_, _, _, ?_, h0⟩
      simp (config := { maxSteps := 2000000 }) only [go_sem, hG, hP, Nat.reduceEqDiff, ↓reduceIte, reduceCtorEq, Nat.reduceAdd, Nat.reduceSub, Nat.reduceMul, Nat.reduceLT, Nat.reduceLeDiff, Int.reduceAdd, Int.reduceSub, Int.reduceMul, Int.reduceLT, Int.reduceLE, Int.reduceEq, Int.reduceNeg, Int.reduceNe, Int.reduceGE, Int.reduceGT, Nat.reduceBEq, Int.reduceToNat]
      all_goals simp
    · simp only [curX, curI, if_neg hi] at h0
      simp (config := { maxSteps := 2000000 }) only [go_sem, hG, hP, Nat.reduceEqDiff, ↓reduceIte, reduceCtorEq, Nat.reduceAdd, Nat.reduceSub, Nat.reduceMul, Nat.reduceLT, Nat.reduceLeDiff, Int.reduceAdd, Int.reduceSub, Int.reduceMul, Int.reduceLT, Int.reduceLE, Int.reduceEq, Int.reduceNeg, Int.reduceNe, Int.reduceGE, Int.reduceGT, Nat.reduceBEq, Int.reduceToNat,  hi, ← curH_eq, ← curX0_eq]
      repeat (refine And.intro (by first | omega | (simp; done) | (simp; omega) | (unfold appRoom; omega)) ?_)
      refine ⟨_, _, _, ?_, h0⟩
      simp (config := { maxSteps := 2000000 }) only [go_sem, hG, hP, Nat.reduceEqDiff, ↓reduceIte, reduceCtorEq, Nat.reduceAdd, Nat.reduceSub, Nat.reduceMul, Nat.reduceLT, Nat.reduceLeDiff, Int.reduceAdd, Int.reduceSub, Int.reduceMul, Int.reduceLT, Int.reduceLE, Int.reduceEq, Int.reduceNeg, Int.reduceNe, Int.reduceGE, Int.reduceGT, Nat.reduceBEq, Int.reduceToNat]
      all_goals simp
  · exact h0.elim
theorem andV_255 (a : Int) : 0 ≤ andV .i64 a 255 ∧ andV .i64 a 255 ≤ 255 := by
  unfold andV
  have h : (BitVec.ofInt (IntKind.bits .i64) a &&& BitVec.ofInt (IntKind.bits .i64) 255).toNat ≤ 255 := by
    rw [BitVec.toNat_and]
    exact Nat.le_trans Nat.and_le_right (by decide)
  rw [wrap_id (by omega) (by omega)]
  omega
theorem curX_bd (b : List Int) (i h : Int) : 0 ≤ curX b i h ∧ curX b i h ≤ 255 := by
  unfold curX; split
  · exact andV_255 _
  · exact andV_255 _
theorem curI_bd {b : List Int} {i : Int} (h : 0 ≤ i ∧ i ≤ b.length) : 0 ≤ curI b i ∧ curI b i ≤ b.length := by
  unfold curI; split <;> omega
/-- The same, of which only the bounds are told. -/
def spByteA : Spec := ⟨fun _ => takeP, fun args objs K => match args, objs with
  | [.ptr 0 0], [.box [.rs .byte b, .v (.int .i64 i), .v (.int .i64 h)]] => (0 ≤ i ∧ i ≤ b.length ∧ b.length ≤ 1099511627776) ∧
      ∀ x i' h' : Int, (0 ≤ x ∧ x ≤ 255) ∧ (0 ≤ i' ∧ i' ≤ b.length) → K (.v (.int .i64 x)) [(0, .box [.rs .byte b, .v (.int .i64 i'), .v (.int .i64 h')])] 1
  | _, _ => False, true⟩
theorem spByteA_t {L : Hp} {a : List AVal} : Spec.take spByteA L a = takeP a := id rfl
theorem spByteA_k : Spec.keep spByteA = true := id rfl
theorem spByteA_f {b} {i} {h} {K : AVal → Hp → Nat → Prop} : Spec.f spByteA ([.ptr 0 0]) ([.box [.rs .byte b, .v (.int .i64 i), .v (.int .i64 h)]]) K = ((0 ≤ i ∧ i ≤ b.length ∧ b.length ≤ 1099511627776) ∧
      ∀ x i' h' : Int, (0 ≤ x ∧ x ≤ 255) ∧ (0 ≤ i' ∧ i' ≤ b.length) → K (.v (.int .i64 x)) [(0, .box [.rs .byte b, .v (.int .i64 i'), .v (.int .i64 h')])] 1) := id rfl
theorem valid40A : Valid Try.prog 40 spByteA := by
  intro W C ρ args vals objs K hd hp h
  refine valid40 W C ρ args vals objs K hd hp ?_
  simp only [spByteA] at h
  split at h
  · exact ⟨h.1, h.2 _ _ _ ⟨curX_bd _ _ _, curI_bd ⟨h.1.1, h.1.2.1⟩⟩⟩
  · exact h.elim
def spBelow : Spec := ⟨fun _ => takeP, fun args objs K => match args, objs with
  | [.ptr 0 0, .v (.int .i64 n)], [.box [.rs .byte b, .v (.int .i64 i), .v (.int .i64 h)]] => ((0 ≤ i ∧ i ≤ b.length ∧ b.length ≤ 1099511627776) ∧ n ≤ 256) ∧
      impK (n ≤ 0) (K (.v (.int .i64 0)) [(0, .box [.rs .byte b, .v (.int .i64 i), .v (.int .i64 h)])] 1) ∧
      impK (¬ n ≤ 0) (K (.v (.int .i64 ((curX b i h).tmod n))) [(0, .box [.rs .byte b, .v (.int .i64 (curI b i)), .v (.int .i64 (curH h))])] 1)
  | _, _ => False, true⟩
theorem spBelow_t {L : Hp} {a : List AVal} : Spec.take spBelow L a = takeP a := id rfl
theorem spBelow_k : Spec.keep spBelow = true := id rfl
theorem spBelow_f {n} {b} {i} {h} {K : AVal → Hp → Nat → Prop} : Spec.f spBelow ([.ptr 0 0, .v (.int .i64 n)]) ([.box [.rs .byte b, .v (.int .i64 i), .v (.int .i64 h)]]) K = (((0 ≤ i ∧ i ≤ b.length ∧ b.length ≤ 1099511627776) ∧ n ≤ 256) ∧
      impK (n ≤ 0) (K (.v (.int .i64 0)) [(0, .box [.rs .byte b, .v (.int .i64 i), .v (.int .i64 h)])] 1) ∧
      impK (¬ n ≤ 0) (K (.v (.int .i64 ((curX b i h).tmod n))) [(0, .box [.rs .byte b, .v (.int .i64 (curI b i)), .v (.int .i64 (curH h))])] 1)) := id rfl
theorem valid36 : Valid Try.prog 36 spBelow := by
  refine validI (Γ := lk [(40, spByte)]) Try.func36 bod36 low36 res36 (good_of ⟨⟨cal40, valid40⟩, trivial⟩) ?_
  intro E args objs K h0 hE hG hP
  simp only [spBelow] at h0
  split at h0
  · refine ⟨by simp [Try.ntmps36], ?_⟩
    rename_i n b i h
    obtain ⟨⟨⟨b1, b2, b3⟩, b4⟩, h1, h2⟩ := h0
    by_cases hn : n ≤ 0
    · simp (config := { maxSteps := 2000000 }) only [go_sem, hG, hP, Nat.reduceEqDiff, ↓reduceIte, reduceCtorEq, Nat.reduceAdd, Nat.reduceSub, Nat.reduceMul, Nat.reduceLT, Nat.reduceLeDiff, Int.reduceAdd, Int.reduceSub, Int.reduceMul, Int.reduceLT, Int.reduceLE, Int.reduceEq, Int.reduceNeg, Int.reduceNe, Int.reduceGE, Int.reduceGT, Nat.reduceBEq, Int.reduceToNat,  spByte_f, spByte_t, spByte_k, takeP_eq, hn]
      refine ⟨_, _, _, ?_, h1 hn⟩
      simp (config := { maxSteps := 2000000 }) only [go_sem, hG, hP, Nat.reduceEqDiff, ↓reduceIte, reduceCtorEq, Nat.reduceAdd, Nat.reduceSub, Nat.reduceMul, Nat.reduceLT, Nat.reduceLeDiff, Int.reduceAdd, Int.reduceSub, Int.reduceMul, Int.reduceLT, Int.reduceLE, Int.reduceEq, Int.reduceNeg, Int.reduceNe, Int.reduceGE, Int.reduceGT, Nat.reduceBEq, Int.reduceToNat]
      all_goals simp
    · simp (config := { maxSteps := 2000000 }) only [go_sem, hG, hP, Nat.reduceEqDiff, ↓reduceIte, reduceCtorEq, Nat.reduceAdd, Nat.reduceSub, Nat.reduceMul, Nat.reduceLT, Nat.reduceLeDiff, Int.reduceAdd, Int.reduceSub, Int.reduceMul, Int.reduceLT, Int.reduceLE, Int.reduceEq, Int.reduceNeg, Int.reduceNe, Int.reduceGE, Int.reduceGT, Nat.reduceBEq, Int.reduceToNat,  spByte_f, spByte_t, spByte_k, takeP_eq, hn, b4]
      repeat (refine And.intro (by first | omega | (simp; done) | (simp; omega) | (unfold appRoom; omega)) ?_)
      refine ⟨_, _, _, ?_, h2 hn⟩
      simp (config := { maxSteps := 2000000 }) only [go_sem, hG, hP, Nat.reduceEqDiff, ↓reduceIte, reduceCtorEq, Nat.reduceAdd, Nat.reduceSub, Nat.reduceMul, Nat.reduceLT, Nat.reduceLeDiff, Int.reduceAdd, Int.reduceSub, Int.reduceMul, Int.reduceLT, Int.reduceLE, Int.reduceEq, Int.reduceNeg, Int.reduceNe, Int.reduceGE, Int.reduceGT, Nat.reduceBEq, Int.reduceToNat]
      all_goals simp
  · exact h0.elim
noncomputable def hashN (code : List Int) : Nat → Int
  | 0 => wr .i64 (71933 + (code.length : Int))
  | k + 1 => andV .i64 (wr .i64 (wr .i64 (wr .i64 (hashN code k * 131) + wr .i64 (code.getD k 0)) + 7)) 1073741823
def spNew : Spec := ⟨fun _ _ => [], fun args objs K => match args, objs with
  | [.rs .byte code], [] => code.length ≤ 1099511627776 ∧ K (.ptr 0 0) [(0, .box [.rs .byte code, .v (.int .i64 0), .v (.int .i64 (hashN code (min code.length 4000)))])] 1
  | _, _ => False, true⟩
theorem spNew_t {L : Hp} {a : List AVal} : Spec.take spNew L a = [] := id rfl
theorem spNew_k : Spec.keep spNew = true := id rfl
theorem spNew_f {code} {K : AVal → Hp → Nat → Prop} : Spec.f spNew ([.rs .byte code]) ([]) K = (code.length ≤ 1099511627776 ∧ K (.ptr 0 0) [(0, .box [.rs .byte code, .v (.int .i64 0), .v (.int .i64 (hashN code (min code.length 4000)))])] 1) := id rfl
theorem valid33 : Valid Try.prog 33 spNew := by
  refine validI (Γ := lk []) Try.func33 bod33 low33 res33 (good_of trivial) ?_
  intro E args objs K h hE hG hP
  simp only [spNew] at h
  split at h
  · refine ⟨by simp [Try.ntmps33], ?_⟩
    rename_i code
    obtain ⟨b1, h⟩ := h
    simp (config := { maxSteps := 2000000 }) only [go_sem, hG, hP, Nat.reduceEqDiff, ↓reduceIte, reduceCtorEq, Nat.reduceAdd, Nat.reduceSub, Nat.reduceMul, Nat.reduceLT, Nat.reduceLeDiff, Int.reduceAdd, Int.reduceSub, Int.reduceMul, Int.reduceLT, Int.reduceLE, Int.reduceEq, Int.reduceNeg, Int.reduceNe, Int.reduceGE, Int.reduceGT, Nat.reduceBEq, Int.reduceToNat]
    refine loopI hE (fun k : Nat => ⟨[(0, .rs .byte code), (2, .v (.pointer none)), (3, .v (.int .i64 (hashN code k))), (4, .v (.int .i64 k))], [], 0, Try.f33.ntmps⟩) (fun k => k ≤ min code.length 4000) (fun k => code.length - k) ⟨0, Nat.zero_le _, SubS.weak ?_⟩ ?_
    · simp (config := { maxSteps := 2000000 }) only [go_sem, hG, hP, Nat.reduceEqDiff, ↓reduceIte, reduceCtorEq, Nat.reduceAdd, Nat.reduceSub, Nat.reduceMul, Nat.reduceLT, Nat.reduceLeDiff, Int.reduceAdd, Int.reduceSub, Int.reduceMul, Int.reduceLT, Int.reduceLE, Int.reduceEq, Int.reduceNeg, Int.reduceNe, Int.reduceGE, Int.reduceGT, Nat.reduceBEq, Int.reduceToNat,  hashN]
      all_goals (first | simp | (with_reducible rfl))
    · intro k hk
      by_cases hk2 : k < min code.length 4000
      · have e1 : ((k : Int) < code.length) = True := by apply eq_true; omega
        have e2 : ((k : Int) < 4000) = True := by apply eq_true; omega
        simp (config := { maxSteps := 2000000 }) only [go_sem, hG, hP, Nat.reduceEqDiff, ↓reduceIte, reduceCtorEq, Nat.reduceAdd, Nat.reduceSub, Nat.reduceMul, Nat.reduceLT, Nat.reduceLeDiff, Int.reduceAdd, Int.reduceSub, Int.reduceMul, Int.reduceLT, Int.reduceLE, Int.reduceEq, Int.reduceNeg, Int.reduceNe, Int.reduceGE, Int.reduceGT, Nat.reduceBEq, Int.reduceToNat,  e1, e2]
        (try simp (disch := omega) only [wrap_id])
        repeat (refine And.intro (by first | omega | (simp; done) | (simp; omega) | (unfold appRoom; omega)) ?_)
        refine ⟨k + 1, ⟨by omega, by omega⟩, SubS.weak ?_⟩
        simp (config := { maxSteps := 2000000 }) only [go_sem, hG, hP, Nat.reduceEqDiff, ↓reduceIte, reduceCtorEq, Nat.reduceAdd, Nat.reduceSub, Nat.reduceMul, Nat.reduceLT, Nat.reduceLeDiff, Int.reduceAdd, Int.reduceSub, Int.reduceMul, Int.reduceLT, Int.reduceLE, Int.reduceEq, Int.reduceNeg, Int.reduceNe, Int.reduceGE, Int.reduceGT, Nat.reduceBEq, Int.reduceToNat,  hashN]
        all_goals simp
      · have hk3 : k = min code.length 4000 := by omega
        by_cases e1 : (k : Int) < code.length
        · have e2 : ((k : Int) < 4000) = False := by apply eq_false; omega
          simp (config := { maxSteps := 2000000 }) only [go_sem, hG, hP, Nat.reduceEqDiff, ↓reduceIte, reduceCtorEq, Nat.reduceAdd, Nat.reduceSub, Nat.reduceMul, Nat.reduceLT, Nat.reduceLeDiff, Int.reduceAdd, Int.reduceSub, Int.reduceMul, Int.reduceLT, Int.reduceLE, Int.reduceEq, Int.reduceNeg, Int.reduceNe, Int.reduceGE, Int.reduceGT, Nat.reduceBEq, Int.reduceToNat,  e1, e2]
          rw [← hk3] at h
          refine ⟨_, _, _, ?_, h⟩
          simp (config := { maxSteps := 2000000 }) only [go_sem, hG, hP, Nat.reduceEqDiff, ↓reduceIte, reduceCtorEq, Nat.reduceAdd, Nat.reduceSub, Nat.reduceMul, Nat.reduceLT, Nat.reduceLeDiff, Int.reduceAdd, Int.reduceSub, Int.reduceMul, Int.reduceLT, Int.reduceLE, Int.reduceEq, Int.reduceNeg, Int.reduceNe, Int.reduceGE, Int.reduceGT, Nat.reduceBEq, Int.reduceToNat]
          all_goals simp
        · simp (config := { maxSteps := 2000000 }) only [go_sem, hG, hP, Nat.reduceEqDiff, ↓reduceIte, reduceCtorEq, Nat.reduceAdd, Nat.reduceSub, Nat.reduceMul, Nat.reduceLT, Nat.reduceLeDiff, Int.reduceAdd, Int.reduceSub, Int.reduceMul, Int.reduceLT, Int.reduceLE, Int.reduceEq, Int.reduceNeg, Int.reduceNe, Int.reduceGE, Int.reduceGT, Nat.reduceBEq, Int.reduceToNat,  e1]
          rw [← hk3] at h
          refine ⟨_, _, _, ?_, h⟩
          simp (config := { maxSteps := 2000000 }) only [go_sem, hG, hP, Nat.reduceEqDiff, ↓reduceIte, reduceCtorEq, Nat.reduceAdd, Nat.reduceSub, Nat.reduceMul, Nat.reduceLT, Nat.reduceLeDiff, Int.reduceAdd, Int.reduceSub, Int.reduceMul, Int.reduceLT, Int.reduceLE, Int.reduceEq, Int.reduceNeg, Int.reduceNe, Int.reduceGE, Int.reduceGT, Nat.reduceBEq, Int.reduceToNat]
          all_goals simp
  · exact h.elim
end Go.Proofs.YtfjfaajdbomhbaaE

/-! The code of a function, in the engine's words. -/
namespace Go.Proofs.YtfjfaajdbomhbaaE
open Go Go.RowKit
@[reducible] def ic27 : IC := (.seq (.ops [⟨some 2, .mov (.const (.slice none 0 0)), none⟩]) (.seq (.ops [⟨some 4, .mov (.tmp 0), none⟩, ⟨some 5, .call 33 [(.tmp 4)], none⟩, ⟨some 3, .mov (.tmp 5), none⟩]) (.seq (.seq (.ops [⟨some 6, .mov (.tmp 3), none⟩, ⟨some 7, .call 35 [(.tmp 6), (.const (.int .i64 40))], none⟩]) (.cond (.tmp 7) (.seq (.ops [⟨some 8, .mov (.tmp 3), none⟩, ⟨some 9, .call 36 [(.tmp 8), (.const (.int .i64 2))], none⟩, ⟨some 10, .bin .add (.const (.int .i64 900)) (.tmp 9), none⟩, ⟨some 11, .mk .byte 1 (.tmp 10) (.tmp 10), none⟩, ⟨some 2, .mov (.tmp 11), none⟩]) .ret) .skip)) (.seq (.ops [⟨some 12, .mov (.tmp 3), none⟩, ⟨some 13, .mov (.tmp 3), none⟩, ⟨some 14, .mov (.tmp 0), none⟩, ⟨some 15, .call 38 [(.tmp 14), (.const (.int .i64 40))], none⟩, ⟨some 16, .bin .mul (.const (.int .i64 3)) (.tmp 15), none⟩, ⟨some 17, .call 36 [(.tmp 13), (.tmp 16)], none⟩, ⟨some 18, .call 37 [(.tmp 12), (.tmp 17)], none⟩, ⟨some 2, .mov (.tmp 18), none⟩]) .ret))))
@[reducible] def rv27 : List RV := [.tmp 2]
theorem low27 : lowC Try.prog tau Try.f27.ntmps (Try.f27.body.getD .skip) = some (erase ic27) := by kernel_rfl
theorem res27 : lowR Try.prog Try.f27.results.toList = some rv27 := by kernel_rfl
theorem bod27 : Try.f27.body = some (Try.f27.body.getD .skip) := by kernel_rfl
theorem cal27 : callable Try.prog 27 = true := by kernel_rfl

end Go.Proofs.YtfjfaajdbomhbaaE

/-! The code of a function, in the engine's words. -/
namespace Go.Proofs.YtfjfaajdbomhbaaE
open Go Go.RowKit
@[reducible] def ic35 : IC := (.seq (.ops [⟨some 4, .mov (.const (.bool false)), none⟩]) (.seq (.ops [⟨some 5, .mov (.tmp 0), none⟩, ⟨some 6, .mov (.tmp 1), none⟩, ⟨some 7, .call 36 [(.tmp 5), (.tmp 6)], none⟩, ⟨some 8, .bin .eql (.tmp 7) (.const (.int .i64 0)), none⟩, ⟨some 4, .mov (.tmp 8), none⟩]) .ret))
@[reducible] def rv35 : List RV := [.tmp 4]
theorem low35 : lowC Try.prog tau Try.f35.ntmps (Try.f35.body.getD .skip) = some (erase ic35) := by kernel_rfl
theorem res35 : lowR Try.prog Try.f35.results.toList = some rv35 := by kernel_rfl
theorem bod35 : Try.f35.body = some (Try.f35.body.getD .skip) := by kernel_rfl
theorem cal35 : callable Try.prog 35 = true := by kernel_rfl

end Go.Proofs.YtfjfaajdbomhbaaE

/-! The code of a function, in the engine's words. -/
namespace Go.Proofs.YtfjfaajdbomhbaaE
open Go Go.RowKit
@[reducible] def ic37 : IC := (.seq (.ops [⟨some 4, .mov (.const (.slice none 0 0)), none⟩]) (.seq (.ops [⟨some 7, .blds .byte 0 [], none⟩, ⟨some 5, .mov (.tmp 7), none⟩]) (.seq (.seq (.ops [⟨some 6, .mov (.const (.int .i64 0)), none⟩]) (.block 0 (.loop (.seq (.seq (.ops [⟨some 8, .mov (.tmp 6), none⟩, ⟨some 9, .mov (.tmp 1), none⟩, ⟨some 10, .bin .lss (.tmp 8) (.tmp 9), none⟩]) (.cond (.tmp 10) .skip (.exit 0))) (.seq (.block 1 (.ops [⟨some 13, .mov (.tmp 5), none⟩, ⟨some 14, .mov (.tmp 0), none⟩, ⟨some 15, .call 40 [(.tmp 14)], none⟩, ⟨some 16, .cvi .u8 (.tmp 15), none⟩, ⟨some 17, .blds .byte 1 [(0, 1, (.tmp 16))], none⟩, ⟨some 18, .app .byte 1 (.tmp 13) (.tmp 17), none⟩, ⟨some 5, .mov (.tmp 18), none⟩])) (.ops [⟨some 11, .mov (.tmp 6), none⟩, ⟨some 12, .bin .add (.tmp 11) (.const (.int .i64 1)), none⟩, ⟨some 6, .mov (.tmp 12), none⟩])))))) (.seq (.ops [⟨some 19, .mov (.tmp 5), none⟩, ⟨some 4, .mov (.tmp 19), none⟩]) .ret))))
@[reducible] def rv37 : List RV := [.tmp 4]
theorem low37 : lowC Try.prog tau Try.f37.ntmps (Try.f37.body.getD .skip) = some (erase ic37) := by kernel_rfl
theorem res37 : lowR Try.prog Try.f37.results.toList = some rv37 := by kernel_rfl
theorem bod37 : Try.f37.body = some (Try.f37.body.getD .skip) := by kernel_rfl
theorem cal37 : callable Try.prog 37 = true := by kernel_rfl

end Go.Proofs.YtfjfaajdbomhbaaE

/-! The code of a function, in the engine's words. -/
namespace Go.Proofs.YtfjfaajdbomhbaaE
open Go Go.RowKit
@[reducible] def ic38 : IC := (.seq (.ops [⟨some 4, .mov (.const (.int .i64 0)), none⟩]) (.seq (.ops [⟨some 6, .mov (.tmp 0), none⟩, ⟨some 7, .len (.tmp 6), none⟩, ⟨some 8, .bin .quo (.tmp 7) (.const (.int .i64 20)), none⟩, ⟨some 9, .bin .add (.const (.int .i64 2)) (.tmp 8), none⟩, ⟨some 5, .mov (.tmp 9), none⟩]) (.seq (.seq (.ops [⟨some 10, .mov (.tmp 5), none⟩, ⟨some 11, .mov (.tmp 1), none⟩, ⟨some 12, .bin .gtr (.tmp 10) (.tmp 11), none⟩]) (.cond (.tmp 12) (.seq (.ops [⟨some 13, .mov (.tmp 1), none⟩, ⟨some 4, .mov (.tmp 13), none⟩]) .ret) .skip)) (.seq (.ops [⟨some 14, .mov (.tmp 5), none⟩, ⟨some 4, .mov (.tmp 14), none⟩]) .ret))))
@[reducible] def rv38 : List RV := [.tmp 4]
theorem low38 : lowC Try.prog tau Try.f38.ntmps (Try.f38.body.getD .skip) = some (erase ic38) := by kernel_rfl
theorem res38 : lowR Try.prog Try.f38.results.toList = some rv38 := by kernel_rfl
theorem bod38 : Try.f38.body = some (Try.f38.body.getD .skip) := by kernel_rfl
theorem cal38 : callable Try.prog 38 = true := by kernel_rfl

end Go.Proofs.YtfjfaajdbomhbaaE

/-! Bytes are drawn. -/
namespace Go.Proofs.YtfjfaajdbomhbaaE
open Go Go.RowKit
set_option linter.unusedSimpArgs false
set_option linter.unusedVariables false
set_option maxRecDepth 50000
set_option maxHeartbeats 8000000

def spBelowA : Spec := ⟨fun _ => takeP, fun args objs K => match args, objs with
  | [.ptr 0 0, .v (.int .i64 n)], [.box [.rs .byte b, .v (.int .i64 i), .v (.int .i64 h)]] => ((0 ≤ i ∧ i ≤ b.length ∧ b.length ≤ 1099511627776) ∧ n ≤ 256) ∧
      ∀ x i' h' : Int, (0 ≤ x ∧ x ≤ 255 ∧ (0 < n → x < n)) ∧ (0 ≤ i' ∧ i' ≤ b.length) → K (.v (.int .i64 x)) [(0, .box [.rs .byte b, .v (.int .i64 i'), .v (.int .i64 h')])] 1
  | _, _ => False, true⟩
theorem spBelowA_t {L : Hp} {a : List AVal} : Spec.take spBelowA L a = takeP a := id rfl
theorem spBelowA_k : Spec.keep spBelowA = true := id rfl
theorem spBelowA_f {n} {b} {i} {h} {K : AVal → Hp → Nat → Prop} : Spec.f spBelowA ([.ptr 0 0, .v (.int .i64 n)]) ([.box [.rs .byte b, .v (.int .i64 i), .v (.int .i64 h)]]) K = (((0 ≤ i ∧ i ≤ b.length ∧ b.length ≤ 1099511627776) ∧ n ≤ 256) ∧
      ∀ x i' h' : Int, (0 ≤ x ∧ x ≤ 255 ∧ (0 < n → x < n)) ∧ (0 ≤ i' ∧ i' ≤ b.length) → K (.v (.int .i64 x)) [(0, .box [.rs .byte b, .v (.int .i64 i'), .v (.int .i64 h')])] 1) := id rfl
theorem valid36A : Valid Try.prog 36 spBelowA := by
  intro W C ρ args vals objs K hd hp h
  refine valid36 W C ρ args vals objs K hd hp ?_
  simp only [spBelowA] at h
  split at h
  · rename_i n b i h'
    obtain ⟨⟨⟨b1, b2, b3⟩, b4⟩, h⟩ := h
    refine ⟨⟨⟨b1, b2, b3⟩, b4⟩, fun hn => h _ _ _ ⟨⟨by omega, by omega, by omega⟩, b1, b2⟩, fun hn => h _ _ _ ⟨?_, curI_bd ⟨b1, b2⟩⟩⟩
    have hx := curX_bd b i h'
    rw [Int.tmod_eq_emod_of_nonneg hx.1]
    have h1 := Int.emod_nonneg (curX b i h') (show n ≠ 0 by omega)
    have h2 := Int.emod_lt_of_pos (curX b i h') (show 0 < n by omega)
    exact ⟨h1, by omega, fun _ => h2⟩
  · exact h.elim
def spOnceA : Spec := ⟨fun _ => takeP, fun args objs K => match args, objs with
  | [.ptr 0 0, .v (.int .i64 n)], [.box [.rs .byte b, .v (.int .i64 i), .v (.int .i64 h)]] => ((0 ≤ i ∧ i ≤ b.length ∧ b.length ≤ 1099511627776) ∧ n ≤ 256) ∧
      ∀ (c : Bool) (i' h' : Int), (0 ≤ i' ∧ i' ≤ b.length) → K (.v (.bool c)) [(0, .box [.rs .byte b, .v (.int .i64 i'), .v (.int .i64 h')])] 1
  | _, _ => False, true⟩
theorem spOnceA_t {L : Hp} {a : List AVal} : Spec.take spOnceA L a = takeP a := id rfl
theorem spOnceA_k : Spec.keep spOnceA = true := id rfl
theorem spOnceA_f {n} {b} {i} {h} {K : AVal → Hp → Nat → Prop} : Spec.f spOnceA ([.ptr 0 0, .v (.int .i64 n)]) ([.box [.rs .byte b, .v (.int .i64 i), .v (.int .i64 h)]]) K = (((0 ≤ i ∧ i ≤ b.length ∧ b.length ≤ 1099511627776) ∧ n ≤ 256) ∧
      ∀ (c : Bool) (i' h' : Int), (0 ≤ i' ∧ i' ≤ b.length) → K (.v (.bool c)) [(0, .box [.rs .byte b, .v (.int .i64 i'), .v (.int .i64 h')])] 1) := id rfl
theorem valid35 : Valid Try.prog 35 spOnceA := by
  refine validI (Γ := lk [(36, spBelowA)]) Try.func35 bod35 low35 res35 (good_of ⟨⟨cal36, valid36A⟩, trivial⟩) ?_
  intro E args objs K h0 hE hG hP
  simp only [spOnceA] at h0
  split at h0
  · refine ⟨by simp [Try.ntmps35], ?_⟩
    rename_i n b i h
    obtain ⟨⟨⟨b1, b2, b3⟩, b4⟩, h0⟩ := h0
    simp (config := { maxSteps := 2000000 }) only [go_sem, hG, hP, Nat.reduceEqDiff, ↓reduceIte, reduceCtorEq, Nat.reduceAdd, Nat.reduceSub, Nat.reduceMul, Nat.reduceLT, Nat.reduceLeDiff, Int.reduceAdd, Int.reduceSub, Int.reduceMul, Int.reduceLT, Int.reduceLE, Int.reduceEq, Int.reduceNeg, Int.reduceNe, Int.reduceGE, Int.reduceGT, Nat.reduceBEq, Int.reduceToNat,  spBelowA_f, spBelowA_t, spBelowA_k, takeP_eq]
    repeat (refine And.intro (by first | omega | (simp; done) | (simp; omega) | (unfold appRoom; omega)) ?_)
    rintro x i' h' ⟨hx, hi⟩
    refine ⟨_, _, _, ?_, h0 (decide (x = 0)) i' h' hi⟩
    simp (config := { maxSteps := 2000000 }) only [go_sem, hG, hP, Nat.reduceEqDiff, ↓reduceIte, reduceCtorEq, Nat.reduceAdd, Nat.reduceSub, Nat.reduceMul, Nat.reduceLT, Nat.reduceLeDiff, Int.reduceAdd, Int.reduceSub, Int.reduceMul, Int.reduceLT, Int.reduceLE, Int.reduceEq, Int.reduceNeg, Int.reduceNe, Int.reduceGE, Int.reduceGT, Nat.reduceBEq, Int.reduceToNat]
    all_goals simp
  · exact h0.elim
def sizeV (n : Nat) (m : Int) : Int := if 2 + (n : Int).tdiv 20 > m then m else 2 + (n : Int).tdiv 20
theorem sizeV_bd (n : Nat) {m : Int} (h : 2 ≤ m) : 2 ≤ sizeV n m ∧ sizeV n m ≤ m := by
  unfold sizeV
  have : 0 ≤ (n : Int).tdiv 20 := Int.tdiv_nonneg (by omega) (by omega)
  split <;> omega
def spSize : Spec := ⟨fun _ _ => [], fun args objs K => match args, objs with
  | [.rs .byte b, .v (.int .i64 m)], [] => b.length ≤ 1099511627776 ∧ K (.v (.int .i64 (sizeV b.length m))) [] 0
  | _, _ => False, false⟩
theorem spSize_t {L : Hp} {a : List AVal} : Spec.take spSize L a = [] := id rfl
theorem spSize_k : Spec.keep spSize = false := id rfl
theorem spSize_f {b} {m} {K : AVal → Hp → Nat → Prop} : Spec.f spSize ([.rs .byte b, .v (.int .i64 m)]) ([]) K = (b.length ≤ 1099511627776 ∧ K (.v (.int .i64 (sizeV b.length m))) [] 0) := id rfl
theorem valid38 : Valid Try.prog 38 spSize := by
  refine validI (Γ := lk []) Try.func38 bod38 low38 res38 (good_of trivial) ?_
  intro E args objs K h hE hG hP
  simp only [spSize, sizeV] at h
  split at h
  · refine ⟨by simp [Try.ntmps38], ?_⟩
    rename_i b m
    obtain ⟨b1, h⟩ := h
    have e1 : wr .i64 ((b.length : Int).tdiv 20) = (b.length : Int).tdiv 20 := wrap_id (by rw [Int.tdiv_eq_ediv_of_nonneg (by omega)]; omega) (by rw [Int.tdiv_eq_ediv_of_nonneg (by omega)]; omega)
    have e2 : wr .i64 (2 + (b.length : Int).tdiv 20) = 2 + (b.length : Int).tdiv 20 := wrap_id (by rw [Int.tdiv_eq_ediv_of_nonneg (by omega)]; omega) (by rw [Int.tdiv_eq_ediv_of_nonneg (by omega)]; omega)
    simp (config := { maxSteps := 2000000 }) only [go_sem, hG, hP, Nat.reduceEqDiff, ↓reduceIte, reduceCtorEq, Nat.reduceAdd, Nat.reduceSub, Nat.reduceMul, Nat.reduceLT, Nat.reduceLeDiff, Int.reduceAdd, Int.reduceSub, Int.reduceMul, Int.reduceLT, Int.reduceLE, Int.reduceEq, Int.reduceNeg, Int.reduceNe, Int.reduceGE, Int.reduceGT, Nat.reduceBEq, Int.reduceToNat,  e1, e2]
    repeat (refine And.intro (by first | omega | (simp; done) | (simp; omega) | (unfold appRoom; omega)) ?_)
    refine ⟨fun h1 => ⟨_, _, _, ?_, h⟩, fun h1 => ⟨_, _, _, ?_, h⟩⟩
    · simp (config := { maxSteps := 2000000 }) only [go_sem, hG, hP, Nat.reduceEqDiff, ↓reduceIte, reduceCtorEq, Nat.reduceAdd, Nat.reduceSub, Nat.reduceMul, Nat.reduceLT, Nat.reduceLeDiff, Int.reduceAdd, Int.reduceSub, Int.reduceMul, Int.reduceLT, Int.reduceLE, Int.reduceEq, Int.reduceNeg, Int.reduceNe, Int.reduceGE, Int.reduceGT, Nat.reduceBEq, Int.reduceToNat]
      rw [if_pos h1]
    · simp (config := { maxSteps := 2000000 }) only [go_sem, hG, hP, Nat.reduceEqDiff, ↓reduceIte, reduceCtorEq, Nat.reduceAdd, Nat.reduceSub, Nat.reduceMul, Nat.reduceLT, Nat.reduceLeDiff, Int.reduceAdd, Int.reduceSub, Int.reduceMul, Int.reduceLT, Int.reduceLE, Int.reduceEq, Int.reduceNeg, Int.reduceNe, Int.reduceGE, Int.reduceGT, Nat.reduceBEq, Int.reduceToNat]
      rw [if_neg h1]
  · exact h.elim
def spDrawB : Spec := ⟨fun _ => takeP, fun args objs K => match args, objs with
  | [.ptr 0 0, .v (.int .i64 n)], [.box [.rs .byte b, .v (.int .i64 i), .v (.int .i64 h)]] => ((0 ≤ i ∧ i ≤ b.length ∧ b.length ≤ 1099511627776) ∧ n ≤ 256) ∧
      ∀ (ys : List Int) (i' h' : Int), (0 ≤ i' ∧ i' ≤ b.length) ∧ ys.length ≤ 256 → K (.sub 1 1 0 ys.length) [(0, .box [.rs .byte b, .v (.int .i64 i'), .v (.int .i64 h')]), (1, .row .byte ys)] 2
  | _, _ => False, true⟩
theorem spDrawB_t {L : Hp} {a : List AVal} : Spec.take spDrawB L a = takeP a := id rfl
theorem spDrawB_k : Spec.keep spDrawB = true := id rfl
theorem spDrawB_f {n} {b} {i} {h} {K : AVal → Hp → Nat → Prop} : Spec.f spDrawB ([.ptr 0 0, .v (.int .i64 n)]) ([.box [.rs .byte b, .v (.int .i64 i), .v (.int .i64 h)]]) K = (((0 ≤ i ∧ i ≤ b.length ∧ b.length ≤ 1099511627776) ∧ n ≤ 256) ∧
      ∀ (ys : List Int) (i' h' : Int), (0 ≤ i' ∧ i' ≤ b.length) ∧ ys.length ≤ 256 → K (.sub 1 1 0 ys.length) [(0, .box [.rs .byte b, .v (.int .i64 i'), .v (.int .i64 h')]), (1, .row .byte ys)] 2) := id rfl
theorem valid37 : Valid Try.prog 37 spDrawB := by
  refine validI (Γ := lk [(40, spByteA)]) Try.func37 bod37 low37 res37 (good_of ⟨⟨cal40, valid40A⟩, trivial⟩) ?_
  intro E args objs K h0 hE hG hP
  simp only [spDrawB] at h0
  split at h0
  · refine ⟨by simp [Try.ntmps37], ?_⟩
    rename_i n b i h
    obtain ⟨⟨⟨b1, b2, b3⟩, b4⟩, h0⟩ := h0
    simp (config := { maxSteps := 2000000 }) only [go_sem, hG, hP, Nat.reduceEqDiff, ↓reduceIte, reduceCtorEq, Nat.reduceAdd, Nat.reduceSub, Nat.reduceMul, Nat.reduceLT, Nat.reduceLeDiff, Int.reduceAdd, Int.reduceSub, Int.reduceMul, Int.reduceLT, Int.reduceLE, Int.reduceEq, Int.reduceNeg, Int.reduceNe, Int.reduceGE, Int.reduceGT, Nat.reduceBEq, Int.reduceToNat]
    refine loopI hE (fun p : Nat × List Int × Int × Int => ⟨[(0, .ptr 0 0), (1, .v (.int .i64 n)), (5, .sub 1 1 0 p.2.1.length), (6, .v (.int .i64 p.1))], [(0, .box [.rs .byte b, .v (.int .i64 p.2.2.1), .v (.int .i64 p.2.2.2)]), (1, .row .byte p.2.1)], 2, Try.f37.ntmps⟩) (fun p => p.1 ≤ 256 ∧ p.2.1.length = p.1 ∧ (0 ≤ p.2.2.1 ∧ p.2.2.1 ≤ b.length)) (fun p => 256 - p.1) ⟨(0, [], i, h), ⟨by dsimp only; omega, rfl, b1, b2⟩, SubS.weak ?_⟩ ?_
    · simp (config := { maxSteps := 2000000 }) only [go_sem, hG, hP, Nat.reduceEqDiff, ↓reduceIte, reduceCtorEq, Nat.reduceAdd, Nat.reduceSub, Nat.reduceMul, Nat.reduceLT, Nat.reduceLeDiff, Int.reduceAdd, Int.reduceSub, Int.reduceMul, Int.reduceLT, Int.reduceLE, Int.reduceEq, Int.reduceNeg, Int.reduceNe, Int.reduceGE, Int.reduceGT, Nat.reduceBEq, Int.reduceToNat]
      repeat' (first | with_reducible rfl | (refine And.intro ?_ ?_) | (refine congrArg (Value.int _) ?_; omega) | omega)
    · rintro ⟨k, ys, i1, h1⟩ ⟨k1, k2, k3, k4⟩
      dsimp only at k1 k2 k3 k4 ⊢
      by_cases hk : (k : Int) < n
      · have e1 := eq_true hk
        simp (config := { maxSteps := 2000000 }) only [go_sem, hG, hP, Nat.reduceEqDiff, ↓reduceIte, reduceCtorEq, Nat.reduceAdd, Nat.reduceSub, Nat.reduceMul, Nat.reduceLT, Nat.reduceLeDiff, Int.reduceAdd, Int.reduceSub, Int.reduceMul, Int.reduceLT, Int.reduceLE, Int.reduceEq, Int.reduceNeg, Int.reduceNe, Int.reduceGE, Int.reduceGT, Nat.reduceBEq, Int.reduceToNat,  e1, spByteA_f, spByteA_t, spByteA_k, takeP_eq]
        (try simp (disch := omega) only [wrap_id])
        repeat (refine And.intro (by first | omega | (simp; done) | (simp; omega) | (unfold appRoom; omega)) ?_)
        rintro x i2 h2 ⟨hx, hi⟩
        refine ⟨by unfold appRoom; omega, (k + 1, ys ++ [wr .u8 x], i2, h2), ⟨⟨by dsimp only; omega, by simp; omega, hi⟩, by dsimp only; omega⟩, SubS.weak ?_⟩
        simp (config := { maxSteps := 2000000 }) only [go_sem, hG, hP, Nat.reduceEqDiff, ↓reduceIte, reduceCtorEq, Nat.reduceAdd, Nat.reduceSub, Nat.reduceMul, Nat.reduceLT, Nat.reduceLeDiff, Int.reduceAdd, Int.reduceSub, Int.reduceMul, Int.reduceLT, Int.reduceLE, Int.reduceEq, Int.reduceNeg, Int.reduceNe, Int.reduceGE, Int.reduceGT, Nat.reduceBEq, Int.reduceToNat]
        repeat' (first | with_reducible rfl | (refine And.intro ?_ ?_) | (refine congrArg (Value.int _) ?_; omega) | omega)
        all_goals simp
      · have e1 := eq_false hk
        simp (config := { maxSteps := 2000000 }) only [go_sem, hG, hP, Nat.reduceEqDiff, ↓reduceIte, reduceCtorEq, Nat.reduceAdd, Nat.reduceSub, Nat.reduceMul, Nat.reduceLT, Nat.reduceLeDiff, Int.reduceAdd, Int.reduceSub, Int.reduceMul, Int.reduceLT, Int.reduceLE, Int.reduceEq, Int.reduceNeg, Int.reduceNe, Int.reduceGE, Int.reduceGT, Nat.reduceBEq, Int.reduceToNat,  e1]
        refine ⟨_, _, _, ?_, h0 ys i1 h1 ⟨⟨k3, k4⟩, by omega⟩⟩
        simp (config := { maxSteps := 2000000 }) only [go_sem, hG, hP, Nat.reduceEqDiff, ↓reduceIte, reduceCtorEq, Nat.reduceAdd, Nat.reduceSub, Nat.reduceMul, Nat.reduceLT, Nat.reduceLeDiff, Int.reduceAdd, Int.reduceSub, Int.reduceMul, Int.reduceLT, Int.reduceLE, Int.reduceEq, Int.reduceNeg, Int.reduceNe, Int.reduceGE, Int.reduceGT, Nat.reduceBEq, Int.reduceToNat]
        repeat' (first | with_reducible rfl | (refine And.intro ?_ ?_) | (refine congrArg (Value.int _) ?_; omega) | omega)
  · exact h0.elim
def spDrawCells : Spec := ⟨fun _ _ => [], fun args objs K => match args, objs with
  | [.rs .byte code], [] => code.length ≤ 1099511627776 ∧ ∀ b : List Int, b.length ≤ 1000 → K (.sub 0 1 0 b.length) [(0, .row .byte b)] 1
  | _, _ => False, false⟩
theorem spDrawCells_t {L : Hp} {a : List AVal} : Spec.take spDrawCells L a = [] := id rfl
theorem spDrawCells_k : Spec.keep spDrawCells = false := id rfl
theorem spDrawCells_f {code} {K : AVal → Hp → Nat → Prop} : Spec.f spDrawCells ([.rs .byte code]) ([]) K = (code.length ≤ 1099511627776 ∧ ∀ b : List Int, b.length ≤ 1000 → K (.sub 0 1 0 b.length) [(0, .row .byte b)] 1) := id rfl
theorem valid27 : Valid Try.prog 27 spDrawCells := by
  refine validI (Γ := lk [(33, spNew), (35, spOnceA), (36, spBelowA), (37, spDrawB), (38, spSize)]) Try.func27 bod27 low27 res27 (good_of ⟨⟨cal33, valid33⟩, ⟨cal35, valid35⟩, ⟨cal36, valid36A⟩, ⟨cal37, valid37⟩, ⟨cal38, valid38⟩, trivial⟩) ?_
  intro E args objs K h hE hG hP
  simp only [spDrawCells] at h
  split at h
  · refine ⟨by simp [Try.ntmps27], ?_⟩
    rename_i code
    obtain ⟨b1, h⟩ := h
    have hsz := sizeV_bd code.length (m := 40) (by omega)
    have w3 : wr .i64 (3 * sizeV code.length 40) = 3 * sizeV code.length 40 := wrap_id (by omega) (by omega)
    simp (config := { maxSteps := 2000000 }) only [go_sem, hG, hP, Nat.reduceEqDiff, ↓reduceIte, reduceCtorEq, Nat.reduceAdd, Nat.reduceSub, Nat.reduceMul, Nat.reduceLT, Nat.reduceLeDiff, Int.reduceAdd, Int.reduceSub, Int.reduceMul, Int.reduceLT, Int.reduceLE, Int.reduceEq, Int.reduceNeg, Int.reduceNe, Int.reduceGE, Int.reduceGT, Nat.reduceBEq, Int.reduceToNat,  spNew_f, spNew_t, spNew_k, spOnceA_f, spOnceA_t, spOnceA_k, spBelowA_f, spBelowA_t, spBelowA_k, spDrawB_f, spDrawB_t, spDrawB_k, spSize_f, spSize_t, spSize_k, takeP_eq, w3]
    repeat (refine And.intro (by first | omega | (simp; done) | (simp; omega) | (unfold appRoom; omega)) ?_)
    intro c i1 hi
    obtain ⟨i2, i3⟩ := hi
    refine ⟨fun _ => ⟨⟨i2, i3, b1⟩, fun x i' h' hx => ?_⟩, fun _ => ⟨b1, ⟨⟨i2, i3, b1⟩, by omega⟩, fun x i' hx => ⟨⟨⟨hx.2.1, hx.2.2, b1⟩, by omega⟩, fun ys i4 h4 hy => ?_⟩⟩⟩
    · obtain ⟨⟨x0, x1, x2⟩, x3, x4⟩ := hx
      have w9 : wr .i64 (900 + x) = 900 + x := wrap_id (by omega) (by omega)
      rw [w9]
      refine ⟨⟨by omega, by unfold appRoom; omega, by omega⟩, ?_⟩
      refine ⟨_, _, _, ?_, h (List.replicate (900 + x).toNat 0) (by rw [List.length_replicate]; omega)⟩
      simp (config := { maxSteps := 2000000 }) only [go_sem, hG, hP, Nat.reduceEqDiff, ↓reduceIte, reduceCtorEq, Nat.reduceAdd, Nat.reduceSub, Nat.reduceMul, Nat.reduceLT, Nat.reduceLeDiff, Int.reduceAdd, Int.reduceSub, Int.reduceMul, Int.reduceLT, Int.reduceLE, Int.reduceEq, Int.reduceNeg, Int.reduceNe, Int.reduceGE, Int.reduceGT, Nat.reduceBEq, Int.reduceToNat]
      repeat' (first | with_reducible rfl | (refine And.intro ?_ ?_) | (refine congrArg (Value.int _) ?_; omega) | omega)
      all_goals simp
    · refine ⟨_, _, _, ?_, h ys (by omega)⟩
      simp (config := { maxSteps := 2000000 }) only [go_sem, hG, hP, Nat.reduceEqDiff, ↓reduceIte, reduceCtorEq, Nat.reduceAdd, Nat.reduceSub, Nat.reduceMul, Nat.reduceLT, Nat.reduceLeDiff, Int.reduceAdd, Int.reduceSub, Int.reduceMul, Int.reduceLT, Int.reduceLE, Int.reduceEq, Int.reduceNeg, Int.reduceNe, Int.reduceGE, Int.reduceGT, Nat.reduceBEq, Int.reduceToNat]
      repeat' (first | with_reducible rfl | (refine And.intro ?_ ?_) | (refine congrArg (Value.int _) ?_; omega) | omega)
  · exact h.elim
end Go.Proofs.YtfjfaajdbomhbaaE

/-! The code of a function, in the engine's words. -/
namespace Go.Proofs.YtfjfaajdbomhbaaE
open Go Go.RowKit
@[reducible] def ic34 : IC := (.seq (.ops [⟨some 2, .new [(.int .u8 0), (.int .u8 0), (.int .u8 0), (.int .u8 0), (.int .u8 0), (.int .u8 0), (.int .u8 0), (.int .u8 0), (.int .u8 0), (.int .u8 0), (.int .u8 0), (.int .u8 0), (.int .u8 0), (.int .u8 0), (.int .u8 0), (.int .u8 0)], none⟩]) (.seq (.ops [⟨some 6, .bld [(.int .u8 0), (.int .u8 0), (.int .u8 0), (.int .u8 0), (.int .u8 0), (.int .u8 0), (.int .u8 0), (.int .u8 0), (.int .u8 0), (.int .u8 0), (.int .u8 0), (.int .u8 0), (.int .u8 0), (.int .u8 0), (.int .u8 0), (.int .u8 0)] [], none⟩, ⟨some 3, .new [(.int .u8 0), (.int .u8 0), (.int .u8 0), (.int .u8 0), (.int .u8 0), (.int .u8 0), (.int .u8 0), (.int .u8 0), (.int .u8 0), (.int .u8 0), (.int .u8 0), (.int .u8 0), (.int .u8 0), (.int .u8 0), (.int .u8 0), (.int .u8 0)], none⟩, ⟨none, .store 16 (.tmp 3) (.tmp 6), none⟩]) (.seq (.ops [⟨some 7, .mov (.tmp 0), none⟩, ⟨some 8, .call 36 [(.tmp 7), (.const (.int .i64 15))], none⟩, ⟨some 9, .bin .add (.const (.int .i64 1)) (.tmp 8), none⟩, ⟨some 4, .mov (.tmp 9), none⟩]) (.seq (.seq (.ops [⟨some 5, .mov (.const (.int .i64 1)), none⟩]) (.block 0 (.loop (.seq (.seq (.ops [⟨some 10, .mov (.tmp 5), none⟩, ⟨some 11, .mov (.tmp 4), none⟩, ⟨some 12, .bin .leq (.tmp 10) (.tmp 11), none⟩]) (.cond (.tmp 12) .skip (.exit 0))) (.seq (.block 1 (.ops [⟨some 15, .mov (.tmp 5), none⟩, ⟨some 16, .mov (.tmp 0), none⟩, ⟨some 17, .call 40 [(.tmp 16)], none⟩, ⟨some 18, .cvi .u8 (.tmp 17), none⟩, ⟨some 19, .iarr 1 16 (.tmp 3) (.tmp 15), none⟩, ⟨none, .store 1 (.tmp 19) (.tmp 18), none⟩])) (.ops [⟨some 13, .mov (.tmp 5), none⟩, ⟨some 14, .bin .add (.tmp 13) (.const (.int .i64 1)), none⟩, ⟨some 5, .mov (.tmp 14), none⟩])))))) (.seq (.ops [⟨some 20, .mov (.tmp 4), none⟩, ⟨some 21, .mov (.tmp 0), none⟩, ⟨some 22, .call 36 [(.tmp 21), (.const (.int .i64 16))], none⟩, ⟨some 23, .bin .mul (.const (.int .i64 16)) (.tmp 22), none⟩, ⟨some 24, .bin .add (.tmp 20) (.tmp 23), none⟩, ⟨some 25, .cvi .u8 (.tmp 24), none⟩, ⟨some 26, .iarr 1 16 (.tmp 3) (.const (.int .i64 0)), none⟩, ⟨none, .store 1 (.tmp 26) (.tmp 25), none⟩]) (.seq (.ops [⟨some 27, .load 16 true (.tmp 3), none⟩, ⟨none, .store 16 (.tmp 2) (.tmp 27), none⟩]) .ret))))))
@[reducible] def rv34 : List RV := [.cell 2 16 true]
theorem low34 : lowC Try.prog tau Try.f34.ntmps (Try.f34.body.getD .skip) = some (erase ic34) := by kernel_rfl
theorem res34 : lowR Try.prog Try.f34.results.toList = some rv34 := by kernel_rfl
theorem bod34 : Try.f34.body = some (Try.f34.body.getD .skip) := by kernel_rfl
theorem cal34 : callable Try.prog 34 = true := by kernel_rfl

end Go.Proofs.YtfjfaajdbomhbaaE

/-! The code of a function, in the engine's words. -/
namespace Go.Proofs.YtfjfaajdbomhbaaE
open Go Go.RowKit
@[reducible] def ic18 : IC := (.seq (.ops [⟨some 2, .new [(.int .u8 0), (.int .u8 0), (.int .u8 0), (.int .u8 0), (.int .u8 0), (.int .u8 0), (.int .u8 0), (.int .u8 0), (.int .u8 0), (.int .u8 0), (.int .u8 0), (.int .u8 0), (.int .u8 0), (.int .u8 0), (.int .u8 0), (.int .u8 0)], none⟩, ⟨some 3, .new [(.int .u8 0), (.int .u8 0), (.int .u8 0), (.int .u8 0), (.int .u8 0), (.int .u8 0), (.int .u8 0), (.int .u8 0), (.int .u8 0), (.int .u8 0), (.int .u8 0), (.int .u8 0), (.int .u8 0), (.int .u8 0), (.int .u8 0), (.int .u8 0)], none⟩]) (.seq (.ops [⟨some 5, .mov (.tmp 0), none⟩, ⟨some 6, .call 33 [(.tmp 5)], none⟩, ⟨some 4, .mov (.tmp 6), none⟩]) (.seq (.ops [⟨some 7, .mov (.tmp 4), none⟩, ⟨some 8, .call 34 [(.tmp 7)], none⟩, ⟨some 9, .mov (.tmp 4), none⟩, ⟨some 10, .call 34 [(.tmp 9)], none⟩, ⟨none, .store 16 (.tmp 2) (.tmp 8), none⟩, ⟨none, .store 16 (.tmp 3) (.tmp 10), none⟩]) .ret)))
@[reducible] def rv18 : List RV := [.cell 2 16 true, .cell 3 16 true]
theorem low18 : lowC Try.prog tau Try.f18.ntmps (Try.f18.body.getD .skip) = some (erase ic18) := by kernel_rfl
theorem res18 : lowR Try.prog Try.f18.results.toList = some rv18 := by kernel_rfl
theorem bod18 : Try.f18.body = some (Try.f18.body.getD .skip) := by kernel_rfl
theorem cal18 : callable Try.prog 18 = true := by kernel_rfl

end Go.Proofs.YtfjfaajdbomhbaaE

/-! The code of a function, in the engine's words. -/
namespace Go.Proofs.YtfjfaajdbomhbaaE
open Go Go.RowKit
@[reducible] def ic19 : IC := (.seq (.ops [⟨some 4, .mov (.const (.int .i64 0)), none⟩]) (.seq (.seq (.ops [⟨some 5, .mov (.tmp 1), none⟩, ⟨some 6, .mov (.tmp 0), none⟩, ⟨some 7, .len (.tmp 6), none⟩, ⟨some 8, .bin .lss (.tmp 5) (.tmp 7), none⟩]) (.cond (.tmp 8) (.seq (.ops [⟨some 9, .mov (.tmp 0), none⟩, ⟨some 10, .mov (.tmp 1), none⟩, ⟨some 11, .iadr 1 (.tmp 9) (.tmp 10), none⟩, ⟨some 12, .load 1 false (.tmp 11), none⟩, ⟨some 13, .cvi .i64 (.tmp 12), none⟩, ⟨some 4, .mov (.tmp 13), none⟩]) .ret) .skip)) (.seq (.ops [⟨some 14, .mov (.tmp 1), none⟩, ⟨some 15, .bin .mul (.tmp 14) (.const (.int .i64 7)), none⟩, ⟨some 16, .mov (.tmp 0), none⟩, ⟨some 17, .len (.tmp 16), none⟩, ⟨some 18, .bin .add (.tmp 15) (.tmp 17), none⟩, ⟨some 19, .bin .rem (.tmp 18) (.const (.int .i64 256)), none⟩, ⟨some 4, .mov (.tmp 19), none⟩]) .ret)))
@[reducible] def rv19 : List RV := [.tmp 4]
theorem low19 : lowC Try.prog tau Try.f19.ntmps (Try.f19.body.getD .skip) = some (erase ic19) := by kernel_rfl
theorem res19 : lowR Try.prog Try.f19.results.toList = some rv19 := by kernel_rfl
theorem bod19 : Try.f19.body = some (Try.f19.body.getD .skip) := by kernel_rfl
theorem cal19 : callable Try.prog 19 = true := by kernel_rfl

end Go.Proofs.YtfjfaajdbomhbaaE

/-! The code of a function, in the engine's words. -/
namespace Go.Proofs.YtfjfaajdbomhbaaE
open Go Go.RowKit
@[reducible] def ic17 : IC := (.seq (.ops [⟨some 2, .mov (.const (.bool false)), none⟩]) (.seq (.ops [⟨some 3, .mov (.tmp 0), none⟩, ⟨some 4, .len (.tmp 3), none⟩, ⟨some 5, .bin .gtr (.tmp 4) (.const (.int .i64 1048576)), none⟩, ⟨some 2, .mov (.tmp 5), none⟩]) .ret))
@[reducible] def rv17 : List RV := [.tmp 2]
theorem low17 : lowC Try.prog tau Try.f17.ntmps (Try.f17.body.getD .skip) = some (erase ic17) := by kernel_rfl
theorem res17 : lowR Try.prog Try.f17.results.toList = some rv17 := by kernel_rfl
theorem bod17 : Try.f17.body = some (Try.f17.body.getD .skip) := by kernel_rfl
theorem cal17 : callable Try.prog 17 = true := by kernel_rfl

end Go.Proofs.YtfjfaajdbomhbaaE

/-! The code of a function, in the engine's words. -/
namespace Go.Proofs.YtfjfaajdbomhbaaE
open Go Go.RowKit
@[reducible] def ic20 : IC := (.seq (.ops [⟨some 1, .box (.tmp 0), none⟩, ⟨some 2, .mov (.const (.int .i64 0)), none⟩]) (.seq (.ops [⟨some 3, .mov (.const (.int .i64 0)), none⟩]) (.seq (.seq (.ops [⟨some 6, .load 16 true (.tmp 1), none⟩, ⟨some 7, .mov (.const (.int .i64 0)), none⟩]) (.block 0 (.loop (.seq (.ops [⟨some 8, .bin .lss (.tmp 7) (.const (.int .i64 16)), none⟩]) (.seq (.cond (.tmp 8) .skip (.exit 0)) (.seq (.block 1 (.seq (.ops [⟨some 9, .mov (.tmp 7), none⟩, ⟨some 10, .idx 1 16 false (.tmp 6) (.tmp 7), none⟩, ⟨some 4, .mov (.tmp 9), none⟩, ⟨some 5, .mov (.tmp 10), none⟩]) (.ops [⟨some 11, .mov (.tmp 3), none⟩, ⟨some 12, .mov (.tmp 5), none⟩, ⟨some 13, .cvi .i64 (.tmp 12), none⟩, ⟨some 14, .mov (.tmp 4), none⟩, ⟨some 15, .bin .add (.tmp 14) (.const (.int .i64 1)), none⟩, ⟨some 16, .bin .mul (.tmp 13) (.tmp 15), none⟩, ⟨some 17, .bin .add (.tmp 11) (.tmp 16), none⟩, ⟨some 3, .mov (.tmp 17), none⟩]))) (.ops [⟨some 18, .bin .add (.tmp 7) (.const (.int .i64 1)), none⟩, ⟨some 7, .mov (.tmp 18), none⟩]))))))) (.seq (.ops [⟨some 19, .mov (.tmp 3), none⟩, ⟨some 20, .bin .rem (.tmp 19) (.const (.int .i64 251)), none⟩, ⟨some 2, .mov (.tmp 20), none⟩]) .ret))))
@[reducible] def rv20 : List RV := [.tmp 2]
theorem low20 : lowC Try.prog tau Try.f20.ntmps (Try.f20.body.getD .skip) = some (erase ic20) := by kernel_rfl
theorem res20 : lowR Try.prog Try.f20.results.toList = some rv20 := by kernel_rfl
theorem bod20 : Try.f20.body = some (Try.f20.body.getD .skip) := by kernel_rfl
theorem cal20 : callable Try.prog 20 = true := by kernel_rfl

end Go.Proofs.YtfjfaajdbomhbaaE

/-! Drawn cells; sums of cells. -/
namespace Go.Proofs.YtfjfaajdbomhbaaE
open Go Go.RowKit
set_option linter.unusedSimpArgs false
set_option linter.unusedVariables false
set_option maxRecDepth 50000
set_option maxHeartbeats 8000000

theorem wr8_bd (z : Int) : 0 ≤ wr .u8 z ∧ wr .u8 z ≤ 255 := by
  rw [wr_eq, IntKind.wrap_u8]; omega
def spDrawCell : Spec := ⟨fun _ => takeP, fun args objs K => match args, objs with
  | [.ptr 0 0], [.box [.rs .byte b, .v (.int .i64 i), .v (.int .i64 h)]] => (0 ≤ i ∧ i ≤ b.length ∧ b.length ≤ 1099511627776) ∧
      ∀ a0 a1 a2 a3 a4 a5 a6 a7 a8 a9 a10 a11 a12 a13 a14 a15 i' h' : Int, ((0 ≤ a0 ∧ a0 ≤ 255) ∧ (0 ≤ a1 ∧ a1 ≤ 255) ∧ (0 ≤ a2 ∧ a2 ≤ 255) ∧ (0 ≤ a3 ∧ a3 ≤ 255) ∧ (0 ≤ a4 ∧ a4 ≤ 255) ∧ (0 ≤ a5 ∧ a5 ≤ 255) ∧ (0 ≤ a6 ∧ a6 ≤ 255) ∧ (0 ≤ a7 ∧ a7 ≤ 255) ∧ (0 ≤ a8 ∧ a8 ≤ 255) ∧ (0 ≤ a9 ∧ a9 ≤ 255) ∧ (0 ≤ a10 ∧ a10 ≤ 255) ∧ (0 ≤ a11 ∧ a11 ≤ 255) ∧ (0 ≤ a12 ∧ a12 ≤ 255) ∧ (0 ≤ a13 ∧ a13 ≤ 255) ∧ (0 ≤ a14 ∧ a14 ≤ 255) ∧ (0 ≤ a15 ∧ a15 ≤ 255)) ∧ (0 ≤ i' ∧ i' ≤ b.length) → K (.agg [.v (.int .u8 a0), .v (.int .u8 a1), .v (.int .u8 a2), .v (.int .u8 a3), .v (.int .u8 a4), .v (.int .u8 a5), .v (.int .u8 a6), .v (.int .u8 a7), .v (.int .u8 a8), .v (.int .u8 a9), .v (.int .u8 a10), .v (.int .u8 a11), .v (.int .u8 a12), .v (.int .u8 a13), .v (.int .u8 a14), .v (.int .u8 a15)]) [(0, .box [.rs .byte b, .v (.int .i64 i'), .v (.int .i64 h')])] 1
  | _, _ => False, true⟩
theorem spDrawCell_t {L : Hp} {a : List AVal} : Spec.take spDrawCell L a = takeP a := id rfl
theorem spDrawCell_k : Spec.keep spDrawCell = true := id rfl
theorem spDrawCell_f {b} {i} {h} {K : AVal → Hp → Nat → Prop} : Spec.f spDrawCell ([.ptr 0 0]) ([.box [.rs .byte b, .v (.int .i64 i), .v (.int .i64 h)]]) K = ((0 ≤ i ∧ i ≤ b.length ∧ b.length ≤ 1099511627776) ∧
      ∀ a0 a1 a2 a3 a4 a5 a6 a7 a8 a9 a10 a11 a12 a13 a14 a15 i' h' : Int, ((0 ≤ a0 ∧ a0 ≤ 255) ∧ (0 ≤ a1 ∧ a1 ≤ 255) ∧ (0 ≤ a2 ∧ a2 ≤ 255) ∧ (0 ≤ a3 ∧ a3 ≤ 255) ∧ (0 ≤ a4 ∧ a4 ≤ 255) ∧ (0 ≤ a5 ∧ a5 ≤ 255) ∧ (0 ≤ a6 ∧ a6 ≤ 255) ∧ (0 ≤ a7 ∧ a7 ≤ 255) ∧ (0 ≤ a8 ∧ a8 ≤ 255) ∧ (0 ≤ a9 ∧ a9 ≤ 255) ∧ (0 ≤ a10 ∧ a10 ≤ 255) ∧ (0 ≤ a11 ∧ a11 ≤ 255) ∧ (0 ≤ a12 ∧ a12 ≤ 255) ∧ (0 ≤ a13 ∧ a13 ≤ 255) ∧ (0 ≤ a14 ∧ a14 ≤ 255) ∧ (0 ≤ a15 ∧ a15 ≤ 255)) ∧ (0 ≤ i' ∧ i' ≤ b.length) → K (.agg [.v (.int .u8 a0), .v (.int .u8 a1), .v (.int .u8 a2), .v (.int .u8 a3), .v (.int .u8 a4), .v (.int .u8 a5), .v (.int .u8 a6), .v (.int .u8 a7), .v (.int .u8 a8), .v (.int .u8 a9), .v (.int .u8 a10), .v (.int .u8 a11), .v (.int .u8 a12), .v (.int .u8 a13), .v (.int .u8 a14), .v (.int .u8 a15)]) [(0, .box [.rs .byte b, .v (.int .i64 i'), .v (.int .i64 h')])] 1) := id rfl
theorem valid34 : Valid Try.prog 34 spDrawCell := by
  refine validI (Γ := lk [(36, spBelow), (40, spByteA)]) Try.func34 bod34 low34 res34 (good_of ⟨⟨cal36, valid36⟩, ⟨cal40, valid40A⟩, trivial⟩) ?_
  intro E args objs K hh hE hG hP
  simp only [spDrawCell] at hh
  split at hh
  · refine ⟨by simp [Try.ntmps34], ?_⟩
    rename_i b i h
    obtain ⟨⟨b1, b2, b3⟩, hh⟩ := hh
    have hc := curX_bd b i h
    have hci := curI_bd (b := b) ⟨b1, b2⟩
    have hm : ((curX b i h).tmod 15 = 0 ∨ (curX b i h).tmod 15 = 1 ∨ (curX b i h).tmod 15 = 2 ∨ (curX b i h).tmod 15 = 3 ∨ (curX b i h).tmod 15 = 4 ∨ (curX b i h).tmod 15 = 5 ∨ (curX b i h).tmod 15 = 6 ∨ (curX b i h).tmod 15 = 7 ∨ (curX b i h).tmod 15 = 8 ∨ (curX b i h).tmod 15 = 9 ∨ (curX b i h).tmod 15 = 10 ∨ (curX b i h).tmod 15 = 11 ∨ (curX b i h).tmod 15 = 12 ∨ (curX b i h).tmod 15 = 13 ∨ (curX b i h).tmod 15 = 14) := by
      rw [Int.tmod_eq_emod_of_nonneg hc.1]; omega
    rcases hm with hj | hj | hj | hj | hj | hj | hj | hj | hj | hj | hj | hj | hj | hj | hj
    · simp (config := { maxSteps := 2000000 }) only [go_sem, hG, hP, Nat.reduceEqDiff, ↓reduceIte, reduceCtorEq, Nat.reduceAdd, Nat.reduceSub, Nat.reduceMul, Nat.reduceLT, Nat.reduceLeDiff, Int.reduceAdd, Int.reduceSub, Int.reduceMul, Int.reduceLT, Int.reduceLE, Int.reduceEq, Int.reduceNeg, Int.reduceNe, Int.reduceGE, Int.reduceGT, Nat.reduceBEq, Int.reduceToNat,  spBelow_f, spBelow_t, spBelow_k, spByteA_f, spByteA_t, spByteA_k, takeP_eq, hj]
      repeat (refine And.intro (by first | omega | (simp; done) | (simp; omega) | (unfold appRoom; omega)) ?_)
      refine unrollI hE [(), ()] ?_
      simp (config := { maxSteps := 2000000 }) only [go_sem, hG, hP, Nat.reduceEqDiff, ↓reduceIte, reduceCtorEq, Nat.reduceAdd, Nat.reduceSub, Nat.reduceMul, Nat.reduceLT, Nat.reduceLeDiff, Int.reduceAdd, Int.reduceSub, Int.reduceMul, Int.reduceLT, Int.reduceLE, Int.reduceEq, Int.reduceNeg, Int.reduceNe, Int.reduceGE, Int.reduceGT, Nat.reduceBEq, Int.reduceToNat,  spBelow_f, spBelow_t, spBelow_k, spByteA_f, spByteA_t, spByteA_k, takeP_eq]
      repeat (refine And.intro (by first | omega | (simp; done) | (simp; omega) | (unfold appRoom; omega)) ?_)
      intro x1 i1 h1 hb1
      refine And.intro ⟨hb1.2.1, hb1.2.2, b3⟩ ?_
      refine ⟨_, _, _, ?_, hh (wr .u8 (wr .i64 (1 + wr .i64 (16 * (curX b i1 h1).tmod 16)))) (wr .u8 x1) 0 0 0 0 0 0 0 0 0 0 0 0 0 0 (curI b i1) (curH h1) ⟨⟨wr8_bd _, wr8_bd _, by omega, by omega, by omega, by omega, by omega, by omega, by omega, by omega, by omega, by omega, by omega, by omega, by omega, by omega⟩, curI_bd (b := b) hb1.2⟩⟩
      simp (config := { maxSteps := 2000000 }) only [go_sem, hG, hP, Nat.reduceEqDiff, ↓reduceIte, reduceCtorEq, Nat.reduceAdd, Nat.reduceSub, Nat.reduceMul, Nat.reduceLT, Nat.reduceLeDiff, Int.reduceAdd, Int.reduceSub, Int.reduceMul, Int.reduceLT, Int.reduceLE, Int.reduceEq, Int.reduceNeg, Int.reduceNe, Int.reduceGE, Int.reduceGT, Nat.reduceBEq, Int.reduceToNat]
      all_goals simp
    · simp (config := { maxSteps := 2000000 }) only [go_sem, hG, hP, Nat.reduceEqDiff, ↓reduceIte, reduceCtorEq, Nat.reduceAdd, Nat.reduceSub, Nat.reduceMul, Nat.reduceLT, Nat.reduceLeDiff, Int.reduceAdd, Int.reduceSub, Int.reduceMul, Int.reduceLT, Int.reduceLE, Int.reduceEq, Int.reduceNeg, Int.reduceNe, Int.reduceGE, Int.reduceGT, Nat.reduceBEq, Int.reduceToNat,  spBelow_f, spBelow_t, spBelow_k, spByteA_f, spByteA_t, spByteA_k, takeP_eq, hj]
      repeat (refine And.intro (by first | omega | (simp; done) | (simp; omega) | (unfold appRoom; omega)) ?_)
      refine unrollI hE [(), (), ()] ?_
      simp (config := { maxSteps := 2000000 }) only [go_sem, hG, hP, Nat.reduceEqDiff, ↓reduceIte, reduceCtorEq, Nat.reduceAdd, Nat.reduceSub, Nat.reduceMul, Nat.reduceLT, Nat.reduceLeDiff, Int.reduceAdd, Int.reduceSub, Int.reduceMul, Int.reduceLT, Int.reduceLE, Int.reduceEq, Int.reduceNeg, Int.reduceNe, Int.reduceGE, Int.reduceGT, Nat.reduceBEq, Int.reduceToNat,  spBelow_f, spBelow_t, spBelow_k, spByteA_f, spByteA_t, spByteA_k, takeP_eq]
      repeat (refine And.intro (by first | omega | (simp; done) | (simp; omega) | (unfold appRoom; omega)) ?_)
      intro x1 i1 hb1
      refine And.intro ⟨hb1.2.1, hb1.2.2, b3⟩ ?_
      intro x2 i2 h2 hb2
      refine And.intro ⟨hb2.2.1, hb2.2.2, b3⟩ ?_
      refine ⟨_, _, _, ?_, hh (wr .u8 (wr .i64 (2 + wr .i64 (16 * (curX b i2 h2).tmod 16)))) (wr .u8 x1) (wr .u8 x2) 0 0 0 0 0 0 0 0 0 0 0 0 0 (curI b i2) (curH h2) ⟨⟨wr8_bd _, wr8_bd _, wr8_bd _, by omega, by omega, by omega, by omega, by omega, by omega, by omega, by omega, by omega, by omega, by omega, by omega, by omega⟩, curI_bd (b := b) hb2.2⟩⟩
      simp (config := { maxSteps := 2000000 }) only [go_sem, hG, hP, Nat.reduceEqDiff, ↓reduceIte, reduceCtorEq, Nat.reduceAdd, Nat.reduceSub, Nat.reduceMul, Nat.reduceLT, Nat.reduceLeDiff, Int.reduceAdd, Int.reduceSub, Int.reduceMul, Int.reduceLT, Int.reduceLE, Int.reduceEq, Int.reduceNeg, Int.reduceNe, Int.reduceGE, Int.reduceGT, Nat.reduceBEq, Int.reduceToNat]
      all_goals simp
    · simp (config := { maxSteps := 2000000 }) only [go_sem, hG, hP, Nat.reduceEqDiff, ↓reduceIte, reduceCtorEq, Nat.reduceAdd, Nat.reduceSub, Nat.reduceMul, Nat.reduceLT, Nat.reduceLeDiff, Int.reduceAdd, Int.reduceSub, Int.reduceMul, Int.reduceLT, Int.reduceLE, Int.reduceEq, Int.reduceNeg, Int.reduceNe, Int.reduceGE, Int.reduceGT, Nat.reduceBEq, Int.reduceToNat,  spBelow_f, spBelow_t, spBelow_k, spByteA_f, spByteA_t, spByteA_k, takeP_eq, hj]
      repeat (refine And.intro (by first | omega | (simp; done) | (simp; omega) | (unfold appRoom; omega)) ?_)
      refine unrollI hE [(), (), (), ()] ?_
      simp (config := { maxSteps := 2000000 }) only [go_sem, hG, hP, Nat.reduceEqDiff, ↓reduceIte, reduceCtorEq, Nat.reduceAdd, Nat.reduceSub, Nat.reduceMul, Nat.reduceLT, Nat.reduceLeDiff, Int.reduceAdd, Int.reduceSub, Int.reduceMul, Int.reduceLT, Int.reduceLE, Int.reduceEq, Int.reduceNeg, Int.reduceNe, Int.reduceGE, Int.reduceGT, Nat.reduceBEq, Int.reduceToNat,  spBelow_f, spBelow_t, spBelow_k, spByteA_f, spByteA_t, spByteA_k, takeP_eq]
      repeat (refine And.intro (by first | omega | (simp; done) | (simp; omega) | (unfold appRoom; omega)) ?_)
      intro x1 i1 hb1
      refine And.intro ⟨hb1.2.1, hb1.2.2, b3⟩ ?_
      intro x2 i2 hb2
      refine And.intro ⟨hb2.2.1, hb2.2.2, b3⟩ ?_
      intro x3 i3 h3 hb3
      refine And.intro ⟨hb3.2.1, hb3.2.2, b3⟩ ?_
      refine ⟨_, _, _, ?_, hh (wr .u8 (wr .i64 (3 + wr .i64 (16 * (curX b i3 h3).tmod 16)))) (wr .u8 x1) (wr .u8 x2) (wr .u8 x3) 0 0 0 0 0 0 0 0 0 0 0 0 (curI b i3) (curH h3) ⟨⟨wr8_bd _, wr8_bd _, wr8_bd _, wr8_bd _, by omega, by omega, by omega, by omega, by omega, by omega, by omega, by omega, by omega, by omega, by omega, by omega⟩, curI_bd (b := b) hb3.2⟩⟩
      simp (config := { maxSteps := 2000000 }) only [go_sem, hG, hP, Nat.reduceEqDiff, ↓reduceIte, reduceCtorEq, Nat.reduceAdd, Nat.reduceSub, Nat.reduceMul, Nat.reduceLT, Nat.reduceLeDiff, Int.reduceAdd, Int.reduceSub, Int.reduceMul, Int.reduceLT, Int.reduceLE, Int.reduceEq, Int.reduceNeg, Int.reduceNe, Int.reduceGE, Int.reduceGT, Nat.reduceBEq, Int.reduceToNat]
      all_goals simp
    · simp (config := { maxSteps := 2000000 }) only [go_sem, hG, hP, Nat.reduceEqDiff, ↓reduceIte, reduceCtorEq, Nat.reduceAdd, Nat.reduceSub, Nat.reduceMul, Nat.reduceLT, Nat.reduceLeDiff, Int.reduceAdd, Int.reduceSub, Int.reduceMul, Int.reduceLT, Int.reduceLE, Int.reduceEq, Int.reduceNeg, Int.reduceNe, Int.reduceGE, Int.reduceGT, Nat.reduceBEq, Int.reduceToNat,  spBelow_f, spBelow_t, spBelow_k, spByteA_f, spByteA_t, spByteA_k, takeP_eq, hj]
      repeat (refine And.intro (by first | omega | (simp; done) | (simp; omega) | (unfold appRoom; omega)) ?_)
      refine unrollI hE [(), (), (), (), ()] ?_
      simp (config := { maxSteps := 2000000 }) only [go_sem, hG, hP, Nat.reduceEqDiff, ↓reduceIte, reduceCtorEq, Nat.reduceAdd, Nat.reduceSub, Nat.reduceMul, Nat.reduceLT, Nat.reduceLeDiff, Int.reduceAdd, Int.reduceSub, Int.reduceMul, Int.reduceLT, Int.reduceLE, Int.reduceEq, Int.reduceNeg, Int.reduceNe, Int.reduceGE, Int.reduceGT, Nat.reduceBEq, Int.reduceToNat,  spBelow_f, spBelow_t, spBelow_k, spByteA_f, spByteA_t, spByteA_k, takeP_eq]
      repeat (refine And.intro (by first | omega | (simp; done) | (simp; omega) | (unfold appRoom; omega)) ?_)
      intro x1 i1 hb1
      refine And.intro ⟨hb1.2.1, hb1.2.2, b3⟩ ?_
      intro x2 i2 hb2
      refine And.intro ⟨hb2.2.1, hb2.2.2, b3⟩ ?_
      intro x3 i3 hb3
      refine And.intro ⟨hb3.2.1, hb3.2.2, b3⟩ ?_
      intro x4 i4 h4 hb4
      refine And.intro ⟨hb4.2.1, hb4.2.2, b3⟩ ?_
      refine ⟨_, _, _, ?_, hh (wr .u8 (wr .i64 (4 + wr .i64 (16 * (curX b i4 h4).tmod 16)))) (wr .u8 x1) (wr .u8 x2) (wr .u8 x3) (wr .u8 x4) 0 0 0 0 0 0 0 0 0 0 0 (curI b i4) (curH h4) ⟨⟨wr8_bd _, wr8_bd _, wr8_bd _, wr8_bd _, wr8_bd _, by omega, by omega, by omega, by omega, by omega, by omega, by omega, by omega, by omega, by omega, by omega⟩, curI_bd (b := b) hb4.2⟩⟩
      simp (config := { maxSteps := 2000000 }) only [go_sem, hG, hP, Nat.reduceEqDiff, ↓reduceIte, reduceCtorEq, Nat.reduceAdd, Nat.reduceSub, Nat.reduceMul, Nat.reduceLT, Nat.reduceLeDiff, Int.reduceAdd, Int.reduceSub, Int.reduceMul, Int.reduceLT, Int.reduceLE, Int.reduceEq, Int.reduceNeg, Int.reduceNe, Int.reduceGE, Int.reduceGT, Nat.reduceBEq, Int.reduceToNat]
      all_goals simp
    · simp (config := { maxSteps := 2000000 }) only [go_sem, hG, hP, Nat.reduceEqDiff, ↓reduceIte, reduceCtorEq, Nat.reduceAdd, Nat.reduceSub, Nat.reduceMul, Nat.reduceLT, Nat.reduceLeDiff, Int.reduceAdd, Int.reduceSub, Int.reduceMul, Int.reduceLT, Int.reduceLE, Int.reduceEq, Int.reduceNeg, Int.reduceNe, Int.reduceGE, Int.reduceGT, Nat.reduceBEq, Int.reduceToNat,  spBelow_f, spBelow_t, spBelow_k, spByteA_f, spByteA_t, spByteA_k, takeP_eq, hj]
      repeat (refine And.intro (by first | omega | (simp; done) | (simp; omega) | (unfold appRoom; omega)) ?_)
      refine unrollI hE [(), (), (), (), (), ()] ?_
      simp (config := { maxSteps := 2000000 }) only [go_sem, hG, hP, Nat.reduceEqDiff, ↓reduceIte, reduceCtorEq, Nat.reduceAdd, Nat.reduceSub, Nat.reduceMul, Nat.reduceLT, Nat.reduceLeDiff, Int.reduceAdd, Int.reduceSub, Int.reduceMul, Int.reduceLT, Int.reduceLE, Int.reduceEq, Int.reduceNeg, Int.reduceNe, Int.reduceGE, Int.reduceGT, Nat.reduceBEq, Int.reduceToNat,  spBelow_f, spBelow_t, spBelow_k, spByteA_f, spByteA_t, spByteA_k, takeP_eq]
      repeat (refine And.intro (by first | omega | (simp; done) | (simp; omega) | (unfold appRoom; omega)) ?_)
      intro x1 i1 hb1
      refine And.intro ⟨hb1.2.1, hb1.2.2, b3⟩ ?_
      intro x2 i2 hb2
      refine And.intro ⟨hb2.2.1, hb2.2.2, b3⟩ ?_
      intro x3 i3 hb3
      refine And.intro ⟨hb3.2.1, hb3.2.2, b3⟩ ?_
      intro x4 i4 hb4
      refine And.intro ⟨hb4.2.1, hb4.2.2, b3⟩ ?_
      intro x5 i5 h5 hb5
      refine And.intro ⟨hb5.2.1, hb5.2.2, b3⟩ ?_
      refine ⟨_, _, _, ?_, hh (wr .u8 (wr .i64 (5 + wr .i64 (16 * (curX b i5 h5).tmod 16)))) (wr .u8 x1) (wr .u8 x2) (wr .u8 x3) (wr .u8 x4) (wr .u8 x5) 0 0 0 0 0 0 0 0 0 0 (curI b i5) (curH h5) ⟨⟨wr8_bd _, wr8_bd _, wr8_bd _, wr8_bd _, wr8_bd _, wr8_bd _, by omega, by omega, by omega, by omega, by omega, by omega, by omega, by omega, by omega, by omega⟩, curI_bd (b := b) hb5.2⟩⟩
      simp (config := { maxSteps := 2000000 }) only [go_sem, hG, hP, Nat.reduceEqDiff, ↓reduceIte, reduceCtorEq, Nat.reduceAdd, Nat.reduceSub, Nat.reduceMul, Nat.reduceLT, Nat.reduceLeDiff, Int.reduceAdd, Int.reduceSub, Int.reduceMul, Int.reduceLT, Int.reduceLE, Int.reduceEq, Int.reduceNeg, Int.reduceNe, Int.reduceGE, Int.reduceGT, Nat.reduceBEq, Int.reduceToNat]
      all_goals simp
    · simp (config := { maxSteps := 2000000 }) only [go_sem, hG, hP, Nat.reduceEqDiff, ↓reduceIte, reduceCtorEq, Nat.reduceAdd, Nat.reduceSub, Nat.reduceMul, Nat.reduceLT, Nat.reduceLeDiff, Int.reduceAdd, Int.reduceSub, Int.reduceMul, Int.reduceLT, Int.reduceLE, Int.reduceEq, Int.reduceNeg, Int.reduceNe, Int.reduceGE, Int.reduceGT, Nat.reduceBEq, Int.reduceToNat,  spBelow_f, spBelow_t, spBelow_k, spByteA_f, spByteA_t, spByteA_k, takeP_eq, hj]
      repeat (refine And.intro (by first | omega | (simp; done) | (simp; omega) | (unfold appRoom; omega)) ?_)
      refine unrollI hE [(), (), (), (), (), (), ()] ?_
      simp (config := { maxSteps := 2000000 }) only [go_sem, hG, hP, Nat.reduceEqDiff, ↓reduceIte, reduceCtorEq, Nat.reduceAdd, Nat.reduceSub, Nat.reduceMul, Nat.reduceLT, Nat.reduceLeDiff, Int.reduceAdd, Int.reduceSub, Int.reduceMul, Int.reduceLT, Int.reduceLE, Int.reduceEq, Int.reduceNeg, Int.reduceNe, Int.reduceGE, Int.reduceGT, Nat.reduceBEq, Int.reduceToNat,  spBelow_f, spBelow_t, spBelow_k, spByteA_f, spByteA_t, spByteA_k, takeP_eq]
      repeat (refine And.intro (by first | omega | (simp; done) | (simp; omega) | (unfold appRoom; omega)) ?_)
      intro x1 i1 hb1
      refine And.intro ⟨hb1.2.1, hb1.2.2, b3⟩ ?_
      intro x2 i2 hb2
      refine And.intro ⟨hb2.2.1, hb2.2.2, b3⟩ ?_
      intro x3 i3 hb3
      refine And.intro ⟨hb3.2.1, hb3.2.2, b3⟩ ?_
      intro x4 i4 hb4
      refine And.intro ⟨hb4.2.1, hb4.2.2, b3⟩ ?_
      intro x5 i5 hb5
      refine And.intro ⟨hb5.2.1, hb5.2.2, b3⟩ ?_
      intro x6 i6 h6 hb6
      refine And.intro ⟨hb6.2.1, hb6.2.2, b3⟩ ?_
      refine ⟨_, _, _, ?_, hh (wr .u8 (wr .i64 (6 + wr .i64 (16 * (curX b i6 h6).tmod 16)))) (wr .u8 x1) (wr .u8 x2) (wr .u8 x3) (wr .u8 x4) (wr .u8 x5) (wr .u8 x6) 0 0 0 0 0 0 0 0 0 (curI b i6) (curH h6) ⟨⟨wr8_bd _, wr8_bd _, wr8_bd _, wr8_bd _, wr8_bd _, wr8_bd _, wr8_bd _, by omega, by omega, by omega, by omega, by omega, by omega, by omega, by omega, by omega⟩, curI_bd (b := b) hb6.2⟩⟩
      simp (config := { maxSteps := 2000000 }) only [go_sem, hG, hP, Nat.reduceEqDiff, ↓reduceIte, reduceCtorEq, Nat.reduceAdd, Nat.reduceSub, Nat.reduceMul, Nat.reduceLT, Nat.reduceLeDiff, Int.reduceAdd, Int.reduceSub, Int.reduceMul, Int.reduceLT, Int.reduceLE, Int.reduceEq, Int.reduceNeg, Int.reduceNe, Int.reduceGE, Int.reduceGT, Nat.reduceBEq, Int.reduceToNat]
      all_goals simp
    · simp (config := { maxSteps := 2000000 }) only [go_sem, hG, hP, Nat.reduceEqDiff, ↓reduceIte, reduceCtorEq, Nat.reduceAdd, Nat.reduceSub, Nat.reduceMul, Nat.reduceLT, Nat.reduceLeDiff, Int.reduceAdd, Int.reduceSub, Int.reduceMul, Int.reduceLT, Int.reduceLE, Int.reduceEq, Int.reduceNeg, Int.reduceNe, Int.reduceGE, Int.reduceGT, Nat.reduceBEq, Int.reduceToNat,  spBelow_f, spBelow_t, spBelow_k, spByteA_f, spByteA_t, spByteA_k, takeP_eq, hj]
      repeat (refine And.intro (by first | omega | (simp; done) | (simp; omega) | (unfold appRoom; omega)) ?_)
      refine unrollI hE [(), (), (), (), (), (), (), ()] ?_
      simp (config := { maxSteps := 2000000 }) only [go_sem, hG, hP, Nat.reduceEqDiff, ↓reduceIte, reduceCtorEq, Nat.reduceAdd, Nat.reduceSub, Nat.reduceMul, Nat.reduceLT, Nat.reduceLeDiff, Int.reduceAdd, Int.reduceSub, Int.reduceMul, Int.reduceLT, Int.reduceLE, Int.reduceEq, Int.reduceNeg, Int.reduceNe, Int.reduceGE, Int.reduceGT, Nat.reduceBEq, Int.reduceToNat,  spBelow_f, spBelow_t, spBelow_k, spByteA_f, spByteA_t, spByteA_k, takeP_eq]
      repeat (refine And.intro (by first | omega | (simp; done) | (simp; omega) | (unfold appRoom; omega)) ?_)
      intro x1 i1 hb1
      refine And.intro ⟨hb1.2.1, hb1.2.2, b3⟩ ?_
      intro x2 i2 hb2
      refine And.intro ⟨hb2.2.1, hb2.2.2, b3⟩ ?_
      intro x3 i3 hb3
      refine And.intro ⟨hb3.2.1, hb3.2.2, b3⟩ ?_
      intro x4 i4 hb4
      refine And.intro ⟨hb4.2.1, hb4.2.2, b3⟩ ?_
      intro x5 i5 hb5
      refine And.intro ⟨hb5.2.1, hb5.2.2, b3⟩ ?_
      intro x6 i6 hb6
      refine And.intro ⟨hb6.2.1, hb6.2.2, b3⟩ ?_
      intro x7 i7 h7 hb7
      refine And.intro ⟨hb7.2.1, hb7.2.2, b3⟩ ?_
      refine ⟨_, _, _, ?_, hh (wr .u8 (wr .i64 (7 + wr .i64 (16 * (curX b i7 h7).tmod 16)))) (wr .u8 x1) (wr .u8 x2) (wr .u8 x3) (wr .u8 x4) (wr .u8 x5) (wr .u8 x6) (wr .u8 x7) 0 0 0 0 0 0 0 0 (curI b i7) (curH h7) ⟨⟨wr8_bd _, wr8_bd _, wr8_bd _, wr8_bd _, wr8_bd _, wr8_bd _, wr8_bd _, wr8_bd _, by omega, by omega, by omega, by omega, by omega, by omega, by omega, by omega⟩, curI_bd (b := b) hb7.2⟩⟩
      simp (config := { maxSteps := 2000000 }) only [go_sem, hG, hP, Nat.reduceEqDiff, ↓reduceIte, reduceCtorEq, Nat.reduceAdd, Nat.reduceSub, Nat.reduceMul, Nat.reduceLT, Nat.reduceLeDiff, Int.reduceAdd, Int.reduceSub, Int.reduceMul, Int.reduceLT, Int.reduceLE, Int.reduceEq, Int.reduceNeg, Int.reduceNe, Int.reduceGE, Int.reduceGT, Nat.reduceBEq, Int.reduceToNat]
      all_goals simp
    · simp (config := { maxSteps := 2000000 }) only [go_sem, hG, hP, Nat.reduceEqDiff, ↓reduceIte, reduceCtorEq, Nat.reduceAdd, Nat.reduceSub, Nat.reduceMul, Nat.reduceLT, Nat.reduceLeDiff, Int.reduceAdd, Int.reduceSub, Int.reduceMul, Int.reduceLT, Int.reduceLE, Int.reduceEq, Int.reduceNeg, Int.reduceNe, Int.reduceGE, Int.reduceGT, Nat.reduceBEq, Int.reduceToNat,  spBelow_f, spBelow_t, spBelow_k, spByteA_f, spByteA_t, spByteA_k, takeP_eq, hj]
      repeat (refine And.intro (by first | omega | (simp; done) | (simp; omega) | (unfold appRoom; omega)) ?_)
      refine unrollI hE [(), (), (), (), (), (), (), (), ()] ?_
      simp (config := { maxSteps := 2000000 }) only [go_sem, hG, hP, Nat.reduceEqDiff, ↓reduceIte, reduceCtorEq, Nat.reduceAdd, Nat.reduceSub, Nat.reduceMul, Nat.reduceLT, Nat.reduceLeDiff, Int.reduceAdd, Int.reduceSub, Int.reduceMul, Int.reduceLT, Int.reduceLE, Int.reduceEq, Int.reduceNeg, Int.reduceNe, Int.reduceGE, Int.reduceGT, Nat.reduceBEq, Int.reduceToNat,  spBelow_f, spBelow_t, spBelow_k, spByteA_f, spByteA_t, spByteA_k, takeP_eq]
      repeat (refine And.intro (by first | omega | (simp; done) | (simp; omega) | (unfold appRoom; omega)) ?_)
      intro x1 i1 hb1
      refine And.intro ⟨hb1.2.1, hb1.2.2, b3⟩ ?_
      intro x2 i2 hb2
      refine And.intro ⟨hb2.2.1, hb2.2.2, b3⟩ ?_
      intro x3 i3 hb3
      refine And.intro ⟨hb3.2.1, hb3.2.2, b3⟩ ?_
      intro x4 i4 hb4
      refine And.intro ⟨hb4.2.1, hb4.2.2, b3⟩ ?_
      intro x5 i5 hb5
      refine And.intro ⟨hb5.2.1, hb5.2.2, b3⟩ ?_
      intro x6 i6 hb6
      refine And.intro ⟨hb6.2.1, hb6.2.2, b3⟩ ?_
      intro x7 i7 hb7
      refine And.intro ⟨hb7.2.1, hb7.2.2, b3⟩ ?_
      intro x8 i8 h8 hb8
      refine And.intro ⟨hb8.2.1, hb8.2.2, b3⟩ ?_
      refine ⟨_, _, _, ?_, hh (wr .u8 (wr .i64 (8 + wr .i64 (16 * (curX b i8 h8).tmod 16)))) (wr .u8 x1) (wr .u8 x2) (wr .u8 x3) (wr .u8 x4) (wr .u8 x5) (wr .u8 x6) (wr .u8 x7) (wr .u8 x8) 0 0 0 0 0 0 0 (curI b i8) (curH h8) ⟨⟨wr8_bd _, wr8_bd _, wr8_bd _, wr8_bd _, wr8_bd _, wr8_bd _, wr8_bd _, wr8_bd _, wr8_bd _, by omega, by omega, by omega, by omega, by omega, by omega, by omega⟩, curI_bd (b := b) hb8.2⟩⟩
      simp (config := { maxSteps := 2000000 }) only [go_sem, hG, hP, Nat.reduceEqDiff, ↓reduceIte, reduceCtorEq, Nat.reduceAdd, Nat.reduceSub, Nat.reduceMul, Nat.reduceLT, Nat.reduceLeDiff, Int.reduceAdd, Int.reduceSub, Int.reduceMul, Int.reduceLT, Int.reduceLE, Int.reduceEq, Int.reduceNeg, Int.reduceNe, Int.reduceGE, Int.reduceGT, Nat.reduceBEq, Int.reduceToNat]
      all_goals simp
    · simp (config := { maxSteps := 2000000 }) only [go_sem, hG, hP, Nat.reduceEqDiff, ↓reduceIte, reduceCtorEq, Nat.reduceAdd, Nat.reduceSub, Nat.reduceMul, Nat.reduceLT, Nat.reduceLeDiff, Int.reduceAdd, Int.reduceSub, Int.reduceMul, Int.reduceLT, Int.reduceLE, Int.reduceEq, Int.reduceNeg, Int.reduceNe, Int.reduceGE, Int.reduceGT, Nat.reduceBEq, Int.reduceToNat,  spBelow_f, spBelow_t, spBelow_k, spByteA_f, spByteA_t, spByteA_k, takeP_eq, hj]
      repeat (refine And.intro (by first | omega | (simp; done) | (simp; omega) | (unfold appRoom; omega)) ?_)
      refine unrollI hE [(), (), (), (), (), (), (), (), (), ()] ?_
      simp (config := { maxSteps := 2000000 }) only [go_sem, hG, hP, Nat.reduceEqDiff, ↓reduceIte, reduceCtorEq, Nat.reduceAdd, Nat.reduceSub, Nat.reduceMul, Nat.reduceLT, Nat.reduceLeDiff, Int.reduceAdd, Int.reduceSub, Int.reduceMul, Int.reduceLT, Int.reduceLE, Int.reduceEq, Int.reduceNeg, Int.reduceNe, Int.reduceGE, Int.reduceGT, Nat.reduceBEq, Int.reduceToNat,  spBelow_f, spBelow_t, spBelow_k, spByteA_f, spByteA_t, spByteA_k, takeP_eq]
      repeat (refine And.intro (by first | omega | (simp; done) | (simp; omega) | (unfold appRoom; omega)) ?_)
      intro x1 i1 hb1
      refine And.intro ⟨hb1.2.1, hb1.2.2, b3⟩ ?_
      intro x2 i2 hb2
      refine And.intro ⟨hb2.2.1, hb2.2.2, b3⟩ ?_
      intro x3 i3 hb3
      refine And.intro ⟨hb3.2.1, hb3.2.2, b3⟩ ?_
      intro x4 i4 hb4
      refine And.intro ⟨hb4.2.1, hb4.2.2, b3⟩ ?_
      intro x5 i5 hb5
      refine And.intro ⟨hb5.2.1, hb5.2.2, b3⟩ ?_
      intro x6 i6 hb6
      refine And.intro ⟨hb6.2.1, hb6.2.2, b3⟩ ?_
      intro x7 i7 hb7
      refine And.intro ⟨hb7.2.1, hb7.2.2, b3⟩ ?_
      intro x8 i8 hb8
      refine And.intro ⟨hb8.2.1, hb8.2.2, b3⟩ ?_
      intro x9 i9 h9 hb9
      refine And.intro ⟨hb9.2.1, hb9.2.2, b3⟩ ?_
      refine ⟨_, _, _, ?_, hh (wr .u8 (wr .i64 (9 + wr .i64 (16 * (curX b i9 h9).tmod 16)))) (wr .u8 x1) (wr .u8 x2) (wr .u8 x3) (wr .u8 x4) (wr .u8 x5) (wr .u8 x6) (wr .u8 x7) (wr .u8 x8) (wr .u8 x9) 0 0 0 0 0 0 (curI b i9) (curH h9) ⟨⟨wr8_bd _, wr8_bd _, wr8_bd _, wr8_bd _, wr8_bd _, wr8_bd _, wr8_bd _, wr8_bd _, wr8_bd _, wr8_bd _, by omega, by omega, by omega, by omega, by omega, by omega⟩, curI_bd (b := b) hb9.2⟩⟩
      simp (config := { maxSteps := 2000000 }) only [go_sem, hG, hP, Nat.reduceEqDiff, ↓reduceIte, reduceCtorEq, Nat.reduceAdd, Nat.reduceSub, Nat.reduceMul, Nat.reduceLT, Nat.reduceLeDiff, Int.reduceAdd, Int.reduceSub, Int.reduceMul, Int.reduceLT, Int.reduceLE, Int.reduceEq, Int.reduceNeg, Int.reduceNe, Int.reduceGE, Int.reduceGT, Nat.reduceBEq, Int.reduceToNat]
      all_goals simp
    · simp (config := { maxSteps := 2000000 }) only [go_sem, hG, hP, Nat.reduceEqDiff, ↓reduceIte, reduceCtorEq, Nat.reduceAdd, Nat.reduceSub, Nat.reduceMul, Nat.reduceLT, Nat.reduceLeDiff, Int.reduceAdd, Int.reduceSub, Int.reduceMul, Int.reduceLT, Int.reduceLE, Int.reduceEq, Int.reduceNeg, Int.reduceNe, Int.reduceGE, Int.reduceGT, Nat.reduceBEq, Int.reduceToNat,  spBelow_f, spBelow_t, spBelow_k, spByteA_f, spByteA_t, spByteA_k, takeP_eq, hj]
      repeat (refine And.intro (by first | omega | (simp; done) | (simp; omega) | (unfold appRoom; omega)) ?_)
      refine unrollI hE [(), (), (), (), (), (), (), (), (), (), ()] ?_
      simp (config := { maxSteps := 2000000 }) only [go_sem, hG, hP, Nat.reduceEqDiff, ↓reduceIte, reduceCtorEq, Nat.reduceAdd, Nat.reduceSub, Nat.reduceMul, Nat.reduceLT, Nat.reduceLeDiff, Int.reduceAdd, Int.reduceSub, Int.reduceMul, Int.reduceLT, Int.reduceLE, Int.reduceEq, Int.reduceNeg, Int.reduceNe, Int.reduceGE, Int.reduceGT, Nat.reduceBEq, Int.reduceToNat,  spBelow_f, spBelow_t, spBelow_k, spByteA_f, spByteA_t, spByteA_k, takeP_eq]
      repeat (refine And.intro (by first | omega | (simp; done) | (simp; omega) | (unfold appRoom; omega)) ?_)
      intro x1 i1 hb1
      refine And.intro ⟨hb1.2.1, hb1.2.2, b3⟩ ?_
      intro x2 i2 hb2
      refine And.intro ⟨hb2.2.1, hb2.2.2, b3⟩ ?_
      intro x3 i3 hb3
      refine And.intro ⟨hb3.2.1, hb3.2.2, b3⟩ ?_
      intro x4 i4 hb4
      refine And.intro ⟨hb4.2.1, hb4.2.2, b3⟩ ?_
      intro x5 i5 hb5
      refine And.intro ⟨hb5.2.1, hb5.2.2, b3⟩ ?_
      intro x6 i6 hb6
      refine And.intro ⟨hb6.2.1, hb6.2.2, b3⟩ ?_
      intro x7 i7 hb7
      refine And.intro ⟨hb7.2.1, hb7.2.2, b3⟩ ?_
      intro x8 i8 hb8
      refine And.intro ⟨hb8.2.1, hb8.2.2, b3⟩ ?_
      intro x9 i9 hb9
      refine And.intro ⟨hb9.2.1, hb9.2.2, b3⟩ ?_
      intro x10 i10 h10 hb10
      refine And.intro ⟨hb10.2.1, hb10.2.2, b3⟩ ?_
      refine ⟨_, _, _, ?_, hh (wr .u8 (wr .i64 (10 + wr .i64 (16 * (curX b i10 h10).tmod 16)))) (wr .u8 x1) (wr .u8 x2) (wr .u8 x3) (wr .u8 x4) (wr .u8 x5) (wr .u8 x6) (wr .u8 x7) (wr .u8 x8) (wr .u8 x9) (wr .u8 x10) 0 0 0 0 0 (curI b i10) (curH h10) ⟨⟨wr8_bd _, wr8_bd _, wr8_bd _, wr8_bd _, wr8_bd _, wr8_bd _, wr8_bd _, wr8_bd _, wr8_bd _, wr8_bd _, wr8_bd _, by omega, by omega, by omega, by omega, by omega⟩, curI_bd (b := b) hb10.2⟩⟩
      simp (config := { maxSteps := 2000000 }) only [go_sem, hG, hP, Nat.reduceEqDiff, ↓reduceIte, reduceCtorEq, Nat.reduceAdd, Nat.reduceSub, Nat.reduceMul, Nat.reduceLT, Nat.reduceLeDiff, Int.reduceAdd, Int.reduceSub, Int.reduceMul, Int.reduceLT, Int.reduceLE, Int.reduceEq, Int.reduceNeg, Int.reduceNe, Int.reduceGE, Int.reduceGT, Nat.reduceBEq, Int.reduceToNat]
      all_goals simp
    · simp (config := { maxSteps := 2000000 }) only [go_sem, hG, hP, Nat.reduceEqDiff, ↓reduceIte, reduceCtorEq, Nat.reduceAdd, Nat.reduceSub, Nat.reduceMul, Nat.reduceLT, Nat.reduceLeDiff, Int.reduceAdd, Int.reduceSub, Int.reduceMul, Int.reduceLT, Int.reduceLE, Int.reduceEq, Int.reduceNeg, Int.reduceNe, Int.reduceGE, Int.reduceGT, Nat.reduceBEq, Int.reduceToNat,  spBelow_f, spBelow_t, spBelow_k, spByteA_f, spByteA_t, spByteA_k, takeP_eq, hj]
      repeat (refine And.intro (by first | omega | (simp; done) | (simp; omega) | (unfold appRoom; omega)) ?_)
      refine unrollI hE [(), (), (), (), (), (), (), (), (), (), (), ()] ?_
      simp (config := { maxSteps := 2000000 }) only [go_sem, hG, hP, Nat.reduceEqDiff, ↓reduceIte, reduceCtorEq, Nat.reduceAdd, Nat.reduceSub, Nat.reduceMul, Nat.reduceLT, Nat.reduceLeDiff, Int.reduceAdd, Int.reduceSub, Int.reduceMul, Int.reduceLT, Int.reduceLE, Int.reduceEq, Int.reduceNeg, Int.reduceNe, Int.reduceGE, Int.reduceGT, Nat.reduceBEq, Int.reduceToNat,  spBelow_f, spBelow_t, spBelow_k, spByteA_f, spByteA_t, spByteA_k, takeP_eq]
      repeat (refine And.intro (by first | omega | (simp; done) | (simp; omega) | (unfold appRoom; omega)) ?_)
      intro x1 i1 hb1
      refine And.intro ⟨hb1.2.1, hb1.2.2, b3⟩ ?_
      intro x2 i2 hb2
      refine And.intro ⟨hb2.2.1, hb2.2.2, b3⟩ ?_
      intro x3 i3 hb3
      refine And.intro ⟨hb3.2.1, hb3.2.2, b3⟩ ?_
      intro x4 i4 hb4
      refine And.intro ⟨hb4.2.1, hb4.2.2, b3⟩ ?_
      intro x5 i5 hb5
      refine And.intro ⟨hb5.2.1, hb5.2.2, b3⟩ ?_
      intro x6 i6 hb6
      refine And.intro ⟨hb6.2.1, hb6.2.2, b3⟩ ?_
      intro x7 i7 hb7
      refine And.intro ⟨hb7.2.1, hb7.2.2, b3⟩ ?_
      intro x8 i8 hb8
      refine And.intro ⟨hb8.2.1, hb8.2.2, b3⟩ ?_
      intro x9 i9 hb9
      refine And.intro ⟨hb9.2.1, hb9.2.2, b3⟩ ?_
      intro x10 i10 hb10
      refine And.intro ⟨hb10.2.1, hb10.2.2, b3⟩ ?_
      intro x11 i11 h11 hb11
      refine And.intro ⟨hb11.2.1, hb11.2.2, b3⟩ ?_
      refine ⟨_, _, _, ?_, hh (wr .u8 (wr .i64 (11 + wr .i64 (16 * (curX b i11 h11).tmod 16)))) (wr .u8 x1) (wr .u8 x2) (wr .u8 x3) (wr .u8 x4) (wr .u8 x5) (wr .u8 x6) (wr .u8 x7) (wr .u8 x8) (wr .u8 x9) (wr .u8 x10) (wr .u8 x11) 0 0 0 0 (curI b i11) (curH h11) ⟨⟨wr8_bd _, wr8_bd _, wr8_bd _, wr8_bd _, wr8_bd _, wr8_bd _, wr8_bd _, wr8_bd _, wr8_bd _, wr8_bd _, wr8_bd _, wr8_bd _, by omega, by omega, by omega, by omega⟩, curI_bd (b := b) hb11.2⟩⟩
      simp (config := { maxSteps := 2000000 }) only [go_sem, hG, hP, Nat.reduceEqDiff, ↓reduceIte, reduceCtorEq, Nat.reduceAdd, Nat.reduceSub, Nat.reduceMul, Nat.reduceLT, Nat.reduceLeDiff, Int.reduceAdd, Int.reduceSub, Int.reduceMul, Int.reduceLT, Int.reduceLE, Int.reduceEq, Int.reduceNeg, Int.reduceNe, Int.reduceGE, Int.reduceGT, Nat.reduceBEq, Int.reduceToNat]
      all_goals simp
    · simp (config := { maxSteps := 2000000 }) only [go_sem, hG, hP, Nat.reduceEqDiff, ↓reduceIte, reduceCtorEq, Nat.reduceAdd, Nat.reduceSub, Nat.reduceMul, Nat.reduceLT, Nat.reduceLeDiff, Int.reduceAdd, Int.reduceSub, Int.reduceMul, Int.reduceLT, Int.reduceLE, Int.reduceEq, Int.reduceNeg, Int.reduceNe, Int.reduceGE, Int.reduceGT, Nat.reduceBEq, Int.reduceToNat,  spBelow_f, spBelow_t, spBelow_k, spByteA_f, spByteA_t, spByteA_k, takeP_eq, hj]
      repeat (refine And.intro (by first | omega | (simp; done) | (simp; omega) | (unfold appRoom; omega)) ?_)
      refine unrollI hE [(), (), (), (), (), (), (), (), (), (), (), (), ()] ?_
      simp (config := { maxSteps := 2000000 }) only [go_sem, hG, hP, Nat.reduceEqDiff, ↓reduceIte, reduceCtorEq, Nat.reduceAdd, Nat.reduceSub, Nat.reduceMul, Nat.reduceLT, Nat.reduceLeDiff, Int.reduceAdd, Int.reduceSub, Int.reduceMul, Int.reduceLT, Int.reduceLE, Int.reduceEq, Int.reduceNeg, Int.reduceNe, Int.reduceGE, Int.reduceGT, Nat.reduceBEq, Int.reduceToNat,  spBelow_f, spBelow_t, spBelow_k, spByteA_f, spByteA_t, spByteA_k, takeP_eq]
      repeat (refine And.intro (by first | omega | (simp; done) | (simp; omega) | (unfold appRoom; omega)) ?_)
      intro x1 i1 hb1
      refine And.intro ⟨hb1.2.1, hb1.2.2, b3⟩ ?_
      intro x2 i2 hb2
      refine And.intro ⟨hb2.2.1, hb2.2.2, b3⟩ ?_
      intro x3 i3 hb3
      refine And.intro ⟨hb3.2.1, hb3.2.2, b3⟩ ?_
      intro x4 i4 hb4
      refine And.intro ⟨hb4.2.1, hb4.2.2, b3⟩ ?_
      intro x5 i5 hb5
      refine And.intro ⟨hb5.2.1, hb5.2.2, b3⟩ ?_
      intro x6 i6 hb6
      refine And.intro ⟨hb6.2.1, hb6.2.2, b3⟩ ?_
      intro x7 i7 hb7
      refine And.intro ⟨hb7.2.1, hb7.2.2, b3⟩ ?_
      intro x8 i8 hb8
      refine And.intro ⟨hb8.2.1, hb8.2.2, b3⟩ ?_
      intro x9 i9 hb9
      refine And.intro ⟨hb9.2.1, hb9.2.2, b3⟩ ?_
      intro x10 i10 hb10
      refine And.intro ⟨hb10.2.1, hb10.2.2, b3⟩ ?_
      intro x11 i11 hb11
      refine And.intro ⟨hb11.2.1, hb11.2.2, b3⟩ ?_
      intro x12 i12 h12 hb12
      refine And.intro ⟨hb12.2.1, hb12.2.2, b3⟩ ?_
      refine ⟨_, _, _, ?_, hh (wr .u8 (wr .i64 (12 + wr .i64 (16 * (curX b i12 h12).tmod 16)))) (wr .u8 x1) (wr .u8 x2) (wr .u8 x3) (wr .u8 x4) (wr .u8 x5) (wr .u8 x6) (wr .u8 x7) (wr .u8 x8) (wr .u8 x9) (wr .u8 x10) (wr .u8 x11) (wr .u8 x12) 0 0 0 (curI b i12) (curH h12) ⟨⟨wr8_bd _, wr8_bd _, wr8_bd _, wr8_bd _, wr8_bd _, wr8_bd _, wr8_bd _, wr8_bd _, wr8_bd _, wr8_bd _, wr8_bd _, wr8_bd _, wr8_bd _, by omega, by omega, by omega⟩, curI_bd (b := b) hb12.2⟩⟩
      simp (config := { maxSteps := 2000000 }) only [go_sem, hG, hP, Nat.reduceEqDiff, ↓reduceIte, reduceCtorEq, Nat.reduceAdd, Nat.reduceSub, Nat.reduceMul, Nat.reduceLT, Nat.reduceLeDiff, Int.reduceAdd, Int.reduceSub, Int.reduceMul, Int.reduceLT, Int.reduceLE, Int.reduceEq, Int.reduceNeg, Int.reduceNe, Int.reduceGE, Int.reduceGT, Nat.reduceBEq, Int.reduceToNat]
      all_goals simp
    · simp (config := { maxSteps := 2000000 }) only [go_sem, hG, hP, Nat.reduceEqDiff, ↓reduceIte, reduceCtorEq, Nat.reduceAdd, Nat.reduceSub, Nat.reduceMul, Nat.reduceLT, Nat.reduceLeDiff, Int.reduceAdd, Int.reduceSub, Int.reduceMul, Int.reduceLT, Int.reduceLE, Int.reduceEq, Int.reduceNeg, Int.reduceNe, Int.reduceGE, Int.reduceGT, Nat.reduceBEq, Int.reduceToNat,  spBelow_f, spBelow_t, spBelow_k, spByteA_f, spByteA_t, spByteA_k, takeP_eq, hj]
      repeat (refine And.intro (by first | omega | (simp; done) | (simp; omega) | (unfold appRoom; omega)) ?_)
      refine unrollI hE [(), (), (), (), (), (), (), (), (), (), (), (), (), ()] ?_
      simp (config := { maxSteps := 2000000 }) only [go_sem, hG, hP, Nat.reduceEqDiff, ↓reduceIte, reduceCtorEq, Nat.reduceAdd, Nat.reduceSub, Nat.reduceMul, Nat.reduceLT, Nat.reduceLeDiff, Int.reduceAdd, Int.reduceSub, Int.reduceMul, Int.reduceLT, Int.reduceLE, Int.reduceEq, Int.reduceNeg, Int.reduceNe, Int.reduceGE, Int.reduceGT, Nat.reduceBEq, Int.reduceToNat,  spBelow_f, spBelow_t, spBelow_k, spByteA_f, spByteA_t, spByteA_k, takeP_eq]
      repeat (refine And.intro (by first | omega | (simp; done) | (simp; omega) | (unfold appRoom; omega)) ?_)
      intro x1 i1 hb1
      refine And.intro ⟨hb1.2.1, hb1.2.2, b3⟩ ?_
      intro x2 i2 hb2
      refine And.intro ⟨hb2.2.1, hb2.2.2, b3⟩ ?_
      intro x3 i3 hb3
      refine And.intro ⟨hb3.2.1, hb3.2.2, b3⟩ ?_
      intro x4 i4 hb4
      refine And.intro ⟨hb4.2.1, hb4.2.2, b3⟩ ?_
      intro x5 i5 hb5
      refine And.intro ⟨hb5.2.1, hb5.2.2, b3⟩ ?_
      intro x6 i6 hb6
      refine And.intro ⟨hb6.2.1, hb6.2.2, b3⟩ ?_
      intro x7 i7 hb7
      refine And.intro ⟨hb7.2.1, hb7.2.2, b3⟩ ?_
      intro x8 i8 hb8
      refine And.intro ⟨hb8.2.1, hb8.2.2, b3⟩ ?_
      intro x9 i9 hb9
      refine And.intro ⟨hb9.2.1, hb9.2.2, b3⟩ ?_
      intro x10 i10 hb10
      refine And.intro ⟨hb10.2.1, hb10.2.2, b3⟩ ?_
      intro x11 i11 hb11
      refine And.intro ⟨hb11.2.1, hb11.2.2, b3⟩ ?_
      intro x12 i12 hb12
      refine And.intro ⟨hb12.2.1, hb12.2.2, b3⟩ ?_
      intro x13 i13 h13 hb13
      refine And.intro ⟨hb13.2.1, hb13.2.2, b3⟩ ?_
      refine ⟨_, _, _, ?_, hh (wr .u8 (wr .i64 (13 + wr .i64 (16 * (curX b i13 h13).tmod 16)))) (wr .u8 x1) (wr .u8 x2) (wr .u8 x3) (wr .u8 x4) (wr .u8 x5) (wr .u8 x6) (wr .u8 x7) (wr .u8 x8) (wr .u8 x9) (wr .u8 x10) (wr .u8 x11) (wr .u8 x12) (wr .u8 x13) 0 0 (curI b i13) (curH h13) ⟨⟨wr8_bd _, wr8_bd _, wr8_bd _, wr8_bd _, wr8_bd _, wr8_bd _, wr8_bd _, wr8_bd _, wr8_bd _, wr8_bd _, wr8_bd _, wr8_bd _, wr8_bd _, wr8_bd _, by omega, by omega⟩, curI_bd (b := b) hb13.2⟩⟩
      simp (config := { maxSteps := 2000000 }) only [go_sem, hG, hP, Nat.reduceEqDiff, ↓reduceIte, reduceCtorEq, Nat.reduceAdd, Nat.reduceSub, Nat.reduceMul, Nat.reduceLT, Nat.reduceLeDiff, Int.reduceAdd, Int.reduceSub, Int.reduceMul, Int.reduceLT, Int.reduceLE, Int.reduceEq, Int.reduceNeg, Int.reduceNe, Int.reduceGE, Int.reduceGT, Nat.reduceBEq, Int.reduceToNat]
      all_goals simp
    · simp (config := { maxSteps := 2000000 }) only [go_sem, hG, hP, Nat.reduceEqDiff, ↓reduceIte, reduceCtorEq, Nat.reduceAdd, Nat.reduceSub, Nat.reduceMul, Nat.reduceLT, Nat.reduceLeDiff, Int.reduceAdd, Int.reduceSub, Int.reduceMul, Int.reduceLT, Int.reduceLE, Int.reduceEq, Int.reduceNeg, Int.reduceNe, Int.reduceGE, Int.reduceGT, Nat.reduceBEq, Int.reduceToNat,  spBelow_f, spBelow_t, spBelow_k, spByteA_f, spByteA_t, spByteA_k, takeP_eq, hj]
      repeat (refine And.intro (by first | omega | (simp; done) | (simp; omega) | (unfold appRoom; omega)) ?_)
      refine unrollI hE [(), (), (), (), (), (), (), (), (), (), (), (), (), (), ()] ?_
      simp (config := { maxSteps := 2000000 }) only [go_sem, hG, hP, Nat.reduceEqDiff, ↓reduceIte, reduceCtorEq, Nat.reduceAdd, Nat.reduceSub, Nat.reduceMul, Nat.reduceLT, Nat.reduceLeDiff, Int.reduceAdd, Int.reduceSub, Int.reduceMul, Int.reduceLT, Int.reduceLE, Int.reduceEq, Int.reduceNeg, Int.reduceNe, Int.reduceGE, Int.reduceGT, Nat.reduceBEq, Int.reduceToNat,  spBelow_f, spBelow_t, spBelow_k, spByteA_f, spByteA_t, spByteA_k, takeP_eq]
      repeat (refine And.intro (by first | omega | (simp; done) | (simp; omega) | (unfold appRoom; omega)) ?_)
      intro x1 i1 hb1
      refine And.intro ⟨hb1.2.1, hb1.2.2, b3⟩ ?_
      intro x2 i2 hb2
      refine And.intro ⟨hb2.2.1, hb2.2.2, b3⟩ ?_
      intro x3 i3 hb3
      refine And.intro ⟨hb3.2.1, hb3.2.2, b3⟩ ?_
      intro x4 i4 hb4
      refine And.intro ⟨hb4.2.1, hb4.2.2, b3⟩ ?_
      intro x5 i5 hb5
      refine And.intro ⟨hb5.2.1, hb5.2.2, b3⟩ ?_
      intro x6 i6 hb6
      refine And.intro ⟨hb6.2.1, hb6.2.2, b3⟩ ?_
      intro x7 i7 hb7
      refine And.intro ⟨hb7.2.1, hb7.2.2, b3⟩ ?_
      intro x8 i8 hb8
      refine And.intro ⟨hb8.2.1, hb8.2.2, b3⟩ ?_
      intro x9 i9 hb9
      refine And.intro ⟨hb9.2.1, hb9.2.2, b3⟩ ?_
      intro x10 i10 hb10
      refine And.intro ⟨hb10.2.1, hb10.2.2, b3⟩ ?_
      intro x11 i11 hb11
      refine And.intro ⟨hb11.2.1, hb11.2.2, b3⟩ ?_
      intro x12 i12 hb12
      refine And.intro ⟨hb12.2.1, hb12.2.2, b3⟩ ?_
      intro x13 i13 hb13
      refine And.intro ⟨hb13.2.1, hb13.2.2, b3⟩ ?_
      intro x14 i14 h14 hb14
      refine And.intro ⟨hb14.2.1, hb14.2.2, b3⟩ ?_
      refine ⟨_, _, _, ?_, hh (wr .u8 (wr .i64 (14 + wr .i64 (16 * (curX b i14 h14).tmod 16)))) (wr .u8 x1) (wr .u8 x2) (wr .u8 x3) (wr .u8 x4) (wr .u8 x5) (wr .u8 x6) (wr .u8 x7) (wr .u8 x8) (wr .u8 x9) (wr .u8 x10) (wr .u8 x11) (wr .u8 x12) (wr .u8 x13) (wr .u8 x14) 0 (curI b i14) (curH h14) ⟨⟨wr8_bd _, wr8_bd _, wr8_bd _, wr8_bd _, wr8_bd _, wr8_bd _, wr8_bd _, wr8_bd _, wr8_bd _, wr8_bd _, wr8_bd _, wr8_bd _, wr8_bd _, wr8_bd _, wr8_bd _, by omega⟩, curI_bd (b := b) hb14.2⟩⟩
      simp (config := { maxSteps := 2000000 }) only [go_sem, hG, hP, Nat.reduceEqDiff, ↓reduceIte, reduceCtorEq, Nat.reduceAdd, Nat.reduceSub, Nat.reduceMul, Nat.reduceLT, Nat.reduceLeDiff, Int.reduceAdd, Int.reduceSub, Int.reduceMul, Int.reduceLT, Int.reduceLE, Int.reduceEq, Int.reduceNeg, Int.reduceNe, Int.reduceGE, Int.reduceGT, Nat.reduceBEq, Int.reduceToNat]
      all_goals simp
    · simp (config := { maxSteps := 2000000 }) only [go_sem, hG, hP, Nat.reduceEqDiff, ↓reduceIte, reduceCtorEq, Nat.reduceAdd, Nat.reduceSub, Nat.reduceMul, Nat.reduceLT, Nat.reduceLeDiff, Int.reduceAdd, Int.reduceSub, Int.reduceMul, Int.reduceLT, Int.reduceLE, Int.reduceEq, Int.reduceNeg, Int.reduceNe, Int.reduceGE, Int.reduceGT, Nat.reduceBEq, Int.reduceToNat,  spBelow_f, spBelow_t, spBelow_k, spByteA_f, spByteA_t, spByteA_k, takeP_eq, hj]
      repeat (refine And.intro (by first | omega | (simp; done) | (simp; omega) | (unfold appRoom; omega)) ?_)
      refine unrollI hE [(), (), (), (), (), (), (), (), (), (), (), (), (), (), (), ()] ?_
      simp (config := { maxSteps := 2000000 }) only [go_sem, hG, hP, Nat.reduceEqDiff, ↓reduceIte, reduceCtorEq, Nat.reduceAdd, Nat.reduceSub, Nat.reduceMul, Nat.reduceLT, Nat.reduceLeDiff, Int.reduceAdd, Int.reduceSub, Int.reduceMul, Int.reduceLT, Int.reduceLE, Int.reduceEq, Int.reduceNeg, Int.reduceNe, Int.reduceGE, Int.reduceGT, Nat.reduceBEq, Int.reduceToNat,  spBelow_f, spBelow_t, spBelow_k, spByteA_f, spByteA_t, spByteA_k, takeP_eq]
      repeat (refine And.intro (by first | omega | (simp; done) | (simp; omega) | (unfold appRoom; omega)) ?_)
      intro x1 i1 hb1
      refine And.intro ⟨hb1.2.1, hb1.2.2, b3⟩ ?_
      intro x2 i2 hb2
      refine And.intro ⟨hb2.2.1, hb2.2.2, b3⟩ ?_
      intro x3 i3 hb3
      refine And.intro ⟨hb3.2.1, hb3.2.2, b3⟩ ?_
      intro x4 i4 hb4
      refine And.intro ⟨hb4.2.1, hb4.2.2, b3⟩ ?_
      intro x5 i5 hb5
      refine And.intro ⟨hb5.2.1, hb5.2.2, b3⟩ ?_
      intro x6 i6 hb6
      refine And.intro ⟨hb6.2.1, hb6.2.2, b3⟩ ?_
      intro x7 i7 hb7
      refine And.intro ⟨hb7.2.1, hb7.2.2, b3⟩ ?_
      intro x8 i8 hb8
      refine And.intro ⟨hb8.2.1, hb8.2.2, b3⟩ ?_
      intro x9 i9 hb9
      refine And.intro ⟨hb9.2.1, hb9.2.2, b3⟩ ?_
      intro x10 i10 hb10
      refine And.intro ⟨hb10.2.1, hb10.2.2, b3⟩ ?_
      intro x11 i11 hb11
      refine And.intro ⟨hb11.2.1, hb11.2.2, b3⟩ ?_
      intro x12 i12 hb12
      refine And.intro ⟨hb12.2.1, hb12.2.2, b3⟩ ?_
      intro x13 i13 hb13
      refine And.intro ⟨hb13.2.1, hb13.2.2, b3⟩ ?_
      intro x14 i14 hb14
      refine And.intro ⟨hb14.2.1, hb14.2.2, b3⟩ ?_
      intro x15 i15 h15 hb15
      refine And.intro ⟨hb15.2.1, hb15.2.2, b3⟩ ?_
      refine ⟨_, _, _, ?_, hh (wr .u8 (wr .i64 (15 + wr .i64 (16 * (curX b i15 h15).tmod 16)))) (wr .u8 x1) (wr .u8 x2) (wr .u8 x3) (wr .u8 x4) (wr .u8 x5) (wr .u8 x6) (wr .u8 x7) (wr .u8 x8) (wr .u8 x9) (wr .u8 x10) (wr .u8 x11) (wr .u8 x12) (wr .u8 x13) (wr .u8 x14) (wr .u8 x15) (curI b i15) (curH h15) ⟨⟨wr8_bd _, wr8_bd _, wr8_bd _, wr8_bd _, wr8_bd _, wr8_bd _, wr8_bd _, wr8_bd _, wr8_bd _, wr8_bd _, wr8_bd _, wr8_bd _, wr8_bd _, wr8_bd _, wr8_bd _, wr8_bd _⟩, curI_bd (b := b) hb15.2⟩⟩
      simp (config := { maxSteps := 2000000 }) only [go_sem, hG, hP, Nat.reduceEqDiff, ↓reduceIte, reduceCtorEq, Nat.reduceAdd, Nat.reduceSub, Nat.reduceMul, Nat.reduceLT, Nat.reduceLeDiff, Int.reduceAdd, Int.reduceSub, Int.reduceMul, Int.reduceLT, Int.reduceLE, Int.reduceEq, Int.reduceNeg, Int.reduceNe, Int.reduceGE, Int.reduceGT, Nat.reduceBEq, Int.reduceToNat]
      all_goals simp
  · exact hh.elim
end Go.Proofs.YtfjfaajdbomhbaaE
