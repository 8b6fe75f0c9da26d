/- A part of a proof that a law of the given program holds for every input: no condition. -/
import Derived.Test.YtfjfaajdbomhbaaProg
import Derived.KernelRfl
import Derived.Deep.Slices
import Derived.OpenShut
import Derived.SizedLaws
import Derived.WideLaws
import Derived.Test.YtfjfaajdbomhbaaRows
import Derived.ProofKit
import Derived.ShutString
import Derived.ChangeOld
import Derived.Below
import Derived.Test.YtfjfaajdbomhbaaKFnExactUncells1

set_option linter.unusedSimpArgs false
set_option linter.unusedVariables false
/-! Bytes are laid into cells. -/
namespace Go.Proofs.YtfjfaajdbomhbaaE
open Go Go.RowKit
set_option linter.unusedSimpArgs false
set_option linter.unusedVariables false
set_option maxRecDepth 50000
set_option maxHeartbeats 8000000

/-- The array of a cell of which n bytes have been laid. -/
def rowN (b : List Int) (p n : Nat) : List Int := (List.range 16).map fun k => if 1 ≤ k ∧ k ≤ n then b.getD (p + (k - 1)) 0 else 0
theorem rowN_len {b : List Int} {p n : Nat} : (rowN b p n).length = 16 := by simp [rowN]
theorem rowN_get {b : List Int} {p n k : Nat} (h : k < 16) : (rowN b p n).getD k 0 = if 1 ≤ k ∧ k ≤ n then b.getD (p + (k - 1)) 0 else 0 := by simp [rowN, List.getD, h]
theorem rowN_zero {b : List Int} {p : Nat} : rowN b p 0 = List.replicate 16 0 := by
  apply List.ext_getElem?
  intro i
  by_cases h : i < 16
  · simp only [rowN, List.getElem?_map, List.getElem?_range h, Option.map_some, List.getElem?_replicate, if_pos h]
    rw [if_neg (by omega)]
  · simp [rowN, h]
theorem rowN_lit {b : List Int} {p : Nat} : rowN b p 0 = [0, 0, 0, 0, 0, 0, 0, 0, 0, 0, 0, 0, 0, 0, 0, 0] := rowN_zero
theorem rowN_set {b : List Int} {p n : Nat} (h : n < 15) : (rowN b p n).set (n + 1) (b.getD (p + n) 0) = rowN b p (n + 1) := by
  apply List.ext_getElem?
  intro i
  rw [List.getElem?_set, rowN_len]
  by_cases hi : i < 16
  · by_cases e : n + 1 = i
    · subst e
      rw [if_pos rfl, if_pos hi]
      simp [rowN, hi]
    · rw [if_neg e]
      simp only [rowN, List.getElem?_map, List.getElem?_range hi, Option.map_some]
      by_cases h2 : 1 ≤ i ∧ i ≤ n
      · rw [if_pos h2, if_pos (by omega)]
      · rw [if_neg h2, if_neg (by omega)]
  · rw [if_neg (by omega)]
    simp [rowN, hi]
theorem cpy_row {b : List Int} {p : Nat} : cpyL (List.replicate 16 0) (b.drop p) 1 15 = rowN b p (min 15 (b.length - p)) := by
  apply List.ext_getElem?
  intro i
  rw [cpyL_get (by simp), List.length_drop]
  by_cases hi : i < 16
  · simp only [rowN, List.getElem?_map, List.getElem?_range hi, Option.map_some]
    by_cases h2 : 1 ≤ i ∧ i < 1 + min 15 (b.length - p)
    · rw [if_pos h2, if_pos (by omega), List.getElem?_drop, List.getD, List.getElem?_eq_getElem (by omega)]
      rfl
    · rw [if_neg h2, if_neg (by omega), List.getElem?_replicate, if_pos hi]
  · rw [if_neg (by omega)]
    simp [rowN, hi]
theorem rowA_cell {b : List Int} {p : Nat} {h : Int} : rowA .byte ((rowN b p (min 15 (b.length - p))).set 0 h) 16 = [.v (.int .u8 h), .v (.int .u8 (b.getD (p + 0) 0)), .v (.int .u8 (b.getD (p + 1) 0)), .v (.int .u8 (b.getD (p + 2) 0)), .v (.int .u8 (b.getD (p + 3) 0)), .v (.int .u8 (b.getD (p + 4) 0)), .v (.int .u8 (b.getD (p + 5) 0)), .v (.int .u8 (b.getD (p + 6) 0)), .v (.int .u8 (b.getD (p + 7) 0)), .v (.int .u8 (b.getD (p + 8) 0)), .v (.int .u8 (b.getD (p + 9) 0)), .v (.int .u8 (b.getD (p + 10) 0)), .v (.int .u8 (b.getD (p + 11) 0)), .v (.int .u8 (b.getD (p + 12) 0)), .v (.int .u8 (b.getD (p + 13) 0)), .v (.int .u8 (b.getD (p + 14) 0))] := by
  have h0 : ∀ k, k < 15 → ((rowN b p (min 15 (b.length - p))).set 0 h).getD (k + 1) 0 = b.getD (p + k) 0 := by
    intro k hk
    have h1 : ((rowN b p (min 15 (b.length - p))).set 0 h).getD (k + 1) 0 = (rowN b p (min 15 (b.length - p))).getD (k + 1) 0 := by
      simp [List.getD, List.getElem?_set]
    rw [h1, rowN_get (by omega)]
    by_cases h2 : 1 ≤ k + 1 ∧ k + 1 ≤ min 15 (b.length - p)
    · rw [if_pos h2]; rfl
    · rw [if_neg h2, List.getD, List.getElem?_eq_none (by omega)]; rfl
  have h1 : ((rowN b p (min 15 (b.length - p))).set 0 h).getD 0 0 = h := by simp [List.getD, rowN_len]
  show [_, _, _, _, _, _, _, _, _, _, _, _, _, _, _, _] = _
  simp only [dflt, h0 0 (by decide), h0 1 (by decide), h0 2 (by decide), h0 3 (by decide), h0 4 (by decide), h0 5 (by decide), h0 6 (by decide), h0 7 (by decide), h0 8 (by decide), h0 9 (by decide), h0 10 (by decide), h0 11 (by decide), h0 12 (by decide), h0 13 (by decide), h0 14 (by decide), h1]
/-- A cell's first byte. -/
def hdC (b : List Int) (j : Nat) : Int := ((min 15 (b.length - 15 * j) : Nat) : Int) + 16 * ((j % 8 : Nat) : Int)
def hdV (b : List Int) (j : Nat) : Int := if b.length ≤ 15 * j + 15 then hdC b j + 128 else hdC b j
def cellAt (b : List Int) (j : Nat) : C16 := ⟨hdV b j, b.getD (15 * j + 0) 0, b.getD (15 * j + 1) 0, b.getD (15 * j + 2) 0, b.getD (15 * j + 3) 0, b.getD (15 * j + 4) 0, b.getD (15 * j + 5) 0, b.getD (15 * j + 6) 0, b.getD (15 * j + 7) 0, b.getD (15 * j + 8) 0, b.getD (15 * j + 9) 0, b.getD (15 * j + 10) 0, b.getD (15 * j + 11) 0, b.getD (15 * j + 12) 0, b.getD (15 * j + 13) 0, b.getD (15 * j + 14) 0⟩
def cellsP (b : List Int) : List C16 := if 900 < b.length then [] else (List.range ((b.length + 14) / 15)).map (cellAt b)
theorem hdC_bd (b : List Int) (j : Nat) : 0 ≤ hdC b j ∧ hdC b j ≤ 127 := by unfold hdC; omega
theorem or_128 : ∀ x : Fin 128, orV .u8 ((x.val : Nat) : Int) 128 = ((x.val : Nat) : Int) + 128 := by unfold orV; rw [wr_eq]; decide +kernel
theorem hdC_or (b : List Int) (j : Nat) : orV .u8 (hdC b j) 128 = hdC b j + 128 := by
  obtain ⟨h1, h2⟩ := hdC_bd b j
  have := or_128 ⟨(hdC b j).toNat, by omega⟩
  simpa [Int.toNat_of_nonneg h1] using this
theorem cells_snoc (b : List Int) (j : Nat) : (List.range j).map (cellAt b) ++ [cellAt b j] = (List.range (j + 1)).map (cellAt b) := by
  rw [List.range_succ, List.map_append]; rfl
theorem cells_len (b : List Int) (j : Nat) : ((List.range j).map (cellAt b)).length = j := by simp
def spCells : Spec := ⟨fun _ _ => [], fun args objs K => match args, objs with
  | [.rs .byte b], [] => K (.sub 0 16 0 (cellsP b).length) [(0, .row .c16 (cellsP b))] 1
  | _, _ => False, false⟩
theorem spCells_t {L : Hp} {a : List AVal} : Spec.take spCells L a = [] := id rfl
theorem spCells_k : Spec.keep spCells = false := id rfl
theorem spCells_f {b} {K : AVal → Hp → Nat → Prop} : Spec.f spCells ([.rs .byte b]) ([]) K = (K (.sub 0 16 0 (cellsP b).length) [(0, .row .c16 (cellsP b))] 1) := id rfl
theorem valid22 : Valid Try.prog 22 spCells := by
  refine validI (Γ := lk []) Try.func22 bod22 low22 res22 (good_of trivial) ?_
  intro E args objs K h hE hG hP
  simp only [spCells] at h
  split at h
  · refine ⟨by simp [Try.ntmps22], ?_⟩
    rename_i b
    by_cases hz : b.length = 0 ∨ 900 < b.length
    · have e0 : cellsP b = [] := by
        unfold cellsP
        rcases hz with hz | hz
        · rw [if_neg (by omega), hz]; rfl
        · rw [if_pos hz]
      rw [e0] at h
      simp (config := { maxSteps := 2000000 }) only [go_sem, hG, hP, Nat.reduceEqDiff, ↓reduceIte, reduceCtorEq, Nat.reduceAdd, Nat.reduceSub, Nat.reduceMul, Nat.reduceLT, Nat.reduceLeDiff, Int.reduceAdd, Int.reduceSub, Int.reduceMul, Int.reduceLT, Int.reduceLE, Int.reduceEq, Int.reduceNeg, Int.reduceNe, Int.reduceGE, Int.reduceGT, Nat.reduceBEq, Int.reduceToNat]
      repeat' (first | (refine And.intro ?_ ?_) | (with_reducible intro _))
      all_goals first
        | (exfalso; omega)
        | (refine ⟨_, _, _, ?_, h⟩; simp (config := { maxSteps := 2000000 }) only [go_sem, hG, hP, Nat.reduceEqDiff, ↓reduceIte, reduceCtorEq, Nat.reduceAdd, Nat.reduceSub, Nat.reduceMul, Nat.reduceLT, Nat.reduceLeDiff, Int.reduceAdd, Int.reduceSub, Int.reduceMul, Int.reduceLT, Int.reduceLE, Int.reduceEq, Int.reduceNeg, Int.reduceNe, Int.reduceGE, Int.reduceGT, Nat.reduceBEq, Int.reduceToNat]; repeat' (first | with_reducible rfl | (refine And.intro ?_ ?_) | (refine congrArg (Value.int _) ?_; omega) | omega); done)
        | skip
      all_goals trace_state
      done
    · have hz1 : ((b.length : Int) = 0) = False := by apply eq_false; omega
      have hz2 : ((b.length : Int) > 900) = False := by apply eq_false; omega
      have e0 : cellsP b = (List.range ((b.length + 14) / 15)).map (cellAt b) := by unfold cellsP; rw [if_neg (by omega)]
      rw [e0, cells_len] at h
      simp (config := { maxSteps := 2000000 }) only [go_sem, hG, hP, Nat.reduceEqDiff, ↓reduceIte, reduceCtorEq, Nat.reduceAdd, Nat.reduceSub, Nat.reduceMul, Nat.reduceLT, Nat.reduceLeDiff, Int.reduceAdd, Int.reduceSub, Int.reduceMul, Int.reduceLT, Int.reduceLE, Int.reduceEq, Int.reduceNeg, Int.reduceNe, Int.reduceGE, Int.reduceGT, Nat.reduceBEq, Int.reduceToNat,  hz1, hz2]
      refine loopI hE (fun j : Nat => ⟨[(0, .rs .byte b), (3, .sub 0 16 0 j), (4, .v (.int .i64 ((15 * j : Nat) : Int)))], [(0, .row .c16 ((List.range j).map (cellAt b)))], 1, Try.f22.ntmps⟩) (fun j => j ≤ (b.length + 14) / 15) (fun j => (b.length + 14) / 15 - j) ⟨0, by omega, SubS.weak ?_⟩ ?_
      · simp (config := { maxSteps := 2000000 }) only [go_sem, hG, hP, Nat.reduceEqDiff, ↓reduceIte, reduceCtorEq, Nat.reduceAdd, Nat.reduceSub, Nat.reduceMul, Nat.reduceLT, Nat.reduceLeDiff, Int.reduceAdd, Int.reduceSub, Int.reduceMul, Int.reduceLT, Int.reduceLE, Int.reduceEq, Int.reduceNeg, Int.reduceNe, Int.reduceGE, Int.reduceGT, Nat.reduceBEq, Int.reduceToNat,  List.range_zero, List.map_nil]
        repeat' (first | with_reducible rfl | (refine And.intro ?_ ?_) | (refine congrArg (Value.int _) ?_; omega) | omega)
      · intro j hj
        dsimp only at hj ⊢
        by_cases hlt : 15 * j < b.length
        · have e1 : (((15 * j : Nat) : Int) < b.length) = True := by apply eq_true; omega
          have ht : (j : Int).tmod 8 = ((j % 8 : Nat) : Int) := rfl
          have hh : ((min 15 (b.length - 15 * j) : Nat) : Int) + 16 * ((j % 8 : Nat) : Int) = hdC b j := rfl
          have hb := hdC_bd b j
          have hw : wr .u8 (hdC b j) = hdC b j := by rw [wr_eq, IntKind.wrap_u8]; omega
          have ho := hdC_or b j
          have htk : List.take ((b.length : Int) - ((15 * j : Nat) : Int)).toNat (List.drop (15 * j) b) = List.drop (15 * j) b := List.take_of_length_le (by rw [List.length_drop]; omega)
          have wa : wr .i64 (((15 * j : Nat) : Int) + 15) = ((15 * j : Nat) : Int) + 15 := wrap_id (by omega) (by omega)
          have wb : wr .i64 (16 * ((j % 8 : Nat) : Int)) = 16 * ((j % 8 : Nat) : Int) := wrap_id (by omega) (by omega)
          have wc : wr .i64 (hdC b j) = hdC b j := wrap_id (by omega) (by omega)
          have hcl : ∀ h, hdV b j = h → (⟨h, b.getD (15 * j) 0, b.getD (15 * j + 1) 0, b.getD (15 * j + 2) 0, b.getD (15 * j + 3) 0, b.getD (15 * j + 4) 0, b.getD (15 * j + 5) 0, b.getD (15 * j + 6) 0, b.getD (15 * j + 7) 0, b.getD (15 * j + 8) 0, b.getD (15 * j + 9) 0, b.getD (15 * j + 10) 0, b.getD (15 * j + 11) 0, b.getD (15 * j + 12) 0, b.getD (15 * j + 13) 0, b.getD (15 * j + 14) 0⟩ : C16) = cellAt b j := fun h e => by unfold cellAt; rw [e]; rfl
          have htj : List.take j (List.map (cellAt b) (List.range j)) = List.map (cellAt b) (List.range j) := List.take_of_length_le (by simp)
          by_cases he : b.length ≤ 15 * j + 15
          · have e2 : (((15 * j : Nat) : Int) + 15 ≥ b.length) = True := by apply eq_true; omega
            have hv : hdV b j = hdC b j + 128 := if_pos he
            simp (config := { maxSteps := 2000000 }) only [go_sem, hG, hP, Nat.reduceEqDiff, ↓reduceIte, reduceCtorEq, Nat.reduceAdd, Nat.reduceSub, Nat.reduceMul, Nat.reduceLT, Nat.reduceLeDiff, Int.reduceAdd, Int.reduceSub, Int.reduceMul, Int.reduceLT, Int.reduceLE, Int.reduceEq, Int.reduceNeg, Int.reduceNe, Int.reduceGE, Int.reduceGT, Nat.reduceBEq, Int.reduceToNat,  e1, e2, ht, htk, cpy_row, rowN_len, List.length_set, List.set_set, gds, List.length_drop, hh, hw, ho, rowA_cell, cells_len, wa, wb, wc, htj, hcl _ hv, cells_snoc]
            (try simp (disch := omega) only [wrap_id])
            repeat (refine And.intro (by first | omega | (simp; done) | (simp; omega) | (unfold appRoom; omega)) ?_)
            refine ⟨j + 1, ⟨by omega, by omega⟩, SubS.weak ?_⟩
            simp (config := { maxSteps := 2000000 }) only [go_sem, hG, hP, Nat.reduceEqDiff, ↓reduceIte, reduceCtorEq, Nat.reduceAdd, Nat.reduceSub, Nat.reduceMul, Nat.reduceLT, Nat.reduceLeDiff, Int.reduceAdd, Int.reduceSub, Int.reduceMul, Int.reduceLT, Int.reduceLE, Int.reduceEq, Int.reduceNeg, Int.reduceNe, Int.reduceGE, Int.reduceGT, Nat.reduceBEq, Int.reduceToNat]
            repeat' (first | with_reducible rfl | (refine And.intro ?_ ?_) | (refine congrArg (Value.int _) ?_; omega) | omega)
          · have e2 : (((15 * j : Nat) : Int) + 15 ≥ b.length) = False := by apply eq_false; omega
            have hv : hdV b j = hdC b j := if_neg he
            simp (config := { maxSteps := 2000000 }) only [go_sem, hG, hP, Nat.reduceEqDiff, ↓reduceIte, reduceCtorEq, Nat.reduceAdd, Nat.reduceSub, Nat.reduceMul, Nat.reduceLT, Nat.reduceLeDiff, Int.reduceAdd, Int.reduceSub, Int.reduceMul, Int.reduceLT, Int.reduceLE, Int.reduceEq, Int.reduceNeg, Int.reduceNe, Int.reduceGE, Int.reduceGT, Nat.reduceBEq, Int.reduceToNat,  e1, e2, ht, htk, cpy_row, rowN_len, List.length_set, List.set_set, gds, List.length_drop, hh, hw, ho, rowA_cell, cells_len, wa, wb, wc, htj, hcl _ hv, cells_snoc]
            (try simp (disch := omega) only [wrap_id])
            repeat (refine And.intro (by first | omega | (simp; done) | (simp; omega) | (unfold appRoom; omega)) ?_)
            refine ⟨j + 1, ⟨by omega, by omega⟩, SubS.weak ?_⟩
            simp (config := { maxSteps := 2000000 }) only [go_sem, hG, hP, Nat.reduceEqDiff, ↓reduceIte, reduceCtorEq, Nat.reduceAdd, Nat.reduceSub, Nat.reduceMul, Nat.reduceLT, Nat.reduceLeDiff, Int.reduceAdd, Int.reduceSub, Int.reduceMul, Int.reduceLT, Int.reduceLE, Int.reduceEq, Int.reduceNeg, Int.reduceNe, Int.reduceGE, Int.reduceGT, Nat.reduceBEq, Int.reduceToNat]
            repeat' (first | with_reducible rfl | (refine And.intro ?_ ?_) | (refine congrArg (Value.int _) ?_; omega) | omega)
        · have e1 : (((15 * j : Nat) : Int) < b.length) = False := by apply eq_false; omega
          have ej : j = (b.length + 14) / 15 := by omega
          simp (config := { maxSteps := 2000000 }) only [go_sem, hG, hP, Nat.reduceEqDiff, ↓reduceIte, reduceCtorEq, Nat.reduceAdd, Nat.reduceSub, Nat.reduceMul, Nat.reduceLT, Nat.reduceLeDiff, Int.reduceAdd, Int.reduceSub, Int.reduceMul, Int.reduceLT, Int.reduceLE, Int.reduceEq, Int.reduceNeg, Int.reduceNe, Int.reduceGE, Int.reduceGT, Nat.reduceBEq, Int.reduceToNat,  e1]
          subst ej
          refine ⟨_, _, _, ?_, h⟩
          simp (config := { maxSteps := 2000000 }) only [go_sem, hG, hP, Nat.reduceEqDiff, ↓reduceIte, reduceCtorEq, Nat.reduceAdd, Nat.reduceSub, Nat.reduceMul, Nat.reduceLT, Nat.reduceLeDiff, Int.reduceAdd, Int.reduceSub, Int.reduceMul, Int.reduceLT, Int.reduceLE, Int.reduceEq, Int.reduceNeg, Int.reduceNe, Int.reduceGE, Int.reduceGT, Nat.reduceBEq, Int.reduceToNat]
          repeat' (first | with_reducible rfl | (refine And.intro ?_ ?_) | (refine congrArg (Value.int _) ?_; omega) | omega)
  · exact h.elim
theorem valid21 : Valid Try.prog 21 spCells := by
  refine validI (Γ := lk []) Try.func21 bod21 low21 res21 (good_of trivial) ?_
  intro E args objs K h hE hG hP
  simp only [spCells] at h
  split at h
  · refine ⟨by simp [Try.ntmps21], ?_⟩
    rename_i b
    by_cases hz : 900 < b.length
    · have e0 : cellsP b = [] := if_pos hz
      have hz2 : ((b.length : Int) > 900) = True := by apply eq_true; omega
      rw [e0] at h
      simp (config := { maxSteps := 2000000 }) only [go_sem, hG, hP, Nat.reduceEqDiff, ↓reduceIte, reduceCtorEq, Nat.reduceAdd, Nat.reduceSub, Nat.reduceMul, Nat.reduceLT, Nat.reduceLeDiff, Int.reduceAdd, Int.reduceSub, Int.reduceMul, Int.reduceLT, Int.reduceLE, Int.reduceEq, Int.reduceNeg, Int.reduceNe, Int.reduceGE, Int.reduceGT, Nat.reduceBEq, Int.reduceToNat,  hz2]
      refine ⟨_, _, _, ?_, h⟩
      simp (config := { maxSteps := 2000000 }) only [go_sem, hG, hP, Nat.reduceEqDiff, ↓reduceIte, reduceCtorEq, Nat.reduceAdd, Nat.reduceSub, Nat.reduceMul, Nat.reduceLT, Nat.reduceLeDiff, Int.reduceAdd, Int.reduceSub, Int.reduceMul, Int.reduceLT, Int.reduceLE, Int.reduceEq, Int.reduceNeg, Int.reduceNe, Int.reduceGE, Int.reduceGT, Nat.reduceBEq, Int.reduceToNat]
      repeat' (first | with_reducible rfl | (refine And.intro ?_ ?_) | (refine congrArg (Value.int _) ?_; omega) | omega)
    · have hz2 : ((b.length : Int) > 900) = False := by apply eq_false; omega
      have e0 : cellsP b = (List.range ((b.length + 14) / 15)).map (cellAt b) := by unfold cellsP; rw [if_neg (by omega)]
      rw [e0, cells_len] at h
      simp (config := { maxSteps := 2000000 }) only [go_sem, hG, hP, Nat.reduceEqDiff, ↓reduceIte, reduceCtorEq, Nat.reduceAdd, Nat.reduceSub, Nat.reduceMul, Nat.reduceLT, Nat.reduceLeDiff, Int.reduceAdd, Int.reduceSub, Int.reduceMul, Int.reduceLT, Int.reduceLE, Int.reduceEq, Int.reduceNeg, Int.reduceNe, Int.reduceGE, Int.reduceGT, Nat.reduceBEq, Int.reduceToNat,  hz2]
      refine loopI hE (fun j : Nat => ⟨[(0, .rs .byte b), (3, .sub 0 16 0 j), (4, .v (.int .i64 ((15 * j : Nat) : Int)))], [(0, .row .c16 ((List.range j).map (cellAt b)))], 1, Try.f21.ntmps⟩) (fun j => j ≤ (b.length + 14) / 15) (fun j => (b.length + 14) / 15 - j) ⟨0, by omega, SubS.weak ?_⟩ ?_
      · simp (config := { maxSteps := 2000000 }) only [go_sem, hG, hP, Nat.reduceEqDiff, ↓reduceIte, reduceCtorEq, Nat.reduceAdd, Nat.reduceSub, Nat.reduceMul, Nat.reduceLT, Nat.reduceLeDiff, Int.reduceAdd, Int.reduceSub, Int.reduceMul, Int.reduceLT, Int.reduceLE, Int.reduceEq, Int.reduceNeg, Int.reduceNe, Int.reduceGE, Int.reduceGT, Nat.reduceBEq, Int.reduceToNat,  List.range_zero, List.map_nil]
        repeat' (first | with_reducible rfl | (refine And.intro ?_ ?_) | (refine congrArg (Value.int _) ?_; omega) | omega)
      · intro j hj
        dsimp only at hj ⊢
        by_cases hlt : 15 * j < b.length
        · have e1 : (((15 * j : Nat) : Int) < b.length) = True := by apply eq_true; omega
          have ht : (j : Int).tmod 8 = ((j % 8 : Nat) : Int) := rfl
          have hh : ((min 15 (b.length - 15 * j) : Nat) : Int) + 16 * ((j % 8 : Nat) : Int) = hdC b j := rfl
          have hb := hdC_bd b j
          have hw : wr .u8 (hdC b j) = hdC b j := by rw [wr_eq, IntKind.wrap_u8]; omega
          have hw2 : wr .u8 (hdC b j + 128) = hdC b j + 128 := by rw [wr_eq, IntKind.wrap_u8]; omega
          have wa : wr .i64 (((15 * j : Nat) : Int) + 15) = ((15 * j : Nat) : Int) + 15 := wrap_id (by omega) (by omega)
          have wb : wr .i64 (16 * ((j % 8 : Nat) : Int)) = 16 * ((j % 8 : Nat) : Int) := wrap_id (by omega) (by omega)
          have wc : wr .i64 (hdC b j) = hdC b j := wrap_id (by omega) (by omega)
          have hcl : ∀ h, hdV b j = h → (⟨h, b.getD (15 * j) 0, b.getD (15 * j + 1) 0, b.getD (15 * j + 2) 0, b.getD (15 * j + 3) 0, b.getD (15 * j + 4) 0, b.getD (15 * j + 5) 0, b.getD (15 * j + 6) 0, b.getD (15 * j + 7) 0, b.getD (15 * j + 8) 0, b.getD (15 * j + 9) 0, b.getD (15 * j + 10) 0, b.getD (15 * j + 11) 0, b.getD (15 * j + 12) 0, b.getD (15 * j + 13) 0, b.getD (15 * j + 14) 0⟩ : C16) = cellAt b j := fun h e => by unfold cellAt; rw [e]; rfl
          have htj : List.take j (List.map (cellAt b) (List.range j)) = List.map (cellAt b) (List.range j) := List.take_of_length_le (by simp)
          simp (config := { maxSteps := 2000000 }) only [go_sem, hG, hP, Nat.reduceEqDiff, ↓reduceIte, reduceCtorEq, Nat.reduceAdd, Nat.reduceSub, Nat.reduceMul, Nat.reduceLT, Nat.reduceLeDiff, Int.reduceAdd, Int.reduceSub, Int.reduceMul, Int.reduceLT, Int.reduceLE, Int.reduceEq, Int.reduceNeg, Int.reduceNe, Int.reduceGE, Int.reduceGT, Nat.reduceBEq, Int.reduceToNat,  e1]
          refine ⟨by simp, ?_⟩
          refine loopI hE (fun n : Nat => ⟨[(0, .rs .byte b), (3, .sub 0 16 0 j), (4, .v (.int .i64 ((15 * j : Nat) : Int))), (5, .arp 1 16), (6, .v (.int .i64 n))], [(0, .row .c16 ((List.range j).map (cellAt b))), (1, .row .byte (rowN b (15 * j) n))], 2, Try.f21.ntmps⟩) (fun n => n ≤ min 15 (b.length - 15 * j)) (fun n => min 15 (b.length - 15 * j) - n) ⟨0, by omega, SubS.weak ?_⟩ ?_
          · simp (config := { maxSteps := 2000000 }) only [go_sem, hG, hP, Nat.reduceEqDiff, ↓reduceIte, reduceCtorEq, Nat.reduceAdd, Nat.reduceSub, Nat.reduceMul, Nat.reduceLT, Nat.reduceLeDiff, Int.reduceAdd, Int.reduceSub, Int.reduceMul, Int.reduceLT, Int.reduceLE, Int.reduceEq, Int.reduceNeg, Int.reduceNe, Int.reduceGE, Int.reduceGT, Nat.reduceBEq, Int.reduceToNat,  rowN_lit]
            repeat' (first | with_reducible rfl | (refine And.intro ?_ ?_) | (refine congrArg (Value.int _) ?_; omega) | omega)
          · intro n hn
            dsimp only at hn ⊢
            by_cases hn2 : n < min 15 (b.length - 15 * j)
            · have e3 : ((n : Int) < 15) = True := by apply eq_true; omega
              have e4 : (((15 * j : Nat) : Int) + n < b.length) = True := by apply eq_true; omega
              have wd : wr .i64 (((15 * j : Nat) : Int) + n) = ((15 * j : Nat) : Int) + n := wrap_id (by omega) (by omega)
              have we : wr .i64 ((n : Int) + 1) = (n : Int) + 1 := wrap_id (by omega) (by omega)
              have hst := rowN_set (b := b) (p := 15 * j) (n := n) (by omega)
              have t1 : ((n : Int) + 1).toNat = n + 1 := by omega
              have t2 : (((15 * j : Nat) : Int) + n).toNat = 15 * j + n := by omega
              simp (config := { maxSteps := 2000000 }) only [go_sem, hG, hP, Nat.reduceEqDiff, ↓reduceIte, reduceCtorEq, Nat.reduceAdd, Nat.reduceSub, Nat.reduceMul, Nat.reduceLT, Nat.reduceLeDiff, Int.reduceAdd, Int.reduceSub, Int.reduceMul, Int.reduceLT, Int.reduceLE, Int.reduceEq, Int.reduceNeg, Int.reduceNe, Int.reduceGE, Int.reduceGT, Nat.reduceBEq, Int.reduceToNat,  e3, e4, wd, we, rowN_len, t1, t2, hst]
              (try simp (disch := omega) only [wrap_id])
              repeat (refine And.intro (by first | omega | (simp; done) | (simp; omega) | (unfold appRoom; omega)) ?_)
              refine ⟨n + 1, ⟨by omega, by omega⟩, SubS.weak ?_⟩
              simp (config := { maxSteps := 2000000 }) only [go_sem, hG, hP, Nat.reduceEqDiff, ↓reduceIte, reduceCtorEq, Nat.reduceAdd, Nat.reduceSub, Nat.reduceMul, Nat.reduceLT, Nat.reduceLeDiff, Int.reduceAdd, Int.reduceSub, Int.reduceMul, Int.reduceLT, Int.reduceLE, Int.reduceEq, Int.reduceNeg, Int.reduceNe, Int.reduceGE, Int.reduceGT, Nat.reduceBEq, Int.reduceToNat]
              repeat' (first | with_reducible rfl | (refine And.intro ?_ ?_) | (refine congrArg (Value.int _) ?_; omega) | omega)
            · have hnn : n = min 15 (b.length - 15 * j) := by omega
              have wd : wr .i64 (((15 * j : Nat) : Int) + n) = ((15 * j : Nat) : Int) + n := wrap_id (by omega) (by omega)
              have e3 : ((n : Int) < 15 ∧ ((15 * j : Nat) : Int) + n < b.length) = False := by apply eq_false; omega
              by_cases he : b.length ≤ 15 * j + 15
              · have e2 : (((15 * j : Nat) : Int) + 15 ≥ b.length) = True := by apply eq_true; omega
                have hv : hdV b j = hdC b j + 128 := if_pos he
                subst hnn
                simp (config := { maxSteps := 2000000 }) only [go_sem, hG, hP, Nat.reduceEqDiff, ↓reduceIte, reduceCtorEq, Nat.reduceAdd, Nat.reduceSub, Nat.reduceMul, Nat.reduceLT, Nat.reduceLeDiff, Int.reduceAdd, Int.reduceSub, Int.reduceMul, Int.reduceLT, Int.reduceLE, Int.reduceEq, Int.reduceNeg, Int.reduceNe, Int.reduceGE, Int.reduceGT, Nat.reduceBEq, Int.reduceToNat,  e2, e3, wd, ht, rowN_len, List.length_set, List.set_set, gds, hh, hw, hw2, rowA_cell, cells_len, wa, wb, wc, htj, hcl _ hv, cells_snoc]
                (try simp (disch := omega) only [wrap_id])
                repeat (refine And.intro (by first | omega | (simp; done) | (simp; omega) | (unfold appRoom; omega)) ?_)
                repeat' (first | (refine And.intro ?_ ?_) | (with_reducible intro _))
                all_goals first
                  | (exfalso; omega)
                  | omega
                  | (unfold appRoom; omega)
                  | (refine ⟨j + 1, ⟨by omega, by omega⟩, SubS.weak ?_⟩; simp (config := { maxSteps := 2000000 }) only [go_sem, hG, hP, Nat.reduceEqDiff, ↓reduceIte, reduceCtorEq, Nat.reduceAdd, Nat.reduceSub, Nat.reduceMul, Nat.reduceLT, Nat.reduceLeDiff, Int.reduceAdd, Int.reduceSub, Int.reduceMul, Int.reduceLT, Int.reduceLE, Int.reduceEq, Int.reduceNeg, Int.reduceNe, Int.reduceGE, Int.reduceGT, Nat.reduceBEq, Int.reduceToNat]; repeat' (first | with_reducible rfl | (refine And.intro ?_ ?_) | (refine congrArg (Value.int _) ?_; omega) | omega); done)
              · have e2 : (((15 * j : Nat) : Int) + 15 ≥ b.length) = False := by apply eq_false; omega
                have hv : hdV b j = hdC b j := if_neg he
                subst hnn
                simp (config := { maxSteps := 2000000 }) only [go_sem, hG, hP, Nat.reduceEqDiff, ↓reduceIte, reduceCtorEq, Nat.reduceAdd, Nat.reduceSub, Nat.reduceMul, Nat.reduceLT, Nat.reduceLeDiff, Int.reduceAdd, Int.reduceSub, Int.reduceMul, Int.reduceLT, Int.reduceLE, Int.reduceEq, Int.reduceNeg, Int.reduceNe, Int.reduceGE, Int.reduceGT, Nat.reduceBEq, Int.reduceToNat,  e2, e3, wd, ht, rowN_len, List.length_set, List.set_set, gds, hh, hw, hw2, rowA_cell, cells_len, wa, wb, wc, htj, hcl _ hv, cells_snoc]
                (try simp (disch := omega) only [wrap_id])
                repeat (refine And.intro (by first | omega | (simp; done) | (simp; omega) | (unfold appRoom; omega)) ?_)
                repeat' (first | (refine And.intro ?_ ?_) | (with_reducible intro _))
                all_goals first
                  | (exfalso; omega)
                  | omega
                  | (unfold appRoom; omega)
                  | (refine ⟨j + 1, ⟨by omega, by omega⟩, SubS.weak ?_⟩; simp (config := { maxSteps := 2000000 }) only [go_sem, hG, hP, Nat.reduceEqDiff, ↓reduceIte, reduceCtorEq, Nat.reduceAdd, Nat.reduceSub, Nat.reduceMul, Nat.reduceLT, Nat.reduceLeDiff, Int.reduceAdd, Int.reduceSub, Int.reduceMul, Int.reduceLT, Int.reduceLE, Int.reduceEq, Int.reduceNeg, Int.reduceNe, Int.reduceGE, Int.reduceGT, Nat.reduceBEq, Int.reduceToNat]; repeat' (first | with_reducible rfl | (refine And.intro ?_ ?_) | (refine congrArg (Value.int _) ?_; omega) | omega); done)
        · have e1 : (((15 * j : Nat) : Int) < b.length) = False := by apply eq_false; omega
          have ej : j = (b.length + 14) / 15 := by omega
          simp (config := { maxSteps := 2000000 }) only [go_sem, hG, hP, Nat.reduceEqDiff, ↓reduceIte, reduceCtorEq, Nat.reduceAdd, Nat.reduceSub, Nat.reduceMul, Nat.reduceLT, Nat.reduceLeDiff, Int.reduceAdd, Int.reduceSub, Int.reduceMul, Int.reduceLT, Int.reduceLE, Int.reduceEq, Int.reduceNeg, Int.reduceNe, Int.reduceGE, Int.reduceGT, Nat.reduceBEq, Int.reduceToNat,  e1]
          subst ej
          refine ⟨_, _, _, ?_, h⟩
          simp (config := { maxSteps := 2000000 }) only [go_sem, hG, hP, Nat.reduceEqDiff, ↓reduceIte, reduceCtorEq, Nat.reduceAdd, Nat.reduceSub, Nat.reduceMul, Nat.reduceLT, Nat.reduceLeDiff, Int.reduceAdd, Int.reduceSub, Int.reduceMul, Int.reduceLT, Int.reduceLE, Int.reduceEq, Int.reduceNeg, Int.reduceNe, Int.reduceGE, Int.reduceGT, Nat.reduceBEq, Int.reduceToNat]
          repeat' (first | with_reducible rfl | (refine And.intro ?_ ?_) | (refine congrArg (Value.int _) ?_; omega) | omega)
  · exact h.elim
end Go.Proofs.YtfjfaajdbomhbaaE

/-! The code of a function, in the engine's words. -/
namespace Go.Proofs.YtfjfaajdbomhbaaE
open Go Go.RowKit
@[reducible] def ic6 : IC := (.seq (.ops [⟨some 2, .mov (.const (.bool false)), none⟩]) (.seq (.seq (.ops [⟨some 10, .mov (.tmp 0), none⟩, ⟨some 11, .len (.tmp 10), none⟩, ⟨some 12, .bin .gtr (.tmp 11) (.const (.int .i64 1048576)), none⟩]) (.cond (.tmp 12) (.seq (.ops [⟨some 2, .mov (.const (.bool true)), none⟩]) .ret) .skip)) (.seq (.ops [⟨some 13, .mov (.tmp 0), none⟩, ⟨some 14, .call 14 [(.tmp 13)], none⟩, ⟨some 15, .call 21 [(.tmp 14)], none⟩, ⟨some 3, .mov (.tmp 15), none⟩]) (.seq (.ops [⟨some 16, .mov (.tmp 0), none⟩, ⟨some 17, .call 14 [(.tmp 16)], none⟩, ⟨some 4, .mov (.tmp 17), none⟩]) (.seq (.ops [⟨some 18, .mov (.tmp 4), none⟩, ⟨some 19, .call 22 [(.tmp 18)], none⟩, ⟨some 5, .mov (.tmp 19), none⟩]) (.seq (.seq (.ops [⟨some 20, .mov (.tmp 5), none⟩, ⟨some 21, .mov (.tmp 3), none⟩, ⟨some 22, .call 23 [(.tmp 20), (.tmp 21)], none⟩, ⟨some 23, .una .not (.tmp 22), none⟩]) (.cond (.tmp 23) (.seq (.ops [⟨some 2, .mov (.const (.bool false)), none⟩]) .ret) .skip)) (.seq (.seq (.ops [⟨some 24, .mov (.tmp 4), none⟩, ⟨some 25, .mov (.tmp 0), none⟩, ⟨some 26, .call 14 [(.tmp 25)], none⟩, ⟨some 27, .call 16 [(.tmp 24), (.tmp 26)], none⟩, ⟨some 28, .una .not (.tmp 27), none⟩]) (.cond (.tmp 28) (.seq (.ops [⟨some 2, .mov (.const (.bool false)), none⟩]) .ret) .skip)) (.seq (.ops [⟨some 6, .mov (.const (.int .i64 1)), none⟩]) (.seq (.ops [⟨some 29, .mov (.tmp 4), none⟩, ⟨some 30, .mov (.tmp 6), none⟩, ⟨some 31, .call 24 [(.tmp 29), (.tmp 30)], none⟩, ⟨some 6, .mov (.tmp 31), none⟩]) (.seq (.seq (.ops [⟨some 32, .mov (.tmp 6), none⟩, ⟨some 33, .bin .lss (.tmp 32) (.const (.int .i64 0)), none⟩, ⟨some 34, .mov (.tmp 33), none⟩, ⟨some 35, .mov (.tmp 5), some (34, false)⟩, ⟨some 36, .mov (.tmp 3), some (34, false)⟩, ⟨some 37, .call 23 [(.tmp 35), (.tmp 36)], some (34, false)⟩, ⟨some 38, .una .not (.tmp 37), some (34, false)⟩, ⟨some 39, .pick (.tmp 34) (.const (.bool true)) (.tmp 38), none⟩]) (.cond (.tmp 39) (.seq (.ops [⟨some 2, .mov (.const (.bool false)), none⟩]) .ret) .skip)) (.seq (.ops [⟨some 7, .mov (.const (.int .i64 1)), none⟩]) (.seq (.ops [⟨some 40, .mov (.tmp 5), none⟩, ⟨some 41, .mov (.tmp 7), none⟩, ⟨some 42, .call 25 [(.tmp 40), (.tmp 41)], none⟩, ⟨some 7, .mov (.tmp 42), none⟩]) (.seq (.ops [⟨some 8, .mov (.const (.int .i64 1)), none⟩]) (.seq (.ops [⟨some 43, .mov (.tmp 5), none⟩, ⟨some 44, .mov (.tmp 8), none⟩, ⟨some 45, .call 26 [(.tmp 43), (.tmp 44)], none⟩, ⟨some 8, .mov (.tmp 45), none⟩]) (.seq (.seq (.ops [⟨some 46, .mov (.tmp 8), none⟩, ⟨some 47, .bin .lss (.tmp 46) (.const (.int .i64 0)), none⟩]) (.cond (.tmp 47) (.seq (.ops [⟨some 2, .mov (.const (.bool false)), none⟩]) .ret) .skip)) (.seq (.seq (.ops [⟨some 48, .mov (.tmp 8), none⟩, ⟨some 49, .mov (.tmp 7), none⟩, ⟨some 50, .bin .neq (.tmp 48) (.tmp 49), none⟩]) (.cond (.tmp 50) (.seq (.ops [⟨some 2, .mov (.const (.bool false)), none⟩]) .ret) .skip)) (.seq (.ops [⟨some 51, .mov (.tmp 0), none⟩, ⟨some 52, .call 14 [(.tmp 51)], none⟩, ⟨some 53, .call 22 [(.tmp 52)], none⟩, ⟨some 9, .mov (.tmp 53), none⟩]) (.seq (.seq (.ops [⟨some 54, .mov (.tmp 9), none⟩, ⟨some 55, .mov (.tmp 3), none⟩, ⟨some 56, .call 23 [(.tmp 54), (.tmp 55)], none⟩, ⟨some 57, .una .not (.tmp 56), none⟩]) (.cond (.tmp 57) (.seq (.ops [⟨some 2, .mov (.const (.bool false)), none⟩]) .ret) .skip)) (.seq (.ops [⟨some 8, .mov (.const (.int .i64 1)), none⟩]) (.seq (.ops [⟨some 58, .mov (.tmp 5), none⟩, ⟨some 59, .mov (.tmp 8), none⟩, ⟨some 60, .call 26 [(.tmp 58), (.tmp 59)], none⟩, ⟨some 8, .mov (.tmp 60), none⟩]) (.seq (.seq (.ops [⟨some 61, .mov (.tmp 8), none⟩, ⟨some 62, .bin .lss (.tmp 61) (.const (.int .i64 0)), none⟩]) (.cond (.tmp 62) (.seq (.ops [⟨some 2, .mov (.const (.bool false)), none⟩]) .ret) .skip)) (.seq (.seq (.ops [⟨some 63, .mov (.tmp 8), none⟩, ⟨some 64, .mov (.tmp 7), none⟩, ⟨some 65, .bin .neq (.tmp 63) (.tmp 64), none⟩]) (.cond (.tmp 65) (.seq (.ops [⟨some 2, .mov (.const (.bool false)), none⟩]) .ret) .skip)) (.seq (.ops [⟨some 2, .mov (.const (.bool true)), none⟩]) .ret)))))))))))))))))))))))
@[reducible] def rv6 : List RV := [.tmp 2]
theorem low6 : lowC Try.prog tau Try.f6.ntmps (Try.f6.body.getD .skip) = some (erase ic6) := by kernel_rfl
theorem res6 : lowR Try.prog Try.f6.results.toList = some rv6 := by kernel_rfl
theorem bod6 : Try.f6.body = some (Try.f6.body.getD .skip) := by kernel_rfl
theorem cal6 : callable Try.prog 6 = true := by kernel_rfl

end Go.Proofs.YtfjfaajdbomhbaaE

/-! The law of Cells. -/
namespace Go.Proofs.YtfjfaajdbomhbaaE
open Go Go.RowKit
set_option linter.unusedSimpArgs false
set_option linter.unusedVariables false
set_option maxRecDepth 50000
set_option maxHeartbeats 8000000

theorem cellsP_len (b : List Int) : (cellsP b).length ≤ 60 := by
  unfold cellsP
  split
  · simp
  · simp; omega
theorem held_cm {k : Int} {n : Nat} : heldC (cMarks k n) k = k + 16 * n := by unfold heldC; rw [cMarks_len, if_pos rfl]
theorem take_cm {k : Int} {n : Nat} : (cMarks k n).take n = cMarks k n := List.take_of_length_le (by rw [cMarks_len]; omega)
theorem held_bm {k : Int} {n : Nat} : heldB (bMarks k n) k = k + n := by unfold heldB; rw [bMarks_len, if_pos rfl]
theorem take_bm {k : Int} {n : Nat} : (bMarks k n).take n = bMarks k n := List.take_of_length_le (by rw [bMarks_len]; omega)
def spLaw6 : Spec := ⟨fun _ _ => [], fun args objs K => match args, objs with
  | [.rs .byte b], [] => K (.v (.bool true)) [] 0
  | _, _ => False, false⟩
theorem spLaw6_t {L : Hp} {a : List AVal} : Spec.take spLaw6 L a = [] := id rfl
theorem spLaw6_k : Spec.keep spLaw6 = false := id rfl
theorem spLaw6_f {b} {K : AVal → Hp → Nat → Prop} : Spec.f spLaw6 ([.rs .byte b]) ([]) K = (K (.v (.bool true)) [] 0) := id rfl
theorem valid6 : Valid Try.prog 6 spLaw6 := by
  refine validI (Γ := lk [(14, spToByteS), (16, spEqByteS), (21, spCells), (22, spCells), (23, spEqCS), (24, spMarkB), (25, spMarkC), (26, spHeldC)]) Try.func6 bod6 low6 res6 (good_of ⟨⟨cal14, valid14⟩, ⟨cal16, valid16⟩, ⟨cal21, valid21⟩, ⟨cal22, valid22⟩, ⟨cal23, valid23⟩, ⟨cal24, valid24⟩, ⟨cal25, valid25⟩, ⟨cal26, valid26⟩, trivial⟩) ?_
  intro E args objs K h hE hG hP
  simp only [spLaw6] at h
  split at h
  · refine ⟨by simp [Try.ntmps6], ?_⟩
    rename_i b
    have hlen := cellsP_len b
    generalize hl : cellsP b = l at *
    simp (config := { maxSteps := 2000000 }) only [go_sem, hG, hP, Nat.reduceEqDiff, ↓reduceIte, reduceCtorEq, Nat.reduceAdd, Nat.reduceSub, Nat.reduceMul, Nat.reduceLT, Nat.reduceLeDiff, Int.reduceAdd, Int.reduceSub, Int.reduceMul, Int.reduceLT, Int.reduceLE, Int.reduceEq, Int.reduceNeg, Int.reduceNe, Int.reduceGE, Int.reduceGT, Nat.reduceBEq, Int.reduceToNat,  spToByteS_f, spToByteS_t, spToByteS_k, spEqByteS_f, spEqByteS_t, spEqByteS_k, spCells_f, spCells_t, spCells_k, spEqCS_f, spEqCS_t, spEqCS_k, spMarkB_f, spMarkB_t, spMarkB_k, spMarkC_f, spMarkC_t, spMarkC_k, spHeldC_f, spHeldC_t, spHeldC_k, hl, take1_eq, take_cm, take_bm, cMarks_len, bMarks_len, held_cm]
    repeat (refine And.intro (by first | omega | (simp; done) | (simp; omega) | (unfold appRoom; omega)) ?_)
    refine ⟨fun hs => ⟨_, _, _, ?_, h⟩, fun hs => ?_⟩
    · simp (config := { maxSteps := 2000000 }) only [go_sem, hG, hP, Nat.reduceEqDiff, ↓reduceIte, reduceCtorEq, Nat.reduceAdd, Nat.reduceSub, Nat.reduceMul, Nat.reduceLT, Nat.reduceLeDiff, Int.reduceAdd, Int.reduceSub, Int.reduceMul, Int.reduceLT, Int.reduceLE, Int.reduceEq, Int.reduceNeg, Int.reduceNe, Int.reduceGE, Int.reduceGT, Nat.reduceBEq, Int.reduceToNat]
    have b1 : b.length ≤ 1048576 := by omega
    repeat' (first | (refine And.intro ?_ ?_) | (with_reducible intro _))
    all_goals first | omega | (refine ⟨_, _, _, ?_, h⟩; simp (config := { maxSteps := 2000000 }) only [go_sem, hG, hP, Nat.reduceEqDiff, ↓reduceIte, reduceCtorEq, Nat.reduceAdd, Nat.reduceSub, Nat.reduceMul, Nat.reduceLT, Nat.reduceLeDiff, Int.reduceAdd, Int.reduceSub, Int.reduceMul, Int.reduceLT, Int.reduceLE, Int.reduceEq, Int.reduceNeg, Int.reduceNe, Int.reduceGE, Int.reduceGT, Nat.reduceBEq, Int.reduceToNat]; all_goals (first | (simp; done) | omega))
  · exact h.elim
end Go.Proofs.YtfjfaajdbomhbaaE

/-! The code of a function, in the engine's words. -/
namespace Go.Proofs.YtfjfaajdbomhbaaE
open Go Go.RowKit
@[reducible] def ic39 : IC := (.seq (.ops [⟨some 3, .box (.tmp 0), none⟩, ⟨some 6, .mov (.const (.int .i64 0)), none⟩]) (.seq (.ops [⟨some 9, .iarr 1 16 (.tmp 3) (.const (.int .i64 0)), none⟩, ⟨some 10, .load 1 false (.tmp 9), none⟩, ⟨some 11, .bin .rem (.tmp 10) (.const (.int .u8 16)), none⟩, ⟨some 12, .cvi .i64 (.tmp 11), none⟩, ⟨some 7, .mov (.tmp 12), none⟩]) (.seq (.seq (.ops [⟨some 13, .mov (.tmp 7), none⟩, ⟨some 14, .bin .eql (.tmp 13) (.const (.int .i64 0)), none⟩, ⟨some 15, .mov (.tmp 14), none⟩, ⟨some 16, .mov (.tmp 7), some (15, false)⟩, ⟨some 17, .bin .lss (.tmp 16) (.const (.int .i64 15)), some (15, false)⟩, ⟨some 18, .mov (.tmp 17), some (15, false)⟩, ⟨some 19, .iarr 1 16 (.tmp 3) (.const (.int .i64 0)), some (18, true)⟩, ⟨some 20, .load 1 false (.tmp 19), some (18, true)⟩, ⟨some 21, .bin .lss (.tmp 20) (.const (.int .u8 128)), some (18, true)⟩, ⟨some 22, .pick (.tmp 18) (.tmp 21) (.const (.bool false)), some (15, false)⟩, ⟨some 23, .pick (.tmp 15) (.const (.bool true)) (.tmp 22), none⟩]) (.cond (.tmp 23) (.seq (.ops [⟨some 6, .mov (.const (.int .i64 1)), none⟩]) .ret) .skip)) (.seq (.seq (.ops [⟨some 24, .mov (.tmp 7), none⟩, ⟨some 25, .bin .add (.tmp 24) (.const (.int .i64 1)), none⟩, ⟨some 8, .mov (.tmp 25), none⟩]) (.block 0 (.loop (.seq (.seq (.ops [⟨some 26, .mov (.tmp 8), none⟩, ⟨some 27, .bin .lss (.tmp 26) (.const (.int .i64 16)), none⟩]) (.cond (.tmp 27) .skip (.exit 0))) (.seq (.block 1 (.seq (.ops [⟨some 30, .mov (.tmp 8), none⟩, ⟨some 31, .iarr 1 16 (.tmp 3) (.tmp 30), none⟩, ⟨some 32, .load 1 false (.tmp 31), none⟩, ⟨some 33, .bin .neq (.tmp 32) (.const (.int .u8 0)), none⟩]) (.cond (.tmp 33) (.seq (.ops [⟨some 6, .mov (.const (.int .i64 2)), none⟩]) .ret) .skip))) (.ops [⟨some 28, .mov (.tmp 8), none⟩, ⟨some 29, .bin .add (.tmp 28) (.const (.int .i64 1)), none⟩, ⟨some 8, .mov (.tmp 29), none⟩])))))) (.seq (.seq (.ops [⟨some 34, .iarr 1 16 (.tmp 3) (.const (.int .i64 0)), none⟩, ⟨some 35, .load 1 false (.tmp 34), none⟩, ⟨some 36, .bin .quo (.tmp 35) (.const (.int .u8 16)), none⟩, ⟨some 37, .bin .rem (.tmp 36) (.const (.int .u8 8)), none⟩, ⟨some 38, .cvi .i64 (.tmp 37), none⟩, ⟨some 39, .mov (.tmp 1), none⟩, ⟨some 40, .bin .rem (.tmp 39) (.const (.int .i64 8)), none⟩, ⟨some 41, .bin .neq (.tmp 38) (.tmp 40), none⟩]) (.cond (.tmp 41) (.seq (.ops [⟨some 6, .mov (.const (.int .i64 3)), none⟩]) .ret) .skip)) (.seq (.seq (.ops [⟨some 42, .mov (.tmp 2), none⟩]) (.cond (.tmp 42) (.seq (.ops [⟨some 6, .mov (.const (.int .i64 4)), none⟩]) .ret) .skip)) (.seq (.ops [⟨some 6, .mov (.const (.int .i64 0)), none⟩]) .ret)))))))
@[reducible] def rv39 : List RV := [.tmp 6]
theorem low39 : lowC Try.prog tau Try.f39.ntmps (Try.f39.body.getD .skip) = some (erase ic39) := by kernel_rfl
theorem res39 : lowR Try.prog Try.f39.results.toList = some rv39 := by kernel_rfl
theorem bod39 : Try.f39.body = some (Try.f39.body.getD .skip) := by kernel_rfl
theorem cal39 : callable Try.prog 39 = true := by kernel_rfl

end Go.Proofs.YtfjfaajdbomhbaaE

/-! The code of a function, in the engine's words. -/
namespace Go.Proofs.YtfjfaajdbomhbaaE
open Go Go.RowKit
@[reducible] def ic30 : IC := (.seq (.ops [⟨some 2, .mov (.const (.slice none 0 0)), none⟩, ⟨some 3, .mov (.const (.int .i64 0)), none⟩]) (.seq (.ops [⟨some 9, .blds .byte 0 [], none⟩, ⟨some 4, .mov (.tmp 9), none⟩]) (.seq (.seq (.ops [⟨some 10, .mov (.tmp 0), none⟩, ⟨some 11, .len (.tmp 10), none⟩, ⟨some 12, .bin .gtr (.tmp 11) (.const (.int .i64 60)), none⟩]) (.cond (.tmp 12) (.seq (.ops [⟨some 13, .mov (.tmp 4), none⟩, ⟨some 2, .mov (.tmp 13), none⟩, ⟨some 3, .mov (.const (.int .i64 5)), none⟩]) .ret) .skip)) (.seq (.ops [⟨some 5, .mov (.const (.bool false)), none⟩]) (.seq (.seq (.ops [⟨some 6, .mov (.const (.int .i64 0)), none⟩]) (.block 0 (.loop (.seq (.seq (.ops [⟨some 14, .mov (.tmp 6), none⟩, ⟨some 15, .mov (.tmp 0), none⟩, ⟨some 16, .len (.tmp 15), none⟩, ⟨some 17, .bin .lss (.tmp 14) (.tmp 16), none⟩]) (.cond (.tmp 17) .skip (.exit 0))) (.seq (.block 1 (.seq (.seq (.ops [⟨some 20, .mov (.tmp 0), none⟩, ⟨some 21, .mov (.tmp 6), none⟩, ⟨some 22, .iadr 16 (.tmp 20) (.tmp 21), none⟩, ⟨some 23, .load 16 true (.tmp 22), none⟩, ⟨some 24, .mov (.tmp 6), none⟩, ⟨some 25, .mov (.tmp 5), none⟩, ⟨some 26, .call 39 [(.tmp 23), (.tmp 24), (.tmp 25)], none⟩, ⟨some 7, .mov (.tmp 26), none⟩]) (.seq (.ops [⟨some 27, .mov (.tmp 7), none⟩, ⟨some 28, .bin .neq (.tmp 27) (.const (.int .i64 0)), none⟩]) (.cond (.tmp 28) (.seq (.ops [⟨some 29, .mov (.tmp 4), none⟩, ⟨some 30, .mov (.tmp 7), none⟩, ⟨some 2, .mov (.tmp 29), none⟩, ⟨some 3, .mov (.tmp 30), none⟩]) .ret) .skip))) (.seq (.seq (.ops [⟨some 8, .mov (.const (.int .i64 1)), none⟩]) (.block 2 (.loop (.seq (.seq (.ops [⟨some 31, .mov (.tmp 8), none⟩, ⟨some 32, .mov (.tmp 0), none⟩, ⟨some 33, .mov (.tmp 6), none⟩, ⟨some 34, .iadr 16 (.tmp 32) (.tmp 33), none⟩, ⟨some 35, .iarr 1 16 (.tmp 34) (.const (.int .i64 0)), none⟩, ⟨some 36, .load 1 false (.tmp 35), none⟩, ⟨some 37, .bin .rem (.tmp 36) (.const (.int .u8 16)), none⟩, ⟨some 38, .cvi .i64 (.tmp 37), none⟩, ⟨some 39, .bin .leq (.tmp 31) (.tmp 38), none⟩]) (.cond (.tmp 39) .skip (.exit 2))) (.seq (.block 3 (.ops [⟨some 42, .mov (.tmp 4), none⟩, ⟨some 43, .mov (.tmp 0), none⟩, ⟨some 44, .mov (.tmp 6), none⟩, ⟨some 45, .mov (.tmp 8), none⟩, ⟨some 46, .iadr 16 (.tmp 43) (.tmp 44), none⟩, ⟨some 47, .iarr 1 16 (.tmp 46) (.tmp 45), none⟩, ⟨some 48, .load 1 false (.tmp 47), none⟩, ⟨some 49, .blds .byte 1 [(0, 1, (.tmp 48))], none⟩, ⟨some 50, .app .byte 1 (.tmp 42) (.tmp 49), none⟩, ⟨some 4, .mov (.tmp 50), none⟩])) (.ops [⟨some 40, .mov (.tmp 8), none⟩, ⟨some 41, .bin .add (.tmp 40) (.const (.int .i64 1)), none⟩, ⟨some 8, .mov (.tmp 41), none⟩])))))) (.ops [⟨some 51, .mov (.tmp 0), none⟩, ⟨some 52, .mov (.tmp 6), none⟩, ⟨some 53, .iadr 16 (.tmp 51) (.tmp 52), none⟩, ⟨some 54, .iarr 1 16 (.tmp 53) (.const (.int .i64 0)), none⟩, ⟨some 55, .load 1 false (.tmp 54), none⟩, ⟨some 56, .bin .geq (.tmp 55) (.const (.int .u8 128)), none⟩, ⟨some 5, .mov (.tmp 56), none⟩])))) (.ops [⟨some 18, .mov (.tmp 6), none⟩, ⟨some 19, .bin .add (.tmp 18) (.const (.int .i64 1)), none⟩, ⟨some 6, .mov (.tmp 19), none⟩])))))) (.seq (.seq (.ops [⟨some 57, .mov (.tmp 5), none⟩, ⟨some 58, .una .not (.tmp 57), none⟩]) (.cond (.tmp 58) (.seq (.ops [⟨some 59, .mov (.tmp 4), none⟩, ⟨some 2, .mov (.tmp 59), none⟩, ⟨some 3, .mov (.const (.int .i64 4)), none⟩]) .ret) .skip)) (.seq (.ops [⟨some 60, .mov (.tmp 4), none⟩, ⟨some 2, .mov (.tmp 60), none⟩, ⟨some 3, .mov (.const (.int .i64 0)), none⟩]) .ret)))))))
@[reducible] def rv30 : List RV := [.tmp 2, .tmp 3]
theorem low30 : lowC Try.prog tau Try.f30.ntmps (Try.f30.body.getD .skip) = some (erase ic30) := by kernel_rfl
theorem res30 : lowR Try.prog Try.f30.results.toList = some rv30 := by kernel_rfl
theorem bod30 : Try.f30.body = some (Try.f30.body.getD .skip) := by kernel_rfl
theorem cal30 : callable Try.prog 30 = true := by kernel_rfl

end Go.Proofs.YtfjfaajdbomhbaaE

/-! Cells are read back: one cell's check; the reference. -/
namespace Go.Proofs.YtfjfaajdbomhbaaE
open Go Go.RowKit
set_option linter.unusedSimpArgs false
set_option linter.unusedVariables false
set_option maxRecDepth 50000
set_option maxHeartbeats 8000000

def Cz : C16 := ⟨0, 0, 0, 0, 0, 0, 0, 0, 0, 0, 0, 0, 0, 0, 0, 0⟩
def lst (c : C16) : List Int := [c.a0, c.a1, c.a2, c.a3, c.a4, c.a5, c.a6, c.a7, c.a8, c.a9, c.a10, c.a11, c.a12, c.a13, c.a14, c.a15]
def cnt (c : C16) : Nat := (c.a0.tmod 16).toNat
def bad1 (c : C16) : Prop := c.a0.tmod 16 = 0 ∨ (c.a0.tmod 16 < 15 ∧ c.a0 < 128)
instance (c : C16) : Decidable (bad1 c) := by unfold bad1; infer_instance
def padP (c : C16) : Prop := ∀ q, q < 16 → cnt c < q → (lst c).getD q 0 = 0
instance (c : C16) : Decidable (padP c) := by unfold padP; infer_instance
def seqC (c : C16) : Int := (c.a0.tdiv 16).tmod 8
/-- What is wrong with a cell. -/
def chkC (c : C16) (i : Int) (last : Bool) : Int :=
  if bad1 c then 1 else if padP c then (if seqC c = i.tmod 8 then (if last = true then 4 else 0) else 3) else 2
def hd8 (c : C16) : Prop := 0 ≤ c.a0 ∧ c.a0 ≤ 255
theorem cnt_eq {c : C16} (h : hd8 c) : c.a0.tmod 16 = (cnt c : Int) ∧ cnt c ≤ 15 := by
  obtain ⟨h1, h2⟩ := h
  unfold cnt
  have := Int.tmod_eq_emod_of_nonneg (b := 16) h1
  rw [this]; omega
def spCell1 : Spec := ⟨fun _ _ => [], fun args objs K => match args, objs with
  | [.agg [.v (.int .u8 a0), .v (.int .u8 a1), .v (.int .u8 a2), .v (.int .u8 a3), .v (.int .u8 a4), .v (.int .u8 a5), .v (.int .u8 a6), .v (.int .u8 a7), .v (.int .u8 a8), .v (.int .u8 a9), .v (.int .u8 a10), .v (.int .u8 a11), .v (.int .u8 a12), .v (.int .u8 a13), .v (.int .u8 a14), .v (.int .u8 a15)], .v (.int .i64 i), .v (.bool last)], [] => hd8 ⟨a0, a1, a2, a3, a4, a5, a6, a7, a8, a9, a10, a11, a12, a13, a14, a15⟩ ∧ K (.v (.int .i64 (chkC ⟨a0, a1, a2, a3, a4, a5, a6, a7, a8, a9, a10, a11, a12, a13, a14, a15⟩ i last))) [] 0
  | _, _ => False, false⟩
theorem spCell1_t {L : Hp} {a : List AVal} : Spec.take spCell1 L a = [] := id rfl
theorem spCell1_k : Spec.keep spCell1 = false := id rfl
theorem spCell1_f {a0} {a1} {a2} {a3} {a4} {a5} {a6} {a7} {a8} {a9} {a10} {a11} {a12} {a13} {a14} {a15} {i} {last} {K : AVal → Hp → Nat → Prop} : Spec.f spCell1 ([.agg [.v (.int .u8 a0), .v (.int .u8 a1), .v (.int .u8 a2), .v (.int .u8 a3), .v (.int .u8 a4), .v (.int .u8 a5), .v (.int .u8 a6), .v (.int .u8 a7), .v (.int .u8 a8), .v (.int .u8 a9), .v (.int .u8 a10), .v (.int .u8 a11), .v (.int .u8 a12), .v (.int .u8 a13), .v (.int .u8 a14), .v (.int .u8 a15)], .v (.int .i64 i), .v (.bool last)]) ([]) K = (hd8 ⟨a0, a1, a2, a3, a4, a5, a6, a7, a8, a9, a10, a11, a12, a13, a14, a15⟩ ∧ K (.v (.int .i64 (chkC ⟨a0, a1, a2, a3, a4, a5, a6, a7, a8, a9, a10, a11, a12, a13, a14, a15⟩ i last))) [] 0) := id rfl
theorem valid39 : Valid Try.prog 39 spCell1 := by
  refine validI (Γ := lk []) Try.func39 bod39 low39 res39 (good_of trivial) ?_
  intro E args objs K h hE hG hP
  simp only [spCell1] at h
  split at h
  · refine ⟨by simp [Try.ntmps39], ?_⟩
    rename_i a0 a1 a2 a3 a4 a5 a6 a7 a8 a9 a10 a11 a12 a13 a14 a15 i last
    obtain ⟨hb, h⟩ := h
    generalize hc : (⟨a0, a1, a2, a3, a4, a5, a6, a7, a8, a9, a10, a11, a12, a13, a14, a15⟩ : C16) = c at h hb
    have q0 : c.a0 = a0 := by rw [← hc]
    obtain ⟨hn, hn15⟩ := cnt_eq hb
    rw [q0] at hn
    have hbd := hb
    unfold hd8 at hbd
    rw [q0] at hbd
    generalize hnn : cnt c = n at hn hn15
    have wn : wr .i64 (n : Int) = (n : Int) := wrap_id (by omega) (by omega)
    have wn1 : wr .i64 ((n : Int) + 1) = (n : Int) + 1 := wrap_id (by omega) (by omega)
    have hb1 : bad1 c ↔ ((n : Int) = 0 ∨ ((n : Int) < 15 ∧ a0 < 128)) := by unfold bad1; rw [q0, hn]
    by_cases c1 : bad1 c
    · have e1 : chkC c i last = 1 := if_pos c1
      rw [e1] at h
      have c1' := hb1.1 c1
      have x3 : (n : Int) = 0 ∨ (a0 < 128) = True := by
        rcases c1' with e | e
        · exact .inl e
        · exact .inr (eq_true e.2)
      simp (config := { maxSteps := 2000000 }) only [go_sem, hG, hP, Nat.reduceEqDiff, ↓reduceIte, reduceCtorEq, Nat.reduceAdd, Nat.reduceSub, Nat.reduceMul, Nat.reduceLT, Nat.reduceLeDiff, Int.reduceAdd, Int.reduceSub, Int.reduceMul, Int.reduceLT, Int.reduceLE, Int.reduceEq, Int.reduceNeg, Int.reduceNe, Int.reduceGE, Int.reduceGT, Nat.reduceBEq, Int.reduceToNat,  hn, wn]
      repeat' (first | (refine And.intro ?_ ?_) | (with_reducible intro _))
      all_goals first
        | (exfalso; omega)
        | (refine ⟨_, _, _, ?_, h⟩; simp (config := { maxSteps := 2000000 }) only [go_sem, hG, hP, Nat.reduceEqDiff, ↓reduceIte, reduceCtorEq, Nat.reduceAdd, Nat.reduceSub, Nat.reduceMul, Nat.reduceLT, Nat.reduceLeDiff, Int.reduceAdd, Int.reduceSub, Int.reduceMul, Int.reduceLT, Int.reduceLE, Int.reduceEq, Int.reduceNeg, Int.reduceNe, Int.reduceGE, Int.reduceGT, Nat.reduceBEq, Int.reduceToNat]; done)
        | skip
      all_goals trace_state
      done
    · have c1' : ¬ ((n : Int) = 0 ∨ ((n : Int) < 15 ∧ a0 < 128)) := fun e => c1 (hb1.2 e)
      have z1 : ((n : Int) = 0) = False := eq_false (fun e => c1' (.inl e))
      have h2 : ¬ padP c → K (.v (.int .i64 2)) [] 0 := fun hp => by
        have e : chkC c i last = 2 := by unfold chkC; rw [if_neg c1, if_neg hp]
        rw [e] at h; exact h
      have h3 : padP c → seqC c ≠ i.tmod 8 → K (.v (.int .i64 3)) [] 0 := fun hp hs => by
        have e : chkC c i last = 3 := by unfold chkC; rw [if_neg c1, if_pos hp, if_neg hs]
        rw [e] at h; exact h
      have h4 : padP c → seqC c = i.tmod 8 → K (.v (.int .i64 (if last = true then 4 else 0))) [] 0 := fun hp hs => by
        have e : chkC c i last = (if last = true then 4 else 0) := by unfold chkC; rw [if_neg c1, if_pos hp, if_pos hs]
        rw [e] at h; exact h
      have wq : wr .u8 (a0.tdiv 16) = a0.tdiv 16 := by rw [wr_eq, IntKind.wrap_u8, Int.tdiv_eq_ediv_of_nonneg hbd.1]; omega
      have hseq : (a0.tdiv 16).tmod 8 = seqC c := by unfold seqC; rw [q0]
      have ws : wr .i64 (seqC c) = seqC c := by
        have e1 : 0 ≤ a0.tdiv 16 := by rw [Int.tdiv_eq_ediv_of_nonneg hbd.1]; omega
        rw [← hseq, Int.tmod_eq_emod_of_nonneg e1]
        exact wrap_id (by omega) (by omega)
      have hx : (((n : Int) < 15) = True ∧ (a0 < 128) = False) ∨ (((n : Int) < 15) = False ∧ (0 = 0) = True) := by
        by_cases e : (n : Int) < 15
        · exact .inl ⟨eq_true e, eq_false fun e2 => c1' (.inr ⟨e, e2⟩)⟩
        · exact .inr ⟨eq_false e, by simp⟩
      rcases hx with ⟨x1, x2⟩ | ⟨x1, x2⟩
      all_goals
        simp (config := { maxSteps := 2000000 }) only [go_sem, hG, hP, Nat.reduceEqDiff, ↓reduceIte, reduceCtorEq, Nat.reduceAdd, Nat.reduceSub, Nat.reduceMul, Nat.reduceLT, Nat.reduceLeDiff, Int.reduceAdd, Int.reduceSub, Int.reduceMul, Int.reduceLT, Int.reduceLE, Int.reduceEq, Int.reduceNeg, Int.reduceNe, Int.reduceGE, Int.reduceGT, Nat.reduceBEq, Int.reduceToNat,  hn, wn, wn1, z1, x1, x2]
        refine loopI hE (fun k : Nat => ⟨[(1, .v (.int .i64 i)), (2, .v (.bool last)), (3, .ptr 0 0), (8, .v (.int .i64 k))], [(0, .box [.v (.int .u8 a0), .v (.int .u8 a1), .v (.int .u8 a2), .v (.int .u8 a3), .v (.int .u8 a4), .v (.int .u8 a5), .v (.int .u8 a6), .v (.int .u8 a7), .v (.int .u8 a8), .v (.int .u8 a9), .v (.int .u8 a10), .v (.int .u8 a11), .v (.int .u8 a12), .v (.int .u8 a13), .v (.int .u8 a14), .v (.int .u8 a15)])], 1, Try.f39.ntmps⟩) (fun k => (n < k ∧ k ≤ 16) ∧ ∀ q, q < k → n < q → (lst c).getD q 0 = 0) (fun k => 16 - k) ⟨n + 1, ⟨⟨by omega, by omega⟩, fun q h1 h2 => by omega⟩, SubS.weak ?_⟩ ?_
        · simp (config := { maxSteps := 2000000 }) only [go_sem, hG, hP, Nat.reduceEqDiff, ↓reduceIte, reduceCtorEq, Nat.reduceAdd, Nat.reduceSub, Nat.reduceMul, Nat.reduceLT, Nat.reduceLeDiff, Int.reduceAdd, Int.reduceSub, Int.reduceMul, Int.reduceLT, Int.reduceLE, Int.reduceEq, Int.reduceNeg, Int.reduceNe, Int.reduceGE, Int.reduceGT, Nat.reduceBEq, Int.reduceToNat]
          repeat' (first | with_reducible rfl | (refine And.intro ?_ ?_) | (refine congrArg (Value.int _) ?_; omega) | omega)
        · rintro k ⟨⟨k1, k2⟩, hz⟩
          dsimp only at k1 k2 hz ⊢
          by_cases k3 : k < 16
          · have hk : k = 1 ∨ k = 2 ∨ k = 3 ∨ k = 4 ∨ k = 5 ∨ k = 6 ∨ k = 7 ∨ k = 8 ∨ k = 9 ∨ k = 10 ∨ k = 11 ∨ k = 12 ∨ k = 13 ∨ k = 14 ∨ k = 15 := by omega
            rcases hk with rfl | rfl | rfl | rfl | rfl | rfl | rfl | rfl | rfl | rfl | rfl | rfl | rfl | rfl | rfl
            · simp (config := { maxSteps := 2000000 }) only [go_sem, hG, hP, Nat.reduceEqDiff, ↓reduceIte, reduceCtorEq, Nat.reduceAdd, Nat.reduceSub, Nat.reduceMul, Nat.reduceLT, Nat.reduceLeDiff, Int.reduceAdd, Int.reduceSub, Int.reduceMul, Int.reduceLT, Int.reduceLE, Int.reduceEq, Int.reduceNeg, Int.reduceNe, Int.reduceGE, Int.reduceGT, Nat.reduceBEq, Int.reduceToNat]
              (try simp (disch := omega) only [wrap_id])
              repeat (refine And.intro (by first | omega | (simp; done) | (simp; omega) | (unfold appRoom; omega)) ?_)
              repeat' (first | (refine And.intro ?_ ?_) | (with_reducible intro _))
              all_goals first
                | (exfalso; omega)
                | (have hq : ¬ padP c := fun hp => by
                    have := hp 1 k3 (by omega)
                    rw [← hc] at this
                    exact absurd this (by assumption)
                   refine ⟨_, _, _, ?_, h2 hq⟩
                   simp (config := { maxSteps := 2000000 }) only [go_sem, hG, hP, Nat.reduceEqDiff, ↓reduceIte, reduceCtorEq, Nat.reduceAdd, Nat.reduceSub, Nat.reduceMul, Nat.reduceLT, Nat.reduceLeDiff, Int.reduceAdd, Int.reduceSub, Int.reduceMul, Int.reduceLT, Int.reduceLE, Int.reduceEq, Int.reduceNeg, Int.reduceNe, Int.reduceGE, Int.reduceGT, Nat.reduceBEq, Int.reduceToNat]
                   done)
                | (have hq : ∀ q, q < 2 → n < q → (lst c).getD q 0 = 0 := fun q u1 u2 => by
                    by_cases u3 : q < 1
                    · exact hz q u3 u2
                    · have u4 : q = 1 := by omega
                      subst u4
                      rw [← hc]
                      exact Decidable.not_not.1 (by assumption)
                   refine ⟨2, ⟨⟨⟨by omega, by omega⟩, hq⟩, by omega⟩, SubS.weak ?_⟩
                   simp (config := { maxSteps := 2000000 }) only [go_sem, hG, hP, Nat.reduceEqDiff, ↓reduceIte, reduceCtorEq, Nat.reduceAdd, Nat.reduceSub, Nat.reduceMul, Nat.reduceLT, Nat.reduceLeDiff, Int.reduceAdd, Int.reduceSub, Int.reduceMul, Int.reduceLT, Int.reduceLE, Int.reduceEq, Int.reduceNeg, Int.reduceNe, Int.reduceGE, Int.reduceGT, Nat.reduceBEq, Int.reduceToNat]
                   repeat' (first | with_reducible rfl | (refine And.intro ?_ ?_) | (refine congrArg (Value.int _) ?_; omega) | omega)
                   done)
            · simp (config := { maxSteps := 2000000 }) only [go_sem, hG, hP, Nat.reduceEqDiff, ↓reduceIte, reduceCtorEq, Nat.reduceAdd, Nat.reduceSub, Nat.reduceMul, Nat.reduceLT, Nat.reduceLeDiff, Int.reduceAdd, Int.reduceSub, Int.reduceMul, Int.reduceLT, Int.reduceLE, Int.reduceEq, Int.reduceNeg, Int.reduceNe, Int.reduceGE, Int.reduceGT, Nat.reduceBEq, Int.reduceToNat]
              (try simp (disch := omega) only [wrap_id])
              repeat (refine And.intro (by first | omega | (simp; done) | (simp; omega) | (unfold appRoom; omega)) ?_)
              repeat' (first | (refine And.intro ?_ ?_) | (with_reducible intro _))
              all_goals first
                | (exfalso; omega)
                | (have hq : ¬ padP c := fun hp => by
                    have := hp 2 k3 (by omega)
                    rw [← hc] at this
                    exact absurd this (by assumption)
                   refine ⟨_, _, _, ?_, h2 hq⟩
                   simp (config := { maxSteps := 2000000 }) only [go_sem, hG, hP, Nat.reduceEqDiff, ↓reduceIte, reduceCtorEq, Nat.reduceAdd, Nat.reduceSub, Nat.reduceMul, Nat.reduceLT, Nat.reduceLeDiff, Int.reduceAdd, Int.reduceSub, Int.reduceMul, Int.reduceLT, Int.reduceLE, Int.reduceEq, Int.reduceNeg, Int.reduceNe, Int.reduceGE, Int.reduceGT, Nat.reduceBEq, Int.reduceToNat]
                   done)
                | (have hq : ∀ q, q < 3 → n < q → (lst c).getD q 0 = 0 := fun q u1 u2 => by
                    by_cases u3 : q < 2
                    · exact hz q u3 u2
                    · have u4 : q = 2 := by omega
                      subst u4
                      rw [← hc]
                      exact Decidable.not_not.1 (by assumption)
                   refine ⟨3, ⟨⟨⟨by omega, by omega⟩, hq⟩, by omega⟩, SubS.weak ?_⟩
                   simp (config := { maxSteps := 2000000 }) only [go_sem, hG, hP, Nat.reduceEqDiff, ↓reduceIte, reduceCtorEq, Nat.reduceAdd, Nat.reduceSub, Nat.reduceMul, Nat.reduceLT, Nat.reduceLeDiff, Int.reduceAdd, Int.reduceSub, Int.reduceMul, Int.reduceLT, Int.reduceLE, Int.reduceEq, Int.reduceNeg, Int.reduceNe, Int.reduceGE, Int.reduceGT, Nat.reduceBEq, Int.reduceToNat]
                   repeat' (first | with_reducible rfl | (refine And.intro ?_ ?_) | (refine congrArg (Value.int _) ?_; omega) | omega)
                   done)
            · simp (config := { maxSteps := 2000000 }) only [go_sem, hG, hP, Nat.reduceEqDiff, ↓reduceIte, reduceCtorEq, Nat.reduceAdd, Nat.reduceSub, Nat.reduceMul, Nat.reduceLT, Nat.reduceLeDiff, Int.reduceAdd, Int.reduceSub, Int.reduceMul, Int.reduceLT, Int.reduceLE, Int.reduceEq, Int.reduceNeg, Int.reduceNe, Int.reduceGE, Int.reduceGT, Nat.reduceBEq, Int.reduceToNat]
              (try simp (disch := omega) only [wrap_id])
              repeat (refine And.intro (by first | omega | (simp; done) | (simp; omega) | (unfold appRoom; omega)) ?_)
              repeat' (first | (refine And.intro ?_ ?_) | (with_reducible intro _))
              all_goals first
                | (exfalso; omega)
                | (have hq : ¬ padP c := fun hp => by
                    have := hp 3 k3 (by omega)
                    rw [← hc] at this
                    exact absurd this (by assumption)
                   refine ⟨_, _, _, ?_, h2 hq⟩
                   simp (config := { maxSteps := 2000000 }) only [go_sem, hG, hP, Nat.reduceEqDiff, ↓reduceIte, reduceCtorEq, Nat.reduceAdd, Nat.reduceSub, Nat.reduceMul, Nat.reduceLT, Nat.reduceLeDiff, Int.reduceAdd, Int.reduceSub, Int.reduceMul, Int.reduceLT, Int.reduceLE, Int.reduceEq, Int.reduceNeg, Int.reduceNe, Int.reduceGE, Int.reduceGT, Nat.reduceBEq, Int.reduceToNat]
                   done)
                | (have hq : ∀ q, q < 4 → n < q → (lst c).getD q 0 = 0 := fun q u1 u2 => by
                    by_cases u3 : q < 3
                    · exact hz q u3 u2
                    · have u4 : q = 3 := by omega
                      subst u4
                      rw [← hc]
                      exact Decidable.not_not.1 (by assumption)
                   refine ⟨4, ⟨⟨⟨by omega, by omega⟩, hq⟩, by omega⟩, SubS.weak ?_⟩
                   simp (config := { maxSteps := 2000000 }) only [go_sem, hG, hP, Nat.reduceEqDiff, ↓reduceIte, reduceCtorEq, Nat.reduceAdd, Nat.reduceSub, Nat.reduceMul, Nat.reduceLT, Nat.reduceLeDiff, Int.reduceAdd, Int.reduceSub, Int.reduceMul, Int.reduceLT, Int.reduceLE, Int.reduceEq, Int.reduceNeg, Int.reduceNe, Int.reduceGE, Int.reduceGT, Nat.reduceBEq, Int.reduceToNat]
                   repeat' (first | with_reducible rfl | (refine And.intro ?_ ?_) | (refine congrArg (Value.int _) ?_; omega) | omega)
                   done)
            · simp (config := { maxSteps := 2000000 }) only [go_sem, hG, hP, Nat.reduceEqDiff, ↓reduceIte, reduceCtorEq, Nat.reduceAdd, Nat.reduceSub, Nat.reduceMul, Nat.reduceLT, Nat.reduceLeDiff, Int.reduceAdd, Int.reduceSub, Int.reduceMul, Int.reduceLT, Int.reduceLE, Int.reduceEq, Int.reduceNeg, Int.reduceNe, Int.reduceGE, Int.reduceGT, Nat.reduceBEq, Int.reduceToNat]
              (try simp (disch := omega) only [wrap_id])
              repeat (refine And.intro (by first | omega | (simp; done) | (simp; omega) | (unfold appRoom; omega)) ?_)
              repeat' (first | (refine And.intro ?_ ?_) | (with_reducible intro _))
              all_goals first
                | (exfalso; omega)
                | (have hq : ¬ padP c := fun hp => by
                    have := hp 4 k3 (by omega)
                    rw [← hc] at this
                    exact absurd this (by assumption)
                   refine ⟨_, _, _, ?_, h2 hq⟩
                   simp (config := { maxSteps := 2000000 }) only [go_sem, hG, hP, Nat.reduceEqDiff, ↓reduceIte, reduceCtorEq, Nat.reduceAdd, Nat.reduceSub, Nat.reduceMul, Nat.reduceLT, Nat.reduceLeDiff, Int.reduceAdd, Int.reduceSub, Int.reduceMul, Int.reduceLT, Int.reduceLE, Int.reduceEq, Int.reduceNeg, Int.reduceNe, Int.reduceGE, Int.reduceGT, Nat.reduceBEq, Int.reduceToNat]
                   done)
                | (have hq : ∀ q, q < 5 → n < q → (lst c).getD q 0 = 0 := fun q u1 u2 => by
                    by_cases u3 : q < 4
                    · exact hz q u3 u2
                    · have u4 : q = 4 := by omega
                      subst u4
                      rw [← hc]
                      exact Decidable.not_not.1 (by assumption)
                   refine ⟨5, ⟨⟨⟨by omega, by omega⟩, hq⟩, by omega⟩, SubS.weak ?_⟩
                   simp (config := { maxSteps := 2000000 }) only [go_sem, hG, hP, Nat.reduceEqDiff, ↓reduceIte, reduceCtorEq, Nat.reduceAdd, Nat.reduceSub, Nat.reduceMul, Nat.reduceLT, Nat.reduceLeDiff, Int.reduceAdd, Int.reduceSub, Int.reduceMul, Int.reduceLT, Int.reduceLE, Int.reduceEq, Int.reduceNeg, Int.reduceNe, Int.reduceGE, Int.reduceGT, Nat.reduceBEq, Int.reduceToNat]
                   repeat' (first | with_reducible rfl | (refine And.intro ?_ ?_) | (refine congrArg (Value.int _) ?_; omega) | omega)
                   done)
            · simp (config := { maxSteps := 2000000 }) only [go_sem, hG, hP, Nat.reduceEqDiff, ↓reduceIte, reduceCtorEq, Nat.reduceAdd, Nat.reduceSub, Nat.reduceMul, Nat.reduceLT, Nat.reduceLeDiff, Int.reduceAdd, Int.reduceSub, Int.reduceMul, Int.reduceLT, Int.reduceLE, Int.reduceEq, Int.reduceNeg, Int.reduceNe, Int.reduceGE, Int.reduceGT, Nat.reduceBEq, Int.reduceToNat]
              (try simp (disch := omega) only [wrap_id])
              repeat (refine And.intro (by first | omega | (simp; done) | (simp; omega) | (unfold appRoom; omega)) ?_)
              repeat' (first | (refine And.intro ?_ ?_) | (with_reducible intro _))
              all_goals first
                | (exfalso; omega)
                | (have hq : ¬ padP c := fun hp => by
                    have := hp 5 k3 (by omega)
                    rw [← hc] at this
                    exact absurd this (by assumption)
                   refine ⟨_, _, _, ?_, h2 hq⟩
                   simp (config := { maxSteps := 2000000 }) only [go_sem, hG, hP, Nat.reduceEqDiff, ↓reduceIte, reduceCtorEq, Nat.reduceAdd, Nat.reduceSub, Nat.reduceMul, Nat.reduceLT, Nat.reduceLeDiff, Int.reduceAdd, Int.reduceSub, Int.reduceMul, Int.reduceLT, Int.reduceLE, Int.reduceEq, Int.reduceNeg, Int.reduceNe, Int.reduceGE, Int.reduceGT, Nat.reduceBEq, Int.reduceToNat]
                   done)
                | (have hq : ∀ q, q < 6 → n < q → (lst c).getD q 0 = 0 := fun q u1 u2 => by
                    by_cases u3 : q < 5
                    · exact hz q u3 u2
                    · have u4 : q = 5 := by omega
                      subst u4
                      rw [← hc]
                      exact Decidable.not_not.1 (by assumption)
                   refine ⟨6, ⟨⟨⟨by omega, by omega⟩, hq⟩, by omega⟩, SubS.weak ?_⟩
                   simp (config := { maxSteps := 2000000 }) only [go_sem, hG, hP, Nat.reduceEqDiff, ↓reduceIte, reduceCtorEq, Nat.reduceAdd, Nat.reduceSub, Nat.reduceMul, Nat.reduceLT, Nat.reduceLeDiff, Int.reduceAdd, Int.reduceSub, Int.reduceMul, Int.reduceLT, Int.reduceLE, Int.reduceEq, Int.reduceNeg, Int.reduceNe, Int.reduceGE, Int.reduceGT, Nat.reduceBEq, Int.reduceToNat]
                   repeat' (first | with_reducible rfl | (refine And.intro ?_ ?_) | (refine congrArg (Value.int _) ?_; omega) | omega)
                   done)
            · simp (config := { maxSteps := 2000000 }) only [go_sem, hG, hP, Nat.reduceEqDiff, ↓reduceIte, reduceCtorEq, Nat.reduceAdd, Nat.reduceSub, Nat.reduceMul, Nat.reduceLT, Nat.reduceLeDiff, Int.reduceAdd, Int.reduceSub, Int.reduceMul, Int.reduceLT, Int.reduceLE, Int.reduceEq, Int.reduceNeg, Int.reduceNe, Int.reduceGE, Int.reduceGT, Nat.reduceBEq, Int.reduceToNat]
              (try simp (disch := omega) only [wrap_id])
              repeat (refine And.intro (by first | omega | (simp; done) | (simp; omega) | (unfold appRoom; omega)) ?_)
              repeat' (first | (refine And.intro ?_ ?_) | (with_reducible intro _))
              all_goals first
                | (exfalso; omega)
                | (have hq : ¬ padP c := fun hp => by
                    have := hp 6 k3 (by omega)
                    rw [← hc] at this
                    exact absurd this (by assumption)
                   refine ⟨_, _, _, ?_, h2 hq⟩
                   simp (config := { maxSteps := 2000000 }) only [go_sem, hG, hP, Nat.reduceEqDiff, ↓reduceIte, reduceCtorEq, Nat.reduceAdd, Nat.reduceSub, Nat.reduceMul, Nat.reduceLT, Nat.reduceLeDiff, Int.reduceAdd, Int.reduceSub, Int.reduceMul, Int.reduceLT, Int.reduceLE, Int.reduceEq, Int.reduceNeg, Int.reduceNe, Int.reduceGE, Int.reduceGT, Nat.reduceBEq, Int.reduceToNat]
                   done)
                | (have hq : ∀ q, q < 7 → n < q → (lst c).getD q 0 = 0 := fun q u1 u2 => by
                    by_cases u3 : q < 6
                    · exact hz q u3 u2
                    · have u4 : q = 6 := by omega
                      subst u4
                      rw [← hc]
                      exact Decidable.not_not.1 (by assumption)
                   refine ⟨7, ⟨⟨⟨by omega, by omega⟩, hq⟩, by omega⟩, SubS.weak ?_⟩
                   simp (config := { maxSteps := 2000000 }) only [go_sem, hG, hP, Nat.reduceEqDiff, ↓reduceIte, reduceCtorEq, Nat.reduceAdd, Nat.reduceSub, Nat.reduceMul, Nat.reduceLT, Nat.reduceLeDiff, Int.reduceAdd, Int.reduceSub, Int.reduceMul, Int.reduceLT, Int.reduceLE, Int.reduceEq, Int.reduceNeg, Int.reduceNe, Int.reduceGE, Int.reduceGT, Nat.reduceBEq, Int.reduceToNat]
                   repeat' (first | with_reducible rfl | (refine And.intro ?_ ?_) | (refine congrArg (Value.int _) ?_; omega) | omega)
                   done)
            · simp (config := { maxSteps := 2000000 }) only [go_sem, hG, hP, Nat.reduceEqDiff, ↓reduceIte, reduceCtorEq, Nat.reduceAdd, Nat.reduceSub, Nat.reduceMul, Nat.reduceLT, Nat.reduceLeDiff, Int.reduceAdd, Int.reduceSub, Int.reduceMul, Int.reduceLT, Int.reduceLE, Int.reduceEq, Int.reduceNeg, Int.reduceNe, Int.reduceGE, Int.reduceGT, Nat.reduceBEq, Int.reduceToNat]
              (try simp (disch := omega) only [wrap_id])
              repeat (refine And.intro (by first | omega | (simp; done) | (simp; omega) | (unfold appRoom; omega)) ?_)
              repeat' (first | (refine And.intro ?_ ?_) | (with_reducible intro _))
              all_goals first
                | (exfalso; omega)
                | (have hq : ¬ padP c := fun hp => by
                    have := hp 7 k3 (by omega)
                    rw [← hc] at this
                    exact absurd this (by assumption)
                   refine ⟨_, _, _, ?_, h2 hq⟩
                   simp (config := { maxSteps := 2000000 }) only [go_sem, hG, hP, Nat.reduceEqDiff, ↓reduceIte, reduceCtorEq, Nat.reduceAdd, Nat.reduceSub, Nat.reduceMul, Nat.reduceLT, Nat.reduceLeDiff, Int.reduceAdd, Int.reduceSub, Int.reduceMul, Int.reduceLT, Int.reduceLE, Int.reduceEq, Int.reduceNeg, Int.reduceNe, Int.reduceGE, Int.reduceGT, Nat.reduceBEq, Int.reduceToNat]
                   done)
                | (have hq : ∀ q, q < 8 → n < q → (lst c).getD q 0 = 0 := fun q u1 u2 => by
                    by_cases u3 : q < 7
                    · exact hz q u3 u2
                    · have u4 : q = 7 := by omega
                      subst u4
                      rw [← hc]
                      exact Decidable.not_not.1 (by assumption)
                   refine ⟨8, ⟨⟨⟨by omega, by omega⟩, hq⟩, by omega⟩, SubS.weak ?_⟩
                   simp (config := { maxSteps := 2000000 }) only [go_sem, hG, hP, Nat.reduceEqDiff, ↓reduceIte, reduceCtorEq, Nat.reduceAdd, Nat.reduceSub, Nat.reduceMul, Nat.reduceLT, Nat.reduceLeDiff, Int.reduceAdd, Int.reduceSub, Int.reduceMul, Int.reduceLT, Int.reduceLE, Int.reduceEq, Int.reduceNeg, Int.reduceNe, Int.reduceGE, Int.reduceGT, Nat.reduceBEq, Int.reduceToNat]
                   repeat' (first | with_reducible rfl | (refine And.intro ?_ ?_) | (refine congrArg (Value.int _) ?_; omega) | omega)
                   done)
            · simp (config := { maxSteps := 2000000 }) only [go_sem, hG, hP, Nat.reduceEqDiff, ↓reduceIte, reduceCtorEq, Nat.reduceAdd, Nat.reduceSub, Nat.reduceMul, Nat.reduceLT, Nat.reduceLeDiff, Int.reduceAdd, Int.reduceSub, Int.reduceMul, Int.reduceLT, Int.reduceLE, Int.reduceEq, Int.reduceNeg, Int.reduceNe, Int.reduceGE, Int.reduceGT, Nat.reduceBEq, Int.reduceToNat]
              (try simp (disch := omega) only [wrap_id])
              repeat (refine And.intro (by first | omega | (simp; done) | (simp; omega) | (unfold appRoom; omega)) ?_)
              repeat' (first | (refine And.intro ?_ ?_) | (with_reducible intro _))
              all_goals first
                | (exfalso; omega)
                | (have hq : ¬ padP c := fun hp => by
                    have := hp 8 k3 (by omega)
                    rw [← hc] at this
                    exact absurd this (by assumption)
                   refine ⟨_, _, _, ?_, h2 hq⟩
                   simp (config := { maxSteps := 2000000 }) only [go_sem, hG, hP, Nat.reduceEqDiff, ↓reduceIte, reduceCtorEq, Nat.reduceAdd, Nat.reduceSub, Nat.reduceMul, Nat.reduceLT, Nat.reduceLeDiff, Int.reduceAdd, Int.reduceSub, Int.reduceMul, Int.reduceLT, Int.reduceLE, Int.reduceEq, Int.reduceNeg, Int.reduceNe, Int.reduceGE, Int.reduceGT, Nat.reduceBEq, Int.reduceToNat]
                   done)
                | (have hq : ∀ q, q < 9 → n < q → (lst c).getD q 0 = 0 := fun q u1 u2 => by
                    by_cases u3 : q < 8
                    · exact hz q u3 u2
                    · have u4 : q = 8 := by omega
                      subst u4
                      rw [← hc]
                      exact Decidable.not_not.1 (by assumption)
                   refine ⟨9, ⟨⟨⟨by omega, by omega⟩, hq⟩, by omega⟩, SubS.weak ?_⟩
                   simp (config := { maxSteps := 2000000 }) only [go_sem, hG, hP, Nat.reduceEqDiff, ↓reduceIte, reduceCtorEq, Nat.reduceAdd, Nat.reduceSub, Nat.reduceMul, Nat.reduceLT, Nat.reduceLeDiff, Int.reduceAdd, Int.reduceSub, Int.reduceMul, Int.reduceLT, Int.reduceLE, Int.reduceEq, Int.reduceNeg, Int.reduceNe, Int.reduceGE, Int.reduceGT, Nat.reduceBEq, Int.reduceToNat]
                   repeat' (first | with_reducible rfl | (refine And.intro ?_ ?_) | (refine congrArg (Value.int _) ?_; omega) | omega)
                   done)
            · simp (config := { maxSteps := 2000000 }) only [go_sem, hG, hP, Nat.reduceEqDiff, ↓reduceIte, reduceCtorEq, Nat.reduceAdd, Nat.reduceSub, Nat.reduceMul, Nat.reduceLT, Nat.reduceLeDiff, Int.reduceAdd, Int.reduceSub, Int.reduceMul, Int.reduceLT, Int.reduceLE, Int.reduceEq, Int.reduceNeg, Int.reduceNe, Int.reduceGE, Int.reduceGT, Nat.reduceBEq, Int.reduceToNat]
              (try simp (disch := omega) only [wrap_id])
              repeat (refine And.intro (by first | omega | (simp; done) | (simp; omega) | (unfold appRoom; omega)) ?_)
              repeat' (first | (refine And.intro ?_ ?_) | (with_reducible intro _))
              all_goals first
                | (exfalso; omega)
                | (have hq : ¬ padP c := fun hp => by
                    have := hp 9 k3 (by omega)
                    rw [← hc] at this
                    exact absurd this (by assumption)
                   refine ⟨_, _, _, ?_, h2 hq⟩
                   simp (config := { maxSteps := 2000000 }) only [go_sem, hG, hP, Nat.reduceEqDiff, ↓reduceIte, reduceCtorEq, Nat.reduceAdd, Nat.reduceSub, Nat.reduceMul, Nat.reduceLT, Nat.reduceLeDiff, Int.reduceAdd, Int.reduceSub, Int.reduceMul, Int.reduceLT, Int.reduceLE, Int.reduceEq, Int.reduceNeg, Int.reduceNe, Int.reduceGE, Int.reduceGT, Nat.reduceBEq, Int.reduceToNat]
                   done)
                | (have hq : ∀ q, q < 10 → n < q → (lst c).getD q 0 = 0 := fun q u1 u2 => by
                    by_cases u3 : q < 9
                    · exact hz q u3 u2
                    · have u4 : q = 9 := by omega
                      subst u4
                      rw [← hc]
                      exact Decidable.not_not.1 (by assumption)
                   refine ⟨10, ⟨⟨⟨by omega, by omega⟩, hq⟩, by omega⟩, SubS.weak ?_⟩
                   simp (config := { maxSteps := 2000000 }) only [go_sem, hG, hP, Nat.reduceEqDiff, ↓reduceIte, reduceCtorEq, Nat.reduceAdd, Nat.reduceSub, Nat.reduceMul, Nat.reduceLT, Nat.reduceLeDiff, Int.reduceAdd, Int.reduceSub, Int.reduceMul, Int.reduceLT, Int.reduceLE, Int.reduceEq, Int.reduceNeg, Int.reduceNe, Int.reduceGE, Int.reduceGT, Nat.reduceBEq, Int.reduceToNat]
                   repeat' (first | with_reducible rfl | (refine And.intro ?_ ?_) | (refine congrArg (Value.int _) ?_; omega) | omega)
                   done)
            · simp (config := { maxSteps := 2000000 }) only [go_sem, hG, hP, Nat.reduceEqDiff, ↓reduceIte, reduceCtorEq, Nat.reduceAdd, Nat.reduceSub, Nat.reduceMul, Nat.reduceLT, Nat.reduceLeDiff, Int.reduceAdd, Int.reduceSub, Int.reduceMul, Int.reduceLT, Int.reduceLE, Int.reduceEq, Int.reduceNeg, Int.reduceNe, Int.reduceGE, Int.reduceGT, Nat.reduceBEq, Int.reduceToNat]
              (try simp (disch := omega) only [wrap_id])
              repeat (refine And.intro (by first | omega | (simp; done) | (simp; omega) | (unfold appRoom; omega)) ?_)
              repeat' (first | (refine And.intro ?_ ?_) | (with_reducible intro _))
              all_goals first
                | (exfalso; omega)
                | (have hq : ¬ padP c := fun hp => by
                    have := hp 10 k3 (by omega)
                    rw [← hc] at this
                    exact absurd this (by assumption)
                   refine ⟨_, _, _, ?_, h2 hq⟩
                   simp (config := { maxSteps := 2000000 }) only [go_sem, hG, hP, Nat.reduceEqDiff, ↓reduceIte, reduceCtorEq, Nat.reduceAdd, Nat.reduceSub, Nat.reduceMul, Nat.reduceLT, Nat.reduceLeDiff, Int.reduceAdd, Int.reduceSub, Int.reduceMul, Int.reduceLT, Int.reduceLE, Int.reduceEq, Int.reduceNeg, Int.reduceNe, Int.reduceGE, Int.reduceGT, Nat.reduceBEq, Int.reduceToNat]
                   done)
                | (have hq : ∀ q, q < 11 → n < q → (lst c).getD q 0 = 0 := fun q u1 u2 => by
                    by_cases u3 : q < 10
                    · exact hz q u3 u2
                    · have u4 : q = 10 := by omega
                      subst u4
                      rw [← hc]
                      exact Decidable.not_not.1 (by assumption)
                   refine ⟨11, ⟨⟨⟨by omega, by omega⟩, hq⟩, by omega⟩, SubS.weak ?_⟩
                   simp (config := { maxSteps := 2000000 }) only [go_sem, hG, hP, Nat.reduceEqDiff, ↓reduceIte, reduceCtorEq, Nat.reduceAdd, Nat.reduceSub, Nat.reduceMul, Nat.reduceLT, Nat.reduceLeDiff, Int.reduceAdd, Int.reduceSub, Int.reduceMul, Int.reduceLT, Int.reduceLE, Int.reduceEq, Int.reduceNeg, Int.reduceNe, Int.reduceGE, Int.reduceGT, Nat.reduceBEq, Int.reduceToNat]
                   repeat' (first | with_reducible rfl | (refine And.intro ?_ ?_) | (refine congrArg (Value.int _) ?_; omega) | omega)
                   done)
            · simp (config := { maxSteps := 2000000 }) only [go_sem, hG, hP, Nat.reduceEqDiff, ↓reduceIte, reduceCtorEq, Nat.reduceAdd, Nat.reduceSub, Nat.reduceMul, Nat.reduceLT, Nat.reduceLeDiff, Int.reduceAdd, Int.reduceSub, Int.reduceMul, Int.reduceLT, Int.reduceLE, Int.reduceEq, Int.reduceNeg, Int.reduceNe, Int.reduceGE, Int.reduceGT, Nat.reduceBEq, Int.reduceToNat]
              (try simp (disch := omega) only [wrap_id])
              repeat (refine And.intro (by first | omega | (simp; done) | (simp; omega) | (unfold appRoom; omega)) ?_)
              repeat' (first | (refine And.intro ?_ ?_) | (with_reducible intro _))
              all_goals first
                | (exfalso; omega)
                | (have hq : ¬ padP c := fun hp => by
                    have := hp 11 k3 (by omega)
                    rw [← hc] at this
                    exact absurd this (by assumption)
                   refine ⟨_, _, _, ?_, h2 hq⟩
                   simp (config := { maxSteps := 2000000 }) only [go_sem, hG, hP, Nat.reduceEqDiff, ↓reduceIte, reduceCtorEq, Nat.reduceAdd, Nat.reduceSub, Nat.reduceMul, Nat.reduceLT, Nat.reduceLeDiff, Int.reduceAdd, Int.reduceSub, Int.reduceMul, Int.reduceLT, Int.reduceLE, Int.reduceEq, Int.reduceNeg, Int.reduceNe, Int.reduceGE, Int.reduceGT, Nat.reduceBEq, Int.reduceToNat]
                   done)
                | (have hq : ∀ q, q < 12 → n < q → (lst c).getD q 0 = 0 := fun q u1 u2 => by
                    by_cases u3 : q < 11
                    · exact hz q u3 u2
                    · have u4 : q = 11 := by omega
                      subst u4
                      rw [← hc]
                      exact Decidable.not_not.1 (by assumption)
                   refine ⟨12, ⟨⟨⟨by omega, by omega⟩, hq⟩, by omega⟩, SubS.weak ?_⟩
                   simp (config := { maxSteps := 2000000 }) only [go_sem, hG, hP, Nat.reduceEqDiff, ↓reduceIte, reduceCtorEq, Nat.reduceAdd, Nat.reduceSub, Nat.reduceMul, Nat.reduceLT, Nat.reduceLeDiff, Int.reduceAdd, Int.reduceSub, Int.reduceMul, Int.reduceLT, Int.reduceLE, Int.reduceEq, Int.reduceNeg, Int.reduceNe, Int.reduceGE, Int.reduceGT, Nat.reduceBEq, Int.reduceToNat]
                   repeat' (first | with_reducible rfl | (refine And.intro ?_ ?_) | (refine congrArg (Value.int _) ?_; omega) | omega)
                   done)
            · simp (config := { maxSteps := 2000000 }) only [go_sem, hG, hP, Nat.reduceEqDiff, ↓reduceIte, reduceCtorEq, Nat.reduceAdd, Nat.reduceSub, Nat.reduceMul, Nat.reduceLT, Nat.reduceLeDiff, Int.reduceAdd, Int.reduceSub, Int.reduceMul, Int.reduceLT, Int.reduceLE, Int.reduceEq, Int.reduceNeg, Int.reduceNe, Int.reduceGE, Int.reduceGT, Nat.reduceBEq, Int.reduceToNat]
              (try simp (disch := omega) only [wrap_id])
              repeat (refine And.intro (by first | omega | (simp; done) | (simp; omega) | (unfold appRoom; omega)) ?_)
              repeat' (first | (refine And.intro ?_ ?_) | (with_reducible intro _))
              all_goals first
                | (exfalso; omega)
                | (have hq : ¬ padP c := fun hp => by
                    have := hp 12 k3 (by omega)
                    rw [← hc] at this
                    exact absurd this (by assumption)
                   refine ⟨_, _, _, ?_, h2 hq⟩
                   simp (config := { maxSteps := 2000000 }) only [go_sem, hG, hP, Nat.reduceEqDiff, ↓reduceIte, reduceCtorEq, Nat.reduceAdd, Nat.reduceSub, Nat.reduceMul, Nat.reduceLT, Nat.reduceLeDiff, Int.reduceAdd, Int.reduceSub, Int.reduceMul, Int.reduceLT, Int.reduceLE, Int.reduceEq, Int.reduceNeg, Int.reduceNe, Int.reduceGE, Int.reduceGT, Nat.reduceBEq, Int.reduceToNat]
                   done)
                | (have hq : ∀ q, q < 13 → n < q → (lst c).getD q 0 = 0 := fun q u1 u2 => by
                    by_cases u3 : q < 12
                    · exact hz q u3 u2
                    · have u4 : q = 12 := by omega
                      subst u4
                      rw [← hc]
                      exact Decidable.not_not.1 (by assumption)
                   refine ⟨13, ⟨⟨⟨by omega, by omega⟩, hq⟩, by omega⟩, SubS.weak ?_⟩
                   simp (config := { maxSteps := 2000000 }) only [go_sem, hG, hP, Nat.reduceEqDiff, ↓reduceIte, reduceCtorEq, Nat.reduceAdd, Nat.reduceSub, Nat.reduceMul, Nat.reduceLT, Nat.reduceLeDiff, Int.reduceAdd, Int.reduceSub, Int.reduceMul, Int.reduceLT, Int.reduceLE, Int.reduceEq, Int.reduceNeg, Int.reduceNe, Int.reduceGE, Int.reduceGT, Nat.reduceBEq, Int.reduceToNat]
                   repeat' (first | with_reducible rfl | (refine And.intro ?_ ?_) | (refine congrArg (Value.int _) ?_; omega) | omega)
                   done)
            · simp (config := { maxSteps := 2000000 }) only [go_sem, hG, hP, Nat.reduceEqDiff, ↓reduceIte, reduceCtorEq, Nat.reduceAdd, Nat.reduceSub, Nat.reduceMul, Nat.reduceLT, Nat.reduceLeDiff, Int.reduceAdd, Int.reduceSub, Int.reduceMul, Int.reduceLT, Int.reduceLE, Int.reduceEq, Int.reduceNeg, Int.reduceNe, Int.reduceGE, Int.reduceGT, Nat.reduceBEq, Int.reduceToNat]
              (try simp (disch := omega) only [wrap_id])
              repeat (refine And.intro (by first | omega | (simp; done) | (simp; omega) | (unfold appRoom; omega)) ?_)
              repeat' (first | (refine And.intro ?_ ?_) | (with_reducible intro _))
              all_goals first
                | (exfalso; omega)
                | (have hq : ¬ padP c := fun hp => by
                    have := hp 13 k3 (by omega)
                    rw [← hc] at this
                    exact absurd this (by assumption)
                   refine ⟨_, _, _, ?_, h2 hq⟩
                   simp (config := { maxSteps := 2000000 }) only [go_sem, hG, hP, Nat.reduceEqDiff, ↓reduceIte, reduceCtorEq, Nat.reduceAdd, Nat.reduceSub, Nat.reduceMul, Nat.reduceLT, Nat.reduceLeDiff, Int.reduceAdd, Int.reduceSub, Int.reduceMul, Int.reduceLT, Int.reduceLE, Int.reduceEq, Int.reduceNeg, Int.reduceNe, Int.reduceGE, Int.reduceGT, Nat.reduceBEq, Int.reduceToNat]
                   done)
                | (have hq : ∀ q, q < 14 → n < q → (lst c).getD q 0 = 0 := fun q u1 u2 => by
                    by_cases u3 : q < 13
                    · exact hz q u3 u2
                    · have u4 : q = 13 := by omega
                      subst u4
                      rw [← hc]
                      exact Decidable.not_not.1 (by assumption)
                   refine ⟨14, ⟨⟨⟨by omega, by omega⟩, hq⟩, by omega⟩, SubS.weak ?_⟩
                   simp (config := { maxSteps := 2000000 }) only [go_sem, hG, hP, Nat.reduceEqDiff, ↓reduceIte, reduceCtorEq, Nat.reduceAdd, Nat.reduceSub, Nat.reduceMul, Nat.reduceLT, Nat.reduceLeDiff, Int.reduceAdd, Int.reduceSub, Int.reduceMul, Int.reduceLT, Int.reduceLE, Int.reduceEq, Int.reduceNeg, Int.reduceNe, Int.reduceGE, Int.reduceGT, Nat.reduceBEq, Int.reduceToNat]
                   repeat' (first | with_reducible rfl | (refine And.intro ?_ ?_) | (refine congrArg (Value.int _) ?_; omega) | omega)
                   done)
            · simp (config := { maxSteps := 2000000 }) only [go_sem, hG, hP, Nat.reduceEqDiff, ↓reduceIte, reduceCtorEq, Nat.reduceAdd, Nat.reduceSub, Nat.reduceMul, Nat.reduceLT, Nat.reduceLeDiff, Int.reduceAdd, Int.reduceSub, Int.reduceMul, Int.reduceLT, Int.reduceLE, Int.reduceEq, Int.reduceNeg, Int.reduceNe, Int.reduceGE, Int.reduceGT, Nat.reduceBEq, Int.reduceToNat]
              (try simp (disch := omega) only [wrap_id])
              repeat (refine And.intro (by first | omega | (simp; done) | (simp; omega) | (unfold appRoom; omega)) ?_)
              repeat' (first | (refine And.intro ?_ ?_) | (with_reducible intro _))
              all_goals first
                | (exfalso; omega)
                | (have hq : ¬ padP c := fun hp => by
                    have := hp 14 k3 (by omega)
                    rw [← hc] at this
                    exact absurd this (by assumption)
                   refine ⟨_, _, _, ?_, h2 hq⟩
                   simp (config := { maxSteps := 2000000 }) only [go_sem, hG, hP, Nat.reduceEqDiff, ↓reduceIte, reduceCtorEq, Nat.reduceAdd, Nat.reduceSub, Nat.reduceMul, Nat.reduceLT, Nat.reduceLeDiff, Int.reduceAdd, Int.reduceSub, Int.reduceMul, Int.reduceLT, Int.reduceLE, Int.reduceEq, Int.reduceNeg, Int.reduceNe, Int.reduceGE, Int.reduceGT, Nat.reduceBEq, Int.reduceToNat]
                   done)
                | (have hq : ∀ q, q < 15 → n < q → (lst c).getD q 0 = 0 := fun q u1 u2 => by
                    by_cases u3 : q < 14
                    · exact hz q u3 u2
                    · have u4 : q = 14 := by omega
                      subst u4
                      rw [← hc]
                      exact Decidable.not_not.1 (by assumption)
                   refine ⟨15, ⟨⟨⟨by omega, by omega⟩, hq⟩, by omega⟩, SubS.weak ?_⟩
                   simp (config := { maxSteps := 2000000 }) only [go_sem, hG, hP, Nat.reduceEqDiff, ↓reduceIte, reduceCtorEq, Nat.reduceAdd, Nat.reduceSub, Nat.reduceMul, Nat.reduceLT, Nat.reduceLeDiff, Int.reduceAdd, Int.reduceSub, Int.reduceMul, Int.reduceLT, Int.reduceLE, Int.reduceEq, Int.reduceNeg, Int.reduceNe, Int.reduceGE, Int.reduceGT, Nat.reduceBEq, Int.reduceToNat]
                   repeat' (first | with_reducible rfl | (refine And.intro ?_ ?_) | (refine congrArg (Value.int _) ?_; omega) | omega)
                   done)
            · simp (config := { maxSteps := 2000000 }) only [go_sem, hG, hP, Nat.reduceEqDiff, ↓reduceIte, reduceCtorEq, Nat.reduceAdd, Nat.reduceSub, Nat.reduceMul, Nat.reduceLT, Nat.reduceLeDiff, Int.reduceAdd, Int.reduceSub, Int.reduceMul, Int.reduceLT, Int.reduceLE, Int.reduceEq, Int.reduceNeg, Int.reduceNe, Int.reduceGE, Int.reduceGT, Nat.reduceBEq, Int.reduceToNat]
              (try simp (disch := omega) only [wrap_id])
              repeat (refine And.intro (by first | omega | (simp; done) | (simp; omega) | (unfold appRoom; omega)) ?_)
              repeat' (first | (refine And.intro ?_ ?_) | (with_reducible intro _))
              all_goals first
                | (exfalso; omega)
                | (have hq : ¬ padP c := fun hp => by
                    have := hp 15 k3 (by omega)
                    rw [← hc] at this
                    exact absurd this (by assumption)
                   refine ⟨_, _, _, ?_, h2 hq⟩
                   simp (config := { maxSteps := 2000000 }) only [go_sem, hG, hP, Nat.reduceEqDiff, ↓reduceIte, reduceCtorEq, Nat.reduceAdd, Nat.reduceSub, Nat.reduceMul, Nat.reduceLT, Nat.reduceLeDiff, Int.reduceAdd, Int.reduceSub, Int.reduceMul, Int.reduceLT, Int.reduceLE, Int.reduceEq, Int.reduceNeg, Int.reduceNe, Int.reduceGE, Int.reduceGT, Nat.reduceBEq, Int.reduceToNat]
                   done)
                | (have hq : ∀ q, q < 16 → n < q → (lst c).getD q 0 = 0 := fun q u1 u2 => by
                    by_cases u3 : q < 15
                    · exact hz q u3 u2
                    · have u4 : q = 15 := by omega
                      subst u4
                      rw [← hc]
                      exact Decidable.not_not.1 (by assumption)
                   refine ⟨16, ⟨⟨⟨by omega, by omega⟩, hq⟩, by omega⟩, SubS.weak ?_⟩
                   simp (config := { maxSteps := 2000000 }) only [go_sem, hG, hP, Nat.reduceEqDiff, ↓reduceIte, reduceCtorEq, Nat.reduceAdd, Nat.reduceSub, Nat.reduceMul, Nat.reduceLT, Nat.reduceLeDiff, Int.reduceAdd, Int.reduceSub, Int.reduceMul, Int.reduceLT, Int.reduceLE, Int.reduceEq, Int.reduceNeg, Int.reduceNe, Int.reduceGE, Int.reduceGT, Nat.reduceBEq, Int.reduceToNat]
                   repeat' (first | with_reducible rfl | (refine And.intro ?_ ?_) | (refine congrArg (Value.int _) ?_; omega) | omega)
                   done)
          · have ek : k = 16 := by omega
            subst ek
            have hp : padP c := fun q u1 u2 => hz q u1 (by omega)
            by_cases hs : seqC c = i.tmod 8
            · have hs1 := eq_true hs
              simp (config := { maxSteps := 2000000 }) only [go_sem, hG, hP, Nat.reduceEqDiff, ↓reduceIte, reduceCtorEq, Nat.reduceAdd, Nat.reduceSub, Nat.reduceMul, Nat.reduceLT, Nat.reduceLeDiff, Int.reduceAdd, Int.reduceSub, Int.reduceMul, Int.reduceLT, Int.reduceLE, Int.reduceEq, Int.reduceNeg, Int.reduceNe, Int.reduceGE, Int.reduceGT, Nat.reduceBEq, Int.reduceToNat,  wq, hseq, ws, hs1]
              (try simp (disch := omega) only [wrap_id])
              repeat (refine And.intro (by first | omega | (simp; done) | (simp; omega) | (unfold appRoom; omega)) ?_)
              have h5 := h4 hp hs
              refine ⟨fun e => ?_, fun e => ?_⟩
              · rw [if_pos e] at h5
                refine ⟨_, _, _, ?_, h5⟩
                simp (config := { maxSteps := 2000000 }) only [go_sem, hG, hP, Nat.reduceEqDiff, ↓reduceIte, reduceCtorEq, Nat.reduceAdd, Nat.reduceSub, Nat.reduceMul, Nat.reduceLT, Nat.reduceLeDiff, Int.reduceAdd, Int.reduceSub, Int.reduceMul, Int.reduceLT, Int.reduceLE, Int.reduceEq, Int.reduceNeg, Int.reduceNe, Int.reduceGE, Int.reduceGT, Nat.reduceBEq, Int.reduceToNat]
              · rw [e, if_neg (by decide)] at h5
                refine ⟨_, _, _, ?_, h5⟩
                simp (config := { maxSteps := 2000000 }) only [go_sem, hG, hP, Nat.reduceEqDiff, ↓reduceIte, reduceCtorEq, Nat.reduceAdd, Nat.reduceSub, Nat.reduceMul, Nat.reduceLT, Nat.reduceLeDiff, Int.reduceAdd, Int.reduceSub, Int.reduceMul, Int.reduceLT, Int.reduceLE, Int.reduceEq, Int.reduceNeg, Int.reduceNe, Int.reduceGE, Int.reduceGT, Nat.reduceBEq, Int.reduceToNat]
            · have hs1 := eq_false hs
              simp (config := { maxSteps := 2000000 }) only [go_sem, hG, hP, Nat.reduceEqDiff, ↓reduceIte, reduceCtorEq, Nat.reduceAdd, Nat.reduceSub, Nat.reduceMul, Nat.reduceLT, Nat.reduceLeDiff, Int.reduceAdd, Int.reduceSub, Int.reduceMul, Int.reduceLT, Int.reduceLE, Int.reduceEq, Int.reduceNeg, Int.reduceNe, Int.reduceGE, Int.reduceGT, Nat.reduceBEq, Int.reduceToNat,  wq, hseq, ws, hs1]
              (try simp (disch := omega) only [wrap_id])
              repeat (refine And.intro (by first | omega | (simp; done) | (simp; omega) | (unfold appRoom; omega)) ?_)
              refine ⟨_, _, _, ?_, h3 hp hs⟩
              simp (config := { maxSteps := 2000000 }) only [go_sem, hG, hP, Nat.reduceEqDiff, ↓reduceIte, reduceCtorEq, Nat.reduceAdd, Nat.reduceSub, Nat.reduceMul, Nat.reduceLT, Nat.reduceLeDiff, Int.reduceAdd, Int.reduceSub, Int.reduceMul, Int.reduceLT, Int.reduceLE, Int.reduceEq, Int.reduceNeg, Int.reduceNe, Int.reduceGE, Int.reduceGT, Nat.reduceBEq, Int.reduceToNat]
  · exact h.elim
def unc : List C16 → Nat → Bool → List Int → List Int × Int
  | [], _, last, out => (out, if last = true then 0 else 4)
  | c :: r, i, last, out => if chkC c i last = 0 then unc r (i + 1) (decide (128 ≤ c.a0)) (out ++ ((lst c).drop 1).take (cnt c)) else (out, chkC c i last)
def uncP (l : List C16) : List Int × Int := if 60 < l.length then ([], 5) else unc l 0 false []
def hdB (l : List C16) : Prop := ∀ k, k < l.length → hd8 (l.getD k (⟨0, 0, 0, 0, 0, 0, 0, 0, 0, 0, 0, 0, 0, 0, 0, 0⟩ : C16))
theorem drop_cons {α : Type} (l : List α) (d : α) {k : Nat} (h : k < l.length) : l.drop k = l.getD k d :: l.drop (k + 1) := by
  rw [List.drop_eq_getElem_cons h]; simp [List.getD, h]
theorem part_len (c : C16) {n : Nat} (h : n ≤ 15) : (((lst c).drop 1).take n).length = n := by simp [lst]; omega
def spUnc : Spec := ⟨fun _ _ => [], fun args objs K => match args, objs with
  | [.rs .c16 l], [] => hdB l ∧ K (.tup [.sub 0 1 0 (uncP l).1.length, .v (.int .i64 (uncP l).2)]) [(0, .row .byte (uncP l).1)] 1
  | _, _ => False, false⟩
theorem spUnc_t {L : Hp} {a : List AVal} : Spec.take spUnc L a = [] := id rfl
theorem spUnc_k : Spec.keep spUnc = false := id rfl
theorem spUnc_f {l} {K : AVal → Hp → Nat → Prop} : Spec.f spUnc ([.rs .c16 l]) ([]) K = (hdB l ∧ K (.tup [.sub 0 1 0 (uncP l).1.length, .v (.int .i64 (uncP l).2)]) [(0, .row .byte (uncP l).1)] 1) := id rfl
theorem valid30 : Valid Try.prog 30 spUnc := by
  refine validI (Γ := lk [(39, spCell1)]) Try.func30 bod30 low30 res30 (good_of ⟨⟨cal39, valid39⟩, trivial⟩) ?_
  intro E args objs K h hE hG hP
  simp only [spUnc] at h
  split at h
  · refine ⟨by simp [Try.ntmps30], ?_⟩
    rename_i l
    obtain ⟨hB, h⟩ := h
    by_cases hz : 60 < l.length
    · have e0 : uncP l = ([], 5) := if_pos hz
      have hz2 : ((l.length : Int) > 60) = True := by apply eq_true; omega
      rw [e0] at h
      simp (config := { maxSteps := 2000000 }) only [go_sem, hG, hP, Nat.reduceEqDiff, ↓reduceIte, reduceCtorEq, Nat.reduceAdd, Nat.reduceSub, Nat.reduceMul, Nat.reduceLT, Nat.reduceLeDiff, Int.reduceAdd, Int.reduceSub, Int.reduceMul, Int.reduceLT, Int.reduceLE, Int.reduceEq, Int.reduceNeg, Int.reduceNe, Int.reduceGE, Int.reduceGT, Nat.reduceBEq, Int.reduceToNat,  hz2]
      refine ⟨_, _, _, ?_, h⟩
      simp (config := { maxSteps := 2000000 }) only [go_sem, hG, hP, Nat.reduceEqDiff, ↓reduceIte, reduceCtorEq, Nat.reduceAdd, Nat.reduceSub, Nat.reduceMul, Nat.reduceLT, Nat.reduceLeDiff, Int.reduceAdd, Int.reduceSub, Int.reduceMul, Int.reduceLT, Int.reduceLE, Int.reduceEq, Int.reduceNeg, Int.reduceNe, Int.reduceGE, Int.reduceGT, Nat.reduceBEq, Int.reduceToNat]
      repeat' (first | with_reducible rfl | (refine And.intro ?_ ?_) | (refine congrArg (Value.int _) ?_; omega) | omega)
    · have e0 : uncP l = unc l 0 false [] := if_neg hz
      have hz2 : ((l.length : Int) > 60) = False := by apply eq_false; omega
      simp (config := { maxSteps := 2000000 }) only [go_sem, hG, hP, Nat.reduceEqDiff, ↓reduceIte, reduceCtorEq, Nat.reduceAdd, Nat.reduceSub, Nat.reduceMul, Nat.reduceLT, Nat.reduceLeDiff, Int.reduceAdd, Int.reduceSub, Int.reduceMul, Int.reduceLT, Int.reduceLE, Int.reduceEq, Int.reduceNeg, Int.reduceNe, Int.reduceGE, Int.reduceGT, Nat.reduceBEq, Int.reduceToNat,  hz2]
      refine loopI hE (fun p : Nat × Bool × List Int => ⟨[(0, .rs .c16 l), (4, .sub 0 1 0 p.2.2.length), (5, .v (.bool p.2.1)), (6, .v (.int .i64 p.1))], [(0, .row .byte p.2.2)], 1, Try.f30.ntmps⟩) (fun p => p.1 ≤ l.length ∧ p.2.2.length ≤ 15 * p.1 ∧ uncP l = unc (l.drop p.1) p.1 p.2.1 p.2.2) (fun p => l.length - p.1) ⟨(0, false, []), ⟨by dsimp only; omega, by simp, e0⟩, SubS.weak ?_⟩ ?_
      · simp (config := { maxSteps := 2000000 }) only [go_sem, hG, hP, Nat.reduceEqDiff, ↓reduceIte, reduceCtorEq, Nat.reduceAdd, Nat.reduceSub, Nat.reduceMul, Nat.reduceLT, Nat.reduceLeDiff, Int.reduceAdd, Int.reduceSub, Int.reduceMul, Int.reduceLT, Int.reduceLE, Int.reduceEq, Int.reduceNeg, Int.reduceNe, Int.reduceGE, Int.reduceGT, Nat.reduceBEq, Int.reduceToNat]
        repeat' (first | with_reducible rfl | (refine And.intro ?_ ?_) | (refine congrArg (Value.int _) ?_; omega) | omega)
      · rintro ⟨k, last, out⟩ ⟨k1, k2, hI⟩
        dsimp only at k1 k2 hI ⊢
        by_cases k3 : k < l.length
        · have e1 : ((k : Int) < l.length) = True := by apply eq_true; omega
          have hb := hB k k3
          rw [drop_cons l (⟨0, 0, 0, 0, 0, 0, 0, 0, 0, 0, 0, 0, 0, 0, 0, 0⟩ : C16) k3] at hI
          generalize hcc : l.getD k (⟨0, 0, 0, 0, 0, 0, 0, 0, 0, 0, 0, 0, 0, 0, 0, 0⟩ : C16) = c at hb hI
          obtain ⟨hn, hn15⟩ := cnt_eq hb
          obtain ⟨a0, a1, a2, a3, a4, a5, a6, a7, a8, a9, a10, a11, a12, a13, a14, a15⟩ := c
          dsimp only at hn
          simp only [unc] at hI
          have hpl := part_len (⟨a0, a1, a2, a3, a4, a5, a6, a7, a8, a9, a10, a11, a12, a13, a14, a15⟩ : C16) hn15
          by_cases ch : chkC ⟨a0, a1, a2, a3, a4, a5, a6, a7, a8, a9, a10, a11, a12, a13, a14, a15⟩ k last = 0
          · rw [if_pos ch] at hI
            generalize hp : (lst ⟨a0, a1, a2, a3, a4, a5, a6, a7, a8, a9, a10, a11, a12, a13, a14, a15⟩).drop 1 = P at hpl hI
            generalize hnn : cnt ⟨a0, a1, a2, a3, a4, a5, a6, a7, a8, a9, a10, a11, a12, a13, a14, a15⟩ = n at hn hn15 hpl hI
            have wn : wr .i64 (n : Int) = (n : Int) := wrap_id (by omega) (by omega)
            simp (config := { maxSteps := 2000000 }) only [go_sem, hG, hP, Nat.reduceEqDiff, ↓reduceIte, reduceCtorEq, Nat.reduceAdd, Nat.reduceSub, Nat.reduceMul, Nat.reduceLT, Nat.reduceLeDiff, Int.reduceAdd, Int.reduceSub, Int.reduceMul, Int.reduceLT, Int.reduceLE, Int.reduceEq, Int.reduceNeg, Int.reduceNe, Int.reduceGE, Int.reduceGT, Nat.reduceBEq, Int.reduceToNat,  e1, spCell1_f, spCell1_t, spCell1_k, hcc, hb, ch]
            (try simp (disch := omega) only [wrap_id])
            repeat (refine And.intro (by first | omega | (simp; done) | (simp; omega) | (unfold appRoom; omega)) ?_)
            have hPt : P = [a1, a2, a3, a4, a5, a6, a7, a8, a9, a10, a11, a12, a13, a14, a15] := hp.symm
            have htl : ∀ q, q ≤ n → (P.take q).length = q := fun q hq => by rw [hPt]; simp; omega
            refine loopI hE (fun q : Nat => ⟨[(0, .rs .c16 l), (4, .sub 0 1 0 (out ++ P.take q).length), (6, .v (.int .i64 k)), (8, .v (.int .i64 ((q : Int) + 1)))], [(0, .row .byte (out ++ P.take q))], 1, Try.f30.ntmps⟩) (fun q => q ≤ n) (fun q => n - q) ⟨0, by omega, SubS.weak ?_⟩ ?_
            · simp (config := { maxSteps := 2000000 }) only [go_sem, hG, hP, Nat.reduceEqDiff, ↓reduceIte, reduceCtorEq, Nat.reduceAdd, Nat.reduceSub, Nat.reduceMul, Nat.reduceLT, Nat.reduceLeDiff, Int.reduceAdd, Int.reduceSub, Int.reduceMul, Int.reduceLT, Int.reduceLE, Int.reduceEq, Int.reduceNeg, Int.reduceNe, Int.reduceGE, Int.reduceGT, Nat.reduceBEq, Int.reduceToNat,  List.take_zero, List.append_nil]
              repeat' (first | with_reducible rfl | (refine And.intro ?_ ?_) | (refine congrArg (Value.int _) ?_; omega) | omega)
            · intro q hq
              dsimp only at hq ⊢
              by_cases hq2 : q < n
              · have hq3 : q = 0 ∨ q = 1 ∨ q = 2 ∨ q = 3 ∨ q = 4 ∨ q = 5 ∨ q = 6 ∨ q = 7 ∨ q = 8 ∨ q = 9 ∨ q = 10 ∨ q = 11 ∨ q = 12 ∨ q = 13 ∨ q = 14 := by omega
                have hlq : (out ++ P.take q).length = out.length + q := by rw [List.length_append, htl q hq]
                rcases hq3 with rfl | rfl | rfl | rfl | rfl | rfl | rfl | rfl | rfl | rfl | rfl | rfl | rfl | rfl | rfl
                · simp (config := { maxSteps := 2000000 }) only [go_sem, hG, hP, Nat.reduceEqDiff, ↓reduceIte, reduceCtorEq, Nat.reduceAdd, Nat.reduceSub, Nat.reduceMul, Nat.reduceLT, Nat.reduceLeDiff, Int.reduceAdd, Int.reduceSub, Int.reduceMul, Int.reduceLT, Int.reduceLE, Int.reduceEq, Int.reduceNeg, Int.reduceNe, Int.reduceGE, Int.reduceGT, Nat.reduceBEq, Int.reduceToNat,  e1, hcc, hn, wn]
                  (try simp (disch := omega) only [wrap_id])
                  repeat' (first | (refine And.intro ?_ ?_) | (with_reducible intro _))
                  all_goals first
                    | (exfalso; omega)
                    | omega
                    | (unfold appRoom; omega)
                    | (refine ⟨1, ⟨by omega, by omega⟩, SubS.weak ?_⟩
                       simp (config := { maxSteps := 2000000 }) only [go_sem, hG, hP, Nat.reduceEqDiff, ↓reduceIte, reduceCtorEq, Nat.reduceAdd, Nat.reduceSub, Nat.reduceMul, Nat.reduceLT, Nat.reduceLeDiff, Int.reduceAdd, Int.reduceSub, Int.reduceMul, Int.reduceLT, Int.reduceLE, Int.reduceEq, Int.reduceNeg, Int.reduceNe, Int.reduceGE, Int.reduceGT, Nat.reduceBEq, Int.reduceToNat]
                       all_goals simp [hPt]
                       done)
                    | (refine ⟨1, ⟨by omega, by omega⟩, SubS.weak ?_⟩
                       simp (config := { maxSteps := 2000000 }) only [go_sem, hG, hP, Nat.reduceEqDiff, ↓reduceIte, reduceCtorEq, Nat.reduceAdd, Nat.reduceSub, Nat.reduceMul, Nat.reduceLT, Nat.reduceLeDiff, Int.reduceAdd, Int.reduceSub, Int.reduceMul, Int.reduceLT, Int.reduceLE, Int.reduceEq, Int.reduceNeg, Int.reduceNe, Int.reduceGE, Int.reduceGT, Nat.reduceBEq, Int.reduceToNat]
                       all_goals trace_state
                       done)
                · simp (config := { maxSteps := 2000000 }) only [go_sem, hG, hP, Nat.reduceEqDiff, ↓reduceIte, reduceCtorEq, Nat.reduceAdd, Nat.reduceSub, Nat.reduceMul, Nat.reduceLT, Nat.reduceLeDiff, Int.reduceAdd, Int.reduceSub, Int.reduceMul, Int.reduceLT, Int.reduceLE, Int.reduceEq, Int.reduceNeg, Int.reduceNe, Int.reduceGE, Int.reduceGT, Nat.reduceBEq, Int.reduceToNat,  e1, hcc, hn, wn]
                  (try simp (disch := omega) only [wrap_id])
                  repeat' (first | (refine And.intro ?_ ?_) | (with_reducible intro _))
                  all_goals first
                    | (exfalso; omega)
                    | omega
                    | (unfold appRoom; omega)
                    | (refine ⟨2, ⟨by omega, by omega⟩, SubS.weak ?_⟩
                       simp (config := { maxSteps := 2000000 }) only [go_sem, hG, hP, Nat.reduceEqDiff, ↓reduceIte, reduceCtorEq, Nat.reduceAdd, Nat.reduceSub, Nat.reduceMul, Nat.reduceLT, Nat.reduceLeDiff, Int.reduceAdd, Int.reduceSub, Int.reduceMul, Int.reduceLT, Int.reduceLE, Int.reduceEq, Int.reduceNeg, Int.reduceNe, Int.reduceGE, Int.reduceGT, Nat.reduceBEq, Int.reduceToNat]
                       all_goals simp [hPt]
                       done)
                    | (refine ⟨2, ⟨by omega, by omega⟩, SubS.weak ?_⟩
                       simp (config := { maxSteps := 2000000 }) only [go_sem, hG, hP, Nat.reduceEqDiff, ↓reduceIte, reduceCtorEq, Nat.reduceAdd, Nat.reduceSub, Nat.reduceMul, Nat.reduceLT, Nat.reduceLeDiff, Int.reduceAdd, Int.reduceSub, Int.reduceMul, Int.reduceLT, Int.reduceLE, Int.reduceEq, Int.reduceNeg, Int.reduceNe, Int.reduceGE, Int.reduceGT, Nat.reduceBEq, Int.reduceToNat]
                       all_goals trace_state
                       done)
                · simp (config := { maxSteps := 2000000 }) only [go_sem, hG, hP, Nat.reduceEqDiff, ↓reduceIte, reduceCtorEq, Nat.reduceAdd, Nat.reduceSub, Nat.reduceMul, Nat.reduceLT, Nat.reduceLeDiff, Int.reduceAdd, Int.reduceSub, Int.reduceMul, Int.reduceLT, Int.reduceLE, Int.reduceEq, Int.reduceNeg, Int.reduceNe, Int.reduceGE, Int.reduceGT, Nat.reduceBEq, Int.reduceToNat,  e1, hcc, hn, wn]
                  (try simp (disch := omega) only [wrap_id])
                  repeat' (first | (refine And.intro ?_ ?_) | (with_reducible intro _))
                  all_goals first
                    | (exfalso; omega)
                    | omega
                    | (unfold appRoom; omega)
                    | (refine ⟨3, ⟨by omega, by omega⟩, SubS.weak ?_⟩
                       simp (config := { maxSteps := 2000000 }) only [go_sem, hG, hP, Nat.reduceEqDiff, ↓reduceIte, reduceCtorEq, Nat.reduceAdd, Nat.reduceSub, Nat.reduceMul, Nat.reduceLT, Nat.reduceLeDiff, Int.reduceAdd, Int.reduceSub, Int.reduceMul, Int.reduceLT, Int.reduceLE, Int.reduceEq, Int.reduceNeg, Int.reduceNe, Int.reduceGE, Int.reduceGT, Nat.reduceBEq, Int.reduceToNat]
                       all_goals simp [hPt]
                       done)
                    | (refine ⟨3, ⟨by omega, by omega⟩, SubS.weak ?_⟩
                       simp (config := { maxSteps := 2000000 }) only [go_sem, hG, hP, Nat.reduceEqDiff, ↓reduceIte, reduceCtorEq, Nat.reduceAdd, Nat.reduceSub, Nat.reduceMul, Nat.reduceLT, Nat.reduceLeDiff, Int.reduceAdd, Int.reduceSub, Int.reduceMul, Int.reduceLT, Int.reduceLE, Int.reduceEq, Int.reduceNeg, Int.reduceNe, Int.reduceGE, Int.reduceGT, Nat.reduceBEq, Int.reduceToNat]
                       all_goals trace_state
                       done)
                · simp (config := { maxSteps := 2000000 }) only [go_sem, hG, hP, Nat.reduceEqDiff, ↓reduceIte, reduceCtorEq, Nat.reduceAdd, Nat.reduceSub, Nat.reduceMul, Nat.reduceLT, Nat.reduceLeDiff, Int.reduceAdd, Int.reduceSub, Int.reduceMul, Int.reduceLT, Int.reduceLE, Int.reduceEq, Int.reduceNeg, Int.reduceNe, Int.reduceGE, Int.reduceGT, Nat.reduceBEq, Int.reduceToNat,  e1, hcc, hn, wn]
                  (try simp (disch := omega) only [wrap_id])
                  repeat' (first | (refine And.intro ?_ ?_) | (with_reducible intro _))
                  all_goals first
                    | (exfalso; omega)
                    | omega
                    | (unfold appRoom; omega)
                    | (refine ⟨4, ⟨by omega, by omega⟩, SubS.weak ?_⟩
                       simp (config := { maxSteps := 2000000 }) only [go_sem, hG, hP, Nat.reduceEqDiff, ↓reduceIte, reduceCtorEq, Nat.reduceAdd, Nat.reduceSub, Nat.reduceMul, Nat.reduceLT, Nat.reduceLeDiff, Int.reduceAdd, Int.reduceSub, Int.reduceMul, Int.reduceLT, Int.reduceLE, Int.reduceEq, Int.reduceNeg, Int.reduceNe, Int.reduceGE, Int.reduceGT, Nat.reduceBEq, Int.reduceToNat]
                       all_goals simp [hPt]
                       done)
                    | (refine ⟨4, ⟨by omega, by omega⟩, SubS.weak ?_⟩
                       simp (config := { maxSteps := 2000000 }) only [go_sem, hG, hP, Nat.reduceEqDiff, ↓reduceIte, reduceCtorEq, Nat.reduceAdd, Nat.reduceSub, Nat.reduceMul, Nat.reduceLT, Nat.reduceLeDiff, Int.reduceAdd, Int.reduceSub, Int.reduceMul, Int.reduceLT, Int.reduceLE, Int.reduceEq, Int.reduceNeg, Int.reduceNe, Int.reduceGE, Int.reduceGT, Nat.reduceBEq, Int.reduceToNat]
                       all_goals trace_state
                       done)
                · simp (config := { maxSteps := 2000000 }) only [go_sem, hG, hP, Nat.reduceEqDiff, ↓reduceIte, reduceCtorEq, Nat.reduceAdd, Nat.reduceSub, Nat.reduceMul, Nat.reduceLT, Nat.reduceLeDiff, Int.reduceAdd, Int.reduceSub, Int.reduceMul, Int.reduceLT, Int.reduceLE, Int.reduceEq, Int.reduceNeg, Int.reduceNe, Int.reduceGE, Int.reduceGT, Nat.reduceBEq, Int.reduceToNat,  e1, hcc, hn, wn]
                  (try simp (disch := omega) only [wrap_id])
                  repeat' (first | (refine And.intro ?_ ?_) | (with_reducible intro _))
                  all_goals first
                    | (exfalso; omega)
                    | omega
                    | (unfold appRoom; omega)
                    | (refine ⟨5, ⟨by omega, by omega⟩, SubS.weak ?_⟩
                       simp (config := { maxSteps := 2000000 }) only [go_sem, hG, hP, Nat.reduceEqDiff, ↓reduceIte, reduceCtorEq, Nat.reduceAdd, Nat.reduceSub, Nat.reduceMul, Nat.reduceLT, Nat.reduceLeDiff, Int.reduceAdd, Int.reduceSub, Int.reduceMul, Int.reduceLT, Int.reduceLE, Int.reduceEq, Int.reduceNeg, Int.reduceNe, Int.reduceGE, Int.reduceGT, Nat.reduceBEq, Int.reduceToNat]
                       all_goals simp [hPt]
                       done)
                    | (refine ⟨5, ⟨by omega, by omega⟩, SubS.weak ?_⟩
                       simp (config := { maxSteps := 2000000 }) only [go_sem, hG, hP, Nat.reduceEqDiff, ↓reduceIte, reduceCtorEq, Nat.reduceAdd, Nat.reduceSub, Nat.reduceMul, Nat.reduceLT, Nat.reduceLeDiff, Int.reduceAdd, Int.reduceSub, Int.reduceMul, Int.reduceLT, Int.reduceLE, Int.reduceEq, Int.reduceNeg, Int.reduceNe, Int.reduceGE, Int.reduceGT, Nat.reduceBEq, Int.reduceToNat]
                       all_goals trace_state
                       done)
                · simp (config := { maxSteps := 2000000 }) only [go_sem, hG, hP, Nat.reduceEqDiff, ↓reduceIte, reduceCtorEq, Nat.reduceAdd, Nat.reduceSub, Nat.reduceMul, Nat.reduceLT, Nat.reduceLeDiff, Int.reduceAdd, Int.reduceSub, Int.reduceMul, Int.reduceLT, Int.reduceLE, Int.reduceEq, Int.reduceNeg, Int.reduceNe, Int.reduceGE, Int.reduceGT, Nat.reduceBEq, Int.reduceToNat,  e1, hcc, hn, wn]
                  (try simp (disch := omega) only [wrap_id])
                  repeat' (first | (refine And.intro ?_ ?_) | (with_reducible intro _))
                  all_goals first
                    | (exfalso; omega)
                    | omega
                    | (unfold appRoom; omega)
                    | (refine ⟨6, ⟨by omega, by omega⟩, SubS.weak ?_⟩
                       simp (config := { maxSteps := 2000000 }) only [go_sem, hG, hP, Nat.reduceEqDiff, ↓reduceIte, reduceCtorEq, Nat.reduceAdd, Nat.reduceSub, Nat.reduceMul, Nat.reduceLT, Nat.reduceLeDiff, Int.reduceAdd, Int.reduceSub, Int.reduceMul, Int.reduceLT, Int.reduceLE, Int.reduceEq, Int.reduceNeg, Int.reduceNe, Int.reduceGE, Int.reduceGT, Nat.reduceBEq, Int.reduceToNat]
                       all_goals simp [hPt]
                       done)
                    | (refine ⟨6, ⟨by omega, by omega⟩, SubS.weak ?_⟩
                       simp (config := { maxSteps := 2000000 }) only [go_sem, hG, hP, Nat.reduceEqDiff, ↓reduceIte, reduceCtorEq, Nat.reduceAdd, Nat.reduceSub, Nat.reduceMul, Nat.reduceLT, Nat.reduceLeDiff, Int.reduceAdd, Int.reduceSub, Int.reduceMul, Int.reduceLT, Int.reduceLE, Int.reduceEq, Int.reduceNeg, Int.reduceNe, Int.reduceGE, Int.reduceGT, Nat.reduceBEq, Int.reduceToNat]
                       all_goals trace_state
                       done)
                · simp (config := { maxSteps := 2000000 }) only [go_sem, hG, hP, Nat.reduceEqDiff, ↓reduceIte, reduceCtorEq, Nat.reduceAdd, Nat.reduceSub, Nat.reduceMul, Nat.reduceLT, Nat.reduceLeDiff, Int.reduceAdd, Int.reduceSub, Int.reduceMul, Int.reduceLT, Int.reduceLE, Int.reduceEq, Int.reduceNeg, Int.reduceNe, Int.reduceGE, Int.reduceGT, Nat.reduceBEq, Int.reduceToNat,  e1, hcc, hn, wn]
                  (try simp (disch := omega) only [wrap_id])
                  repeat' (first | (refine And.intro ?_ ?_) | (with_reducible intro _))
                  all_goals first
                    | (exfalso; omega)
                    | omega
                    | (unfold appRoom; omega)
                    | (refine ⟨7, ⟨by omega, by omega⟩, SubS.weak ?_⟩
                       simp (config := { maxSteps := 2000000 }) only [go_sem, hG, hP, Nat.reduceEqDiff, ↓reduceIte, reduceCtorEq, Nat.reduceAdd, Nat.reduceSub, Nat.reduceMul, Nat.reduceLT, Nat.reduceLeDiff, Int.reduceAdd, Int.reduceSub, Int.reduceMul, Int.reduceLT, Int.reduceLE, Int.reduceEq, Int.reduceNeg, Int.reduceNe, Int.reduceGE, Int.reduceGT, Nat.reduceBEq, Int.reduceToNat]
                       all_goals simp [hPt]
                       done)
                    | (refine ⟨7, ⟨by omega, by omega⟩, SubS.weak ?_⟩
                       simp (config := { maxSteps := 2000000 }) only [go_sem, hG, hP, Nat.reduceEqDiff, ↓reduceIte, reduceCtorEq, Nat.reduceAdd, Nat.reduceSub, Nat.reduceMul, Nat.reduceLT, Nat.reduceLeDiff, Int.reduceAdd, Int.reduceSub, Int.reduceMul, Int.reduceLT, Int.reduceLE, Int.reduceEq, Int.reduceNeg, Int.reduceNe, Int.reduceGE, Int.reduceGT, Nat.reduceBEq, Int.reduceToNat]
                       all_goals trace_state
                       done)
                · simp (config := { maxSteps := 2000000 }) only [go_sem, hG, hP, Nat.reduceEqDiff, ↓reduceIte, reduceCtorEq, Nat.reduceAdd, Nat.reduceSub, Nat.reduceMul, Nat.reduceLT, Nat.reduceLeDiff, Int.reduceAdd, Int.reduceSub, Int.reduceMul, Int.reduceLT, Int.reduceLE, Int.reduceEq, Int.reduceNeg, Int.reduceNe, Int.reduceGE, Int.reduceGT, Nat.reduceBEq, Int.reduceToNat,  e1, hcc, hn, wn]
                  (try simp (disch := omega) only [wrap_id])
                  repeat' (first | (refine And.intro ?_ ?_) | (with_reducible intro _))
                  all_goals first
                    | (exfalso; omega)
                    | omega
                    | (unfold appRoom; omega)
                    | (refine ⟨8, ⟨by omega, by omega⟩, SubS.weak ?_⟩
                       simp (config := { maxSteps := 2000000 }) only [go_sem, hG, hP, Nat.reduceEqDiff, ↓reduceIte, reduceCtorEq, Nat.reduceAdd, Nat.reduceSub, Nat.reduceMul, Nat.reduceLT, Nat.reduceLeDiff, Int.reduceAdd, Int.reduceSub, Int.reduceMul, Int.reduceLT, Int.reduceLE, Int.reduceEq, Int.reduceNeg, Int.reduceNe, Int.reduceGE, Int.reduceGT, Nat.reduceBEq, Int.reduceToNat]
                       all_goals simp [hPt]
                       done)
                    | (refine ⟨8, ⟨by omega, by omega⟩, SubS.weak ?_⟩
                       simp (config := { maxSteps := 2000000 }) only [go_sem, hG, hP, Nat.reduceEqDiff, ↓reduceIte, reduceCtorEq, Nat.reduceAdd, Nat.reduceSub, Nat.reduceMul, Nat.reduceLT, Nat.reduceLeDiff, Int.reduceAdd, Int.reduceSub, Int.reduceMul, Int.reduceLT, Int.reduceLE, Int.reduceEq, Int.reduceNeg, Int.reduceNe, Int.reduceGE, Int.reduceGT, Nat.reduceBEq, Int.reduceToNat]
                       all_goals trace_state
                       done)
                · simp (config := { maxSteps := 2000000 }) only [go_sem, hG, hP, Nat.reduceEqDiff, ↓reduceIte, reduceCtorEq, Nat.reduceAdd, Nat.reduceSub, Nat.reduceMul, Nat.reduceLT, Nat.reduceLeDiff, Int.reduceAdd, Int.reduceSub, Int.reduceMul, Int.reduceLT, Int.reduceLE, Int.reduceEq, Int.reduceNeg, Int.reduceNe, Int.reduceGE, Int.reduceGT, Nat.reduceBEq, Int.reduceToNat,  e1, hcc, hn, wn]
                  (try simp (disch := omega) only [wrap_id])
                  repeat' (first | (refine And.intro ?_ ?_) | (with_reducible intro _))
                  all_goals first
                    | (exfalso; omega)
                    | omega
                    | (unfold appRoom; omega)
                    | (refine ⟨9, ⟨by omega, by omega⟩, SubS.weak ?_⟩
                       simp (config := { maxSteps := 2000000 }) only [go_sem, hG, hP, Nat.reduceEqDiff, ↓reduceIte, reduceCtorEq, Nat.reduceAdd, Nat.reduceSub, Nat.reduceMul, Nat.reduceLT, Nat.reduceLeDiff, Int.reduceAdd, Int.reduceSub, Int.reduceMul, Int.reduceLT, Int.reduceLE, Int.reduceEq, Int.reduceNeg, Int.reduceNe, Int.reduceGE, Int.reduceGT, Nat.reduceBEq, Int.reduceToNat]
                       all_goals simp [hPt]
                       done)
                    | (refine ⟨9, ⟨by omega, by omega⟩, SubS.weak ?_⟩
                       simp (config := { maxSteps := 2000000 }) only [go_sem, hG, hP, Nat.reduceEqDiff, ↓reduceIte, reduceCtorEq, Nat.reduceAdd, Nat.reduceSub, Nat.reduceMul, Nat.reduceLT, Nat.reduceLeDiff, Int.reduceAdd, Int.reduceSub, Int.reduceMul, Int.reduceLT, Int.reduceLE, Int.reduceEq, Int.reduceNeg, Int.reduceNe, Int.reduceGE, Int.reduceGT, Nat.reduceBEq, Int.reduceToNat]
                       all_goals trace_state
                       done)
                · simp (config := { maxSteps := 2000000 }) only [go_sem, hG, hP, Nat.reduceEqDiff, ↓reduceIte, reduceCtorEq, Nat.reduceAdd, Nat.reduceSub, Nat.reduceMul, Nat.reduceLT, Nat.reduceLeDiff, Int.reduceAdd, Int.reduceSub, Int.reduceMul, Int.reduceLT, Int.reduceLE, Int.reduceEq, Int.reduceNeg, Int.reduceNe, Int.reduceGE, Int.reduceGT, Nat.reduceBEq, Int.reduceToNat,  e1, hcc, hn, wn]
                  (try simp (disch := omega) only [wrap_id])
                  repeat' (first | (refine And.intro ?_ ?_) | (with_reducible intro _))
                  all_goals first
                    | (exfalso; omega)
                    | omega
                    | (unfold appRoom; omega)
                    | (refine ⟨10, ⟨by omega, by omega⟩, SubS.weak ?_⟩
                       simp (config := { maxSteps := 2000000 }) only [go_sem, hG, hP, Nat.reduceEqDiff, ↓reduceIte, reduceCtorEq, Nat.reduceAdd, Nat.reduceSub, Nat.reduceMul, Nat.reduceLT, Nat.reduceLeDiff, Int.reduceAdd, Int.reduceSub, Int.reduceMul, Int.reduceLT, Int.reduceLE, Int.reduceEq, Int.reduceNeg, Int.reduceNe, Int.reduceGE, Int.reduceGT, Nat.reduceBEq, Int.reduceToNat]
                       all_goals simp [hPt]
                       done)
                    | (refine ⟨10, ⟨by omega, by omega⟩, SubS.weak ?_⟩
                       simp (config := { maxSteps := 2000000 }) only [go_sem, hG, hP, Nat.reduceEqDiff, ↓reduceIte, reduceCtorEq, Nat.reduceAdd, Nat.reduceSub, Nat.reduceMul, Nat.reduceLT, Nat.reduceLeDiff, Int.reduceAdd, Int.reduceSub, Int.reduceMul, Int.reduceLT, Int.reduceLE, Int.reduceEq, Int.reduceNeg, Int.reduceNe, Int.reduceGE, Int.reduceGT, Nat.reduceBEq, Int.reduceToNat]
                       all_goals trace_state
                       done)
                · simp (config := { maxSteps := 2000000 }) only [go_sem, hG, hP, Nat.reduceEqDiff, ↓reduceIte, reduceCtorEq, Nat.reduceAdd, Nat.reduceSub, Nat.reduceMul, Nat.reduceLT, Nat.reduceLeDiff, Int.reduceAdd, Int.reduceSub, Int.reduceMul, Int.reduceLT, Int.reduceLE, Int.reduceEq, Int.reduceNeg, Int.reduceNe, Int.reduceGE, Int.reduceGT, Nat.reduceBEq, Int.reduceToNat,  e1, hcc, hn, wn]
                  (try simp (disch := omega) only [wrap_id])
                  repeat' (first | (refine And.intro ?_ ?_) | (with_reducible intro _))
                  all_goals first
                    | (exfalso; omega)
                    | omega
                    | (unfold appRoom; omega)
                    | (refine ⟨11, ⟨by omega, by omega⟩, SubS.weak ?_⟩
                       simp (config := { maxSteps := 2000000 }) only [go_sem, hG, hP, Nat.reduceEqDiff, ↓reduceIte, reduceCtorEq, Nat.reduceAdd, Nat.reduceSub, Nat.reduceMul, Nat.reduceLT, Nat.reduceLeDiff, Int.reduceAdd, Int.reduceSub, Int.reduceMul, Int.reduceLT, Int.reduceLE, Int.reduceEq, Int.reduceNeg, Int.reduceNe, Int.reduceGE, Int.reduceGT, Nat.reduceBEq, Int.reduceToNat]
                       all_goals simp [hPt]
                       done)
                    | (refine ⟨11, ⟨by omega, by omega⟩, SubS.weak ?_⟩
                       simp (config := { maxSteps := 2000000 }) only [go_sem, hG, hP, Nat.reduceEqDiff, ↓reduceIte, reduceCtorEq, Nat.reduceAdd, Nat.reduceSub, Nat.reduceMul, Nat.reduceLT, Nat.reduceLeDiff, Int.reduceAdd, Int.reduceSub, Int.reduceMul, Int.reduceLT, Int.reduceLE, Int.reduceEq, Int.reduceNeg, Int.reduceNe, Int.reduceGE, Int.reduceGT, Nat.reduceBEq, Int.reduceToNat]
                       all_goals trace_state
                       done)
                · simp (config := { maxSteps := 2000000 }) only [go_sem, hG, hP, Nat.reduceEqDiff, ↓reduceIte, reduceCtorEq, Nat.reduceAdd, Nat.reduceSub, Nat.reduceMul, Nat.reduceLT, Nat.reduceLeDiff, Int.reduceAdd, Int.reduceSub, Int.reduceMul, Int.reduceLT, Int.reduceLE, Int.reduceEq, Int.reduceNeg, Int.reduceNe, Int.reduceGE, Int.reduceGT, Nat.reduceBEq, Int.reduceToNat,  e1, hcc, hn, wn]
                  (try simp (disch := omega) only [wrap_id])
                  repeat' (first | (refine And.intro ?_ ?_) | (with_reducible intro _))
                  all_goals first
                    | (exfalso; omega)
                    | omega
                    | (unfold appRoom; omega)
                    | (refine ⟨12, ⟨by omega, by omega⟩, SubS.weak ?_⟩
                       simp (config := { maxSteps := 2000000 }) only [go_sem, hG, hP, Nat.reduceEqDiff, ↓reduceIte, reduceCtorEq, Nat.reduceAdd, Nat.reduceSub, Nat.reduceMul, Nat.reduceLT, Nat.reduceLeDiff, Int.reduceAdd, Int.reduceSub, Int.reduceMul, Int.reduceLT, Int.reduceLE, Int.reduceEq, Int.reduceNeg, Int.reduceNe, Int.reduceGE, Int.reduceGT, Nat.reduceBEq, Int.reduceToNat]
                       all_goals simp [hPt]
                       done)
                    | (refine ⟨12, ⟨by omega, by omega⟩, SubS.weak ?_⟩
                       simp (config := { maxSteps := 2000000 }) only [go_sem, hG, hP, Nat.reduceEqDiff, ↓reduceIte, reduceCtorEq, Nat.reduceAdd, Nat.reduceSub, Nat.reduceMul, Nat.reduceLT, Nat.reduceLeDiff, Int.reduceAdd, Int.reduceSub, Int.reduceMul, Int.reduceLT, Int.reduceLE, Int.reduceEq, Int.reduceNeg, Int.reduceNe, Int.reduceGE, Int.reduceGT, Nat.reduceBEq, Int.reduceToNat]
                       all_goals trace_state
                       done)
                · simp (config := { maxSteps := 2000000 }) only [go_sem, hG, hP, Nat.reduceEqDiff, ↓reduceIte, reduceCtorEq, Nat.reduceAdd, Nat.reduceSub, Nat.reduceMul, Nat.reduceLT, Nat.reduceLeDiff, Int.reduceAdd, Int.reduceSub, Int.reduceMul, Int.reduceLT, Int.reduceLE, Int.reduceEq, Int.reduceNeg, Int.reduceNe, Int.reduceGE, Int.reduceGT, Nat.reduceBEq, Int.reduceToNat,  e1, hcc, hn, wn]
                  (try simp (disch := omega) only [wrap_id])
                  repeat' (first | (refine And.intro ?_ ?_) | (with_reducible intro _))
                  all_goals first
                    | (exfalso; omega)
                    | omega
                    | (unfold appRoom; omega)
                    | (refine ⟨13, ⟨by omega, by omega⟩, SubS.weak ?_⟩
                       simp (config := { maxSteps := 2000000 }) only [go_sem, hG, hP, Nat.reduceEqDiff, ↓reduceIte, reduceCtorEq, Nat.reduceAdd, Nat.reduceSub, Nat.reduceMul, Nat.reduceLT, Nat.reduceLeDiff, Int.reduceAdd, Int.reduceSub, Int.reduceMul, Int.reduceLT, Int.reduceLE, Int.reduceEq, Int.reduceNeg, Int.reduceNe, Int.reduceGE, Int.reduceGT, Nat.reduceBEq, Int.reduceToNat]
                       all_goals simp [hPt]
                       done)
                    | (refine ⟨13, ⟨by omega, by omega⟩, SubS.weak ?_⟩
                       simp (config := { maxSteps := 2000000 }) only [go_sem, hG, hP, Nat.reduceEqDiff, ↓reduceIte, reduceCtorEq, Nat.reduceAdd, Nat.reduceSub, Nat.reduceMul, Nat.reduceLT, Nat.reduceLeDiff, Int.reduceAdd, Int.reduceSub, Int.reduceMul, Int.reduceLT, Int.reduceLE, Int.reduceEq, Int.reduceNeg, Int.reduceNe, Int.reduceGE, Int.reduceGT, Nat.reduceBEq, Int.reduceToNat]
                       all_goals trace_state
                       done)
                · simp (config := { maxSteps := 2000000 }) only [go_sem, hG, hP, Nat.reduceEqDiff, ↓reduceIte, reduceCtorEq, Nat.reduceAdd, Nat.reduceSub, Nat.reduceMul, Nat.reduceLT, Nat.reduceLeDiff, Int.reduceAdd, Int.reduceSub, Int.reduceMul, Int.reduceLT, Int.reduceLE, Int.reduceEq, Int.reduceNeg, Int.reduceNe, Int.reduceGE, Int.reduceGT, Nat.reduceBEq, Int.reduceToNat,  e1, hcc, hn, wn]
                  (try simp (disch := omega) only [wrap_id])
                  repeat' (first | (refine And.intro ?_ ?_) | (with_reducible intro _))
                  all_goals first
                    | (exfalso; omega)
                    | omega
                    | (unfold appRoom; omega)
                    | (refine ⟨14, ⟨by omega, by omega⟩, SubS.weak ?_⟩
                       simp (config := { maxSteps := 2000000 }) only [go_sem, hG, hP, Nat.reduceEqDiff, ↓reduceIte, reduceCtorEq, Nat.reduceAdd, Nat.reduceSub, Nat.reduceMul, Nat.reduceLT, Nat.reduceLeDiff, Int.reduceAdd, Int.reduceSub, Int.reduceMul, Int.reduceLT, Int.reduceLE, Int.reduceEq, Int.reduceNeg, Int.reduceNe, Int.reduceGE, Int.reduceGT, Nat.reduceBEq, Int.reduceToNat]
                       all_goals simp [hPt]
                       done)
                    | (refine ⟨14, ⟨by omega, by omega⟩, SubS.weak ?_⟩
                       simp (config := { maxSteps := 2000000 }) only [go_sem, hG, hP, Nat.reduceEqDiff, ↓reduceIte, reduceCtorEq, Nat.reduceAdd, Nat.reduceSub, Nat.reduceMul, Nat.reduceLT, Nat.reduceLeDiff, Int.reduceAdd, Int.reduceSub, Int.reduceMul, Int.reduceLT, Int.reduceLE, Int.reduceEq, Int.reduceNeg, Int.reduceNe, Int.reduceGE, Int.reduceGT, Nat.reduceBEq, Int.reduceToNat]
                       all_goals trace_state
                       done)
                · simp (config := { maxSteps := 2000000 }) only [go_sem, hG, hP, Nat.reduceEqDiff, ↓reduceIte, reduceCtorEq, Nat.reduceAdd, Nat.reduceSub, Nat.reduceMul, Nat.reduceLT, Nat.reduceLeDiff, Int.reduceAdd, Int.reduceSub, Int.reduceMul, Int.reduceLT, Int.reduceLE, Int.reduceEq, Int.reduceNeg, Int.reduceNe, Int.reduceGE, Int.reduceGT, Nat.reduceBEq, Int.reduceToNat,  e1, hcc, hn, wn]
                  (try simp (disch := omega) only [wrap_id])
                  repeat' (first | (refine And.intro ?_ ?_) | (with_reducible intro _))
                  all_goals first
                    | (exfalso; omega)
                    | omega
                    | (unfold appRoom; omega)
                    | (refine ⟨15, ⟨by omega, by omega⟩, SubS.weak ?_⟩
                       simp (config := { maxSteps := 2000000 }) only [go_sem, hG, hP, Nat.reduceEqDiff, ↓reduceIte, reduceCtorEq, Nat.reduceAdd, Nat.reduceSub, Nat.reduceMul, Nat.reduceLT, Nat.reduceLeDiff, Int.reduceAdd, Int.reduceSub, Int.reduceMul, Int.reduceLT, Int.reduceLE, Int.reduceEq, Int.reduceNeg, Int.reduceNe, Int.reduceGE, Int.reduceGT, Nat.reduceBEq, Int.reduceToNat]
                       all_goals simp [hPt]
                       done)
                    | (refine ⟨15, ⟨by omega, by omega⟩, SubS.weak ?_⟩
                       simp (config := { maxSteps := 2000000 }) only [go_sem, hG, hP, Nat.reduceEqDiff, ↓reduceIte, reduceCtorEq, Nat.reduceAdd, Nat.reduceSub, Nat.reduceMul, Nat.reduceLT, Nat.reduceLeDiff, Int.reduceAdd, Int.reduceSub, Int.reduceMul, Int.reduceLT, Int.reduceLE, Int.reduceEq, Int.reduceNeg, Int.reduceNe, Int.reduceGE, Int.reduceGT, Nat.reduceBEq, Int.reduceToNat]
                       all_goals trace_state
                       done)
              · have eq1 : q = n := by omega
                subst eq1
                have x1 : ((q : Int) + 1 ≤ q) = False := by apply eq_false; omega
                simp (config := { maxSteps := 2000000 }) only [go_sem, hG, hP, Nat.reduceEqDiff, ↓reduceIte, reduceCtorEq, Nat.reduceAdd, Nat.reduceSub, Nat.reduceMul, Nat.reduceLT, Nat.reduceLeDiff, Int.reduceAdd, Int.reduceSub, Int.reduceMul, Int.reduceLT, Int.reduceLE, Int.reduceEq, Int.reduceNeg, Int.reduceNe, Int.reduceGE, Int.reduceGT, Nat.reduceBEq, Int.reduceToNat,  e1, hcc, hn, wn, x1]
                (try simp (disch := omega) only [wrap_id])
                repeat (refine And.intro (by first | omega | (simp; done) | (simp; omega) | (unfold appRoom; omega)) ?_)
                refine ⟨(k + 1, decide (128 ≤ a0), out ++ P.take q), ⟨⟨by dsimp only; omega, by dsimp only; rw [List.length_append, hpl]; omega, hI⟩, by dsimp only; omega⟩, SubS.weak ?_⟩
                simp (config := { maxSteps := 2000000 }) only [go_sem, hG, hP, Nat.reduceEqDiff, ↓reduceIte, reduceCtorEq, Nat.reduceAdd, Nat.reduceSub, Nat.reduceMul, Nat.reduceLT, Nat.reduceLeDiff, Int.reduceAdd, Int.reduceSub, Int.reduceMul, Int.reduceLT, Int.reduceLE, Int.reduceEq, Int.reduceNeg, Int.reduceNe, Int.reduceGE, Int.reduceGT, Nat.reduceBEq, Int.reduceToNat]
                repeat' (first | with_reducible rfl | (refine And.intro ?_ ?_) | (refine congrArg (Value.int _) ?_; omega) | omega)
          · have ch2 := eq_false ch
            rw [if_neg ch] at hI
            simp (config := { maxSteps := 2000000 }) only [go_sem, hG, hP, Nat.reduceEqDiff, ↓reduceIte, reduceCtorEq, Nat.reduceAdd, Nat.reduceSub, Nat.reduceMul, Nat.reduceLT, Nat.reduceLeDiff, Int.reduceAdd, Int.reduceSub, Int.reduceMul, Int.reduceLT, Int.reduceLE, Int.reduceEq, Int.reduceNeg, Int.reduceNe, Int.reduceGE, Int.reduceGT, Nat.reduceBEq, Int.reduceToNat,  e1, spCell1_f, spCell1_t, spCell1_k, hcc, hb, ch2]
            (try simp (disch := omega) only [wrap_id])
            repeat (refine And.intro (by first | omega | (simp; done) | (simp; omega) | (unfold appRoom; omega)) ?_)
            rw [hI] at h
            refine ⟨_, _, _, ?_, h⟩
            simp (config := { maxSteps := 2000000 }) only [go_sem, hG, hP, Nat.reduceEqDiff, ↓reduceIte, reduceCtorEq, Nat.reduceAdd, Nat.reduceSub, Nat.reduceMul, Nat.reduceLT, Nat.reduceLeDiff, Int.reduceAdd, Int.reduceSub, Int.reduceMul, Int.reduceLT, Int.reduceLE, Int.reduceEq, Int.reduceNeg, Int.reduceNe, Int.reduceGE, Int.reduceGT, Nat.reduceBEq, Int.reduceToNat]
            repeat' (first | with_reducible rfl | (refine And.intro ?_ ?_) | (refine congrArg (Value.int _) ?_; omega) | omega)
        · have e1 : ((k : Int) < l.length) = False := by apply eq_false; omega
          have ek : k = l.length := by omega
          subst ek
          rw [List.drop_length] at hI
          simp only [unc] at hI
          rw [hI] at h
          simp (config := { maxSteps := 2000000 }) only [go_sem, hG, hP, Nat.reduceEqDiff, ↓reduceIte, reduceCtorEq, Nat.reduceAdd, Nat.reduceSub, Nat.reduceMul, Nat.reduceLT, Nat.reduceLeDiff, Int.reduceAdd, Int.reduceSub, Int.reduceMul, Int.reduceLT, Int.reduceLE, Int.reduceEq, Int.reduceNeg, Int.reduceNe, Int.reduceGE, Int.reduceGT, Nat.reduceBEq, Int.reduceToNat,  e1]
          cases last
          · simp only [Bool.false_eq_true, if_false] at h
            repeat' (first | (refine And.intro ?_ ?_) | (with_reducible intro _))
            all_goals first
              | (exfalso; simp_all; done)
              | (refine ⟨_, _, _, ?_, h⟩; simp (config := { maxSteps := 2000000 }) only [go_sem, hG, hP, Nat.reduceEqDiff, ↓reduceIte, reduceCtorEq, Nat.reduceAdd, Nat.reduceSub, Nat.reduceMul, Nat.reduceLT, Nat.reduceLeDiff, Int.reduceAdd, Int.reduceSub, Int.reduceMul, Int.reduceLT, Int.reduceLE, Int.reduceEq, Int.reduceNeg, Int.reduceNe, Int.reduceGE, Int.reduceGT, Nat.reduceBEq, Int.reduceToNat]; repeat' (first | with_reducible rfl | (refine And.intro ?_ ?_) | (refine congrArg (Value.int _) ?_; omega) | omega); done)
          · simp only [if_true] at h
            repeat' (first | (refine And.intro ?_ ?_) | (with_reducible intro _))
            all_goals first
              | (exfalso; simp_all; done)
              | (refine ⟨_, _, _, ?_, h⟩; simp (config := { maxSteps := 2000000 }) only [go_sem, hG, hP, Nat.reduceEqDiff, ↓reduceIte, reduceCtorEq, Nat.reduceAdd, Nat.reduceSub, Nat.reduceMul, Nat.reduceLT, Nat.reduceLeDiff, Int.reduceAdd, Int.reduceSub, Int.reduceMul, Int.reduceLT, Int.reduceLE, Int.reduceEq, Int.reduceNeg, Int.reduceNe, Int.reduceGE, Int.reduceGT, Nat.reduceBEq, Int.reduceToNat]; repeat' (first | with_reducible rfl | (refine And.intro ?_ ?_) | (refine congrArg (Value.int _) ?_; omega) | omega); done)
  · exact h.elim
end Go.Proofs.YtfjfaajdbomhbaaE

/-! The code of a function, in the engine's words. -/
namespace Go.Proofs.YtfjfaajdbomhbaaE
open Go Go.RowKit
@[reducible] def ic28 : IC := (.seq (.ops [⟨some 2, .mov (.const (.slice none 0 0)), none⟩, ⟨some 3, .mov (.const (.int .i64 0)), none⟩]) (.seq (.seq (.ops [⟨some 11, .mov (.tmp 0), none⟩, ⟨some 12, .len (.tmp 11), none⟩, ⟨some 13, .bin .gtr (.tmp 12) (.const (.int .i64 60)), none⟩]) (.cond (.tmp 13) (.seq (.ops [⟨some 2, .mov (.const (.slice none 0 0)), none⟩, ⟨some 3, .mov (.const (.int .i64 5)), none⟩]) .ret) .skip)) (.seq (.ops [⟨some 4, .mov (.const (.slice none 0 0)), none⟩]) (.seq (.ops [⟨some 5, .mov (.const (.bool false)), none⟩]) (.seq (.seq (.ops [⟨some 14, .mov (.tmp 0), none⟩, ⟨some 15, .len (.tmp 14), none⟩, ⟨some 16, .mov (.const (.int .i64 0)), none⟩]) (.block 0 (.loop (.seq (.ops [⟨some 17, .bin .lss (.tmp 16) (.tmp 15), none⟩]) (.seq (.cond (.tmp 17) .skip (.exit 0)) (.seq (.block 1 (.seq (.ops [⟨some 18, .mov (.tmp 16), none⟩, ⟨some 19, .iadr 16 (.tmp 14) (.tmp 16), none⟩, ⟨some 20, .load 16 true (.tmp 19), none⟩, ⟨some 7, .newr .byte 16, none⟩, ⟨some 6, .mov (.tmp 18), none⟩, ⟨none, .store 16 (.tmp 7) (.tmp 20), none⟩]) (.seq (.ops [⟨some 21, .iarr 1 16 (.tmp 7) (.const (.int .i64 0)), none⟩, ⟨some 22, .load 1 false (.tmp 21), none⟩, ⟨some 23, .bin .and (.tmp 22) (.const (.int .u8 15)), none⟩, ⟨some 24, .cvi .i64 (.tmp 23), none⟩, ⟨some 8, .mov (.tmp 24), none⟩]) (.seq (.seq (.ops [⟨some 25, .mov (.tmp 8), none⟩, ⟨some 26, .bin .eql (.tmp 25) (.const (.int .i64 0)), none⟩, ⟨some 27, .mov (.tmp 26), none⟩, ⟨some 28, .mov (.tmp 8), some (27, false)⟩, ⟨some 29, .bin .lss (.tmp 28) (.const (.int .i64 15)), some (27, false)⟩, ⟨some 30, .mov (.tmp 29), some (27, false)⟩, ⟨some 31, .iarr 1 16 (.tmp 7) (.const (.int .i64 0)), some (30, true)⟩, ⟨some 32, .load 1 false (.tmp 31), some (30, true)⟩, ⟨some 33, .bin .lss (.tmp 32) (.const (.int .u8 128)), some (30, true)⟩, ⟨some 34, .pick (.tmp 30) (.tmp 33) (.const (.bool false)), some (27, false)⟩, ⟨some 35, .pick (.tmp 27) (.const (.bool true)) (.tmp 34), none⟩]) (.cond (.tmp 35) (.seq (.ops [⟨some 36, .mov (.tmp 4), none⟩, ⟨some 2, .mov (.tmp 36), none⟩, ⟨some 3, .mov (.const (.int .i64 1)), none⟩]) .ret) .skip)) (.seq (.seq (.ops [⟨some 37, .mov (.tmp 8), none⟩, ⟨some 38, .bin .add (.const (.int .i64 1)) (.tmp 37), none⟩, ⟨some 39, .slca 1 16 (.tmp 7) (some (.tmp 38)) none, none⟩, ⟨some 40, .len (.tmp 39), none⟩, ⟨some 41, .mov (.const (.int .i64 0)), none⟩]) (.block 2 (.loop (.seq (.ops [⟨some 42, .bin .lss (.tmp 41) (.tmp 40), none⟩]) (.seq (.cond (.tmp 42) .skip (.exit 2)) (.seq (.block 3 (.seq (.ops [⟨some 43, .iadr 1 (.tmp 39) (.tmp 41), none⟩, ⟨some 44, .load 1 false (.tmp 43), none⟩, ⟨some 10, .mov (.tmp 44), none⟩]) (.seq (.ops [⟨some 45, .mov (.tmp 10), none⟩, ⟨some 46, .bin .neq (.tmp 45) (.const (.int .u8 0)), none⟩]) (.cond (.tmp 46) (.seq (.ops [⟨some 47, .mov (.tmp 4), none⟩, ⟨some 2, .mov (.tmp 47), none⟩, ⟨some 3, .mov (.const (.int .i64 2)), none⟩]) .ret) .skip)))) (.ops [⟨some 48, .bin .add (.tmp 41) (.const (.int .i64 1)), none⟩, ⟨some 41, .mov (.tmp 48), none⟩]))))))) (.seq (.seq (.ops [⟨some 49, .iarr 1 16 (.tmp 7) (.const (.int .i64 0)), none⟩, ⟨some 50, .load 1 false (.tmp 49), none⟩, ⟨some 51, .bin .shr (.tmp 50) (.const (.int .u64 4)), none⟩, ⟨some 52, .bin .and (.tmp 51) (.const (.int .u8 7)), none⟩, ⟨some 53, .cvi .i64 (.tmp 52), none⟩, ⟨some 54, .mov (.tmp 6), none⟩, ⟨some 55, .bin .rem (.tmp 54) (.const (.int .i64 8)), none⟩, ⟨some 56, .bin .neq (.tmp 53) (.tmp 55), none⟩]) (.cond (.tmp 56) (.seq (.ops [⟨some 57, .mov (.tmp 4), none⟩, ⟨some 2, .mov (.tmp 57), none⟩, ⟨some 3, .mov (.const (.int .i64 3)), none⟩]) .ret) .skip)) (.seq (.seq (.ops [⟨some 58, .mov (.tmp 5), none⟩]) (.cond (.tmp 58) (.seq (.ops [⟨some 59, .mov (.tmp 4), none⟩, ⟨some 2, .mov (.tmp 59), none⟩, ⟨some 3, .mov (.const (.int .i64 4)), none⟩]) .ret) .skip)) (.seq (.ops [⟨some 60, .iarr 1 16 (.tmp 7) (.const (.int .i64 0)), none⟩, ⟨some 61, .load 1 false (.tmp 60), none⟩, ⟨some 62, .bin .geq (.tmp 61) (.const (.int .u8 128)), none⟩, ⟨some 5, .mov (.tmp 62), none⟩]) (.ops [⟨some 63, .mov (.tmp 4), none⟩, ⟨some 64, .mov (.tmp 8), none⟩, ⟨some 65, .bin .add (.const (.int .i64 1)) (.tmp 64), none⟩, ⟨some 66, .slca 1 16 (.tmp 7) (some (.const (.int .i64 1))) (some (.tmp 65)), none⟩, ⟨some 67, .app .byte 1 (.tmp 63) (.tmp 66), none⟩, ⟨some 4, .mov (.tmp 67), none⟩]))))))))) (.ops [⟨some 68, .bin .add (.tmp 16) (.const (.int .i64 1)), none⟩, ⟨some 16, .mov (.tmp 68), none⟩]))))))) (.seq (.seq (.ops [⟨some 69, .mov (.tmp 5), none⟩, ⟨some 70, .una .not (.tmp 69), none⟩]) (.cond (.tmp 70) (.seq (.ops [⟨some 71, .mov (.tmp 4), none⟩, ⟨some 2, .mov (.tmp 71), none⟩, ⟨some 3, .mov (.const (.int .i64 4)), none⟩]) .ret) .skip)) (.seq (.ops [⟨some 72, .mov (.tmp 4), none⟩, ⟨some 2, .mov (.tmp 72), none⟩, ⟨some 3, .mov (.const (.int .i64 0)), none⟩]) .ret)))))))
@[reducible] def rv28 : List RV := [.tmp 2, .tmp 3]
theorem low28 : lowC Try.prog ((1000022, .byte) :: tau) Try.f28.ntmps (Try.f28.body.getD .skip) = some (erase ic28) := by kernel_rfl
theorem res28 : lowR Try.prog Try.f28.results.toList = some rv28 := by kernel_rfl
theorem bod28 : Try.f28.body = some (Try.f28.body.getD .skip) := by kernel_rfl
theorem cal28 : callable Try.prog 28 = true := by kernel_rfl

end Go.Proofs.YtfjfaajdbomhbaaE

/-! Cells are read back by the program. -/
namespace Go.Proofs.YtfjfaajdbomhbaaE
open Go Go.RowKit
set_option linter.unusedSimpArgs false
set_option linter.unusedVariables false
set_option maxRecDepth 50000
set_option maxHeartbeats 8000000

theorem and_15 : ∀ x : Fin 256, andV .u8 ((x.val : Nat) : Int) 15 = ((x.val : Nat) : Int).tmod 16 := by unfold andV; rw [wr_eq]; decide +kernel
theorem shr_7 : ∀ x : Fin 256, andV .u8 (shrV .u8 ((x.val : Nat) : Int) 4) 7 = (((x.val : Nat) : Int).tdiv 16).tmod 8 := by unfold andV shrV; rw [wr_eq]; decide +kernel
theorem and15 {x : Int} (h : 0 ≤ x ∧ x ≤ 255) : andV .u8 x 15 = x.tmod 16 := by
  have := and_15 ⟨x.toNat, by omega⟩
  simpa [Int.toNat_of_nonneg h.1] using this
theorem shr7 {x : Int} (h : 0 ≤ x ∧ x ≤ 255) : andV .u8 (shrV .u8 x 4) 7 = (x.tdiv 16).tmod 8 := by
  have := shr_7 ⟨x.toNat, by omega⟩
  simpa [Int.toNat_of_nonneg h.1] using this
theorem chk1 {c : C16} {i : Int} {b : Bool} (h : bad1 c) : chkC c i b = 1 := if_pos h
theorem chk2 {c : C16} {i : Int} {b : Bool} (h : ¬ bad1 c) (h2 : ¬ padP c) : chkC c i b = 2 := by unfold chkC; rw [if_neg h, if_neg h2]
theorem chk3 {c : C16} {i : Int} {b : Bool} (h : ¬ bad1 c) (h2 : padP c) (h3 : seqC c ≠ i.tmod 8) : chkC c i b = 3 := by unfold chkC; rw [if_neg h, if_pos h2, if_neg h3]
theorem chk4 {c : C16} {i : Int} {b : Bool} (h : ¬ bad1 c) (h2 : padP c) (h3 : seqC c = i.tmod 8) : chkC c i b = if b = true then 4 else 0 := by unfold chkC; rw [if_neg h, if_pos h2, if_pos h3]
theorem unc_stop {c : C16} {r : List C16} {i : Nat} {b : Bool} {o : List Int} {e : Int} (h : chkC c i b = e) (he : e ≠ 0) : unc (c :: r) i b o = (o, e) := by subst h; exact if_neg he
theorem unc_go {c : C16} {r : List C16} {i : Nat} {b : Bool} {o : List Int} (h : chkC c i b = 0) : unc (c :: r) i b o = unc r (i + 1) (decide (128 ≤ c.a0)) (o ++ ((lst c).drop 1).take (cnt c)) := if_pos h
theorem valid28 : Valid Try.prog 28 spUnc := by
  refine validI (Γ := lk []) Try.func28 bod28 low28 res28 (good_of trivial) ?_
  intro E args objs K h hE hG hP
  simp only [spUnc] at h
  split at h
  · refine ⟨by simp [Try.ntmps28], ?_⟩
    rename_i l
    obtain ⟨hB, h⟩ := h
    by_cases hz : 60 < l.length
    · have e0 : uncP l = ([], 5) := if_pos hz
      have hz2 : ((l.length : Int) > 60) = True := by apply eq_true; omega
      rw [e0] at h
      simp (config := { maxSteps := 2000000 }) only [go_sem, hG, hP, Nat.reduceEqDiff, ↓reduceIte, reduceCtorEq, Nat.reduceAdd, Nat.reduceSub, Nat.reduceMul, Nat.reduceLT, Nat.reduceLeDiff, Int.reduceAdd, Int.reduceSub, Int.reduceMul, Int.reduceLT, Int.reduceLE, Int.reduceEq, Int.reduceNeg, Int.reduceNe, Int.reduceGE, Int.reduceGT, Nat.reduceBEq, Int.reduceToNat,  hz2]
      refine ⟨_, _, _, ?_, h⟩
      simp (config := { maxSteps := 2000000 }) only [go_sem, hG, hP, Nat.reduceEqDiff, ↓reduceIte, reduceCtorEq, Nat.reduceAdd, Nat.reduceSub, Nat.reduceMul, Nat.reduceLT, Nat.reduceLeDiff, Int.reduceAdd, Int.reduceSub, Int.reduceMul, Int.reduceLT, Int.reduceLE, Int.reduceEq, Int.reduceNeg, Int.reduceNe, Int.reduceGE, Int.reduceGT, Nat.reduceBEq, Int.reduceToNat]
      repeat' (first | with_reducible rfl | (refine And.intro ?_ ?_) | (refine congrArg (Value.int _) ?_; omega) | omega)
    · have e0 : uncP l = unc l 0 false [] := if_neg hz
      have hz2 : ((l.length : Int) > 60) = False := by apply eq_false; omega
      simp (config := { maxSteps := 2000000 }) only [go_sem, hG, hP, Nat.reduceEqDiff, ↓reduceIte, reduceCtorEq, Nat.reduceAdd, Nat.reduceSub, Nat.reduceMul, Nat.reduceLT, Nat.reduceLeDiff, Int.reduceAdd, Int.reduceSub, Int.reduceMul, Int.reduceLT, Int.reduceLE, Int.reduceEq, Int.reduceNeg, Int.reduceNe, Int.reduceGE, Int.reduceGT, Nat.reduceBEq, Int.reduceToNat,  hz2]
      refine loopI hE (fun p : Nat × Bool × List Int => ⟨[(0, .rs .c16 l), (4, .sub 0 1 0 p.2.2.length), (5, .v (.bool p.2.1)), (14, .rs .c16 l), (15, .v (.int .i64 l.length)), (16, .v (.int .i64 p.1))], [(0, .row .byte p.2.2)], 1, Try.f28.ntmps⟩) (fun p => p.1 ≤ l.length ∧ p.2.2.length ≤ 15 * p.1 ∧ uncP l = unc (l.drop p.1) p.1 p.2.1 p.2.2) (fun p => l.length - p.1) ⟨(0, false, []), ⟨by dsimp only; omega, by simp, e0⟩, SubS.weak ?_⟩ ?_
      · simp (config := { maxSteps := 2000000 }) only [go_sem, hG, hP, Nat.reduceEqDiff, ↓reduceIte, reduceCtorEq, Nat.reduceAdd, Nat.reduceSub, Nat.reduceMul, Nat.reduceLT, Nat.reduceLeDiff, Int.reduceAdd, Int.reduceSub, Int.reduceMul, Int.reduceLT, Int.reduceLE, Int.reduceEq, Int.reduceNeg, Int.reduceNe, Int.reduceGE, Int.reduceGT, Nat.reduceBEq, Int.reduceToNat]
        repeat' (first | with_reducible rfl | (refine And.intro ?_ ?_) | (refine congrArg (Value.int _) ?_; omega) | omega)
      · rintro ⟨k, last, out⟩ ⟨k1, k2, hI⟩
        dsimp only at k1 k2 hI ⊢
        by_cases k3 : k < l.length
        · have e1 : ((k : Int) < l.length) = True := by apply eq_true; omega
          have hb := hB k k3
          rw [drop_cons l (⟨0, 0, 0, 0, 0, 0, 0, 0, 0, 0, 0, 0, 0, 0, 0, 0⟩ : C16) k3] at hI
          generalize hcc : l.getD k (⟨0, 0, 0, 0, 0, 0, 0, 0, 0, 0, 0, 0, 0, 0, 0, 0⟩ : C16) = c at hb hI
          obtain ⟨hn, hn15⟩ := cnt_eq hb
          have hbd := hb
          unfold hd8 at hbd
          obtain ⟨a0, a1, a2, a3, a4, a5, a6, a7, a8, a9, a10, a11, a12, a13, a14, a15⟩ := c
          dsimp only at hn hbd
          have hpl := part_len (⟨a0, a1, a2, a3, a4, a5, a6, a7, a8, a9, a10, a11, a12, a13, a14, a15⟩ : C16) hn15
          have hba : bad1 ⟨a0, a1, a2, a3, a4, a5, a6, a7, a8, a9, a10, a11, a12, a13, a14, a15⟩ ↔ (a0.tmod 16 = 0 ∨ (a0.tmod 16 < 15 ∧ a0 < 128)) := Iff.rfl
          have hpa : padP ⟨a0, a1, a2, a3, a4, a5, a6, a7, a8, a9, a10, a11, a12, a13, a14, a15⟩ ↔ ∀ q, q < 16 → cnt ⟨a0, a1, a2, a3, a4, a5, a6, a7, a8, a9, a10, a11, a12, a13, a14, a15⟩ < q → (lst ⟨a0, a1, a2, a3, a4, a5, a6, a7, a8, a9, a10, a11, a12, a13, a14, a15⟩).getD q 0 = 0 := Iff.rfl
          have hseq : (a0.tdiv 16).tmod 8 = seqC ⟨a0, a1, a2, a3, a4, a5, a6, a7, a8, a9, a10, a11, a12, a13, a14, a15⟩ := rfl
          have hR0 : (lst ⟨a0, a1, a2, a3, a4, a5, a6, a7, a8, a9, a10, a11, a12, a13, a14, a15⟩).getD 0 0 = a0 := rfl
          have hRl : (lst ⟨a0, a1, a2, a3, a4, a5, a6, a7, a8, a9, a10, a11, a12, a13, a14, a15⟩).length = 16 := rfl
          have hRf : [a0, a1, a2, a3, a4, a5, a6, a7, a8, a9, a10, a11, a12, a13, a14, a15] = lst ⟨a0, a1, a2, a3, a4, a5, a6, a7, a8, a9, a10, a11, a12, a13, a14, a15⟩ := rfl
          have H1 : bad1 ⟨a0, a1, a2, a3, a4, a5, a6, a7, a8, a9, a10, a11, a12, a13, a14, a15⟩ → uncP l = (out, 1) := fun b => by
            rw [hI]; exact unc_stop (chk1 b) (by decide)
          have H2 : ¬ bad1 ⟨a0, a1, a2, a3, a4, a5, a6, a7, a8, a9, a10, a11, a12, a13, a14, a15⟩ → ¬ padP ⟨a0, a1, a2, a3, a4, a5, a6, a7, a8, a9, a10, a11, a12, a13, a14, a15⟩ → uncP l = (out, 2) := fun b p => by
            rw [hI]; exact unc_stop (chk2 b p) (by decide)
          have H3 : ¬ bad1 ⟨a0, a1, a2, a3, a4, a5, a6, a7, a8, a9, a10, a11, a12, a13, a14, a15⟩ → padP ⟨a0, a1, a2, a3, a4, a5, a6, a7, a8, a9, a10, a11, a12, a13, a14, a15⟩ → seqC ⟨a0, a1, a2, a3, a4, a5, a6, a7, a8, a9, a10, a11, a12, a13, a14, a15⟩ ≠ (k : Int).tmod 8 → uncP l = (out, 3) := fun b p q => by
            rw [hI]; exact unc_stop (chk3 b p q) (by decide)
          have H4 : ¬ bad1 ⟨a0, a1, a2, a3, a4, a5, a6, a7, a8, a9, a10, a11, a12, a13, a14, a15⟩ → padP ⟨a0, a1, a2, a3, a4, a5, a6, a7, a8, a9, a10, a11, a12, a13, a14, a15⟩ → seqC ⟨a0, a1, a2, a3, a4, a5, a6, a7, a8, a9, a10, a11, a12, a13, a14, a15⟩ = (k : Int).tmod 8 → last = true → uncP l = (out, 4) := fun b p q r => by
            rw [hI]; exact unc_stop ((chk4 b p q).trans (if_pos r)) (by decide)
          have H0 : ¬ bad1 ⟨a0, a1, a2, a3, a4, a5, a6, a7, a8, a9, a10, a11, a12, a13, a14, a15⟩ → padP ⟨a0, a1, a2, a3, a4, a5, a6, a7, a8, a9, a10, a11, a12, a13, a14, a15⟩ → seqC ⟨a0, a1, a2, a3, a4, a5, a6, a7, a8, a9, a10, a11, a12, a13, a14, a15⟩ = (k : Int).tmod 8 → last = false → uncP l = unc (l.drop (k + 1)) (k + 1) (decide (128 ≤ a0)) (out ++ ((lst ⟨a0, a1, a2, a3, a4, a5, a6, a7, a8, a9, a10, a11, a12, a13, a14, a15⟩).drop 1).take (cnt ⟨a0, a1, a2, a3, a4, a5, a6, a7, a8, a9, a10, a11, a12, a13, a14, a15⟩)) := fun b p q r => by
            rw [hI]; exact unc_go ((chk4 b p q).trans (if_neg (by rw [r]; decide)))
          clear hI
          generalize hnn : cnt ⟨a0, a1, a2, a3, a4, a5, a6, a7, a8, a9, a10, a11, a12, a13, a14, a15⟩ = n at hn hn15 hpl H0 hpa
          generalize lst ⟨a0, a1, a2, a3, a4, a5, a6, a7, a8, a9, a10, a11, a12, a13, a14, a15⟩ = R at hpl H0 hpa hR0 hRl hRf
          rw [hn] at hba
          generalize seqC ⟨a0, a1, a2, a3, a4, a5, a6, a7, a8, a9, a10, a11, a12, a13, a14, a15⟩ = sq at hseq H3 H4 H0
          generalize bad1 ⟨a0, a1, a2, a3, a4, a5, a6, a7, a8, a9, a10, a11, a12, a13, a14, a15⟩ = B1 at hba H1 H2 H3 H4 H0
          generalize padP ⟨a0, a1, a2, a3, a4, a5, a6, a7, a8, a9, a10, a11, a12, a13, a14, a15⟩ = P1 at hpa H2 H3 H4 H0
          have ha := and15 hbd
          have wn : wr .i64 (n : Int) = (n : Int) := wrap_id (by omega) (by omega)
          have w1 : wr .i64 (1 + (n : Int)) = 1 + (n : Int) := wrap_id (by omega) (by omega)
          have t1 : (1 + (n : Int)).toNat = 1 + n := by omega
          have t2 : ((16 : Int) - (1 + (n : Int))).toNat = 15 - n := by omega
          by_cases c1 : B1
          · have e2 := H1 c1
            rw [e2] at h
            have c1' := hba.1 c1
            simp (config := { maxSteps := 2000000 }) only [go_sem, hG, hP, Nat.reduceEqDiff, ↓reduceIte, reduceCtorEq, Nat.reduceAdd, Nat.reduceSub, Nat.reduceMul, Nat.reduceLT, Nat.reduceLeDiff, Int.reduceAdd, Int.reduceSub, Int.reduceMul, Int.reduceLT, Int.reduceLE, Int.reduceEq, Int.reduceNeg, Int.reduceNe, Int.reduceGE, Int.reduceGT, Nat.reduceBEq, Int.reduceToNat,  e1, hcc, hRf, hR0, hRl, ha, hn, wn]
            (try simp (disch := omega) only [wrap_id])
            repeat' (first | (refine And.intro ?_ ?_) | (with_reducible intro _))
            all_goals first
              | (exfalso; omega)
              | omega
              | (simp; done)
              | (refine ⟨_, _, _, ?_, h⟩; simp (config := { maxSteps := 2000000 }) only [go_sem, hG, hP, Nat.reduceEqDiff, ↓reduceIte, reduceCtorEq, Nat.reduceAdd, Nat.reduceSub, Nat.reduceMul, Nat.reduceLT, Nat.reduceLeDiff, Int.reduceAdd, Int.reduceSub, Int.reduceMul, Int.reduceLT, Int.reduceLE, Int.reduceEq, Int.reduceNeg, Int.reduceNe, Int.reduceGE, Int.reduceGT, Nat.reduceBEq, Int.reduceToNat]; repeat' (first | with_reducible rfl | (refine And.intro ?_ ?_) | (refine congrArg (Value.int _) ?_; omega) | omega); done)
          · have c1' : ¬ ((n : Int) = 0 ∨ ((n : Int) < 15 ∧ a0 < 128)) := fun e => c1 (hba.2 e)
            have z1 : ((n : Int) = 0) = False := eq_false (fun e => c1' (.inl e))
            have hx : (((n : Int) < 15) = True ∧ (a0 < 128) = False) ∨ (((n : Int) < 15) = False ∧ (0 = 0) = True) := by
              by_cases e : (n : Int) < 15
              · exact .inl ⟨eq_true e, eq_false fun e2 => c1' (.inr ⟨e, e2⟩)⟩
              · exact .inr ⟨eq_false e, by simp⟩
            rcases hx with ⟨x1, x2⟩ | ⟨x1, x2⟩
            all_goals
              simp (config := { maxSteps := 2000000 }) only [go_sem, hG, hP, Nat.reduceEqDiff, ↓reduceIte, reduceCtorEq, Nat.reduceAdd, Nat.reduceSub, Nat.reduceMul, Nat.reduceLT, Nat.reduceLeDiff, Int.reduceAdd, Int.reduceSub, Int.reduceMul, Int.reduceLT, Int.reduceLE, Int.reduceEq, Int.reduceNeg, Int.reduceNe, Int.reduceGE, Int.reduceGT, Nat.reduceBEq, Int.reduceToNat,  e1, hcc, hRf, hR0, hRl, ha, hn, wn, w1, t1, t2, z1, x1, x2]
              (try simp (disch := omega) only [wrap_id])
              repeat (refine And.intro (by first | omega | (simp; done) | (simp; omega) | (unfold appRoom; omega)) ?_)
              refine loopI hE (fun q : Nat => ⟨[(0, .rs .c16 l), (4, .sub 0 1 0 out.length), (5, .v (.bool last)), (6, .v (.int .i64 k)), (7, .arp 1 16), (8, .v (.int .i64 n)), (14, .rs .c16 l), (15, .v (.int .i64 l.length)), (16, .v (.int .i64 k)), (39, .sub 1 1 (1 + n) (15 - n)), (40, .v (.int .i64 ((15 - n : Nat) : Int))), (41, .v (.int .i64 q))], [(0, .row .byte out), (1, .row .byte R)], 2, Try.f28.ntmps⟩) (fun q => q ≤ 15 - n ∧ ∀ p, p < q → R.getD (1 + n + p) 0 = 0) (fun q => 15 - n - q) ⟨0, ⟨by omega, fun p hp => by omega⟩, SubS.weak ?_⟩ ?_
              · simp (config := { maxSteps := 2000000 }) only [go_sem, hG, hP, Nat.reduceEqDiff, ↓reduceIte, reduceCtorEq, Nat.reduceAdd, Nat.reduceSub, Nat.reduceMul, Nat.reduceLT, Nat.reduceLeDiff, Int.reduceAdd, Int.reduceSub, Int.reduceMul, Int.reduceLT, Int.reduceLE, Int.reduceEq, Int.reduceNeg, Int.reduceNe, Int.reduceGE, Int.reduceGT, Nat.reduceBEq, Int.reduceToNat]
                repeat' (first | with_reducible rfl | (refine And.intro ?_ ?_) | (refine congrArg (Value.int _) ?_; omega) | omega)
              · rintro q ⟨q1, hq⟩
                dsimp only at q1 hq ⊢
                by_cases q2 : q < 15 - n
                · have y1 : ((q : Int) < ((15 - n : Nat) : Int)) = True := by apply eq_true; omega
                  by_cases q3 : R.getD (1 + n + q) 0 = 0
                  · simp (config := { maxSteps := 2000000 }) only [go_sem, hG, hP, Nat.reduceEqDiff, ↓reduceIte, reduceCtorEq, Nat.reduceAdd, Nat.reduceSub, Nat.reduceMul, Nat.reduceLT, Nat.reduceLeDiff, Int.reduceAdd, Int.reduceSub, Int.reduceMul, Int.reduceLT, Int.reduceLE, Int.reduceEq, Int.reduceNeg, Int.reduceNe, Int.reduceGE, Int.reduceGT, Nat.reduceBEq, Int.reduceToNat,  y1, q3, hRl]
                    (try simp (disch := omega) only [wrap_id])
                    repeat' (first | (refine And.intro ?_ ?_) | (with_reducible intro _))
                    all_goals first
                      | omega
                      | (refine ⟨q + 1, ⟨⟨by omega, fun p hp => ?_⟩, by omega⟩, SubS.weak ?_⟩
                         · by_cases e : p < q
                           · exact hq p e
                           · obtain rfl : p = q := by omega
                             exact q3
                         · simp (config := { maxSteps := 2000000 }) only [go_sem, hG, hP, Nat.reduceEqDiff, ↓reduceIte, reduceCtorEq, Nat.reduceAdd, Nat.reduceSub, Nat.reduceMul, Nat.reduceLT, Nat.reduceLeDiff, Int.reduceAdd, Int.reduceSub, Int.reduceMul, Int.reduceLT, Int.reduceLE, Int.reduceEq, Int.reduceNeg, Int.reduceNe, Int.reduceGE, Int.reduceGT, Nat.reduceBEq, Int.reduceToNat]
                           repeat' (first | with_reducible rfl | (refine And.intro ?_ ?_) | (refine congrArg (Value.int _) ?_; omega) | omega))
                  · have q4 := eq_false q3
                    have hp : ¬ P1 := fun hp => q3 (hpa.1 hp (1 + n + q) (by omega) (by omega))
                    have e2 := H2 c1 hp
                    rw [e2] at h
                    simp (config := { maxSteps := 2000000 }) only [go_sem, hG, hP, Nat.reduceEqDiff, ↓reduceIte, reduceCtorEq, Nat.reduceAdd, Nat.reduceSub, Nat.reduceMul, Nat.reduceLT, Nat.reduceLeDiff, Int.reduceAdd, Int.reduceSub, Int.reduceMul, Int.reduceLT, Int.reduceLE, Int.reduceEq, Int.reduceNeg, Int.reduceNe, Int.reduceGE, Int.reduceGT, Nat.reduceBEq, Int.reduceToNat,  y1, q4, hRl]
                    (try simp (disch := omega) only [wrap_id])
                    repeat' (first | (refine And.intro ?_ ?_) | (with_reducible intro _))
                    all_goals first
                      | omega
                      | (refine ⟨_, _, _, ?_, h⟩; simp (config := { maxSteps := 2000000 }) only [go_sem, hG, hP, Nat.reduceEqDiff, ↓reduceIte, reduceCtorEq, Nat.reduceAdd, Nat.reduceSub, Nat.reduceMul, Nat.reduceLT, Nat.reduceLeDiff, Int.reduceAdd, Int.reduceSub, Int.reduceMul, Int.reduceLT, Int.reduceLE, Int.reduceEq, Int.reduceNeg, Int.reduceNe, Int.reduceGE, Int.reduceGT, Nat.reduceBEq, Int.reduceToNat]; repeat' (first | with_reducible rfl | (refine And.intro ?_ ?_) | (refine congrArg (Value.int _) ?_; omega) | omega); done)
                · have y1 : ((q : Int) < ((15 - n : Nat) : Int)) = False := by apply eq_false; omega
                  have eq1 : q = 15 - n := by omega
                  have hp : P1 := hpa.2 fun p u1 u2 => by
                    have := hq (p - 1 - n) (by omega)
                    rwa [show 1 + n + (p - 1 - n) = p by omega] at this
                  have hs7 := shr7 hbd
                  have ws : wr .i64 sq = sq := by
                    have e1 : 0 ≤ a0.tdiv 16 := by rw [Int.tdiv_eq_ediv_of_nonneg hbd.1]; omega
                    rw [← hseq, Int.tmod_eq_emod_of_nonneg e1]
                    exact wrap_id (by omega) (by omega)
                  by_cases hs : sq = (k : Int).tmod 8
                  · have hs1 := eq_true hs
                    cases last with
                    | true =>
                      have e2 := H4 c1 hp hs rfl
                      rw [e2] at h
                      simp (config := { maxSteps := 2000000 }) only [go_sem, hG, hP, Nat.reduceEqDiff, ↓reduceIte, reduceCtorEq, Nat.reduceAdd, Nat.reduceSub, Nat.reduceMul, Nat.reduceLT, Nat.reduceLeDiff, Int.reduceAdd, Int.reduceSub, Int.reduceMul, Int.reduceLT, Int.reduceLE, Int.reduceEq, Int.reduceNeg, Int.reduceNe, Int.reduceGE, Int.reduceGT, Nat.reduceBEq, Int.reduceToNat,  y1, hRl, hR0, hs7, hseq, ws, hs1]
                      (try simp (disch := omega) only [wrap_id])
                      repeat' (first | (refine And.intro ?_ ?_) | (with_reducible intro _))
                      all_goals first
                        | omega
                        | (refine ⟨_, _, _, ?_, h⟩; simp (config := { maxSteps := 2000000 }) only [go_sem, hG, hP, Nat.reduceEqDiff, ↓reduceIte, reduceCtorEq, Nat.reduceAdd, Nat.reduceSub, Nat.reduceMul, Nat.reduceLT, Nat.reduceLeDiff, Int.reduceAdd, Int.reduceSub, Int.reduceMul, Int.reduceLT, Int.reduceLE, Int.reduceEq, Int.reduceNeg, Int.reduceNe, Int.reduceGE, Int.reduceGT, Nat.reduceBEq, Int.reduceToNat]; repeat' (first | with_reducible rfl | (refine And.intro ?_ ?_) | (refine congrArg (Value.int _) ?_; omega) | omega); done)
                    | false =>
                      have e2 := H0 c1 hp hs rfl
                      have t3 : ((1 : Int) + n - 1).toNat = n := by omega
                      simp (config := { maxSteps := 2000000 }) only [go_sem, hG, hP, Nat.reduceEqDiff, ↓reduceIte, reduceCtorEq, Nat.reduceAdd, Nat.reduceSub, Nat.reduceMul, Nat.reduceLT, Nat.reduceLeDiff, Int.reduceAdd, Int.reduceSub, Int.reduceMul, Int.reduceLT, Int.reduceLE, Int.reduceEq, Int.reduceNeg, Int.reduceNe, Int.reduceGE, Int.reduceGT, Nat.reduceBEq, Int.reduceToNat,  y1, hRl, hR0, hs7, hseq, ws, hs1, w1, t1, t3, hpl]
                      (try simp (disch := omega) only [wrap_id])
                      repeat' (first | (refine And.intro ?_ ?_) | (with_reducible intro _))
                      all_goals first
                        | omega
                        | (unfold appRoom; omega)
                        | (refine ⟨(k + 1, decide (128 ≤ a0), out ++ (R.drop 1).take n), ⟨⟨by dsimp only; omega, by dsimp only; rw [List.length_append, hpl]; omega, e2⟩, by dsimp only; omega⟩, SubS.weak ?_⟩
                           simp (config := { maxSteps := 2000000 }) only [go_sem, hG, hP, Nat.reduceEqDiff, ↓reduceIte, reduceCtorEq, Nat.reduceAdd, Nat.reduceSub, Nat.reduceMul, Nat.reduceLT, Nat.reduceLeDiff, Int.reduceAdd, Int.reduceSub, Int.reduceMul, Int.reduceLT, Int.reduceLE, Int.reduceEq, Int.reduceNeg, Int.reduceNe, Int.reduceGE, Int.reduceGT, Nat.reduceBEq, Int.reduceToNat]
                           repeat' (first | with_reducible rfl | (refine And.intro ?_ ?_) | (refine congrArg (Value.int _) ?_; omega) | omega)
                           all_goals rw [List.length_append, hpl])
                  · have hs1 := eq_false hs
                    have e2 := H3 c1 hp hs
                    rw [e2] at h
                    simp (config := { maxSteps := 2000000 }) only [go_sem, hG, hP, Nat.reduceEqDiff, ↓reduceIte, reduceCtorEq, Nat.reduceAdd, Nat.reduceSub, Nat.reduceMul, Nat.reduceLT, Nat.reduceLeDiff, Int.reduceAdd, Int.reduceSub, Int.reduceMul, Int.reduceLT, Int.reduceLE, Int.reduceEq, Int.reduceNeg, Int.reduceNe, Int.reduceGE, Int.reduceGT, Nat.reduceBEq, Int.reduceToNat,  y1, hRl, hR0, hs7, hseq, ws, hs1]
                    (try simp (disch := omega) only [wrap_id])
                    repeat' (first | (refine And.intro ?_ ?_) | (with_reducible intro _))
                    all_goals first
                      | omega
                      | (refine ⟨_, _, _, ?_, h⟩; simp (config := { maxSteps := 2000000 }) only [go_sem, hG, hP, Nat.reduceEqDiff, ↓reduceIte, reduceCtorEq, Nat.reduceAdd, Nat.reduceSub, Nat.reduceMul, Nat.reduceLT, Nat.reduceLeDiff, Int.reduceAdd, Int.reduceSub, Int.reduceMul, Int.reduceLT, Int.reduceLE, Int.reduceEq, Int.reduceNeg, Int.reduceNe, Int.reduceGE, Int.reduceGT, Nat.reduceBEq, Int.reduceToNat]; repeat' (first | with_reducible rfl | (refine And.intro ?_ ?_) | (refine congrArg (Value.int _) ?_; omega) | omega); done)
        · have e1 : ((k : Int) < l.length) = False := by apply eq_false; omega
          have ek : k = l.length := by omega
          subst ek
          rw [List.drop_length] at hI
          simp only [unc] at hI
          rw [hI] at h
          simp (config := { maxSteps := 2000000 }) only [go_sem, hG, hP, Nat.reduceEqDiff, ↓reduceIte, reduceCtorEq, Nat.reduceAdd, Nat.reduceSub, Nat.reduceMul, Nat.reduceLT, Nat.reduceLeDiff, Int.reduceAdd, Int.reduceSub, Int.reduceMul, Int.reduceLT, Int.reduceLE, Int.reduceEq, Int.reduceNeg, Int.reduceNe, Int.reduceGE, Int.reduceGT, Nat.reduceBEq, Int.reduceToNat,  e1]
          cases last
          · simp only [Bool.false_eq_true, if_false] at h
            repeat' (first | (refine And.intro ?_ ?_) | (with_reducible intro _))
            all_goals first
              | (exfalso; simp_all; done)
              | (refine ⟨_, _, _, ?_, h⟩; simp (config := { maxSteps := 2000000 }) only [go_sem, hG, hP, Nat.reduceEqDiff, ↓reduceIte, reduceCtorEq, Nat.reduceAdd, Nat.reduceSub, Nat.reduceMul, Nat.reduceLT, Nat.reduceLeDiff, Int.reduceAdd, Int.reduceSub, Int.reduceMul, Int.reduceLT, Int.reduceLE, Int.reduceEq, Int.reduceNeg, Int.reduceNe, Int.reduceGE, Int.reduceGT, Nat.reduceBEq, Int.reduceToNat]; repeat' (first | with_reducible rfl | (refine And.intro ?_ ?_) | (refine congrArg (Value.int _) ?_; omega) | omega); done)
          · simp only [if_true] at h
            repeat' (first | (refine And.intro ?_ ?_) | (with_reducible intro _))
            all_goals first
              | (exfalso; simp_all; done)
              | (refine ⟨_, _, _, ?_, h⟩; simp (config := { maxSteps := 2000000 }) only [go_sem, hG, hP, Nat.reduceEqDiff, ↓reduceIte, reduceCtorEq, Nat.reduceAdd, Nat.reduceSub, Nat.reduceMul, Nat.reduceLT, Nat.reduceLeDiff, Int.reduceAdd, Int.reduceSub, Int.reduceMul, Int.reduceLT, Int.reduceLE, Int.reduceEq, Int.reduceNeg, Int.reduceNe, Int.reduceGE, Int.reduceGT, Nat.reduceBEq, Int.reduceToNat]; repeat' (first | with_reducible rfl | (refine And.intro ?_ ?_) | (refine congrArg (Value.int _) ?_; omega) | omega); done)
  · exact h.elim
end Go.Proofs.YtfjfaajdbomhbaaE

/-! The code of a function, in the engine's words. -/
namespace Go.Proofs.YtfjfaajdbomhbaaE
open Go Go.RowKit
@[reducible] def ic8 : IC := (.seq (.ops [⟨some 2, .mov (.const (.bool false)), none⟩]) (.seq (.ops [⟨some 3, .mov (.const (.int .i64 1048576)), none⟩]) (.seq (.ops [⟨some 14, .mov (.tmp 0), none⟩, ⟨some 15, .mov (.tmp 3), none⟩, ⟨some 16, .call 29 [(.tmp 14), (.tmp 15)], none⟩, ⟨some 3, .mov (.tmp 16), none⟩]) (.seq (.seq (.ops [⟨some 17, .mov (.tmp 3), none⟩, ⟨some 18, .bin .lss (.tmp 17) (.const (.int .i64 0)), none⟩]) (.cond (.tmp 18) (.seq (.ops [⟨some 2, .mov (.const (.bool true)), none⟩]) .ret) .skip)) (.seq (.ops [⟨some 20, .mov (.tmp 0), none⟩, ⟨some 21, .call 31 [(.tmp 20)], none⟩, ⟨some 22, .call 30 [(.tmp 21)], none⟩, ⟨some 19, .mov (.tmp 22), none⟩, ⟨some 23, .ext (.tmp 19) 0, none⟩, ⟨some 24, .ext (.tmp 19) 1, none⟩, ⟨some 4, .mov (.tmp 23), none⟩, ⟨some 5, .mov (.tmp 24), none⟩]) (.seq (.ops [⟨some 25, .mov (.tmp 0), none⟩, ⟨some 26, .call 31 [(.tmp 25)], none⟩, ⟨some 6, .mov (.tmp 26), none⟩]) (.seq (.ops [⟨some 28, .mov (.tmp 6), none⟩, ⟨some 29, .call 28 [(.tmp 28)], none⟩, ⟨some 27, .mov (.tmp 29), none⟩, ⟨some 30, .ext (.tmp 27) 0, none⟩, ⟨some 31, .ext (.tmp 27) 1, none⟩, ⟨some 7, .mov (.tmp 30), none⟩, ⟨some 8, .mov (.tmp 31), none⟩]) (.seq (.seq (.ops [⟨some 32, .mov (.tmp 7), none⟩, ⟨some 33, .mov (.tmp 4), none⟩, ⟨some 34, .call 16 [(.tmp 32), (.tmp 33)], none⟩, ⟨some 35, .una .not (.tmp 34), none⟩, ⟨some 36, .mov (.tmp 35), none⟩, ⟨some 37, .mov (.tmp 8), some (36, false)⟩, ⟨some 38, .mov (.tmp 5), some (36, false)⟩, ⟨some 39, .bin .neq (.tmp 37) (.tmp 38), some (36, false)⟩, ⟨some 40, .pick (.tmp 36) (.const (.bool true)) (.tmp 39), none⟩]) (.cond (.tmp 40) (.seq (.ops [⟨some 2, .mov (.const (.bool false)), none⟩]) .ret) .skip)) (.seq (.seq (.ops [⟨some 41, .mov (.tmp 6), none⟩, ⟨some 42, .mov (.tmp 0), none⟩, ⟨some 43, .call 31 [(.tmp 42)], none⟩, ⟨some 44, .call 23 [(.tmp 41), (.tmp 43)], none⟩, ⟨some 45, .una .not (.tmp 44), none⟩]) (.cond (.tmp 45) (.seq (.ops [⟨some 2, .mov (.const (.bool false)), none⟩]) .ret) .skip)) (.seq (.ops [⟨some 9, .mov (.const (.int .i64 1)), none⟩]) (.seq (.ops [⟨some 46, .mov (.tmp 6), none⟩, ⟨some 47, .mov (.tmp 9), none⟩, ⟨some 48, .call 25 [(.tmp 46), (.tmp 47)], none⟩, ⟨some 9, .mov (.tmp 48), none⟩]) (.seq (.seq (.ops [⟨some 49, .mov (.tmp 9), none⟩, ⟨some 50, .bin .lss (.tmp 49) (.const (.int .i64 0)), none⟩, ⟨some 51, .mov (.tmp 50), none⟩, ⟨some 52, .mov (.tmp 7), some (51, false)⟩, ⟨some 53, .mov (.tmp 4), some (51, false)⟩, ⟨some 54, .call 16 [(.tmp 52), (.tmp 53)], some (51, false)⟩, ⟨some 55, .una .not (.tmp 54), some (51, false)⟩, ⟨some 56, .pick (.tmp 51) (.const (.bool true)) (.tmp 55), none⟩, ⟨some 57, .mov (.tmp 56), none⟩, ⟨some 58, .mov (.tmp 8), some (57, false)⟩, ⟨some 59, .mov (.tmp 5), some (57, false)⟩, ⟨some 60, .bin .neq (.tmp 58) (.tmp 59), some (57, false)⟩, ⟨some 61, .pick (.tmp 57) (.const (.bool true)) (.tmp 60), none⟩]) (.cond (.tmp 61) (.seq (.ops [⟨some 2, .mov (.const (.bool false)), none⟩]) .ret) .skip)) (.seq (.ops [⟨some 10, .mov (.const (.int .i64 1)), none⟩]) (.seq (.ops [⟨some 62, .mov (.tmp 7), none⟩, ⟨some 63, .mov (.tmp 10), none⟩, ⟨some 64, .call 24 [(.tmp 62), (.tmp 63)], none⟩, ⟨some 10, .mov (.tmp 64), none⟩]) (.seq (.ops [⟨some 11, .mov (.const (.int .i64 1)), none⟩]) (.seq (.ops [⟨some 65, .mov (.tmp 7), none⟩, ⟨some 66, .mov (.tmp 11), none⟩, ⟨some 67, .call 32 [(.tmp 65), (.tmp 66)], none⟩, ⟨some 11, .mov (.tmp 67), none⟩]) (.seq (.seq (.ops [⟨some 68, .mov (.tmp 11), none⟩, ⟨some 69, .bin .lss (.tmp 68) (.const (.int .i64 0)), none⟩]) (.cond (.tmp 69) (.seq (.ops [⟨some 2, .mov (.const (.bool false)), none⟩]) .ret) .skip)) (.seq (.seq (.ops [⟨some 70, .mov (.tmp 11), none⟩, ⟨some 71, .mov (.tmp 10), none⟩, ⟨some 72, .bin .neq (.tmp 70) (.tmp 71), none⟩]) (.cond (.tmp 72) (.seq (.ops [⟨some 2, .mov (.const (.bool false)), none⟩]) .ret) .skip)) (.seq (.ops [⟨some 74, .mov (.tmp 0), none⟩, ⟨some 75, .call 31 [(.tmp 74)], none⟩, ⟨some 76, .call 28 [(.tmp 75)], none⟩, ⟨some 73, .mov (.tmp 76), none⟩, ⟨some 77, .ext (.tmp 73) 0, none⟩, ⟨some 78, .ext (.tmp 73) 1, none⟩, ⟨some 12, .mov (.tmp 77), none⟩, ⟨some 13, .mov (.tmp 78), none⟩]) (.seq (.seq (.ops [⟨some 79, .mov (.tmp 12), none⟩, ⟨some 80, .mov (.tmp 4), none⟩, ⟨some 81, .call 16 [(.tmp 79), (.tmp 80)], none⟩, ⟨some 82, .una .not (.tmp 81), none⟩, ⟨some 83, .mov (.tmp 82), none⟩, ⟨some 84, .mov (.tmp 13), some (83, false)⟩, ⟨some 85, .mov (.tmp 5), some (83, false)⟩, ⟨some 86, .bin .neq (.tmp 84) (.tmp 85), some (83, false)⟩, ⟨some 87, .pick (.tmp 83) (.const (.bool true)) (.tmp 86), none⟩]) (.cond (.tmp 87) (.seq (.ops [⟨some 2, .mov (.const (.bool false)), none⟩]) .ret) .skip)) (.seq (.ops [⟨some 11, .mov (.const (.int .i64 1)), none⟩]) (.seq (.ops [⟨some 88, .mov (.tmp 7), none⟩, ⟨some 89, .mov (.tmp 11), none⟩, ⟨some 90, .call 32 [(.tmp 88), (.tmp 89)], none⟩, ⟨some 11, .mov (.tmp 90), none⟩]) (.seq (.seq (.ops [⟨some 91, .mov (.tmp 11), none⟩, ⟨some 92, .bin .lss (.tmp 91) (.const (.int .i64 0)), none⟩]) (.cond (.tmp 92) (.seq (.ops [⟨some 2, .mov (.const (.bool false)), none⟩]) .ret) .skip)) (.seq (.seq (.ops [⟨some 93, .mov (.tmp 11), none⟩, ⟨some 94, .mov (.tmp 10), none⟩, ⟨some 95, .bin .neq (.tmp 93) (.tmp 94), none⟩]) (.cond (.tmp 95) (.seq (.ops [⟨some 2, .mov (.const (.bool false)), none⟩]) .ret) .skip)) (.seq (.ops [⟨some 2, .mov (.const (.bool true)), none⟩]) .ret)))))))))))))))))))))))))
@[reducible] def rv8 : List RV := [.tmp 2]
theorem low8 : lowC Try.prog tau Try.f8.ntmps (Try.f8.body.getD .skip) = some (erase ic8) := by kernel_rfl
theorem res8 : lowR Try.prog Try.f8.results.toList = some rv8 := by kernel_rfl
theorem bod8 : Try.f8.body = some (Try.f8.body.getD .skip) := by kernel_rfl
theorem cal8 : callable Try.prog 8 = true := by kernel_rfl

end Go.Proofs.YtfjfaajdbomhbaaE

/-! The law of Uncells. -/
namespace Go.Proofs.YtfjfaajdbomhbaaE
open Go Go.RowKit
set_option linter.unusedSimpArgs false
set_option linter.unusedVariables false
set_option maxRecDepth 50000
set_option maxHeartbeats 8000000

theorem unc_len : ∀ (l : List C16) (i : Nat) (b : Bool) (o : List Int), (unc l i b o).1.length ≤ o.length + 15 * l.length
  | [], i, b, o => by simp [unc]
  | c :: r, i, b, o => by
    unfold unc
    split
    · have := unc_len r (i + 1) (decide (128 ≤ c.a0)) (o ++ ((lst c).drop 1).take (cnt c))
      have h2 : (((lst c).drop 1).take (cnt c)).length ≤ 15 := by simp [lst]; omega
      rw [List.length_append] at this
      simp only [List.length_cons]; omega
    · simp
theorem uncP_len (l : List C16) : (uncP l).1.length ≤ 900 := by
  unfold uncP
  split
  · simp
  · have := unc_len l 0 false []
    simp only [List.length_nil] at this; omega
theorem szStep_len {l : Nat} {n : Int} (h : ¬ szStep l n < 0) : (l : Int) ≤ n := by unfold szStep at h; split at h <;> omega
def spLaw8 : Spec := ⟨fun _ _ => [], fun args objs K => match args, objs with
  | [.rs .c16 l], [] => (l.length ≤ 17592186044416 ∧ hdB l) ∧ K (.v (.bool true)) [] 0
  | _, _ => False, false⟩
theorem spLaw8_t {L : Hp} {a : List AVal} : Spec.take spLaw8 L a = [] := id rfl
theorem spLaw8_k : Spec.keep spLaw8 = false := id rfl
theorem spLaw8_f {l} {K : AVal → Hp → Nat → Prop} : Spec.f spLaw8 ([.rs .c16 l]) ([]) K = ((l.length ≤ 17592186044416 ∧ hdB l) ∧ K (.v (.bool true)) [] 0) := id rfl
theorem valid8 : Valid Try.prog 8 spLaw8 := by
  refine validI (Γ := lk [(16, spEqByteS), (23, spEqCS), (24, spMarkB), (25, spMarkC), (28, spUnc), (29, spSzC), (30, spUnc), (31, spToCS), (32, spHeldB)]) Try.func8 bod8 low8 res8 (good_of ⟨⟨cal16, valid16⟩, ⟨cal23, valid23⟩, ⟨cal24, valid24⟩, ⟨cal25, valid25⟩, ⟨cal28, valid28⟩, ⟨cal29, valid29⟩, ⟨cal30, valid30⟩, ⟨cal31, valid31⟩, ⟨cal32, valid32⟩, trivial⟩) ?_
  intro E args objs K h hE hG hP
  simp only [spLaw8] at h
  split at h
  · refine ⟨by simp [Try.ntmps8], ?_⟩
    rename_i l
    obtain ⟨⟨b1, hB⟩, h⟩ := h
    have hlen := uncP_len l
    have hBt := eq_true hB
    generalize hl : uncP l = u at *
    obtain ⟨o, cd⟩ := u
    dsimp only at hlen
    simp (config := { maxSteps := 2000000 }) only [go_sem, hG, hP, Nat.reduceEqDiff, ↓reduceIte, reduceCtorEq, Nat.reduceAdd, Nat.reduceSub, Nat.reduceMul, Nat.reduceLT, Nat.reduceLeDiff, Int.reduceAdd, Int.reduceSub, Int.reduceMul, Int.reduceLT, Int.reduceLE, Int.reduceEq, Int.reduceNeg, Int.reduceNe, Int.reduceGE, Int.reduceGT, Nat.reduceBEq, Int.reduceToNat,  spEqByteS_f, spEqByteS_t, spEqByteS_k, spEqCS_f, spEqCS_t, spEqCS_k, spMarkB_f, spMarkB_t, spMarkB_k, spMarkC_f, spMarkC_t, spMarkC_k, spUnc_f, spUnc_t, spUnc_k, spSzC_f, spSzC_t, spSzC_k, spToCS_f, spToCS_t, spToCS_k, spHeldB_f, spHeldB_t, spHeldB_k, hl, hBt, take1_eq, take_cm, take_bm, cMarks_len, bMarks_len, held_bm]
    repeat (refine And.intro (by first | omega | (simp; done) | (simp; omega) | (unfold appRoom; omega)) ?_)
    refine ⟨fun hs => ⟨_, _, _, ?_, h⟩, fun hs => ?_⟩
    · simp (config := { maxSteps := 2000000 }) only [go_sem, hG, hP, Nat.reduceEqDiff, ↓reduceIte, reduceCtorEq, Nat.reduceAdd, Nat.reduceSub, Nat.reduceMul, Nat.reduceLT, Nat.reduceLeDiff, Int.reduceAdd, Int.reduceSub, Int.reduceMul, Int.reduceLT, Int.reduceLE, Int.reduceEq, Int.reduceNeg, Int.reduceNe, Int.reduceGE, Int.reduceGT, Nat.reduceBEq, Int.reduceToNat]
    have hz := szStep_len hs
    repeat' (first | (refine And.intro ?_ ?_) | (with_reducible intro _))
    all_goals first | omega | (refine ⟨_, _, _, ?_, h⟩; simp (config := { maxSteps := 2000000 }) only [go_sem, hG, hP, Nat.reduceEqDiff, ↓reduceIte, reduceCtorEq, Nat.reduceAdd, Nat.reduceSub, Nat.reduceMul, Nat.reduceLT, Nat.reduceLeDiff, Int.reduceAdd, Int.reduceSub, Int.reduceMul, Int.reduceLT, Int.reduceLE, Int.reduceEq, Int.reduceNeg, Int.reduceNe, Int.reduceGE, Int.reduceGT, Nat.reduceBEq, Int.reduceToNat]; all_goals (first | (simp; done) | omega))
  · exact h.elim
end Go.Proofs.YtfjfaajdbomhbaaE

/-! What an argument of a law reads as, in the engine's words; and what a proved function gives a law. -/
namespace Go.Proofs.YtfjfaajdbomhbaaE
open Go Go.RowKit Go.ChangeShapes Go.WideShapes
set_option linter.unusedSimpArgs false
set_option linter.unusedVariables false

def nm0 : Nm := fun _ => none
def noC : CR := ⟨fun _ => False, fun _ => False, fun _ h => h⟩
/-- What type t's data read as, by d; ok: what is known of it. -/
def Tells (P : Program) (t : TypeId) {α : Type} (n : Nat) (d : α → List AVal) (ok : α → Prop) : Prop :=
  ∀ (H : Type) (enc : TypeId × Value → H) (W : World) (base : Nat) (spare : Nat → Bool) (held : Bool) (fuel : Nat) (cs : List Value) (x : DataW H × List MemPlace),
    DataW.trod enc P W base spare held fuel t cs = some x → (∀ b ∈ x.1.weights P t, b ≤ reachBytes) → ∃ y : α, (DenL W noC nm0 (d y) cs ∧ cs.length = n) ∧ ok y
def TellsF (P : Program) (fs : List Field) (off : Nat) {α : Type} (n : Nat) (d : α → List AVal) (ok : α → Prop) : Prop :=
  ∀ (H : Type) (enc : TypeId × Value → H) (W : World) (base : Nat) (spare : Nat → Bool) (held : Bool) (fuel : Nat) (cs : List Value) (xs : List (DataW H × List MemPlace)),
    (∀ (i : Nat) (f : Field), fs[i]? = some f → DataW.trod enc P W base spare held fuel f.type ((cs.drop f.offset).take (P.cellsOf f.type)) = xs[i]?) → xs.length = fs.length → cs.length = off + n →
    (∀ (i : Nat) (f : Field) x, fs[i]? = some f → xs[i]? = some x → ∀ b ∈ x.1.weights P f.type, b ≤ reachBytes) → ∃ y : α, (DenL W noC nm0 (d y) (cs.drop off)) ∧ ok y

theorem den1 {W : World} (v : Value) : DenL W noC nm0 [.v v] [v] := DenL.cons (.v v) .nil
theorem Tells.int {P : Program} {t : TypeId} {k : IntKind} (ht : P.underlying t = some (.int k)) : Tells P t 1 (fun n : Int => [.v (.int k n)]) (fun n => (Lit.int k n).wf = true) := by
  intro H enc W base spare held fuel cs x h _
  cases fuel with
  | zero => simp [DataW.trod] at h
  | succ m =>
    unfold DataW.trod at h
    rw [ht] at h
    split at h <;> simp_all
    obtain ⟨⟨_, h1⟩, _⟩ := h
    exact ⟨_, den1 _, h1⟩
theorem Tells.bool {P : Program} {t : TypeId} (ht : P.underlying t = some .bool) : Tells P t 1 (fun b : Bool => [.v (.bool b)]) (fun _ => True) := by
  intro H enc W base spare held fuel cs x h _
  cases fuel with
  | zero => simp [DataW.trod] at h
  | succ m =>
    unfold DataW.trod at h
    rw [ht] at h
    split at h <;> simp_all
    rename_i b
    cases b
    · exact .inl (den1 _)
    · exact .inr (den1 _)
theorem Tells.string {P : Program} {t : TypeId} (ht : P.underlying t = some .string) : Tells P t 1 (fun s : ByteArray => [.v (.string s)]) (fun s => s.size ≤ 140737488351232) := by
  intro H enc W base spare held fuel cs x h hw
  cases fuel with
  | zero => simp [DataW.trod] at h
  | succ m =>
    unfold DataW.trod at h
    rw [ht] at h
    split at h <;> simp_all
    obtain ⟨_, h2⟩ := h
    subst h2
    refine ⟨_, den1 _, ?_⟩
    have := hw _ (by simp only [DataW.weights]; exact List.mem_singleton.2 rfl)
    rw [Array.length_toList] at this
    exact this
theorem weights_all {H : Type} {P : Program} {e : TypeId} {ds : List (DataW H)} {d : DataW H} (hd : d ∈ ds) {b : Nat} (hb : b ∈ d.weights P e) : b ∈ DataW.weightsAll P e ds := by
  induction ds with
  | nil => cases hd
  | cons a r ih =>
    simp only [DataW.weightsAll, List.mem_append]
    rcases List.mem_cons.1 hd with rfl | hd
    · exact .inl hb
    · exact .inr (ih hd)
theorem Tells.slice {P : Program} {t e : TypeId} (ht : P.underlying t = some (.slice e)) {τ : Ty} {ok : τ.D → Prop} (he : Tells P e (sz τ) (enc τ) ok) (hs : P.cellsOf e = sz τ) {B : Nat} (hB : P.bytesOf e = B) :
    Tells P t 1 (fun xs : List τ.D => [.rs τ xs]) (fun xs => xs.length * B ≤ 140737488351232 ∧ xs.length ≤ maxLen ∧ ∀ x ∈ xs, ok x) := by
  intro H enc' W base spare held fuel cs x h hw
  rcases Go.Deep.open_slice ht h with ⟨rfl, rfl⟩ | ⟨a, len, cap, m, n, D, Pl, rfl, hb, hl, hm, hmm, rfl, hx⟩
  · exact ⟨[], ⟨DenL.cons (Den.rs (t := τ) (xs := []) (A := none) (c := 0) (fun _ => undef) (.inl (by simp)) (Nat.le_refl _) (fun i f x av hx => by simp at hx)) .nil, rfl⟩, by simp [maxLen]⟩
  · have hlm : len ≤ m := by rw [hmm]; split <;> omega
    have hel : ∀ i, i < len → ∃ y : τ.D, (∃ c, W.cells? base (a.add (i * P.cellsOf e)) (P.cellsOf e) = some c ∧ (DenL W noC nm0 (enc τ y) c ∧ c.length = sz τ)) ∧ ok y := by
      intro i hi
      obtain ⟨c, hc, hd⟩ := hx i (by omega)
      obtain ⟨y, hy, hok⟩ := he H enc' W base spare held n c _ hd (fun b hb => hw b (by
        simp only [DataW.weights, ht, List.mem_cons, List.mem_append]
        exact .inr (.inl (weights_all (List.mem_map.2 ⟨i, List.mem_range.2 hi, rfl⟩) hb))))
      exact ⟨y, ⟨c, hc, hy⟩, hok⟩
    have : Inhabited τ.D := ⟨dflt τ⟩
    obtain ⟨f, hf⟩ := Go.Deep.choose_lt hel
    have hlen : ((List.range len).map f).length = len := by simp
    have hcell : ∀ i, i < len → ∃ c, DenL W noC nm0 (enc τ (f i)) c ∧ c.length = sz τ ∧ ∀ j, j < sz τ → W.cell? (a.add (i * sz τ + j)) = c[j]? := by
      intro i hi
      obtain ⟨⟨c, hc, hd, hcl⟩, _⟩ := hf i hi
      refine ⟨c, hd, hcl, fun j hj => ?_⟩
      have hc' := World.cells?_some hc
      rw [hs] at hc'
      have := hc'.2.2 j hj
      rw [← this, Go.Deep.add_add]
    have hall : ∀ k, k < len * sz τ → ∃ u, W.cell? (a.add k) = some u := by
      intro k hk
      have hz := sz_pos τ
      have hi : k / sz τ < len := Nat.div_lt_of_lt_mul (by rw [Nat.mul_comm]; exact hk)
      have hj : k % sz τ < sz τ := Nat.mod_lt _ hz
      obtain ⟨c, _, hcl, hc⟩ := hcell _ hi
      refine ⟨c[k % sz τ]'(by omega), ?_⟩
      have := hc _ hj
      rw [show k / sz τ * sz τ + k % sz τ = k by rw [Nat.mul_comm]; exact Nat.div_add_mod k (sz τ)] at this
      rw [this, List.getElem?_eq_getElem]
    refine ⟨(List.range len).map f, ⟨DenL.cons ?_ .nil, rfl⟩, ?_, by rw [hlen]; exact Nat.le_trans hl hm, ?_⟩
    · have key : Den W noC nm0 (.rs τ ((List.range len).map f)) (.slice (some a) ((List.range len).map f).length cap) := by
        refine .rs (fun k => (W.cell? (a.add k)).getD undef) ?_ (by rw [hlen]; exact hl) ?_
        · rw [hlen]
          rcases Nat.eq_zero_or_pos (len * sz τ) with h0 | hp
          · exact .inl h0
          · obtain ⟨u, hu⟩ := hall 0 hp
            refine .inr ⟨a, rfl, ?_, fun h => h, fun k hk => ?_⟩
            · have := World.block_lt_of_cell? _ _ hu
              simpa [Addr.add] using this
            · obtain ⟨u, hu⟩ := hall k hk
              simp [hu]
        · intro i j x av hx hav
          have hi : i < len := by
            have := (List.getElem?_eq_some_iff.1 hx).1
            rwa [hlen] at this
          have hx' : f i = x := by simpa [hi] using hx
          subst hx'
          obtain ⟨c, hd, hcl, hc⟩ := hcell i hi
          have hj : j < sz τ := by
            have := (List.getElem?_eq_some_iff.1 hav).1
            rwa [enc_length] at this
          have := hc j hj
          rw [this, List.getElem?_eq_getElem (by omega)]
          exact hd.2 j av _ hav (List.getElem?_eq_getElem (by omega))
      rw [hlen] at key
      exact key
    · rw [hlen]
      have := hw ((((List.range len).map D).length + ((List.range (m - len)).map fun j => D (len + j)).length) * P.bytesOf e) (by simp only [DataW.weights, ht]; exact List.mem_cons_self)
      rw [hB] at this
      simp only [List.length_map, List.length_range] at this
      have h2 : len * B ≤ (len + (m - len)) * B := Nat.mul_le_mul_right _ (by omega)
      unfold reachBytes at this
      omega
    · intro y hy
      obtain ⟨i, hi, rfl⟩ := List.mem_map.1 hy
      exact (hf i (List.mem_range.1 hi)).2
theorem TellsF.one {P : Program} {f : Field} {off n : Nat} {α : Type} {d : α → List AVal} {ok : α → Prop} (h : Tells P f.type n d ok) (ho : f.offset = off) (hc : P.cellsOf f.type = n) : TellsF P [f] off n d ok := by
  intro H enc W base spare held fuel cs xs hx hl hcs hw
  match xs, hl with
  | [x], _ =>
    have h0 := hx 0 f rfl
    rw [ho, hc, List.take_of_length_le (by rw [List.length_drop]; omega)] at h0
    obtain ⟨y, hy, hok⟩ := h H enc W base spare held fuel _ x h0 (hw 0 f x rfl rfl)
    exact ⟨y, hy.1, hok⟩
theorem TellsF.cons {P : Program} {f : Field} {fs : List Field} {off n n' : Nat} {α β : Type} {d : α → List AVal} {d' : β → List AVal} {ok : α → Prop} {ok' : β → Prop} (h : Tells P f.type n d ok) (ho : f.offset = off) (hc : P.cellsOf f.type = n)
    (r : TellsF P fs (off + n) n' d' ok') : TellsF P (f :: fs) off (n + n') (fun x : α × β => d x.1 ++ d' x.2) (fun x => ok x.1 ∧ ok' x.2) := by
  intro H enc W base spare held fuel cs xs hx hl hcs hw
  match xs, hl with
  | x :: xs, hl =>
    have h0 := hx 0 f rfl
    rw [ho, hc] at h0
    obtain ⟨y, hy, hok⟩ := h H enc W base spare held fuel _ x h0 (hw 0 f x rfl rfl)
    obtain ⟨y', hy', hok'⟩ := r H enc W base spare held fuel cs xs (fun i g hg => hx (i + 1) g hg) (by simpa using hl) (by omega) (fun i g z hg hz => hw (i + 1) g z hg hz)
    refine ⟨(y, y'), ?_, hok, hok'⟩
    have := hy.1.append hy'
    rw [← List.drop_drop, List.take_append_drop] at this
    exact this
theorem weights_each {H : Type} {P : Program} {fs : List Field} : ∀ {xs : List (DataW H × List MemPlace)} {i : Nat} {f : Field} {x : DataW H × List MemPlace}, fs[i]? = some f → xs[i]? = some x → ∀ b ∈ x.1.weights P f.type, b ∈ DataW.weightsEach P (fs.map (·.type)) (xs.map (·.1)) := by
  intro xs i f x hf hx b hb
  exact DataW.weights_mem_each (j := i) (t := f.type) (d := x.1) (by simp [hf]) (by simp [hx]) b hb
theorem Tells.struct {P : Program} {t : TypeId} {fs : Array Field} (ht : P.underlying t = some (.struct fs)) {α : Type} {n : Nat} {d : α → List AVal} {ok : α → Prop} (h : TellsF P fs.toList 0 n d ok) (hc : P.cellsOf t = n) : Tells P t n d ok := by
  intro H enc W base spare held fuel cs x hx hw
  obtain ⟨xs, m, _, rfl, hl, hlen, hf⟩ := DataW.trod_struct ht hx
  obtain ⟨y, hy, hok⟩ := h H enc W base spare held m cs xs (fun i f hi => hf i f (by rw [← Array.getElem?_toList]; exact hi)) (by simpa using hlen) (by omega) (fun i f x hi hx b hb => hw b (by
    simp only [DataW.weights, ht]
    exact weights_each hi hx b hb))
  exact ⟨y, ⟨by simpa using hy, by omega⟩, hok⟩
/-- An array's elements in line, as fields. -/
theorem Tells.array {P : Program} {t e : TypeId} {k : Nat} (ht : P.underlying t = some (.array k e)) {α : Type} {n : Nat} {d : α → List AVal} {ok : α → Prop} (h : TellsF P ((List.range k).map fun i => { name := "", type := e, offset := i * P.cellsOf e, embedded := false, tag := "", pkgPath := "", byteOffset := 0 }) 0 n d ok)
    (hc : P.cellsOf t = n) : Tells P t n d ok := by
  intro H enc W base spare held fuel cs x hx hw
  obtain ⟨xs, m, _, rfl, hl, hlen, hf⟩ := DataW.trod_array ht hx
  obtain ⟨y, hy, hok⟩ := h H enc W base spare held m cs xs (fun i f hi => by
      have hin : i < k := by
        rcases Nat.lt_or_ge i k with h | h
        · exact h
        · simp [h] at hi
      simp [hin] at hi
      subst hi
      exact hf i hin) (by simpa using hlen) (by omega) (fun i f x hi hx b hb => hw b (by
    have hin : i < k := by
      rcases Nat.lt_or_ge i k with h | h
      · exact h
      · simp [h] at hi
    simp [hin] at hi
    subst hi
    simp only [DataW.weights, ht]
    exact weights_all (List.mem_map.2 ⟨x, List.mem_iff_getElem?.2 ⟨i, hx⟩, rfl⟩) hb))
  exact ⟨y, ⟨by simpa using hy, by omega⟩, hok⟩
/-- The same data, told by another name. -/
theorem Tells.as {P : Program} {t : TypeId} {α β : Type} {n : Nat} {d : α → List AVal} {ok : α → Prop} (h : Tells P t n d ok) (g : α → β) (d' : β → List AVal) (hd : ∀ a, d' (g a) = d a) (ok' : β → Prop) (hok : ∀ a, ok a → ok' (g a)) : Tells P t n d' ok' := by
  intro H enc W base spare held fuel cs x hx hw
  obtain ⟨y, hy, hk⟩ := h H enc W base spare held fuel cs x hx hw
  exact ⟨g y, by rw [hd]; exact hy, hok y hk⟩
theorem okWide_agg {P : Program} {w : World} {r : Reach} {base : Nat} {t : TypeId} {v : Value} (ht : (∃ fs, P.underlying t = some (.struct fs)) ∨ ∃ n e, P.underlying t = some (.array n e)) (h : Value.okWide P w r base t v) : ∃ cs, v = .agg cs ∧ cs.size = P.cellsOf t := by
  rcases ht with ⟨fs, ht⟩ | ⟨n, e, ht⟩
  all_goals
    simp only [Value.okWide, ht] at h
    obtain ⟨cs, h1, h2, _⟩ := h
    exact ⟨cs, h1, h2⟩
section
variable {P : Program} {t : TypeId} {α : Type} {n : Nat} {d : α → List AVal} {ok : α → Prop} {H : Type} {enc : TypeId × Value → H} {W : World} {base : Nat} {spare : Nat → Bool} {held : Bool} {x : DataW H} {ps : List MemPlace} {ts : List TypeId} {ds : List (DataW H)}
/-- A struct (an array) that came in by value. -/
theorem Tells.agg (h : Tells P t n d ok) {cs : Array Value} (hsz : (DataW.weightsEach P ts ds).all (· ≤ reachBytes) = true) (j : Nat) (ht : ts[j]? = some t) (hd : ds[j]? = some x)
    (hx : DataW.Trod enc P W base spare held t (.agg cs) x ps) : ∃ y : α, Den W noC nm0 (.agg (d y)) (.agg cs) ∧ ok y := by
  obtain ⟨fuel, hf⟩ := hx
  have hf' : DataW.trod enc P W base spare held fuel t cs.toList = some (x, ps) := by simpa [Value.cells] using hf
  obtain ⟨y, ⟨hy, _⟩, hok⟩ := h H enc W base spare held fuel cs.toList (x, ps) hf' (fun b hb => by simpa using List.all_eq_true.1 hsz b (DataW.weights_mem_each ht hd b hb))
  exact ⟨y, .agg cs.toList hy.1 hy.2, hok⟩
/-- A value of one cell that came in. -/
theorem Tells.cell {f : α → AVal} (h : Tells P t 1 (fun y => [f y]) ok) {v : Value} (hv : v.cells = #[v]) (hsz : (DataW.weightsEach P ts ds).all (· ≤ reachBytes) = true) (j : Nat) (ht : ts[j]? = some t) (hd : ds[j]? = some x)
    (hx : DataW.Trod enc P W base spare held t v x ps) : ∃ y : α, Den W noC nm0 (f y) v ∧ ok y := by
  obtain ⟨fuel, hf⟩ := hx
  have hf' : DataW.trod enc P W base spare held fuel t [v] = some (x, ps) := by simpa [hv] using hf
  obtain ⟨y, ⟨hy, _⟩, hok⟩ := h H enc W base spare held fuel [v] (x, ps) hf' (fun b hb => by simpa using List.all_eq_true.1 hsz b (DataW.weights_mem_each ht hd b hb))
  exact ⟨y, hy.2 0 _ v rfl rfl, hok⟩
end
/-- A proved law at arguments that can only be read. -/
theorem law_ok {P : Program} {f : Nat} {sp : Spec} (hv : Valid P f sp) {W : World} {args : List AVal} {vals : List Value} (hd : DenL W noC nm0 args vals) (h : ∀ K : AVal → Hp → Nat → Prop, K (.v (.bool true)) [] 0 → sp.f args [] K) :
    Calls P f ⟨vals⟩ W fun e w' => e = .returned (.bool true) ∧ Below W.heap.size W w' := by
  refine Calls.mono (hv W noC nm0 args vals [] (fun r _ _ => r = .v (.bool true)) hd ?_ (h _ rfl)) ?_
  · exact ⟨fun m o h => (by cases h), fun m o m' o' b x b' x' h => (by cases h), fun m o b x h => (by cases h), fun m _ => rfl, rfl, rfl, rfl, Nat.le_refl _, fun b _ _ => rfl⟩
  · rintro e w' ⟨r, v, L', nx', ρ', rfl, hden, hp, _, hr⟩
    subst hr
    rw [den_v hden]
    exact ⟨rfl, hp.os, hp.tape, hp.output, hp.size, fun k hk => hp.old k hk (fun h => h)⟩
end Go.Proofs.YtfjfaajdbomhbaaE

/-! The law FnExactUncells, as its row states it: whatever the input the law returns true; no condition. -/
namespace Go.Proofs.Ytfjfaajdbomhbaa.fnExactUncells
open Go.ChangeShapes Go.WideShapes Go.ChangeAt Go.RowKit Go.Proofs.YtfjfaajdbomhbaaE
set_option linter.unusedVariables false
theorem own : ownKnob Try.prog.godebug = none := by kernel_rfl
theorem laidOut : laidOutB Try.prog = true := by kernel_rfl
theorem T5 : Tells Try.prog 5 1 (fun n : Int => [.v (.int .u8 n)]) (fun x : Int => 0 ≤ x ∧ x ≤ 255) := (Tells.int Try.underlying5).as (fun n : Int => n) _ (fun _ => rfl) _ (fun n h => by
  simp [Lit.wf, IntKind.min, IntKind.max, IntKind.bits, IntKind.signed] at h
  omega)
theorem T22 : Tells Try.prog 22 16 (enc .c16) (fun c => hd8 c) := (Tells.array (n := 1 + (1 + (1 + (1 + (1 + (1 + (1 + (1 + (1 + (1 + (1 + (1 + (1 + (1 + (1 + (1)))))))))))))))) Try.underlying22 (TellsF.cons (n := 1) (n' := 1 + (1 + (1 + (1 + (1 + (1 + (1 + (1 + (1 + (1 + (1 + (1 + (1 + (1 + (1))))))))))))))) T5 (by kernel_rfl) (by kernel_rfl) (TellsF.cons (n := 1) (n' := 1 + (1 + (1 + (1 + (1 + (1 + (1 + (1 + (1 + (1 + (1 + (1 + (1 + (1)))))))))))))) T5 (by kernel_rfl) (by kernel_rfl) (TellsF.cons (n := 1) (n' := 1 + (1 + (1 + (1 + (1 + (1 + (1 + (1 + (1 + (1 + (1 + (1 + (1))))))))))))) T5 (by kernel_rfl) (by kernel_rfl) (TellsF.cons (n := 1) (n' := 1 + (1 + (1 + (1 + (1 + (1 + (1 + (1 + (1 + (1 + (1 + (1)))))))))))) T5 (by kernel_rfl) (by kernel_rfl) (TellsF.cons (n := 1) (n' := 1 + (1 + (1 + (1 + (1 + (1 + (1 + (1 + (1 + (1 + (1))))))))))) T5 (by kernel_rfl) (by kernel_rfl) (TellsF.cons (n := 1) (n' := 1 + (1 + (1 + (1 + (1 + (1 + (1 + (1 + (1 + (1)))))))))) T5 (by kernel_rfl) (by kernel_rfl) (TellsF.cons (n := 1) (n' := 1 + (1 + (1 + (1 + (1 + (1 + (1 + (1 + (1))))))))) T5 (by kernel_rfl) (by kernel_rfl) (TellsF.cons (n := 1) (n' := 1 + (1 + (1 + (1 + (1 + (1 + (1 + (1)))))))) T5 (by kernel_rfl) (by kernel_rfl) (TellsF.cons (n := 1) (n' := 1 + (1 + (1 + (1 + (1 + (1 + (1))))))) T5 (by kernel_rfl) (by kernel_rfl) (TellsF.cons (n := 1) (n' := 1 + (1 + (1 + (1 + (1 + (1)))))) T5 (by kernel_rfl) (by kernel_rfl) (TellsF.cons (n := 1) (n' := 1 + (1 + (1 + (1 + (1))))) T5 (by kernel_rfl) (by kernel_rfl) (TellsF.cons (n := 1) (n' := 1 + (1 + (1 + (1)))) T5 (by kernel_rfl) (by kernel_rfl) (TellsF.cons (n := 1) (n' := 1 + (1 + (1))) T5 (by kernel_rfl) (by kernel_rfl) (TellsF.cons (n := 1) (n' := 1 + (1)) T5 (by kernel_rfl) (by kernel_rfl) (TellsF.cons (n := 1) (n' := 1) T5 (by kernel_rfl) (by kernel_rfl) (TellsF.one T5 (by kernel_rfl) (by kernel_rfl))))))))))))))))) (by kernel_rfl)).as (fun a => (⟨a.1, a.2.1, a.2.2.1, a.2.2.2.1, a.2.2.2.2.1, a.2.2.2.2.2.1, a.2.2.2.2.2.2.1, a.2.2.2.2.2.2.2.1, a.2.2.2.2.2.2.2.2.1, a.2.2.2.2.2.2.2.2.2.1, a.2.2.2.2.2.2.2.2.2.2.1, a.2.2.2.2.2.2.2.2.2.2.2.1, a.2.2.2.2.2.2.2.2.2.2.2.2.1, a.2.2.2.2.2.2.2.2.2.2.2.2.2.1, a.2.2.2.2.2.2.2.2.2.2.2.2.2.2.1, a.2.2.2.2.2.2.2.2.2.2.2.2.2.2.2⟩ : C16)) (enc .c16) (fun _ => rfl) _ (fun a h => h.1)
theorem T37 : Tells Try.prog 37 1 (fun xs : List C16 => [.rs .c16 xs]) (fun xs => xs.length ≤ 17592186044416 ∧ hdB xs) := (Tells.slice (τ := .c16) Try.underlying37 T22 (by kernel_rfl) (B := 16) (by kernel_rfl)).as id _ (fun _ => rfl) _ (fun xs h => ⟨by have := h.1; simp only [id]; omega, fun k hk => h.2.2 _ (by
  simp only [id] at hk ⊢
  rw [List.getD, List.getElem?_eq_getElem hk]; exact List.getElem_mem hk)⟩)
set_option maxRecDepth 100000 in
set_option maxHeartbeats 1000000 in
theorem lifted (os : Os) (started : os.Started) (H : Type) (enc : TypeId × Value → H) :
    ReturnsInHanded {} Try.checked os 8 .any (Rows.fnExactUncellsSpec.pre6 enc Try.prog Try.f8 Rows.fnExactUncellsRow.domain false) (Rows.fnExactUncellsSpec.post enc Try.prog Try.f8 false true false false) := by
  refine returnsInHanded_of_change_sized (C := Try.checked) own started (by kernel_rfl) Try.func8
    (ChangeSpec.witness6 (enc := enc) (C := Try.checked) false ⟨#[], #[.slice none 0 0], []⟩ 8 (by kernel_rfl) (by kernel_rfl) (by kernel_rfl) (by kernel_rfl)) ?_
  intro W base args ds gs before hval0 hW hcnd hsz0 _
  have hsz : (DataW.weightsEach Try.prog (Try.f8.params.toList ++ Rows.fnExactUncellsSpec.plain.varTypes Try.prog) (ds ++ gs)).all (· ≤ reachBytes) = true := hsz0
  have hval : ∀ (j : Nat) t v, Try.f8.params[j]? = some t → args[j]? = some v → Value.okWide Try.prog W .any base t v := hval0
  have hW' := hW
  obtain ⟨p, q, hA0, hV, rfl, hfz, hnd⟩ := hW
  have hA : DataW.TrodAll enc Try.prog W 0 (fun _ => true) true Try.f8.params.toList args.toList ds p := hA0
  rw [Try.params8] at hA hval hsz
  obtain ⟨v0, vs0, d0, ds0, p0, q0, hargs, rfl, rfl, h0, r0⟩ := trodAll_cons hA
  obtain ⟨rfl, rfl, rfl⟩ := trodAll_nil r0
  obtain rfl : args = #[v0] := by cases args; simp_all
  obtain ⟨rfl, rfl⟩ := trodVars_none hV
  obtain ⟨ax0, len0, cap0, rfl⟩ := okWide_slice Try.underlying37 (hval 0 37 v0 rfl rfl)
  have k0 := h0
  have lt0 : ∀ x ∈ p0, x.block < W.heap.size := by obtain ⟨m, hm⟩ := k0; exact DataW.trod_lt m _ _ _ hm
  obtain ⟨y0, hK0, o0⟩ := Tells.cell T37 rfl hsz 0 rfl rfl h0
  clear hA0 hval0 hsz0 hsz
  refine (law_ok valid8 (DenL.cons hK0 .nil) (fun K hk => ⟨o0, hk⟩)).mono fun e W' ⟨he, bel⟩ => ?_
  subst he
  exact ⟨_, rfl, _, _, _, [], _, [], hW', trodAll_mk1 (shut_bool Try.underlying4 _), (trodAll_cons_mk (Below.trod laidOut (by kernel_rfl) (of_decide_eq_true (by kernel_rfl)) k0 bel lt0) trodAll_mk0), rfl, bel.frame _, fun h => by cases h⟩
theorem over : Rows.fnExactUncellsRow.holds Try.pinned (OpenSpec.ofChange Rows.fnExactUncellsSpec) :=
  OpenClaim.holds_of_wide 8 Try.f8 rfl rfl rfl rfl rfl rfl rfl ⟨rfl, rfl, rfl, rfl, rfl⟩ rfl rfl rfl rfl rfl (by kernel_rfl) Try.func8 (by kernel_rfl)
    (of_decide_eq_true (by kernel_rfl)) (by unfold Func.isWrapper; first | (rw [if_pos (by decide +kernel)]; kernel_rfl) | (rw [if_neg (by decide +kernel)]; exact ⟨rfl, rfl⟩))
    (fun os started H enc _ => lifted os started H enc)
theorem proved : Rows.FnExactUncellsSaid := over
#print axioms proved
end Go.Proofs.Ytfjfaajdbomhbaa.fnExactUncells
namespace Go.Proofs.Ytfjfaajdbomhbaa
/-- The row, under a short name, for the claim. -/
theorem fnExactUncells_holds : Rows.FnExactUncellsSaid := fnExactUncells.proved
end Go.Proofs.Ytfjfaajdbomhbaa
