/- A part of a proof that a law of the given program holds for every input: no condition. -/
import Derived.Deep.Slices
import Derived.OpenShut
import Derived.SizedLaws
import Derived.WideLaws
import Derived.Test.YtfgefmkcmkihhaaRows
import Derived.ProofKit
import Derived.ShutString
import Derived.ChangeOld
import Derived.Below
import Derived.Test.YtfgefmkcmkihhaaKFnExactCarryAll2

/-! All notes are carried. -/
namespace Go.Proofs.YtfgefmkcmkihhaaE
open Go Go.RowKit
set_option linter.unusedSimpArgs false
set_option linter.unusedVariables false
set_option maxRecDepth 20000
set_option maxHeartbeats 4000000

def noteW (n : Note) : Nat := if n.kind = 1 ∨ n.kind = 4 then 2 else 1
def wq : List Note → Nat
  | [] => 0
  | n :: r => noteW n + wq r
theorem wq_app (a b : List Note) : wq (a ++ b) = wq a + wq b := by
  induction a with
  | nil => simp [wq]
  | cons n r ih => simp only [List.cons_append, wq, ih]; omega
theorem noteW_bd (n : Note) : 1 ≤ noteW n ∧ noteW n ≤ 2 := by unfold noteW; split <;> omega
theorem wq_bd (q : List Note) : q.length ≤ wq q ∧ wq q ≤ 2 * q.length := by
  induction q with
  | nil => simp [wq]
  | cons n r ih => simp only [List.length_cons, wq]; have := noteW_bd n; omega
def Tr.w (t : Tr) : Nat := wq t.q0 + wq t.q1
def Tr.n (t : Tr) : Nat := t.q0.length + t.q1.length
def sideOf (t : Tr) : Int := if t.q0.length = 0 then 1 else 0
noncomputable def allF : Nat → Tr → Tr × Bool
  | 0, t => (t, true)
  | k + 1, t => if t.n = 0 then (t, true) else if (carry t (sideOf t)).2 = true then allF k (carry t (sideOf t)).1 else (t, false)
theorem w_ge (t : Tr) : t.n ≤ t.w := by unfold Tr.n Tr.w; have := wq_bd t.q0; have := wq_bd t.q1; omega
theorem allF_done {t : Tr} (h : t.n = 0) (k : Nat) : allF k t = (t, true) := by
  cases k with
  | zero => rfl
  | succ k => unfold allF; rw [if_pos h]
theorem allF_step {t g : Tr} {k : Nat} (h : ¬ t.n = 0) (hc : carry t (sideOf t) = (g, true)) : allF (k + 1) t = allF k g := by
  rw [allF, if_neg h, hc]; simp
theorem allF_fail {t g : Tr} {k : Nat} (h : ¬ t.n = 0) (hc : carry t (sideOf t) = (g, false)) : allF (k + 1) t = (t, false) := by
  rw [allF, if_neg h, hc]; simp
theorem carried_w {t : Tr} {s : Int} (h : carryOk t s) : (carried t s).w + 1 ≤ t.w := by
  obtain ⟨hT, hs, hq, h4, h5⟩ := h
  have : s = 0 ∨ s = 1 := by omega
  obtain ⟨c0, c1, x, y, q0, q1⟩ := t
  rcases this with rfl | rfl
  · rcases q0 with _ | ⟨n, r⟩
    · exact absurd rfl hq
    · have hn := trOk_n0 hT
      have key : (0 < (arr0 ⟨c0, c1, x, y, n :: r, q1⟩ 0).back → noteW ⟨(arr0 ⟨c0, c1, x, y, n :: r, q1⟩ 0).back, n.circuit⟩ + 1 ≤ noteW n) := by
        rcases arrive_cases n.kind (c0.getD n.circuit.toNat 0) (decide (n.circuit.tmod 2 = 0)) hn.1 with ⟨hk, h1, ha⟩ | ⟨hk, h1, ho, ha⟩ | ⟨hk, h1, ho, ha⟩ | ⟨hk, h1, h2, ha⟩ | ⟨hk, h1, ha⟩ | ⟨hk, h1, ha⟩ | ⟨hk, h1, ha⟩ | ⟨hk, h1, ha⟩ | ⟨hk, h1, ha⟩ | ⟨hk, h1, ha⟩ | ⟨hk, h1, ha⟩ | ⟨hk, h1, ha⟩ <;>
          (intro hb; rw [show arr0 ⟨c0, c1, x, y, n :: r, q1⟩ 0 = _ from ha] at hb ⊢; simp [noteW, hk] at hb ⊢)
      have e1 : note0 ⟨c0, c1, x, y, n :: r, q1⟩ 0 = n := rfl
      have := noteW_bd n
      unfold carried
      rw [e1]
      dsimp only
      split <;> split <;> simp [Tr.setC, Tr.setQ, Tr.c, Tr.q, Tr.lose, Tr.w, wq_app, wq] <;> first | omega | (rename_i hb; have := key hb; omega) | (rename_i hb _; have := key hb; omega)
  · rcases q1 with _ | ⟨n, r⟩
    · exact absurd rfl hq
    · have hn := trOk_n1 hT
      have key : (0 < (arr0 ⟨c0, c1, x, y, q0, n :: r⟩ 1).back → noteW ⟨(arr0 ⟨c0, c1, x, y, q0, n :: r⟩ 1).back, n.circuit⟩ + 1 ≤ noteW n) := by
        rcases arrive_cases n.kind (c1.getD n.circuit.toNat 0) (decide (n.circuit.tmod 2 = 1)) hn.1 with ⟨hk, h1, ha⟩ | ⟨hk, h1, ho, ha⟩ | ⟨hk, h1, ho, ha⟩ | ⟨hk, h1, h2, ha⟩ | ⟨hk, h1, ha⟩ | ⟨hk, h1, ha⟩ | ⟨hk, h1, ha⟩ | ⟨hk, h1, ha⟩ | ⟨hk, h1, ha⟩ | ⟨hk, h1, ha⟩ | ⟨hk, h1, ha⟩ | ⟨hk, h1, ha⟩ <;>
          (intro hb; rw [show arr0 ⟨c0, c1, x, y, q0, n :: r⟩ 1 = _ from ha] at hb ⊢; simp [noteW, hk] at hb ⊢)
      have e1 : note0 ⟨c0, c1, x, y, q0, n :: r⟩ 1 = n := rfl
      have := noteW_bd n
      unfold carried
      rw [e1]
      dsimp only
      split <;> split <;> simp [Tr.setC, Tr.setQ, Tr.c, Tr.q, Tr.lose, Tr.w, wq_app, wq] <;> first | omega | (rename_i hb; have := key hb; omega) | (rename_i hb _; have := key hb; omega)
theorem carry_w {t g : Tr} {s : Int} (h : carry t s = (g, true)) : g.w + 1 ≤ t.w := by
  by_cases hl : carryOk t s
  · rw [carry_yes hl] at h; cases h; exact carried_w hl
  · rw [carry_no hl] at h; cases h
theorem allF_ch : ∀ (k : Nat) (t : Tr), t.w ≤ k → (allF k t).2 = true → (allF k t).1.n = 0 ∧ (allF k t).1.c0.length = t.c0.length ∧ (allF k t).1.c1.length = t.c1.length
  | 0, t, hw, _ => by
    have := w_ge t
    exact ⟨by show t.n = 0; omega, rfl, rfl⟩
  | k + 1, t, hw, h => by
    by_cases hn : t.n = 0
    · rw [allF_done hn]; exact ⟨hn, rfl, rfl⟩
    · rcases hc : carry t (sideOf t) with ⟨g, b⟩
      cases b
      · rw [allF_fail hn hc] at h; cases h
      · rw [allF_step hn hc] at h ⊢
        have hw2 := carry_w hc
        have hl := carry_len hc
        obtain ⟨h1, h2, h3⟩ := allF_ch k g (by omega) h
        exact ⟨h1, h2.trans hl.1, h3.trans hl.2.1⟩
open Classical in
noncomputable def carryAll (t : Tr) : Tr := if trOk t = true ∧ (allF t.w t).2 = true then (allF t.w t).1 else t
theorem carryAll_len (t : Tr) : (carryAll t).c0.length = t.c0.length ∧ (carryAll t).c1.length = t.c1.length ∧ (carryAll t).q0.length ≤ t.q0.length + 1 ∧ (carryAll t).q1.length ≤ t.q1.length + 1 := by
  unfold carryAll
  split
  · rename_i h
    obtain ⟨h1, h2, h3⟩ := allF_ch t.w t (Nat.le_refl _) h.2
    unfold Tr.n at h1
    exact ⟨h2, h3, by omega, by omega⟩
  · simp
def spCarryAll : Spec := ⟨fun _ => [], fun args objs K => match args, objs with
  | [.agg [.rs .int c0, .rs .int c1, .v (.int .i64 x), .v (.int .i64 y), .rs .note q0, .rs .note q1]], [] => (c0.length ≤ 1099511627776 ∧ c1.length ≤ 1099511627776 ∧ q0.length ≤ 1099511627776 ∧ q1.length ≤ 1099511627776) ∧
      K (trA (carryAll ⟨c0, c1, x, y, q0, q1⟩)) (trL (carryAll ⟨c0, c1, x, y, q0, q1⟩)) 4
  | _, _ => False⟩
theorem spCarryAll_t {a : List AVal} : spCarryAll.take a = [] := id rfl
theorem spCarryAll_f {c0} {c1} {x} {y} {q0} {q1} {K : AVal → Hp → Nat → Prop} : Spec.f spCarryAll ([.agg [.rs .int c0, .rs .int c1, .v (.int .i64 x), .v (.int .i64 y), .rs .note q0, .rs .note q1]]) ([]) K = ((c0.length ≤ 1099511627776 ∧ c1.length ≤ 1099511627776 ∧ q0.length ≤ 1099511627776 ∧ q1.length ≤ 1099511627776) ∧
      K (trA (carryAll ⟨c0, c1, x, y, q0, q1⟩)) (trL (carryAll ⟨c0, c1, x, y, q0, q1⟩)) 4) := id rfl
end Go.Proofs.YtfgefmkcmkihhaaE

/-! CarryAll. -/
namespace Go.Proofs.YtfgefmkcmkihhaaE
open Go Go.RowKit
set_option linter.unusedSimpArgs false
set_option linter.unusedVariables false
set_option maxRecDepth 20000
set_option maxHeartbeats 4000000

theorem valid20 : Valid Try.prog 20 spCarryAll := by
  refine validI (Γ := lk [(35, spToTr), (36, spTrOk), (18, spCarry)]) Try.func20 bod20 low20 res20 (good_of ⟨⟨cal35, valid35⟩, ⟨cal36, valid36⟩, ⟨cal18, valid18⟩, trivial⟩) ?_
  intro E args objs K h hE hG hP
  simp only [spCarryAll] at h
  split at h
  · refine ⟨by simp [Try.ntmps20], ?_⟩
    rename_i c0 c1 x y q0 q1
    obtain ⟨⟨b1, b2, b3, b4⟩, h⟩ := h
    by_cases hT : trOk ⟨c0, c1, x, y, q0, q1⟩ = true
    · have hw0 : Tr.w ⟨c0, c1, x, y, q0, q1⟩ ≤ 240 := by
        have h1 : q0.length ≤ 60 ∧ q1.length ≤ 60 := trOk_q hT
        have h2 := wq_bd q0
        have h3 := wq_bd q1
        unfold Tr.w
        dsimp only
        omega
      simp only [go_sem, hG, hP, Nat.reduceEqDiff, ↓reduceIte, reduceCtorEq, Nat.reduceAdd, Nat.reduceSub, Nat.reduceMul, Nat.reduceLT, Nat.reduceLeDiff, Int.reduceAdd, Int.reduceSub, Int.reduceMul, Int.reduceLT, Int.reduceLE, Int.reduceEq, Int.reduceNeg, Int.reduceNe, Int.reduceGE, Int.reduceGT, Nat.reduceBEq, Int.reduceToNat,  spToTr_f, spToTr_t, spTrOk_f, spTrOk_t, hT]
      repeat (refine And.intro (by first | omega | (simp; done) | (simp; omega) | (unfold appRoom; omega)) ?_)
      refine loopI hE (fun d : Tr => ⟨[(1, .ptr 0 0), (2, .ptr 1 0), (3, .ptr 2 0)], [(0, .box [.sub 3 1 0 d.c0.length, .sub 4 1 0 d.c1.length, .v (.int .i64 d.x), .v (.int .i64 d.y), .sub 5 2 0 d.q0.length, .sub 6 2 0 d.q1.length]), (1, .box [.v (.slice none 0 0), .v (.slice none 0 0), .v (.int .i64 0), .v (.int .i64 0), .v (.slice none 0 0), .v (.slice none 0 0)]), (2, .box [.sub 7 1 0 c0.length, .sub 8 1 0 c1.length, .v (.int .i64 x), .v (.int .i64 y), .sub 9 2 0 q0.length, .sub 10 2 0 q1.length]), (3, .row .int d.c0), (4, .row .int d.c1), (5, .row .note d.q0), (6, .row .note d.q1), (7, .row .int c0), (8, .row .int c1), (9, .row .note q0), (10, .row .note q1)], 11, Try.f20.ntmps⟩) (fun d => (d.c0.length = c0.length ∧ d.c1.length = c1.length) ∧ d.w ≤ 240 ∧ ∃ k, d.w ≤ k ∧ allF k d = allF (Tr.w ⟨c0, c1, x, y, q0, q1⟩) ⟨c0, c1, x, y, q0, q1⟩) (fun d => d.w) ⟨⟨c0, c1, x, y, q0, q1⟩, ⟨⟨rfl, rfl⟩, hw0, _, Nat.le_refl _, rfl⟩, SubS.weak ?_⟩ ?_
      · simp only [go_sem, hG, hP, Nat.reduceEqDiff, ↓reduceIte, reduceCtorEq, Nat.reduceAdd, Nat.reduceSub, Nat.reduceMul, Nat.reduceLT, Nat.reduceLeDiff, Int.reduceAdd, Int.reduceSub, Int.reduceMul, Int.reduceLT, Int.reduceLE, Int.reduceEq, Int.reduceNeg, Int.reduceNe, Int.reduceGE, Int.reduceGT, Nat.reduceBEq, Int.reduceToNat]
        all_goals simp
      · rintro ⟨d0, d1, x', y', p0, p1⟩ ⟨⟨l1, l2⟩, hw, k, hk, he⟩
        have hwg := w_ge ⟨d0, d1, x', y', p0, p1⟩
        unfold Tr.n at hwg
        dsimp only at hwg l1 l2
        have hk : Tr.w ⟨d0, d1, x', y', p0, p1⟩ ≤ k := hk
        have hw : Tr.w ⟨d0, d1, x', y', p0, p1⟩ ≤ 240 := hw
        have he : allF k ⟨d0, d1, x', y', p0, p1⟩ = allF (Tr.w ⟨c0, c1, x, y, q0, q1⟩) ⟨c0, c1, x, y, q0, q1⟩ := he
        have hp : p0.length + p1.length ≤ 240 := by omega
        have hwr : wr .i64 ((p0.length : Int) + (p1.length : Int)) = (p0.length : Int) + (p1.length : Int) := wrap_id (by omega) (by omega)
        by_cases hn : p0.length + p1.length = 0
        · have hgt : ((p0.length : Int) + (p1.length : Int) > 0) = False := by apply eq_false; omega
          simp only [go_sem, hG, hP, Nat.reduceEqDiff, ↓reduceIte, reduceCtorEq, Nat.reduceAdd, Nat.reduceSub, Nat.reduceMul, Nat.reduceLT, Nat.reduceLeDiff, Int.reduceAdd, Int.reduceSub, Int.reduceMul, Int.reduceLT, Int.reduceLE, Int.reduceEq, Int.reduceNeg, Int.reduceNe, Int.reduceGE, Int.reduceGT, Nat.reduceBEq, Int.reduceToNat,  hwr, hgt]
          have hR : carryAll ⟨c0, c1, x, y, q0, q1⟩ = ⟨d0, d1, x', y', p0, p1⟩ := by
            unfold carryAll
            rw [← he, allF_done (t := ⟨d0, d1, x', y', p0, p1⟩) (by unfold Tr.n; exact hn)]
            simp [hT]
          rw [hR] at h
          refine ⟨_, _, _, ?_, h⟩
          simp only [trA_eq, trL_eq]
          simp only [go_sem, hG, hP, Nat.reduceEqDiff, ↓reduceIte, reduceCtorEq, Nat.reduceAdd, Nat.reduceSub, Nat.reduceMul, Nat.reduceLT, Nat.reduceLeDiff, Int.reduceAdd, Int.reduceSub, Int.reduceMul, Int.reduceLT, Int.reduceLE, Int.reduceEq, Int.reduceNeg, Int.reduceNe, Int.reduceGE, Int.reduceGT, Nat.reduceBEq, Int.reduceToNat]
          all_goals simp
        · have hgt : ((p0.length : Int) + (p1.length : Int) > 0) = True := by apply eq_true; omega
          by_cases h0 : p0.length = 0
          · have hside : sideOf ⟨d0, d1, x', y', p0, p1⟩ = 1 := if_pos h0
            have h0e : ((p0.length : Int) = 0) = True := by apply eq_true; omega
            rcases hc : carry ⟨d0, d1, x', y', p0, p1⟩ 1 with ⟨⟨e0, e1, x2, y2, r0, r1⟩, b⟩
            have hcl := carry_len hc
            dsimp only at hcl
            cases b
            · simp only [go_sem, hG, hP, Nat.reduceEqDiff, ↓reduceIte, reduceCtorEq, Nat.reduceAdd, Nat.reduceSub, Nat.reduceMul, Nat.reduceLT, Nat.reduceLeDiff, Int.reduceAdd, Int.reduceSub, Int.reduceMul, Int.reduceLT, Int.reduceLE, Int.reduceEq, Int.reduceNeg, Int.reduceNe, Int.reduceGE, Int.reduceGT, Nat.reduceBEq, Int.reduceToNat,  spCarry_f, spCarry_t, hc, trA_eq, trL_eq, hwr, hgt, h0e]
              repeat (refine And.intro (by first | omega | (simp; done) | (simp; omega) | (unfold appRoom; omega)) ?_)
              have hR : carryAll ⟨c0, c1, x, y, q0, q1⟩ = ⟨c0, c1, x, y, q0, q1⟩ := by
                unfold carryAll
                rw [if_neg (fun e => by rw [← he] at e; obtain ⟨k', rfl⟩ : ∃ k', k = k' + 1 := ⟨k - 1, by omega⟩; rw [allF_fail (t := ⟨d0, d1, x', y', p0, p1⟩) (by unfold Tr.n; exact hn) (by rw [hside]; exact hc)] at e; exact absurd e.2 (by simp))]
              rw [hR] at h
              refine ⟨_, _, _, ?_, h⟩
              simp only [trA_eq, trL_eq]
              simp only [go_sem, hG, hP, Nat.reduceEqDiff, ↓reduceIte, reduceCtorEq, Nat.reduceAdd, Nat.reduceSub, Nat.reduceMul, Nat.reduceLT, Nat.reduceLeDiff, Int.reduceAdd, Int.reduceSub, Int.reduceMul, Int.reduceLT, Int.reduceLE, Int.reduceEq, Int.reduceNeg, Int.reduceNe, Int.reduceGE, Int.reduceGT, Nat.reduceBEq, Int.reduceToNat]
              all_goals simp
            · have hcw := carry_w hc
              obtain ⟨k', rfl⟩ : ∃ k', k = k' + 1 := ⟨k - 1, by omega⟩
              have he' : allF k' ⟨e0, e1, x2, y2, r0, r1⟩ = allF (Tr.w ⟨c0, c1, x, y, q0, q1⟩) ⟨c0, c1, x, y, q0, q1⟩ := by rw [← he, allF_step (t := ⟨d0, d1, x', y', p0, p1⟩) (by unfold Tr.n; exact hn) (by rw [hside]; exact hc)]
              simp only [go_sem, hG, hP, Nat.reduceEqDiff, ↓reduceIte, reduceCtorEq, Nat.reduceAdd, Nat.reduceSub, Nat.reduceMul, Nat.reduceLT, Nat.reduceLeDiff, Int.reduceAdd, Int.reduceSub, Int.reduceMul, Int.reduceLT, Int.reduceLE, Int.reduceEq, Int.reduceNeg, Int.reduceNe, Int.reduceGE, Int.reduceGT, Nat.reduceBEq, Int.reduceToNat,  spCarry_f, spCarry_t, hc, trA_eq, trL_eq, hwr, hgt, h0e]
              repeat (refine And.intro (by first | omega | (simp; done) | (simp; omega) | (unfold appRoom; omega)) ?_)
              refine ⟨⟨e0, e1, x2, y2, r0, r1⟩, ⟨⟨⟨hcl.1.trans l1, hcl.2.1.trans l2⟩, by have : Tr.w ⟨e0, e1, x2, y2, r0, r1⟩ + 1 ≤ Tr.w ⟨d0, d1, x', y', p0, p1⟩ := hcw; omega, k', by have : Tr.w ⟨e0, e1, x2, y2, r0, r1⟩ + 1 ≤ Tr.w ⟨d0, d1, x', y', p0, p1⟩ := hcw; omega, he'⟩, by first | omega | (dsimp only; omega)⟩, SubS.weak ?_⟩
              simp only [go_sem, hG, hP, Nat.reduceEqDiff, ↓reduceIte, reduceCtorEq, Nat.reduceAdd, Nat.reduceSub, Nat.reduceMul, Nat.reduceLT, Nat.reduceLeDiff, Int.reduceAdd, Int.reduceSub, Int.reduceMul, Int.reduceLT, Int.reduceLE, Int.reduceEq, Int.reduceNeg, Int.reduceNe, Int.reduceGE, Int.reduceGT, Nat.reduceBEq, Int.reduceToNat]
              all_goals simp
          · have hside : sideOf ⟨d0, d1, x', y', p0, p1⟩ = 0 := if_neg h0
            have h0e : ((p0.length : Int) = 0) = False := by apply eq_false; omega
            rcases hc : carry ⟨d0, d1, x', y', p0, p1⟩ 0 with ⟨⟨e0, e1, x2, y2, r0, r1⟩, b⟩
            have hcl := carry_len hc
            dsimp only at hcl
            cases b
            · simp only [go_sem, hG, hP, Nat.reduceEqDiff, ↓reduceIte, reduceCtorEq, Nat.reduceAdd, Nat.reduceSub, Nat.reduceMul, Nat.reduceLT, Nat.reduceLeDiff, Int.reduceAdd, Int.reduceSub, Int.reduceMul, Int.reduceLT, Int.reduceLE, Int.reduceEq, Int.reduceNeg, Int.reduceNe, Int.reduceGE, Int.reduceGT, Nat.reduceBEq, Int.reduceToNat,  spCarry_f, spCarry_t, hc, trA_eq, trL_eq, hwr, hgt, h0e]
              repeat (refine And.intro (by first | omega | (simp; done) | (simp; omega) | (unfold appRoom; omega)) ?_)
              have hR : carryAll ⟨c0, c1, x, y, q0, q1⟩ = ⟨c0, c1, x, y, q0, q1⟩ := by
                unfold carryAll
                rw [if_neg (fun e => by rw [← he] at e; obtain ⟨k', rfl⟩ : ∃ k', k = k' + 1 := ⟨k - 1, by omega⟩; rw [allF_fail (t := ⟨d0, d1, x', y', p0, p1⟩) (by unfold Tr.n; exact hn) (by rw [hside]; exact hc)] at e; exact absurd e.2 (by simp))]
              rw [hR] at h
              refine ⟨_, _, _, ?_, h⟩
              simp only [trA_eq, trL_eq]
              simp only [go_sem, hG, hP, Nat.reduceEqDiff, ↓reduceIte, reduceCtorEq, Nat.reduceAdd, Nat.reduceSub, Nat.reduceMul, Nat.reduceLT, Nat.reduceLeDiff, Int.reduceAdd, Int.reduceSub, Int.reduceMul, Int.reduceLT, Int.reduceLE, Int.reduceEq, Int.reduceNeg, Int.reduceNe, Int.reduceGE, Int.reduceGT, Nat.reduceBEq, Int.reduceToNat]
              all_goals simp
            · have hcw := carry_w hc
              obtain ⟨k', rfl⟩ : ∃ k', k = k' + 1 := ⟨k - 1, by omega⟩
              have he' : allF k' ⟨e0, e1, x2, y2, r0, r1⟩ = allF (Tr.w ⟨c0, c1, x, y, q0, q1⟩) ⟨c0, c1, x, y, q0, q1⟩ := by rw [← he, allF_step (t := ⟨d0, d1, x', y', p0, p1⟩) (by unfold Tr.n; exact hn) (by rw [hside]; exact hc)]
              simp only [go_sem, hG, hP, Nat.reduceEqDiff, ↓reduceIte, reduceCtorEq, Nat.reduceAdd, Nat.reduceSub, Nat.reduceMul, Nat.reduceLT, Nat.reduceLeDiff, Int.reduceAdd, Int.reduceSub, Int.reduceMul, Int.reduceLT, Int.reduceLE, Int.reduceEq, Int.reduceNeg, Int.reduceNe, Int.reduceGE, Int.reduceGT, Nat.reduceBEq, Int.reduceToNat,  spCarry_f, spCarry_t, hc, trA_eq, trL_eq, hwr, hgt, h0e]
              repeat (refine And.intro (by first | omega | (simp; done) | (simp; omega) | (unfold appRoom; omega)) ?_)
              refine ⟨⟨e0, e1, x2, y2, r0, r1⟩, ⟨⟨⟨hcl.1.trans l1, hcl.2.1.trans l2⟩, by have : Tr.w ⟨e0, e1, x2, y2, r0, r1⟩ + 1 ≤ Tr.w ⟨d0, d1, x', y', p0, p1⟩ := hcw; omega, k', by have : Tr.w ⟨e0, e1, x2, y2, r0, r1⟩ + 1 ≤ Tr.w ⟨d0, d1, x', y', p0, p1⟩ := hcw; omega, he'⟩, by first | omega | (dsimp only; omega)⟩, SubS.weak ?_⟩
              simp only [go_sem, hG, hP, Nat.reduceEqDiff, ↓reduceIte, reduceCtorEq, Nat.reduceAdd, Nat.reduceSub, Nat.reduceMul, Nat.reduceLT, Nat.reduceLeDiff, Int.reduceAdd, Int.reduceSub, Int.reduceMul, Int.reduceLT, Int.reduceLE, Int.reduceEq, Int.reduceNeg, Int.reduceNe, Int.reduceGE, Int.reduceGT, Nat.reduceBEq, Int.reduceToNat]
              all_goals simp
    · simp only [go_sem, hG, hP, Nat.reduceEqDiff, ↓reduceIte, reduceCtorEq, Nat.reduceAdd, Nat.reduceSub, Nat.reduceMul, Nat.reduceLT, Nat.reduceLeDiff, Int.reduceAdd, Int.reduceSub, Int.reduceMul, Int.reduceLT, Int.reduceLE, Int.reduceEq, Int.reduceNeg, Int.reduceNe, Int.reduceGE, Int.reduceGT, Nat.reduceBEq, Int.reduceToNat,  spToTr_f, spToTr_t, spTrOk_f, spTrOk_t, hT]
      repeat (refine And.intro (by first | omega | (simp; done) | (simp; omega) | (unfold appRoom; omega)) ?_)
      have hR : carryAll ⟨c0, c1, x, y, q0, q1⟩ = ⟨c0, c1, x, y, q0, q1⟩ := if_neg (fun e => hT e.1)
      rw [hR] at h
      refine ⟨_, _, _, ?_, h⟩
      simp only [trA_eq, trL_eq]
      simp only [go_sem, hG, hP, Nat.reduceEqDiff, ↓reduceIte, reduceCtorEq, Nat.reduceAdd, Nat.reduceSub, Nat.reduceMul, Nat.reduceLT, Nat.reduceLeDiff, Int.reduceAdd, Int.reduceSub, Int.reduceMul, Int.reduceLT, Int.reduceLE, Int.reduceEq, Int.reduceNeg, Int.reduceNe, Int.reduceGE, Int.reduceGT, Nat.reduceBEq, Int.reduceToNat]
      all_goals simp
  · exact h.elim
theorem valid19 : Valid Try.prog 19 spCarryAll := by
  refine validI (Γ := lk [(29, spToTr), (24, spTrOk), (17, spCarry)]) Try.func19 bod19 low19 res19 (good_of ⟨⟨cal29, valid29⟩, ⟨cal24, valid24⟩, ⟨cal17, valid17⟩, trivial⟩) ?_
  intro E args objs K h hE hG hP
  simp only [spCarryAll] at h
  split at h
  · refine ⟨by simp [Try.ntmps19], ?_⟩
    rename_i c0 c1 x y q0 q1
    obtain ⟨⟨b1, b2, b3, b4⟩, h⟩ := h
    by_cases hT : trOk ⟨c0, c1, x, y, q0, q1⟩ = true
    · have hw0 : Tr.w ⟨c0, c1, x, y, q0, q1⟩ ≤ 240 := by
        have h1 : q0.length ≤ 60 ∧ q1.length ≤ 60 := trOk_q hT
        have h2 := wq_bd q0
        have h3 := wq_bd q1
        unfold Tr.w
        dsimp only
        omega
      simp only [go_sem, hG, hP, Nat.reduceEqDiff, ↓reduceIte, reduceCtorEq, Nat.reduceAdd, Nat.reduceSub, Nat.reduceMul, Nat.reduceLT, Nat.reduceLeDiff, Int.reduceAdd, Int.reduceSub, Int.reduceMul, Int.reduceLT, Int.reduceLE, Int.reduceEq, Int.reduceNeg, Int.reduceNe, Int.reduceGE, Int.reduceGT, Nat.reduceBEq, Int.reduceToNat,  spToTr_f, spToTr_t, spTrOk_f, spTrOk_t, hT]
      repeat (refine And.intro (by first | omega | (simp; done) | (simp; omega) | (unfold appRoom; omega)) ?_)
      refine loopI hE (fun d : Tr × Bool => ⟨[(1, .ptr 2 0), (2, .ptr 1 0), (3, .v (.bool d.2)), (4, .ptr 0 0)], [(0, .box [.sub 3 1 0 d.1.c0.length, .sub 4 1 0 d.1.c1.length, .v (.int .i64 d.1.x), .v (.int .i64 d.1.y), .sub 5 2 0 d.1.q0.length, .sub 6 2 0 d.1.q1.length]), (1, .box [.v (.slice none 0 0), .v (.slice none 0 0), .v (.int .i64 0), .v (.int .i64 0), .v (.slice none 0 0), .v (.slice none 0 0)]), (2, .box [.sub 7 1 0 c0.length, .sub 8 1 0 c1.length, .v (.int .i64 x), .v (.int .i64 y), .sub 9 2 0 q0.length, .sub 10 2 0 q1.length]), (3, .row .int d.1.c0), (4, .row .int d.1.c1), (5, .row .note d.1.q0), (6, .row .note d.1.q1), (7, .row .int c0), (8, .row .int c1), (9, .row .note q0), (10, .row .note q1)], 11, Try.f19.ntmps⟩) (fun d => (d.1.c0.length = c0.length ∧ d.1.c1.length = c1.length) ∧ ((d.2 = true ∧ d.1.w ≤ 240 ∧ ∃ k, d.1.w ≤ k ∧ allF k d.1 = allF (Tr.w ⟨c0, c1, x, y, q0, q1⟩) ⟨c0, c1, x, y, q0, q1⟩) ∨ (d.2 = false ∧ carryAll ⟨c0, c1, x, y, q0, q1⟩ = ⟨c0, c1, x, y, q0, q1⟩))) (fun d => if d.2 = true then d.1.w + 1 else 0) ⟨(⟨c0, c1, x, y, q0, q1⟩, true), ⟨⟨rfl, rfl⟩, .inl ⟨rfl, hw0, _, Nat.le_refl _, rfl⟩⟩, SubS.weak ?_⟩ ?_
      · simp only [go_sem, hG, hP, Nat.reduceEqDiff, ↓reduceIte, reduceCtorEq, Nat.reduceAdd, Nat.reduceSub, Nat.reduceMul, Nat.reduceLT, Nat.reduceLeDiff, Int.reduceAdd, Int.reduceSub, Int.reduceMul, Int.reduceLT, Int.reduceLE, Int.reduceEq, Int.reduceNeg, Int.reduceNe, Int.reduceGE, Int.reduceGT, Nat.reduceBEq, Int.reduceToNat]
        all_goals simp
      · rintro ⟨⟨d0, d1, x', y', p0, p1⟩, okb⟩ ⟨⟨l1, l2⟩, ⟨hb, hw, k, hk, he⟩ | ⟨hb, hR⟩⟩
        · obtain rfl : okb = true := hb
          have hwg := w_ge ⟨d0, d1, x', y', p0, p1⟩
          unfold Tr.n at hwg
          dsimp only at hwg l1 l2
          have hk : Tr.w ⟨d0, d1, x', y', p0, p1⟩ ≤ k := hk
          have hw : Tr.w ⟨d0, d1, x', y', p0, p1⟩ ≤ 240 := hw
          have he : allF k ⟨d0, d1, x', y', p0, p1⟩ = allF (Tr.w ⟨c0, c1, x, y, q0, q1⟩) ⟨c0, c1, x, y, q0, q1⟩ := he
          have hp : p0.length + p1.length ≤ 240 := by omega
          have hwr : wr .i64 ((p0.length : Int) + (p1.length : Int)) = (p0.length : Int) + (p1.length : Int) := wrap_id (by omega) (by omega)
          by_cases hn : p0.length + p1.length = 0
          · have hgt : ((p0.length : Int) + (p1.length : Int) > 0) = False := by apply eq_false; omega
            simp only [go_sem, hG, hP, Nat.reduceEqDiff, ↓reduceIte, reduceCtorEq, Nat.reduceAdd, Nat.reduceSub, Nat.reduceMul, Nat.reduceLT, Nat.reduceLeDiff, Int.reduceAdd, Int.reduceSub, Int.reduceMul, Int.reduceLT, Int.reduceLE, Int.reduceEq, Int.reduceNeg, Int.reduceNe, Int.reduceGE, Int.reduceGT, Nat.reduceBEq, Int.reduceToNat,  hwr, hgt]
            have hR : carryAll ⟨c0, c1, x, y, q0, q1⟩ = ⟨d0, d1, x', y', p0, p1⟩ := by
              unfold carryAll
              rw [← he, allF_done (t := ⟨d0, d1, x', y', p0, p1⟩) (by unfold Tr.n; exact hn)]
              simp [hT]
            rw [hR] at h
            refine ⟨_, _, _, ?_, h⟩
            simp only [trA_eq, trL_eq]
            simp only [go_sem, hG, hP, Nat.reduceEqDiff, ↓reduceIte, reduceCtorEq, Nat.reduceAdd, Nat.reduceSub, Nat.reduceMul, Nat.reduceLT, Nat.reduceLeDiff, Int.reduceAdd, Int.reduceSub, Int.reduceMul, Int.reduceLT, Int.reduceLE, Int.reduceEq, Int.reduceNeg, Int.reduceNe, Int.reduceGE, Int.reduceGT, Nat.reduceBEq, Int.reduceToNat]
            all_goals simp
          · have hgt : ((p0.length : Int) + (p1.length : Int) > 0) = True := by apply eq_true; omega
            by_cases h0 : p0.length = 0
            · have hside : sideOf ⟨d0, d1, x', y', p0, p1⟩ = 1 := if_pos h0
              have h0e : ((p0.length : Int) = 0) = True := by apply eq_true; omega
              rcases hc : carry ⟨d0, d1, x', y', p0, p1⟩ 1 with ⟨⟨e0, e1, x2, y2, r0, r1⟩, b⟩
              have hcl := carry_len hc
              dsimp only at hcl
              cases b
              · simp only [go_sem, hG, hP, Nat.reduceEqDiff, ↓reduceIte, reduceCtorEq, Nat.reduceAdd, Nat.reduceSub, Nat.reduceMul, Nat.reduceLT, Nat.reduceLeDiff, Int.reduceAdd, Int.reduceSub, Int.reduceMul, Int.reduceLT, Int.reduceLE, Int.reduceEq, Int.reduceNeg, Int.reduceNe, Int.reduceGE, Int.reduceGT, Nat.reduceBEq, Int.reduceToNat,  spCarry_f, spCarry_t, hc, trA_eq, trL_eq, hwr, hgt, h0e]
                repeat (refine And.intro (by first | omega | (simp; done) | (simp; omega) | (unfold appRoom; omega)) ?_)
                refine ⟨(⟨e0, e1, x2, y2, r0, r1⟩, false), ⟨⟨⟨hcl.1.trans l1, hcl.2.1.trans l2⟩, .inr ⟨rfl, ?_⟩⟩, by dsimp only; simp⟩, SubS.weak ?_⟩
                · have hR : carryAll ⟨c0, c1, x, y, q0, q1⟩ = ⟨c0, c1, x, y, q0, q1⟩ := by
                    unfold carryAll
                    rw [if_neg (fun e => by rw [← he] at e; obtain ⟨k', rfl⟩ : ∃ k', k = k' + 1 := ⟨k - 1, by omega⟩; rw [allF_fail (t := ⟨d0, d1, x', y', p0, p1⟩) (by unfold Tr.n; exact hn) (by rw [hside]; exact hc)] at e; exact absurd e.2 (by simp))]
                  exact hR
                · simp only [go_sem, hG, hP, Nat.reduceEqDiff, ↓reduceIte, reduceCtorEq, Nat.reduceAdd, Nat.reduceSub, Nat.reduceMul, Nat.reduceLT, Nat.reduceLeDiff, Int.reduceAdd, Int.reduceSub, Int.reduceMul, Int.reduceLT, Int.reduceLE, Int.reduceEq, Int.reduceNeg, Int.reduceNe, Int.reduceGE, Int.reduceGT, Nat.reduceBEq, Int.reduceToNat]
                  all_goals simp
              · have hcw := carry_w hc
                obtain ⟨k', rfl⟩ : ∃ k', k = k' + 1 := ⟨k - 1, by omega⟩
                have he' : allF k' ⟨e0, e1, x2, y2, r0, r1⟩ = allF (Tr.w ⟨c0, c1, x, y, q0, q1⟩) ⟨c0, c1, x, y, q0, q1⟩ := by rw [← he, allF_step (t := ⟨d0, d1, x', y', p0, p1⟩) (by unfold Tr.n; exact hn) (by rw [hside]; exact hc)]
                simp only [go_sem, hG, hP, Nat.reduceEqDiff, ↓reduceIte, reduceCtorEq, Nat.reduceAdd, Nat.reduceSub, Nat.reduceMul, Nat.reduceLT, Nat.reduceLeDiff, Int.reduceAdd, Int.reduceSub, Int.reduceMul, Int.reduceLT, Int.reduceLE, Int.reduceEq, Int.reduceNeg, Int.reduceNe, Int.reduceGE, Int.reduceGT, Nat.reduceBEq, Int.reduceToNat,  spCarry_f, spCarry_t, hc, trA_eq, trL_eq, hwr, hgt, h0e]
                repeat (refine And.intro (by first | omega | (simp; done) | (simp; omega) | (unfold appRoom; omega)) ?_)
                refine ⟨(⟨e0, e1, x2, y2, r0, r1⟩, true), ⟨⟨⟨hcl.1.trans l1, hcl.2.1.trans l2⟩, .inl ⟨rfl, by have : Tr.w ⟨e0, e1, x2, y2, r0, r1⟩ + 1 ≤ Tr.w ⟨d0, d1, x', y', p0, p1⟩ := hcw; dsimp only; omega, k', by have : Tr.w ⟨e0, e1, x2, y2, r0, r1⟩ + 1 ≤ Tr.w ⟨d0, d1, x', y', p0, p1⟩ := hcw; dsimp only; omega, he'⟩⟩, by dsimp only; simp; omega⟩, SubS.weak ?_⟩
                simp only [go_sem, hG, hP, Nat.reduceEqDiff, ↓reduceIte, reduceCtorEq, Nat.reduceAdd, Nat.reduceSub, Nat.reduceMul, Nat.reduceLT, Nat.reduceLeDiff, Int.reduceAdd, Int.reduceSub, Int.reduceMul, Int.reduceLT, Int.reduceLE, Int.reduceEq, Int.reduceNeg, Int.reduceNe, Int.reduceGE, Int.reduceGT, Nat.reduceBEq, Int.reduceToNat]
                all_goals simp
            · have hside : sideOf ⟨d0, d1, x', y', p0, p1⟩ = 0 := if_neg h0
              have h0e : ((p0.length : Int) = 0) = False := by apply eq_false; omega
              rcases hc : carry ⟨d0, d1, x', y', p0, p1⟩ 0 with ⟨⟨e0, e1, x2, y2, r0, r1⟩, b⟩
              have hcl := carry_len hc
              dsimp only at hcl
              cases b
              · simp only [go_sem, hG, hP, Nat.reduceEqDiff, ↓reduceIte, reduceCtorEq, Nat.reduceAdd, Nat.reduceSub, Nat.reduceMul, Nat.reduceLT, Nat.reduceLeDiff, Int.reduceAdd, Int.reduceSub, Int.reduceMul, Int.reduceLT, Int.reduceLE, Int.reduceEq, Int.reduceNeg, Int.reduceNe, Int.reduceGE, Int.reduceGT, Nat.reduceBEq, Int.reduceToNat,  spCarry_f, spCarry_t, hc, trA_eq, trL_eq, hwr, hgt, h0e]
                repeat (refine And.intro (by first | omega | (simp; done) | (simp; omega) | (unfold appRoom; omega)) ?_)
                refine ⟨(⟨e0, e1, x2, y2, r0, r1⟩, false), ⟨⟨⟨hcl.1.trans l1, hcl.2.1.trans l2⟩, .inr ⟨rfl, ?_⟩⟩, by dsimp only; simp⟩, SubS.weak ?_⟩
                · have hR : carryAll ⟨c0, c1, x, y, q0, q1⟩ = ⟨c0, c1, x, y, q0, q1⟩ := by
                    unfold carryAll
                    rw [if_neg (fun e => by rw [← he] at e; obtain ⟨k', rfl⟩ : ∃ k', k = k' + 1 := ⟨k - 1, by omega⟩; rw [allF_fail (t := ⟨d0, d1, x', y', p0, p1⟩) (by unfold Tr.n; exact hn) (by rw [hside]; exact hc)] at e; exact absurd e.2 (by simp))]
                  exact hR
                · simp only [go_sem, hG, hP, Nat.reduceEqDiff, ↓reduceIte, reduceCtorEq, Nat.reduceAdd, Nat.reduceSub, Nat.reduceMul, Nat.reduceLT, Nat.reduceLeDiff, Int.reduceAdd, Int.reduceSub, Int.reduceMul, Int.reduceLT, Int.reduceLE, Int.reduceEq, Int.reduceNeg, Int.reduceNe, Int.reduceGE, Int.reduceGT, Nat.reduceBEq, Int.reduceToNat]
                  all_goals simp
              · have hcw := carry_w hc
                obtain ⟨k', rfl⟩ : ∃ k', k = k' + 1 := ⟨k - 1, by omega⟩
                have he' : allF k' ⟨e0, e1, x2, y2, r0, r1⟩ = allF (Tr.w ⟨c0, c1, x, y, q0, q1⟩) ⟨c0, c1, x, y, q0, q1⟩ := by rw [← he, allF_step (t := ⟨d0, d1, x', y', p0, p1⟩) (by unfold Tr.n; exact hn) (by rw [hside]; exact hc)]
                simp only [go_sem, hG, hP, Nat.reduceEqDiff, ↓reduceIte, reduceCtorEq, Nat.reduceAdd, Nat.reduceSub, Nat.reduceMul, Nat.reduceLT, Nat.reduceLeDiff, Int.reduceAdd, Int.reduceSub, Int.reduceMul, Int.reduceLT, Int.reduceLE, Int.reduceEq, Int.reduceNeg, Int.reduceNe, Int.reduceGE, Int.reduceGT, Nat.reduceBEq, Int.reduceToNat,  spCarry_f, spCarry_t, hc, trA_eq, trL_eq, hwr, hgt, h0e]
                repeat (refine And.intro (by first | omega | (simp; done) | (simp; omega) | (unfold appRoom; omega)) ?_)
                refine ⟨(⟨e0, e1, x2, y2, r0, r1⟩, true), ⟨⟨⟨hcl.1.trans l1, hcl.2.1.trans l2⟩, .inl ⟨rfl, by have : Tr.w ⟨e0, e1, x2, y2, r0, r1⟩ + 1 ≤ Tr.w ⟨d0, d1, x', y', p0, p1⟩ := hcw; dsimp only; omega, k', by have : Tr.w ⟨e0, e1, x2, y2, r0, r1⟩ + 1 ≤ Tr.w ⟨d0, d1, x', y', p0, p1⟩ := hcw; dsimp only; omega, he'⟩⟩, by dsimp only; simp; omega⟩, SubS.weak ?_⟩
                simp only [go_sem, hG, hP, Nat.reduceEqDiff, ↓reduceIte, reduceCtorEq, Nat.reduceAdd, Nat.reduceSub, Nat.reduceMul, Nat.reduceLT, Nat.reduceLeDiff, Int.reduceAdd, Int.reduceSub, Int.reduceMul, Int.reduceLT, Int.reduceLE, Int.reduceEq, Int.reduceNeg, Int.reduceNe, Int.reduceGE, Int.reduceGT, Nat.reduceBEq, Int.reduceToNat]
                all_goals simp
        · obtain rfl : okb = false := hb
          simp only [go_sem, hG, hP, Nat.reduceEqDiff, ↓reduceIte, reduceCtorEq, Nat.reduceAdd, Nat.reduceSub, Nat.reduceMul, Nat.reduceLT, Nat.reduceLeDiff, Int.reduceAdd, Int.reduceSub, Int.reduceMul, Int.reduceLT, Int.reduceLE, Int.reduceEq, Int.reduceNeg, Int.reduceNe, Int.reduceGE, Int.reduceGT, Nat.reduceBEq, Int.reduceToNat]
          rw [hR] at h
          refine ⟨_, _, _, ?_, h⟩
          simp only [trA_eq, trL_eq]
          simp only [go_sem, hG, hP, Nat.reduceEqDiff, ↓reduceIte, reduceCtorEq, Nat.reduceAdd, Nat.reduceSub, Nat.reduceMul, Nat.reduceLT, Nat.reduceLeDiff, Int.reduceAdd, Int.reduceSub, Int.reduceMul, Int.reduceLT, Int.reduceLE, Int.reduceEq, Int.reduceNeg, Int.reduceNe, Int.reduceGE, Int.reduceGT, Nat.reduceBEq, Int.reduceToNat]
          all_goals simp
    · have hR0 : carryAll ⟨c0, c1, x, y, q0, q1⟩ = ⟨c0, c1, x, y, q0, q1⟩ := if_neg (fun e => hT e.1)
      simp only [go_sem, hG, hP, Nat.reduceEqDiff, ↓reduceIte, reduceCtorEq, Nat.reduceAdd, Nat.reduceSub, Nat.reduceMul, Nat.reduceLT, Nat.reduceLeDiff, Int.reduceAdd, Int.reduceSub, Int.reduceMul, Int.reduceLT, Int.reduceLE, Int.reduceEq, Int.reduceNeg, Int.reduceNe, Int.reduceGE, Int.reduceGT, Nat.reduceBEq, Int.reduceToNat,  spToTr_f, spToTr_t, spTrOk_f, spTrOk_t, hT]
      repeat (refine And.intro (by first | omega | (simp; done) | (simp; omega) | (unfold appRoom; omega)) ?_)
      refine loopI hE (fun d : Tr × Bool => ⟨[(1, .ptr 2 0), (2, .ptr 1 0), (3, .v (.bool d.2)), (4, .ptr 0 0)], [(0, .box [.sub 3 1 0 d.1.c0.length, .sub 4 1 0 d.1.c1.length, .v (.int .i64 d.1.x), .v (.int .i64 d.1.y), .sub 5 2 0 d.1.q0.length, .sub 6 2 0 d.1.q1.length]), (1, .box [.v (.slice none 0 0), .v (.slice none 0 0), .v (.int .i64 0), .v (.int .i64 0), .v (.slice none 0 0), .v (.slice none 0 0)]), (2, .box [.sub 7 1 0 c0.length, .sub 8 1 0 c1.length, .v (.int .i64 x), .v (.int .i64 y), .sub 9 2 0 q0.length, .sub 10 2 0 q1.length]), (3, .row .int d.1.c0), (4, .row .int d.1.c1), (5, .row .note d.1.q0), (6, .row .note d.1.q1), (7, .row .int c0), (8, .row .int c1), (9, .row .note q0), (10, .row .note q1)], 11, Try.f19.ntmps⟩) (fun d => d.2 = false) (fun _ => 0) ⟨(⟨c0, c1, x, y, q0, q1⟩, false), rfl, SubS.weak ?_⟩ ?_
      · simp only [go_sem, hG, hP, Nat.reduceEqDiff, ↓reduceIte, reduceCtorEq, Nat.reduceAdd, Nat.reduceSub, Nat.reduceMul, Nat.reduceLT, Nat.reduceLeDiff, Int.reduceAdd, Int.reduceSub, Int.reduceMul, Int.reduceLT, Int.reduceLE, Int.reduceEq, Int.reduceNeg, Int.reduceNe, Int.reduceGE, Int.reduceGT, Nat.reduceBEq, Int.reduceToNat]
        all_goals simp
      · rintro ⟨⟨d0, d1, x', y', p0, p1⟩, okb⟩ hb
        obtain rfl : okb = false := hb
        simp only [go_sem, hG, hP, Nat.reduceEqDiff, ↓reduceIte, reduceCtorEq, Nat.reduceAdd, Nat.reduceSub, Nat.reduceMul, Nat.reduceLT, Nat.reduceLeDiff, Int.reduceAdd, Int.reduceSub, Int.reduceMul, Int.reduceLT, Int.reduceLE, Int.reduceEq, Int.reduceNeg, Int.reduceNe, Int.reduceGE, Int.reduceGT, Nat.reduceBEq, Int.reduceToNat]
        rw [hR0] at h
        refine ⟨_, _, _, ?_, h⟩
        simp only [trA_eq, trL_eq]
        simp only [go_sem, hG, hP, Nat.reduceEqDiff, ↓reduceIte, reduceCtorEq, Nat.reduceAdd, Nat.reduceSub, Nat.reduceMul, Nat.reduceLT, Nat.reduceLeDiff, Int.reduceAdd, Int.reduceSub, Int.reduceMul, Int.reduceLT, Int.reduceLE, Int.reduceEq, Int.reduceNeg, Int.reduceNe, Int.reduceGE, Int.reduceGT, Nat.reduceBEq, Int.reduceToNat]
        all_goals simp
  · exact h.elim
end Go.Proofs.YtfgefmkcmkihhaaE

/-! The law of CarryAll. -/
namespace Go.Proofs.YtfgefmkcmkihhaaE
open Go Go.RowKit
set_option linter.unusedSimpArgs false
set_option linter.unusedVariables false
set_option maxRecDepth 20000

def spLaw6 : Spec := ⟨fun _ => [], fun args objs K => match args, objs with
  | [.agg [.rs .int c0, .rs .int c1, .v (.int .i64 x), .v (.int .i64 y), .rs .note q0, .rs .note q1]], [] => (c0.length ≤ 17592186044416 ∧ c1.length ≤ 17592186044416 ∧ q0.length ≤ 17592186044416 ∧ q1.length ≤ 17592186044416) ∧ K (.v (.bool true)) [] 0
  | _, _ => False⟩
theorem spLaw6_t {a : List AVal} : spLaw6.take a = [] := id rfl
theorem spLaw6_f {c0} {c1} {x} {y} {q0} {q1} {K : AVal → Hp → Nat → Prop} : Spec.f spLaw6 ([.agg [.rs .int c0, .rs .int c1, .v (.int .i64 x), .v (.int .i64 y), .rs .note q0, .rs .note q1]]) ([]) K = ((c0.length ≤ 17592186044416 ∧ c1.length ≤ 17592186044416 ∧ q0.length ≤ 17592186044416 ∧ q1.length ≤ 17592186044416) ∧ K (.v (.bool true)) [] 0) := id rfl
theorem valid6 : Valid Try.prog 6 spLaw6 := by
  refine validI (Γ := lk [(8, spSzTr), (19, spCarryAll), (10, spToTr), (20, spCarryAll), (12, spEqTr), (13, spMarkTr), (14, spHeldTr)]) Try.func6 bod6 low6 res6 (good_of ⟨⟨cal8, valid8⟩, ⟨cal19, valid19⟩, ⟨cal10, valid10⟩, ⟨cal20, valid20⟩, ⟨cal12, valid12⟩, ⟨cal13, valid13⟩, ⟨cal14, valid14⟩, trivial⟩) ?_
  intro E args objs K h hE hG hP
  simp only [spLaw6] at h
  split at h
  · refine ⟨by simp [Try.ntmps6], ?_⟩
    rename_i c0 c1 x y q0 q1
    obtain ⟨⟨b1, b2, b3, b4⟩, h⟩ := h
    have hcl := carryAll_len ⟨c0, c1, x, y, q0, q1⟩
    rcases hl : carryAll ⟨c0, c1, x, y, q0, q1⟩ with ⟨d0, d1, x', y', p0, p1⟩
    rw [hl] at hcl
    have hlen : d0.length = c0.length ∧ d1.length = c1.length ∧ p0.length ≤ q0.length + 1 ∧ p1.length ≤ q1.length + 1 := hcl
    simp only [go_sem, hG, hP, Nat.reduceEqDiff, ↓reduceIte, reduceCtorEq, Nat.reduceAdd, Nat.reduceSub, Nat.reduceMul, Nat.reduceLT, Nat.reduceLeDiff, Int.reduceAdd, Int.reduceSub, Int.reduceMul, Int.reduceLT, Int.reduceLE, Int.reduceEq, Int.reduceNeg, Int.reduceNe, Int.reduceGE, Int.reduceGT, Nat.reduceBEq, Int.reduceToNat,  spSzTr_f, spSzTr_t, spCarryAll_f, spCarryAll_t, spToTr_f, spToTr_t, spEqTr_f, spEqTr_t, spMarkTr_f, spMarkTr_t, spHeldTr_f, spHeldTr_t, hl, trA_eq, trL_eq, takeA6_eq, bb_self, m_c0, m_c1, m_q0, m_q1, markEnd_eq, take_im, take_nm, intMarks_len, noteMarks_len, held_marked]
    repeat (refine And.intro (by first | omega | (simp; done) | (simp; omega) | (unfold appRoom; omega)) ?_)
    refine ⟨fun hs => ⟨_, _, _, ?_, h⟩, fun hs => ?_⟩
    · simp only [go_sem, hG, hP, Nat.reduceEqDiff, ↓reduceIte, reduceCtorEq, Nat.reduceAdd, Nat.reduceSub, Nat.reduceMul, Nat.reduceLT, Nat.reduceLeDiff, Int.reduceAdd, Int.reduceSub, Int.reduceMul, Int.reduceLT, Int.reduceLE, Int.reduceEq, Int.reduceNeg, Int.reduceNe, Int.reduceGE, Int.reduceGT, Nat.reduceBEq, Int.reduceToNat]
    have hz := szTr_len (by omega) hs
    repeat (refine And.intro (by first | omega | (simp; done) | (simp; omega) | (unfold appRoom; omega)) ?_)
    refine ⟨fun _ => ?_, fun hx => absurd hx (by omega)⟩
    repeat (refine And.intro (by first | omega | (simp; done) | (simp; omega) | (unfold appRoom; omega)) ?_)
    intro _
    repeat (refine And.intro (by first | omega | (simp; done) | (simp; omega) | (unfold appRoom; omega)) ?_)
    intro _
    refine ⟨_, _, _, ?_, h⟩
    simp only [go_sem, hG, hP, Nat.reduceEqDiff, ↓reduceIte, reduceCtorEq, Nat.reduceAdd, Nat.reduceSub, Nat.reduceMul, Nat.reduceLT, Nat.reduceLeDiff, Int.reduceAdd, Int.reduceSub, Int.reduceMul, Int.reduceLT, Int.reduceLE, Int.reduceEq, Int.reduceNeg, Int.reduceNe, Int.reduceGE, Int.reduceGT, Nat.reduceBEq, Int.reduceToNat]
    all_goals simp
  · exact h.elim
end Go.Proofs.YtfgefmkcmkihhaaE

/-! What an argument of a law reads as, in the engine's words; and what a proved function gives a law. -/
namespace Go.Proofs.YtfgefmkcmkihhaaE
open Go Go.RowKit Go.ChangeShapes Go.WideShapes
set_option linter.unusedSimpArgs false
set_option linter.unusedVariables false

def nm0 : Nm := fun _ => none
def noC : Nat → Prop := fun _ => False
/-- What type t's data read as, by d; ok: what is known of it. -/
def Tells (P : Program) (t : TypeId) {α : Type} (n : Nat) (d : α → List AVal) (ok : α → Prop) : Prop :=
  ∀ (H : Type) (enc : TypeId × Value → H) (W : World) (base : Nat) (spare : Nat → Bool) (held : Bool) (fuel : Nat) (cs : List Value) (x : DataW H × List MemPlace),
    DataW.trod enc P W base spare held fuel t cs = some x → (∀ b ∈ x.1.weights P t, b ≤ reachBytes) → ∃ y : α, (DenL W noC nm0 (d y) cs ∧ cs.length = n) ∧ ok y
def TellsF (P : Program) (fs : List Field) (off : Nat) {α : Type} (n : Nat) (d : α → List AVal) (ok : α → Prop) : Prop :=
  ∀ (H : Type) (enc : TypeId × Value → H) (W : World) (base : Nat) (spare : Nat → Bool) (held : Bool) (fuel : Nat) (cs : List Value) (xs : List (DataW H × List MemPlace)),
    (∀ (i : Nat) (f : Field), fs[i]? = some f → DataW.trod enc P W base spare held fuel f.type ((cs.drop f.offset).take (P.cellsOf f.type)) = xs[i]?) → xs.length = fs.length → cs.length = off + n →
    (∀ (i : Nat) (f : Field) x, fs[i]? = some f → xs[i]? = some x → ∀ b ∈ x.1.weights P f.type, b ≤ reachBytes) → ∃ y : α, (DenL W noC nm0 (d y) (cs.drop off)) ∧ ok y

theorem den1 {W : World} (v : Value) : DenL W noC nm0 [.v v] [v] := DenL.cons (.v v) .nil
theorem Tells.int {P : Program} {t : TypeId} {k : IntKind} (ht : P.underlying t = some (.int k)) : Tells P t 1 (fun n : Int => [.v (.int k n)]) (fun n => (Lit.int k n).wf = true) := by
  intro H enc W base spare held fuel cs x h _
  cases fuel with
  | zero => simp [DataW.trod] at h
  | succ m =>
    unfold DataW.trod at h
    rw [ht] at h
    split at h <;> simp_all
    obtain ⟨⟨_, h1⟩, _⟩ := h
    exact ⟨_, den1 _, h1⟩
theorem Tells.bool {P : Program} {t : TypeId} (ht : P.underlying t = some .bool) : Tells P t 1 (fun b : Bool => [.v (.bool b)]) (fun _ => True) := by
  intro H enc W base spare held fuel cs x h _
  cases fuel with
  | zero => simp [DataW.trod] at h
  | succ m =>
    unfold DataW.trod at h
    rw [ht] at h
    split at h <;> simp_all
    rename_i b
    cases b
    · exact .inl (den1 _)
    · exact .inr (den1 _)
theorem Tells.string {P : Program} {t : TypeId} (ht : P.underlying t = some .string) : Tells P t 1 (fun s : ByteArray => [.v (.string s)]) (fun s => s.size ≤ 140737488351232) := by
  intro H enc W base spare held fuel cs x h hw
  cases fuel with
  | zero => simp [DataW.trod] at h
  | succ m =>
    unfold DataW.trod at h
    rw [ht] at h
    split at h <;> simp_all
    obtain ⟨_, h2⟩ := h
    subst h2
    refine ⟨_, den1 _, ?_⟩
    have := hw _ (by simp only [DataW.weights]; exact List.mem_singleton.2 rfl)
    rw [Array.length_toList] at this
    exact this
theorem weights_all {H : Type} {P : Program} {e : TypeId} {ds : List (DataW H)} {d : DataW H} (hd : d ∈ ds) {b : Nat} (hb : b ∈ d.weights P e) : b ∈ DataW.weightsAll P e ds := by
  induction ds with
  | nil => cases hd
  | cons a r ih =>
    simp only [DataW.weightsAll, List.mem_append]
    rcases List.mem_cons.1 hd with rfl | hd
    · exact .inl hb
    · exact .inr (ih hd)
theorem Tells.slice {P : Program} {t e : TypeId} (ht : P.underlying t = some (.slice e)) {τ : Ty} {ok : τ.D → Prop} (he : Tells P e (sz τ) (enc τ) ok) (hs : P.cellsOf e = sz τ) {B : Nat} (hB : P.bytesOf e = B) :
    Tells P t 1 (fun xs : List τ.D => [.rs τ xs]) (fun xs => xs.length * B ≤ 140737488351232 ∧ xs.length ≤ maxLen ∧ ∀ x ∈ xs, ok x) := by
  intro H enc' W base spare held fuel cs x h hw
  rcases Go.Deep.open_slice ht h with ⟨rfl, rfl⟩ | ⟨a, len, cap, m, n, D, Pl, rfl, hb, hl, hm, hmm, rfl, hx⟩
  · exact ⟨[], ⟨DenL.cons (Den.rs (t := τ) (xs := []) (A := none) (c := 0) (fun _ => undef) (.inl (by simp)) (Nat.le_refl _) (fun i f x av hx => by simp at hx)) .nil, rfl⟩, by simp [maxLen]⟩
  · have hlm : len ≤ m := by rw [hmm]; split <;> omega
    have hel : ∀ i, i < len → ∃ y : τ.D, (∃ c, W.cells? base (a.add (i * P.cellsOf e)) (P.cellsOf e) = some c ∧ (DenL W noC nm0 (enc τ y) c ∧ c.length = sz τ)) ∧ ok y := by
      intro i hi
      obtain ⟨c, hc, hd⟩ := hx i (by omega)
      obtain ⟨y, hy, hok⟩ := he H enc' W base spare held n c _ hd (fun b hb => hw b (by
        simp only [DataW.weights, ht, List.mem_cons, List.mem_append]
        exact .inr (.inl (weights_all (List.mem_map.2 ⟨i, List.mem_range.2 hi, rfl⟩) hb))))
      exact ⟨y, ⟨c, hc, hy⟩, hok⟩
    have : Inhabited τ.D := ⟨dflt τ⟩
    obtain ⟨f, hf⟩ := Go.Deep.choose_lt hel
    have hlen : ((List.range len).map f).length = len := by simp
    have hcell : ∀ i, i < len → ∃ c, DenL W noC nm0 (enc τ (f i)) c ∧ c.length = sz τ ∧ ∀ j, j < sz τ → W.cell? (a.add (i * sz τ + j)) = c[j]? := by
      intro i hi
      obtain ⟨⟨c, hc, hd, hcl⟩, _⟩ := hf i hi
      refine ⟨c, hd, hcl, fun j hj => ?_⟩
      have hc' := World.cells?_some hc
      rw [hs] at hc'
      have := hc'.2.2 j hj
      rw [← this, Go.Deep.add_add]
    have hall : ∀ k, k < len * sz τ → ∃ u, W.cell? (a.add k) = some u := by
      intro k hk
      have hz := sz_pos τ
      have hi : k / sz τ < len := Nat.div_lt_of_lt_mul (by rw [Nat.mul_comm]; exact hk)
      have hj : k % sz τ < sz τ := Nat.mod_lt _ hz
      obtain ⟨c, _, hcl, hc⟩ := hcell _ hi
      refine ⟨c[k % sz τ]'(by omega), ?_⟩
      have := hc _ hj
      rw [show k / sz τ * sz τ + k % sz τ = k by rw [Nat.mul_comm]; exact Nat.div_add_mod k (sz τ)] at this
      rw [this, List.getElem?_eq_getElem]
    refine ⟨(List.range len).map f, ⟨DenL.cons ?_ .nil, rfl⟩, ?_, by rw [hlen]; exact Nat.le_trans hl hm, ?_⟩
    · have key : Den W noC nm0 (.rs τ ((List.range len).map f)) (.slice (some a) ((List.range len).map f).length cap) := by
        refine .rs (fun k => (W.cell? (a.add k)).getD undef) ?_ (by rw [hlen]; exact hl) ?_
        · rw [hlen]
          rcases Nat.eq_zero_or_pos (len * sz τ) with h0 | hp
          · exact .inl h0
          · obtain ⟨u, hu⟩ := hall 0 hp
            refine .inr ⟨a, rfl, ?_, fun h => h, fun k hk => ?_⟩
            · have := World.block_lt_of_cell? _ _ hu
              simpa [Addr.add] using this
            · obtain ⟨u, hu⟩ := hall k hk
              simp [hu]
        · intro i j x av hx hav
          have hi : i < len := by
            have := (List.getElem?_eq_some_iff.1 hx).1
            rwa [hlen] at this
          have hx' : f i = x := by simpa [hi] using hx
          subst hx'
          obtain ⟨c, hd, hcl, hc⟩ := hcell i hi
          have hj : j < sz τ := by
            have := (List.getElem?_eq_some_iff.1 hav).1
            rwa [enc_length] at this
          have := hc j hj
          rw [this, List.getElem?_eq_getElem (by omega)]
          exact hd.2 j av _ hav (List.getElem?_eq_getElem (by omega))
      rw [hlen] at key
      exact key
    · rw [hlen]
      have := hw ((((List.range len).map D).length + ((List.range (m - len)).map fun j => D (len + j)).length) * P.bytesOf e) (by simp only [DataW.weights, ht]; exact List.mem_cons_self)
      rw [hB] at this
      simp only [List.length_map, List.length_range] at this
      have h2 : len * B ≤ (len + (m - len)) * B := Nat.mul_le_mul_right _ (by omega)
      unfold reachBytes at this
      omega
    · intro y hy
      obtain ⟨i, hi, rfl⟩ := List.mem_map.1 hy
      exact (hf i (List.mem_range.1 hi)).2
theorem TellsF.one {P : Program} {f : Field} {off n : Nat} {α : Type} {d : α → List AVal} {ok : α → Prop} (h : Tells P f.type n d ok) (ho : f.offset = off) (hc : P.cellsOf f.type = n) : TellsF P [f] off n d ok := by
  intro H enc W base spare held fuel cs xs hx hl hcs hw
  match xs, hl with
  | [x], _ =>
    have h0 := hx 0 f rfl
    rw [ho, hc, List.take_of_length_le (by rw [List.length_drop]; omega)] at h0
    obtain ⟨y, hy, hok⟩ := h H enc W base spare held fuel _ x h0 (hw 0 f x rfl rfl)
    exact ⟨y, hy.1, hok⟩
theorem TellsF.cons {P : Program} {f : Field} {fs : List Field} {off n n' : Nat} {α β : Type} {d : α → List AVal} {d' : β → List AVal} {ok : α → Prop} {ok' : β → Prop} (h : Tells P f.type n d ok) (ho : f.offset = off) (hc : P.cellsOf f.type = n)
    (r : TellsF P fs (off + n) n' d' ok') : TellsF P (f :: fs) off (n + n') (fun x : α × β => d x.1 ++ d' x.2) (fun x => ok x.1 ∧ ok' x.2) := by
  intro H enc W base spare held fuel cs xs hx hl hcs hw
  match xs, hl with
  | x :: xs, hl =>
    have h0 := hx 0 f rfl
    rw [ho, hc] at h0
    obtain ⟨y, hy, hok⟩ := h H enc W base spare held fuel _ x h0 (hw 0 f x rfl rfl)
    obtain ⟨y', hy', hok'⟩ := r H enc W base spare held fuel cs xs (fun i g hg => hx (i + 1) g hg) (by simpa using hl) (by omega) (fun i g z hg hz => hw (i + 1) g z hg hz)
    refine ⟨(y, y'), ?_, hok, hok'⟩
    have := hy.1.append hy'
    rw [← List.drop_drop, List.take_append_drop] at this
    exact this
theorem weights_each {H : Type} {P : Program} {fs : List Field} : ∀ {xs : List (DataW H × List MemPlace)} {i : Nat} {f : Field} {x : DataW H × List MemPlace}, fs[i]? = some f → xs[i]? = some x → ∀ b ∈ x.1.weights P f.type, b ∈ DataW.weightsEach P (fs.map (·.type)) (xs.map (·.1)) := by
  intro xs i f x hf hx b hb
  exact DataW.weights_mem_each (j := i) (t := f.type) (d := x.1) (by simp [hf]) (by simp [hx]) b hb
theorem Tells.struct {P : Program} {t : TypeId} {fs : Array Field} (ht : P.underlying t = some (.struct fs)) {α : Type} {n : Nat} {d : α → List AVal} {ok : α → Prop} (h : TellsF P fs.toList 0 n d ok) (hc : P.cellsOf t = n) : Tells P t n d ok := by
  intro H enc W base spare held fuel cs x hx hw
  obtain ⟨xs, m, _, rfl, hl, hlen, hf⟩ := DataW.trod_struct ht hx
  obtain ⟨y, hy, hok⟩ := h H enc W base spare held m cs xs (fun i f hi => hf i f (by rw [← Array.getElem?_toList]; exact hi)) (by simpa using hlen) (by omega) (fun i f x hi hx b hb => hw b (by
    simp only [DataW.weights, ht]
    exact weights_each hi hx b hb))
  exact ⟨y, ⟨by simpa using hy, by omega⟩, hok⟩
/-- An array's elements in line, as fields. -/
theorem Tells.array {P : Program} {t e : TypeId} {k : Nat} (ht : P.underlying t = some (.array k e)) {α : Type} {n : Nat} {d : α → List AVal} {ok : α → Prop} (h : TellsF P ((List.range k).map fun i => { name := "", type := e, offset := i * P.cellsOf e, embedded := false, tag := "", pkgPath := "", byteOffset := 0 }) 0 n d ok)
    (hc : P.cellsOf t = n) : Tells P t n d ok := by
  intro H enc W base spare held fuel cs x hx hw
  obtain ⟨xs, m, _, rfl, hl, hlen, hf⟩ := DataW.trod_array ht hx
  obtain ⟨y, hy, hok⟩ := h H enc W base spare held m cs xs (fun i f hi => by
      have hin : i < k := by
        rcases Nat.lt_or_ge i k with h | h
        · exact h
        · simp [h] at hi
      simp [hin] at hi
      subst hi
      exact hf i hin) (by simpa using hlen) (by omega) (fun i f x hi hx b hb => hw b (by
    have hin : i < k := by
      rcases Nat.lt_or_ge i k with h | h
      · exact h
      · simp [h] at hi
    simp [hin] at hi
    subst hi
    simp only [DataW.weights, ht]
    exact weights_all (List.mem_map.2 ⟨x, List.mem_iff_getElem?.2 ⟨i, hx⟩, rfl⟩) hb))
  exact ⟨y, ⟨by simpa using hy, by omega⟩, hok⟩
/-- The same data, told by another name. -/
theorem Tells.as {P : Program} {t : TypeId} {α β : Type} {n : Nat} {d : α → List AVal} {ok : α → Prop} (h : Tells P t n d ok) (g : α → β) (d' : β → List AVal) (hd : ∀ a, d' (g a) = d a) (ok' : β → Prop) (hok : ∀ a, ok a → ok' (g a)) : Tells P t n d' ok' := by
  intro H enc W base spare held fuel cs x hx hw
  obtain ⟨y, hy, hk⟩ := h H enc W base spare held fuel cs x hx hw
  exact ⟨g y, by rw [hd]; exact hy, hok y hk⟩
theorem okWide_agg {P : Program} {w : World} {r : Reach} {base : Nat} {t : TypeId} {v : Value} (ht : (∃ fs, P.underlying t = some (.struct fs)) ∨ ∃ n e, P.underlying t = some (.array n e)) (h : Value.okWide P w r base t v) : ∃ cs, v = .agg cs ∧ cs.size = P.cellsOf t := by
  rcases ht with ⟨fs, ht⟩ | ⟨n, e, ht⟩
  all_goals
    simp only [Value.okWide, ht] at h
    obtain ⟨cs, h1, h2, _⟩ := h
    exact ⟨cs, h1, h2⟩
section
variable {P : Program} {t : TypeId} {α : Type} {n : Nat} {d : α → List AVal} {ok : α → Prop} {H : Type} {enc : TypeId × Value → H} {W : World} {base : Nat} {spare : Nat → Bool} {held : Bool} {x : DataW H} {ps : List MemPlace} {ts : List TypeId} {ds : List (DataW H)}
/-- A struct (an array) that came in by value. -/
theorem Tells.agg (h : Tells P t n d ok) {cs : Array Value} (hsz : (DataW.weightsEach P ts ds).all (· ≤ reachBytes) = true) (j : Nat) (ht : ts[j]? = some t) (hd : ds[j]? = some x)
    (hx : DataW.Trod enc P W base spare held t (.agg cs) x ps) : ∃ y : α, Den W noC nm0 (.agg (d y)) (.agg cs) ∧ ok y := by
  obtain ⟨fuel, hf⟩ := hx
  have hf' : DataW.trod enc P W base spare held fuel t cs.toList = some (x, ps) := by simpa [Value.cells] using hf
  obtain ⟨y, ⟨hy, _⟩, hok⟩ := h H enc W base spare held fuel cs.toList (x, ps) hf' (fun b hb => by simpa using List.all_eq_true.1 hsz b (DataW.weights_mem_each ht hd b hb))
  exact ⟨y, .agg cs.toList hy.1 hy.2, hok⟩
/-- A value of one cell that came in. -/
theorem Tells.cell {f : α → AVal} (h : Tells P t 1 (fun y => [f y]) ok) {v : Value} (hv : v.cells = #[v]) (hsz : (DataW.weightsEach P ts ds).all (· ≤ reachBytes) = true) (j : Nat) (ht : ts[j]? = some t) (hd : ds[j]? = some x)
    (hx : DataW.Trod enc P W base spare held t v x ps) : ∃ y : α, Den W noC nm0 (f y) v ∧ ok y := by
  obtain ⟨fuel, hf⟩ := hx
  have hf' : DataW.trod enc P W base spare held fuel t [v] = some (x, ps) := by simpa [hv] using hf
  obtain ⟨y, ⟨hy, _⟩, hok⟩ := h H enc W base spare held fuel [v] (x, ps) hf' (fun b hb => by simpa using List.all_eq_true.1 hsz b (DataW.weights_mem_each ht hd b hb))
  exact ⟨y, hy.2 0 _ v rfl rfl, hok⟩
end
/-- A proved law at arguments that can only be read. -/
theorem law_ok {P : Program} {f : Nat} {sp : Spec} (hv : Valid P f sp) {W : World} {args : List AVal} {vals : List Value} (hd : DenL W noC nm0 args vals) (h : ∀ K : AVal → Hp → Nat → Prop, K (.v (.bool true)) [] 0 → sp.f args [] K) :
    Calls P f ⟨vals⟩ W fun e w' => e = .returned (.bool true) ∧ Below W.heap.size W w' := by
  refine Calls.mono (hv W noC nm0 args vals [] (fun r _ _ => r = .v (.bool true)) hd ?_ (h _ rfl)) ?_
  · exact ⟨fun m o h => (by cases h), fun m o m' o' b x b' x' h => (by cases h), fun m o b x h => (by cases h), fun m _ => rfl, rfl, rfl, rfl, Nat.le_refl _, fun b _ _ => rfl⟩
  · rintro e w' ⟨r, v, L', nx', ρ', rfl, hden, hp, _, hr⟩
    subst hr
    rw [den_v hden]
    exact ⟨rfl, hp.os, hp.tape, hp.output, hp.size, fun k hk => hp.old k hk (fun h => h)⟩
end Go.Proofs.YtfgefmkcmkihhaaE

/-! The law FnExactCarryAll, as its row states it: whatever the input the law returns true; no condition. -/
namespace Go.Proofs.Ytfgefmkcmkihhaa.fnExactCarryAll
open Go.ChangeShapes Go.WideShapes Go.ChangeAt Go.RowKit Go.Proofs.YtfgefmkcmkihhaaE
set_option linter.unusedVariables false
theorem own : ownKnob Try.prog.godebug = none := by kernel_rfl
theorem laidOut : laidOutB Try.prog = true := by kernel_rfl
theorem T3 : Tells Try.prog 3 1 (fun n : Int => [.v (.int .i64 n)]) (fun _ => True) := (Tells.int Try.underlying3).as id _ (fun _ => rfl) _ (fun _ _ => trivial)
theorem TI : Tells Try.prog 3 (sz .int) (enc .int) (fun _ => True) := T3.as (fun n : Int => n) (enc .int) (fun _ => rfl) _ (fun _ _ => trivial)
theorem TN (t : TypeId) (ht : Try.prog.underlying t = some (.struct #[{ name := "Kind", type := 3, offset := 0, embedded := false, tag := "", pkgPath := "", byteOffset := 0 }, { name := "Circuit", type := 3, offset := 1, embedded := false, tag := "", pkgPath := "", byteOffset := 8 }])) (hc : Try.prog.cellsOf t = 1 + 1) : Tells Try.prog t (sz .note) (enc .note) (fun _ => True) :=
  (Tells.struct (n := 1 + 1) ht (TellsF.cons (n := 1) (n' := 1) T3 (by kernel_rfl) (by kernel_rfl) (TellsF.one T3 (by kernel_rfl) (by kernel_rfl))) hc).as (fun x : Int × Int => (⟨x.1, x.2⟩ : Note)) (enc .note) (fun _ => rfl) _ (fun _ _ => trivial)
theorem T22 : Tells Try.prog 22 1 (fun xs : List Int => [.rs .int xs]) (fun xs => xs.length ≤ 17592186044416) := (Tells.slice (τ := .int) Try.underlying22 TI (by kernel_rfl) (B := 8) (by kernel_rfl)).as id _ (fun _ => rfl) _ (fun xs h => by have := h.1; simp only [id]; omega)
theorem T25 : Tells Try.prog 25 1 (fun xs : List Note => [.rs .note xs]) (fun xs => xs.length ≤ 17592186044416) := (Tells.slice (τ := .note) Try.underlying25 (TN 87 Try.underlying87 (by kernel_rfl)) (by kernel_rfl) (B := 16) (by kernel_rfl)).as id _ (fun _ => rfl) _ (fun xs h => by have := h.1; simp only [id]; omega)
theorem T23 : Tells Try.prog 23 (1 + 1) (fun x : List Int × List Int => [.rs .int x.1] ++ [.rs .int x.2]) (fun x => x.1.length ≤ 17592186044416 ∧ x.2.length ≤ 17592186044416) := (Tells.array (n := 1 + 1) Try.underlying23 (TellsF.cons (n := 1) (n' := 1) T22 (by kernel_rfl) (by kernel_rfl) (TellsF.one T22 (by kernel_rfl) (by kernel_rfl))) (by kernel_rfl)).as id _ (fun _ => rfl) _ (fun _ h => h)
theorem T24 : Tells Try.prog 24 (1 + 1) (fun x : Int × Int => [.v (.int .i64 x.1)] ++ [.v (.int .i64 x.2)]) (fun x => True ∧ True) := (Tells.array (n := 1 + 1) Try.underlying24 (TellsF.cons (n := 1) (n' := 1) T3 (by kernel_rfl) (by kernel_rfl) (TellsF.one T3 (by kernel_rfl) (by kernel_rfl))) (by kernel_rfl)).as id _ (fun _ => rfl) _ (fun _ h => h)
theorem T26 : Tells Try.prog 26 (1 + 1) (fun x : List Note × List Note => [.rs .note x.1] ++ [.rs .note x.2]) (fun x => x.1.length ≤ 17592186044416 ∧ x.2.length ≤ 17592186044416) := (Tells.array (n := 1 + 1) Try.underlying26 (TellsF.cons (n := 1) (n' := 1) T25 (by kernel_rfl) (by kernel_rfl) (TellsF.one T25 (by kernel_rfl) (by kernel_rfl))) (by kernel_rfl)).as id _ (fun _ => rfl) _ (fun _ h => h)
theorem T28 : Tells Try.prog 28 6 (fun t : Tr => [.rs .int t.c0, .rs .int t.c1, .v (.int .i64 t.x), .v (.int .i64 t.y), .rs .note t.q0, .rs .note t.q1]) (fun t => t.c0.length ≤ 17592186044416 ∧ t.c1.length ≤ 17592186044416 ∧ t.q0.length ≤ 17592186044416 ∧ t.q1.length ≤ 17592186044416) :=
  (Tells.struct (n := 2 + (2 + 2)) Try.underlying28 (TellsF.cons (n := 2) (n' := 2 + 2) T23 (by kernel_rfl) (by kernel_rfl) (TellsF.cons (n := 2) (n' := 2) T24 (by kernel_rfl) (by kernel_rfl) (TellsF.one T26 (by kernel_rfl) (by kernel_rfl)))) (by kernel_rfl)).as
    (fun a => (⟨a.1.1, a.1.2, a.2.1.1, a.2.1.2, a.2.2.1, a.2.2.2⟩ : Tr)) _ (fun _ => rfl) _ (fun a h => ⟨h.1.1, h.1.2, h.2.2.1, h.2.2.2⟩)
set_option maxRecDepth 100000 in
set_option maxHeartbeats 1000000 in
theorem lifted (os : Os) (started : os.Started) (H : Type) (enc : TypeId × Value → H) :
    ReturnsInHanded {} Try.checked os 6 .any (Rows.fnExactCarryAllSpec.pre6 enc Try.prog Try.f6 Rows.fnExactCarryAllRow.domain false) (Rows.fnExactCarryAllSpec.post enc Try.prog Try.f6 false true false false) := by
  refine returnsInHanded_of_change_sized (C := Try.checked) own started (by kernel_rfl) Try.func6
    (ChangeSpec.witness6 (enc := enc) (C := Try.checked) false ⟨#[], #[.agg #[.slice none 0 0, .slice none 0 0, .int .i64 0, .int .i64 0, .slice none 0 0, .slice none 0 0]], []⟩ 8 (by kernel_rfl) (by kernel_rfl) (by kernel_rfl) (by kernel_rfl)) ?_
  intro W base args ds gs before hval0 hW hcnd hsz0 _
  have hsz : (DataW.weightsEach Try.prog (Try.f6.params.toList ++ Rows.fnExactCarryAllSpec.plain.varTypes Try.prog) (ds ++ gs)).all (· ≤ reachBytes) = true := hsz0
  have hval : ∀ (j : Nat) t v, Try.f6.params[j]? = some t → args[j]? = some v → Value.okWide Try.prog W .any base t v := hval0
  have hW' := hW
  obtain ⟨p, q, hA0, hV, rfl, hfz, hnd⟩ := hW
  have hA : DataW.TrodAll enc Try.prog W 0 (fun _ => true) true Try.f6.params.toList args.toList ds p := hA0
  rw [Try.params6] at hA hval hsz
  obtain ⟨v0, vs0, d0, ds0, p0, q0, hargs, rfl, rfl, h0, r0⟩ := trodAll_cons hA
  obtain ⟨rfl, rfl, rfl⟩ := trodAll_nil r0
  obtain rfl : args = #[v0] := by cases args; simp_all
  obtain ⟨rfl, rfl⟩ := trodVars_none hV
  obtain ⟨cs0, rfl, _⟩ := okWide_agg (.inl ⟨_, Try.underlying28⟩) (hval 0 28 v0 rfl rfl)
  have k0 := h0
  have lt0 : ∀ x ∈ p0, x.block < W.heap.size := by obtain ⟨m, hm⟩ := k0; exact DataW.trod_lt m _ _ _ hm
  obtain ⟨y0, hK0, o0⟩ := Tells.agg T28 hsz 0 rfl rfl h0
  clear hA0 hval0 hsz0 hsz
  refine (law_ok valid6 (DenL.cons hK0 .nil) (fun K hk => ⟨o0, hk⟩)).mono fun e W' ⟨he, bel⟩ => ?_
  subst he
  exact ⟨_, rfl, _, _, _, [], _, [], hW', trodAll_mk1 (shut_bool Try.underlying4 _), (trodAll_cons_mk (Below.trod laidOut (by kernel_rfl) (of_decide_eq_true (by kernel_rfl)) k0 bel lt0) trodAll_mk0), rfl, bel.frame _, fun h => by cases h⟩
theorem over : Rows.fnExactCarryAllRow.holds Try.pinned (OpenSpec.ofChange Rows.fnExactCarryAllSpec) :=
  OpenClaim.holds_of_wide 6 Try.f6 rfl rfl rfl rfl rfl rfl rfl ⟨rfl, rfl, rfl, rfl, rfl⟩ rfl rfl rfl rfl rfl (by kernel_rfl) Try.func6 (by kernel_rfl)
    (of_decide_eq_true (by kernel_rfl)) (by unfold Func.isWrapper; first | (rw [if_pos (by decide +kernel)]; kernel_rfl) | (rw [if_neg (by decide +kernel)]; exact ⟨rfl, rfl⟩))
    (fun os started H enc _ => lifted os started H enc)
theorem proved : Rows.FnExactCarryAllSaid := over
#print axioms proved
end Go.Proofs.Ytfgefmkcmkihhaa.fnExactCarryAll
namespace Go.Proofs.Ytfgefmkcmkihhaa
/-- The row, under a short name, for the claim. -/
theorem fnExactCarryAll_holds : Rows.FnExactCarryAllSaid := fnExactCarryAll.proved
end Go.Proofs.Ytfgefmkcmkihhaa
