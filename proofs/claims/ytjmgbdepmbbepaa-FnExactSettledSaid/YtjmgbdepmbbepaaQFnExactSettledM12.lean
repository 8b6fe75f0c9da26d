/- A part of a proof that laws of the given program hold for every input: no condition. -/
import Derived.Test.YtjmgbdepmbbepaaQFnExactSettledM11
namespace Go.Proofs.Ytjmgbdepmbbepaa.Pa
open Go.RowKit Go.Proofs.YtjmgbdepmbbepaaW.PrintWords Go.Proofs.YtjmgbdepmbbepaaW.PrintLast Go.Proofs.YtjmgbdepmbbepaaW.PrintMore
attribute [local go_sem] max2_int min2_int max_two min_two max_three min_three max_four min_four
set_option linter.unusedVariables false
set_option linter.unusedSimpArgs false

def laws_heldIntSA2.l0 : Nat → Int → Int → List Int → List Int → Option (Int)
 | 0, _, _, _, _ => none
 | k + 1, x1, x5, x700000, x700001 => if x5 < 2 then (if x5 = 0 then ((laws_heldIntS.f k x700000 x1).bind fun t700 => (if t700 < 0 then (some (-1)) else (laws_heldIntSA2.l0 k t700 1 x700000 x700001))) else (if x5 = 1 then ((laws_heldIntS.f k x700001 x1).bind fun t701 => (if t701 < 0 then (some (-1)) else (laws_heldIntSA2.l0 k t701 2 x700000 x700001))) else (none))) else (some x1)
def laws_heldIntSA2.f (k : Nat) (l0_0 : List Int) (l0_1 : List Int) (a1 : Int) : Option (Int) := laws_heldIntSA2.l0 k a1 0 l0_0 l0_1
theorem laws_heldIntSA2.mono_l : ∀ k, (∀ y0 y1 y2 y3, LeO (laws_heldIntSA2.l0 k y0 y1 y2 y3) (laws_heldIntSA2.l0 (k + 1) y0 y1 y2 y3))
 | 0 => fun _ _ _ _ r h => by simp [laws_heldIntSA2.l0] at h
 | k + 1 => by
  have ih0 := laws_heldIntSA2.mono_l k
  ·intro y0 y1 y2 y3
   unfold laws_heldIntSA2.l0
   repeat' first
   | (with_reducible exact ih0 _ _ _ _)
   | (with_reducible exact laws_heldIntS.mono _ _ _)
   | (with_reducible exact LeO.refl _)
   | (with_reducible exact LeO.none _)
   | (with_reducible refine LeO.ite ?_ ?_)
   | (with_reducible refine LeO.bind ?_ (fun _ => ?_))
   | exact ih0 _ _ _ _
   | exact laws_heldIntS.mono _ _ _
   | exact LeO.none _
   | refine LeO.ite ?_ ?_
   | refine LeO.bind ?_ (fun _ => ?_)
theorem laws_heldIntSA2.mono : ∀ a0 a1 a2 k, LeO (laws_heldIntSA2.f k a0 a1 a2) (laws_heldIntSA2.f (k + 1) a0 a1 a2) := by
 intro a0 a1 a2 k
 have ih0 := laws_heldIntSA2.mono_l k
 unfold laws_heldIntSA2.f
 repeat' first
  | (with_reducible exact ih0 _ _ _ _)
  | (with_reducible exact laws_heldIntS.mono _ _ _)
  | (with_reducible exact LeO.refl _)
  | (with_reducible exact LeO.none _)
  | (with_reducible refine LeO.ite ?_ ?_)
  | (with_reducible refine LeO.bind ?_ (fun _ => ?_))
  | exact ih0 _ _ _ _
  | exact laws_heldIntS.mono _ _ _
  | exact LeO.none _
  | refine LeO.ite ?_ ?_
  | refine LeO.bind ?_ (fun _ => ?_)
set_option maxHeartbeats 8000000 in
set_option maxRecDepth 100000 in
theorem laws_heldIntSA2.calls (k : Nat) (A0_0 : Option Addr) (c0_0 : Nat) (l0_0 : List Int) (A0_1 : Option Addr) (c0_1 : Nat) (l0_1 : List Int) (a1 : Int) (r : Int) (w : World) (hr0_0 : Kd.C (Kd.int .i64) w A0_0 l0_0.length l0_0) (hc0_0 : l0_0.length ≤ c0_0) (hr0_1 : Kd.C (Kd.int .i64) w A0_1 l0_1.length l0_1) (hc0_1 : l0_1.length ≤ c0_1) (h : laws_heldIntSA2.f k l0_0 l0_1 a1 = some r) :
 Calls Try.prog 48 #[.agg #[.slice A0_0 l0_0.length c0_0, .slice A0_1 l0_1.length c0_1], .int .i64 a1] w fun e w' => e = .returned (.int .i64 r) ∧ Below w.heap.size w w' := by
 have hu28 := Try.underlying28
 have HR0_0 := Aside0.mk hr0_0
 have HC0_0 := Aside0.mk hc0_0
 clear hr0_0 hc0_0
 have HR0_1 := Aside0.mk hr0_1
 have HC0_1 := Aside0.mk hc0_1
 clear hr0_1 hc0_1
 have HB := Aside0.mk (Below.refl w.heap.size w)
 have H : (laws_heldIntSA2.l0 k a1 0 l0_0 l0_1) = some r := h
 clear h
 have H' := Aside0.mk H
 clear H
 go_enter Try.func48, Try.ntmps48
 go_wp2_with (first | ((with_reducible refine gate_dst (N := 2) rfl ?_); refine box_event ?hg (N := 2) ?hd (cs := #[.slice A0_0 l0_0.length c0_0, .slice A0_1 l0_1.length c0_1]) (t := 28) ?hr ?_; (case hd => rfl); (case hg => rfl); (case hr => first | (go_simp; done) | (go_simp; rfl)); intro gb699 hg w3 hbox hb; have n0_ := Aside0.mk (below_step (by repeat (first | (with_reducible first | exact HB.out | apply below_alloc | apply pw_below_drewN | apply below_drew1) | exact HB.out)) hb); have n1_ := Aside0.mk (hbox); have n2_ := Aside0.mk ((by rw [hg]; exact (below_size (by repeat (first | (with_reducible first | exact HB.out | apply below_alloc | apply pw_below_drewN | apply below_drew1) | exact HB.out))) : w.heap.size ≤ gb699)); have n3_ := Aside0.mk ((by rw [hg]; exact (below_size (by repeat (first | (with_reducible first | exact HB.out | apply below_alloc | apply pw_below_drewN | apply below_drew1) | exact HB.out))) : w.heap.size ≤ gb699)); clear HB; have HB := n0_; have BK699 := n1_; have GW699 := n2_; have GE699 := n3_; clear n0_ n1_ n2_ n3_; clear hb hbox hg))
 go_loopg [1, 5] k (fun kq v1 v5 w' => ∃ (x1_1 : Int) (x5_1 : Int), v1 = .int .i64 x1_1 ∧ v5 = .int .i64 x5_1 ∧ Aside0 (laws_heldIntSA2.l0 kq x1_1 x5_1 l0_0 l0_1 = some r) ∧ Aside0 (kq ≤ k) ∧ Aside0 (w'.heap[gb699]? = some (.cells #[(.slice A0_0 l0_0.length c0_0), (.slice A0_1 l0_1.length c0_1)] 28 (0, 0))) ∧ Aside0 (Below w.heap.size w w'))
 case atStart => exact ⟨(a1), (0), (by first | rfl | (simp; done) | (simp [*]; done)), (by first | rfl | (simp; done) | (simp [*]; done)), H', ⟨Nat.le_refl _⟩, ⟨by (with_reducible repeat (first | refine blk_drewN ?_ _ | refine blk_drew ?_ | refine blk_alloc ?_ _)); exact BK699.out⟩, ⟨by repeat (first | (with_reducible first | exact HB.out | apply below_alloc | apply pw_below_drewN | apply below_drew1 | refine below_set ?_ GE699.out) | exact HB.out)⟩⟩
 case round =>
  clear H'
  (try clear p2)
  obtain ⟨x1_1, x5_1, rfl, rfl, HA, HK1, BK699, HB⟩ := hrel
  cases gk with
  | zero => exact absurd HA.out (by simp [laws_heldIntSA2.l0])
  | succ k1 =>
   have H := HA.out
   clear HA
   simp only [laws_heldIntSA2.l0] at H
   by_cases c4 : x5_1 < 2
   ·rw [if_pos c4] at H
    have c4b0 : decide (x5_1 < 2) = true := decide_eq_true c4
    clear c4
    by_cases c5 : x5_1 = 0
    ·rw [if_pos c5] at H
     subst c5
     replace H : ((laws_heldIntS.f k1 l0_0 x1_1).bind fun t700 => (if t700 < 0 then (some (-1)) else (laws_heldIntSA2.l0 k1 t700 1 l0_0 l0_1))) = some r := H
     replace H := Option.bind_eq_some_iff.mp H
     obtain ⟨t700, A60, H⟩ := H
     replace H : (if t700 < 0 then (some (-1)) else (laws_heldIntSA2.l0 k1 t700 1 l0_0 l0_1)) = some r := H
     have A6 := Aside0.mk A60
     clear A60
     by_cases c7 : t700 < 0
     ·rw [if_pos c7] at H
      have c7b0 : decide (t700 < 0) = true := decide_eq_true c7
      clear c7
      obtain rfl := Option.some.inj H
      have hcz8_0 : wr.cell? ⟨gb699, 0, none⟩ = some (.slice A0_0 l0_0.length c0_0) := (blk_cell BK699.out 0).trans rfl
      have hcz8_1 : wr.cell? ⟨gb699, 1, none⟩ = some (.slice A0_1 l0_1.length c0_1) := (blk_cell BK699.out 1).trans rfl
      have hfz8_0 := blk_frozen BK699.out 0
      have hfz8_1 := blk_frozen BK699.out 1
      go_wp2_with (first | ((with_reducible refine gate_callee (f := 62) rfl ?_); refine goesL_ (some 14) rfl rfl Try.func62 (by kernel_rfl) rfl #[.slice A0_0 l0_0.length c0_0, .int .i64 x1_1] rfl (by (try simp only [List.map_toArray, List.map_cons, List.map_nil]); first | done | rfl | (simp only [List.length_drop, List.length_take]; rfl)) ?_; (with_reducible refine (laws_heldIntS.calls k1 _ _ l0_0 x1_1 t700 _ ?side1 ?side2 A6.out).mono ?_); (case side1 => repeat (first | exact (Kd.C_below HR0_0.out HB.out) | (with_reducible refine Kd.C_alloc ?_ _) | (with_reducible refine Kd.C_drewN ?_ _) | (with_reducible refine Kd.C_drew ?_))); (case side2 => exact HC0_0.out); rintro e w' ⟨rfl, ⟨nd, rfl⟩⟩; refine ⟨_, rfl, ?_⟩))
      go_ret
      exact ⟨by first | rfl | (simp [errW_none, errW_some] <;> rfl) | (simp [*, errW_none, errW_some] <;> rfl), by repeat (first | (with_reducible first | exact HB.out | apply below_alloc | apply pw_below_drewN | apply below_drew1 | refine below_set ?_ GE699.out) | exact HB.out)⟩
     ·rw [if_neg c7] at H
      have c7b0 : decide (t700 < 0) = false := decide_eq_false c7
      clear c7
      have H' := Aside0.mk H
      clear H
      have hcz9_0 : wr.cell? ⟨gb699, 0, none⟩ = some (.slice A0_0 l0_0.length c0_0) := (blk_cell BK699.out 0).trans rfl
      have hcz9_1 : wr.cell? ⟨gb699, 1, none⟩ = some (.slice A0_1 l0_1.length c0_1) := (blk_cell BK699.out 1).trans rfl
      have hfz9_0 := blk_frozen BK699.out 0
      have hfz9_1 := blk_frozen BK699.out 1
      go_wp2_with (first | ((with_reducible refine gate_callee (f := 62) rfl ?_); refine goesL_ (some 14) rfl rfl Try.func62 (by kernel_rfl) rfl #[.slice A0_0 l0_0.length c0_0, .int .i64 x1_1] rfl (by (try simp only [List.map_toArray, List.map_cons, List.map_nil]); first | done | rfl | (simp only [List.length_drop, List.length_take]; rfl)) ?_; (with_reducible refine (laws_heldIntS.calls k1 _ _ l0_0 x1_1 t700 _ ?side1 ?side2 A6.out).mono ?_); (case side1 => repeat (first | exact (Kd.C_below HR0_0.out HB.out) | (with_reducible refine Kd.C_alloc ?_ _) | (with_reducible refine Kd.C_drewN ?_ _) | (with_reducible refine Kd.C_drew ?_))); (case side2 => exact HC0_0.out); rintro e w' ⟨rfl, ⟨nd, rfl⟩⟩; refine ⟨_, rfl, ?_⟩))
      go_roundg k1
      case measure => have := HK1.out; omega
      case rel => exact ⟨(t700), (1), (by first | rfl | (simp; done) | (simp [*]; done)), (by first | rfl | (simp; done) | (simp [*]; done)), H', ⟨by have := HK1.out; omega⟩, ⟨by (with_reducible repeat (first | refine blk_drewN ?_ _ | refine blk_drew ?_ | refine blk_alloc ?_ _)); exact BK699.out⟩, ⟨by repeat (first | (with_reducible first | exact HB.out | apply below_alloc | apply pw_below_drewN | apply below_drew1 | refine below_set ?_ GE699.out) | exact HB.out)⟩⟩
    rw [if_neg c5] at H
    by_cases c10 : x5_1 = 1
    ·rw [if_pos c10] at H
     subst c10
     replace H : ((laws_heldIntS.f k1 l0_1 x1_1).bind fun t701 => (if t701 < 0 then (some (-1)) else (laws_heldIntSA2.l0 k1 t701 2 l0_0 l0_1))) = some r := H
     replace H := Option.bind_eq_some_iff.mp H
     obtain ⟨t701, A110, H⟩ := H
     replace H : (if t701 < 0 then (some (-1)) else (laws_heldIntSA2.l0 k1 t701 2 l0_0 l0_1)) = some r := H
     have A11 := Aside0.mk A110
     clear A110
     by_cases c12 : t701 < 0
     ·rw [if_pos c12] at H
      have c12b0 : decide (t701 < 0) = true := decide_eq_true c12
      clear c12
      obtain rfl := Option.some.inj H
      have hcz13_0 : wr.cell? ⟨gb699, 0, none⟩ = some (.slice A0_0 l0_0.length c0_0) := (blk_cell BK699.out 0).trans rfl
      have hcz13_1 : wr.cell? ⟨gb699, 1, none⟩ = some (.slice A0_1 l0_1.length c0_1) := (blk_cell BK699.out 1).trans rfl
      have hfz13_0 := blk_frozen BK699.out 0
      have hfz13_1 := blk_frozen BK699.out 1
      go_wp2_with (first | ((with_reducible refine gate_callee (f := 62) rfl ?_); refine goesL_ (some 14) rfl rfl Try.func62 (by kernel_rfl) rfl #[.slice A0_1 l0_1.length c0_1, .int .i64 x1_1] rfl (by (try simp only [List.map_toArray, List.map_cons, List.map_nil]); first | done | rfl | (simp only [List.length_drop, List.length_take]; rfl)) ?_; (with_reducible refine (laws_heldIntS.calls k1 _ _ l0_1 x1_1 t701 _ ?side1 ?side2 A11.out).mono ?_); (case side1 => repeat (first | exact (Kd.C_below HR0_1.out HB.out) | (with_reducible refine Kd.C_alloc ?_ _) | (with_reducible refine Kd.C_drewN ?_ _) | (with_reducible refine Kd.C_drew ?_))); (case side2 => exact HC0_1.out); rintro e w' ⟨rfl, ⟨nd, rfl⟩⟩; refine ⟨_, rfl, ?_⟩))
      go_ret
      exact ⟨by first | rfl | (simp [errW_none, errW_some] <;> rfl) | (simp [*, errW_none, errW_some] <;> rfl), by repeat (first | (with_reducible first | exact HB.out | apply below_alloc | apply pw_below_drewN | apply below_drew1 | refine below_set ?_ GE699.out) | exact HB.out)⟩
     ·rw [if_neg c12] at H
      have c12b0 : decide (t701 < 0) = false := decide_eq_false c12
      clear c12
      have H' := Aside0.mk H
      clear H
      have hcz14_0 : wr.cell? ⟨gb699, 0, none⟩ = some (.slice A0_0 l0_0.length c0_0) := (blk_cell BK699.out 0).trans rfl
      have hcz14_1 : wr.cell? ⟨gb699, 1, none⟩ = some (.slice A0_1 l0_1.length c0_1) := (blk_cell BK699.out 1).trans rfl
      have hfz14_0 := blk_frozen BK699.out 0
      have hfz14_1 := blk_frozen BK699.out 1
      go_wp2_with (first | ((with_reducible refine gate_callee (f := 62) rfl ?_); refine goesL_ (some 14) rfl rfl Try.func62 (by kernel_rfl) rfl #[.slice A0_1 l0_1.length c0_1, .int .i64 x1_1] rfl (by (try simp only [List.map_toArray, List.map_cons, List.map_nil]); first | done | rfl | (simp only [List.length_drop, List.length_take]; rfl)) ?_; (with_reducible refine (laws_heldIntS.calls k1 _ _ l0_1 x1_1 t701 _ ?side1 ?side2 A11.out).mono ?_); (case side1 => repeat (first | exact (Kd.C_below HR0_1.out HB.out) | (with_reducible refine Kd.C_alloc ?_ _) | (with_reducible refine Kd.C_drewN ?_ _) | (with_reducible refine Kd.C_drew ?_))); (case side2 => exact HC0_1.out); rintro e w' ⟨rfl, ⟨nd, rfl⟩⟩; refine ⟨_, rfl, ?_⟩))
      go_roundg k1
      case measure => have := HK1.out; omega
      case rel => exact ⟨(t701), (2), (by first | rfl | (simp; done) | (simp [*]; done)), (by first | rfl | (simp; done) | (simp [*]; done)), H', ⟨by have := HK1.out; omega⟩, ⟨by (with_reducible repeat (first | refine blk_drewN ?_ _ | refine blk_drew ?_ | refine blk_alloc ?_ _)); exact BK699.out⟩, ⟨by repeat (first | (with_reducible first | exact HB.out | apply below_alloc | apply pw_below_drewN | apply below_drew1 | refine below_set ?_ GE699.out) | exact HB.out)⟩⟩
    rw [if_neg c10] at H
    exact absurd H (by simp)
   ·rw [if_neg c4] at H
    have c4b0 : decide (x5_1 < 2) = false := decide_eq_false c4
    clear c4
    obtain rfl := Option.some.inj H
    go_wp2
    go_ret
    exact ⟨by first | rfl | (simp [errW_none, errW_some] <;> rfl) | (simp [*, errW_none, errW_some] <;> rfl), by repeat (first | (with_reducible first | exact HB.out | apply below_alloc | apply pw_below_drewN | apply below_drew1 | refine below_set ?_ GE699.out) | exact HB.out)⟩

end Go.Proofs.Ytjmgbdepmbbepaa.Pa

namespace Go.Proofs.Ytjmgbdepmbbepaa.Pa
open Go.RowKit Go.Proofs.YtjmgbdepmbbepaaW.PrintWords Go.Proofs.YtjmgbdepmbbepaaW.PrintLast Go.Proofs.YtjmgbdepmbbepaaW.PrintMore
attribute [local go_sem] max2_int min2_int max_two min_two max_three min_three max_four min_four
set_option linter.unusedVariables false
set_option linter.unusedSimpArgs false

def laws_heldNoteS.l0 : Nat → List (S61) → Int → Int → Option (Int)
 | 0, _, _, _ => none
 | k + 1, x0, x1, x5 => if x5 < (x0.length : Int) then (if 0 ≤ x5 then (if ((rd_T61 x0 x5).f0) = x1 then (if ((rd_T61 x0 x5).f1) = (wrap64 (x1 + 1)) then (laws_heldNoteS.l0 k x0 (wrap64 ((wrap64 (x1 + 1)) + 1)) (wrap64 (x5 + 1))) else (some (-1))) else (some (-1))) else (none)) else (some x1)
def laws_heldNoteS.f (k : Nat) (l0 : List (S61)) (a1 : Int) : Option (Int) := laws_heldNoteS.l0 k l0 a1 0
theorem laws_heldNoteS.mono_l : ∀ k, (∀ y0 y1 y2, LeO (laws_heldNoteS.l0 k y0 y1 y2) (laws_heldNoteS.l0 (k + 1) y0 y1 y2))
 | 0 => fun _ _ _ r h => by simp [laws_heldNoteS.l0] at h
 | k + 1 => by
  have ih0 := laws_heldNoteS.mono_l k
  ·intro y0 y1 y2
   unfold laws_heldNoteS.l0
   repeat' first
   | (with_reducible exact ih0 _ _ _)
   | (with_reducible exact LeO.refl _)
   | (with_reducible exact LeO.none _)
   | (with_reducible refine LeO.ite ?_ ?_)
   | (with_reducible refine LeO.bind ?_ (fun _ => ?_))
   | exact ih0 _ _ _
   | exact LeO.none _
   | refine LeO.ite ?_ ?_
   | refine LeO.bind ?_ (fun _ => ?_)
theorem laws_heldNoteS.mono : ∀ a0 a1 k, LeO (laws_heldNoteS.f k a0 a1) (laws_heldNoteS.f (k + 1) a0 a1) := by
 intro a0 a1 k
 have ih0 := laws_heldNoteS.mono_l k
 unfold laws_heldNoteS.f
 repeat' first
  | (with_reducible exact ih0 _ _ _)
  | (with_reducible exact LeO.refl _)
  | (with_reducible exact LeO.none _)
  | (with_reducible refine LeO.ite ?_ ?_)
  | (with_reducible refine LeO.bind ?_ (fun _ => ?_))
  | exact ih0 _ _ _
  | exact LeO.none _
  | refine LeO.ite ?_ ?_
  | refine LeO.bind ?_ (fun _ => ?_)
set_option maxHeartbeats 8000000 in
set_option maxRecDepth 100000 in
theorem laws_heldNoteS.calls (k : Nat) (A0 : Option Addr) (c0 : Nat) (l0 : List (S61)) (a1 : Int) (r : Int) (w : World) (hr0 : Kd.C k61 w A0 l0.length l0) (hc0 : l0.length ≤ c0) (h : laws_heldNoteS.f k l0 a1 = some r) :
 Calls Try.prog 63 #[.slice A0 l0.length c0, .int .i64 a1] w fun e w' => e = .returned (.int .i64 r) ∧ Drawn0 w w' := by
 have HR0 := Aside0.mk hr0
 have HC0 := Aside0.mk hc0
 clear hr0 hc0
 have H : (laws_heldNoteS.l0 k l0 a1 0) = some r := h
 clear h
 have H' := Aside0.mk H
 clear H
 go_enter Try.func63, Try.ntmps63
 go_wp2
 go_loopg [1, 5] k (fun kq v1 v5 w' => ∃ (x1_1 : Int) (x5_1 : Int), v1 = .int .i64 x1_1 ∧ v5 = .int .i64 x5_1 ∧ Aside0 (laws_heldNoteS.l0 kq l0 x1_1 x5_1 = some r) ∧ Aside0 (kq ≤ k) ∧ Drawn0 w w')
 case atStart => exact ⟨(a1), (0), (by first | rfl | (simp; done) | (simp [*]; done)), (by first | rfl | (simp; done) | (simp [*]; done)), H', ⟨Nat.le_refl _⟩, by repeat (first | exact Drawn0.refl _ | apply Drawn0.step)⟩
 case round =>
  clear H'
  (try clear p2)
  obtain ⟨x1_1, x5_1, rfl, rfl, HA, HK1, ⟨m1, rfl⟩⟩ := hrel
  cases gk with
  | zero => exact absurd HA.out (by simp [laws_heldNoteS.l0])
  | succ k1 =>
   have H := HA.out
   clear HA
   simp only [laws_heldNoteS.l0] at H
   by_cases c3 : x5_1 < (l0.length : Int)
   ·rw [if_pos c3] at H
    have c3b0 : decide (x5_1 < (l0.length : Int)) = true := decide_eq_true c3
    clear c3
    by_cases c4 : 0 ≤ x5_1
    ·rw [if_pos c4] at H
     have c4b0 : decide (0 ≤ x5_1) = true := decide_eq_true c4
     clear c4
     by_cases c5 : ((rd_T61 l0 x5_1).f0) = x1_1
     ·rw [if_pos c5] at H
      have c5b0 : (((rd_T61 l0 x5_1).f0) == x1_1) = true := beq_iff_eq.mpr c5
      have c5b1 : (((rd_T61 l0 x5_1).f0) != x1_1) = false := bne_eq_false_iff_eq.mpr c5
      clear c5
      by_cases c6 : ((rd_T61 l0 x5_1).f1) = (wrap64 (x1_1 + 1))
      ·rw [if_pos c6] at H
       have c6b0 : (((rd_T61 l0 x5_1).f1) == (wrap64 (x1_1 + 1))) = true := beq_iff_eq.mpr c6
       have c6b1 : (((rd_T61 l0 x5_1).f1) != (wrap64 (x1_1 + 1))) = false := bne_eq_false_iff_eq.mpr c6
       clear c6
       have H' := Aside0.mk H
       clear H
       have p702 : 0 ≤ (x5_1 : Int) := of_decide_eq_true (by first | (with_reducible assumption) | assumption)
       have q702 : x5_1 < (l0.length : Int) := of_decide_eq_true (by first | (with_reducible assumption) | assumption)
       obtain ⟨ad702, e702, hx702_0, hx702_1⟩ := at_T61 HR0.out x5_1 p702 q702
       cases e702
       replace p702 := eq_true p702
       replace q702 := eq_true q702
       have p703 : 0 ≤ (x5_1 : Int) := of_decide_eq_true (by first | (with_reducible assumption) | assumption)
       have q703 : x5_1 < (l0.length : Int) := of_decide_eq_true (by first | (with_reducible assumption) | assumption)
       obtain ⟨ad703, e703, hx703_0, hx703_1⟩ := at_T61 HR0.out x5_1 p703 q703
       obtain rfl : ad702 = ad703 := (by injection e703)
       replace p703 := eq_true p703
       replace q703 := eq_true q703
       go_wp2
       go_roundg k1
       case measure => have := HK1.out; omega
       case rel => exact ⟨(wrap64 ((wrap64 (x1_1 + 1)) + 1)), (wrap64 (x5_1 + 1)), (by first | rfl | (simp; done) | (simp [*]; done)), (by first | rfl | (simp; done) | (simp [*]; done)), H', ⟨by have := HK1.out; omega⟩, by repeat (first | exact Drawn0.refl _ | apply Drawn0.step)⟩
      ·rw [if_neg c6] at H
       have c6b0 : (((rd_T61 l0 x5_1).f1) == (wrap64 (x1_1 + 1))) = false := beq_eq_false_iff_ne.mpr c6
       have c6b1 : (((rd_T61 l0 x5_1).f1) != (wrap64 (x1_1 + 1))) = true := bne_iff_ne.mpr c6
       obtain rfl := Option.some.inj H
       have p702 : 0 ≤ (x5_1 : Int) := of_decide_eq_true (by first | (with_reducible assumption) | assumption)
       have q702 : x5_1 < (l0.length : Int) := of_decide_eq_true (by first | (with_reducible assumption) | assumption)
       obtain ⟨ad702, e702, hx702_0, hx702_1⟩ := at_T61 HR0.out x5_1 p702 q702
       cases e702
       replace p702 := eq_true p702
       replace q702 := eq_true q702
       have p703 : 0 ≤ (x5_1 : Int) := of_decide_eq_true (by first | (with_reducible assumption) | assumption)
       have q703 : x5_1 < (l0.length : Int) := of_decide_eq_true (by first | (with_reducible assumption) | assumption)
       obtain ⟨ad703, e703, hx703_0, hx703_1⟩ := at_T61 HR0.out x5_1 p703 q703
       obtain rfl : ad702 = ad703 := (by injection e703)
       replace p703 := eq_true p703
       replace q703 := eq_true q703
       go_wp2
       go_ret
       exact ⟨by first | rfl | (simp; done) | (simp [*]; done), by repeat (first | exact Drawn0.refl _ | apply Drawn0.step)⟩
     ·rw [if_neg c5] at H
      have c5b0 : (((rd_T61 l0 x5_1).f0) == x1_1) = false := beq_eq_false_iff_ne.mpr c5
      have c5b1 : (((rd_T61 l0 x5_1).f0) != x1_1) = true := bne_iff_ne.mpr c5
      obtain rfl := Option.some.inj H
      have p702 : 0 ≤ (x5_1 : Int) := of_decide_eq_true (by first | (with_reducible assumption) | assumption)
      have q702 : x5_1 < (l0.length : Int) := of_decide_eq_true (by first | (with_reducible assumption) | assumption)
      obtain ⟨ad702, e702, hx702_0, hx702_1⟩ := at_T61 HR0.out x5_1 p702 q702
      cases e702
      replace p702 := eq_true p702
      replace q702 := eq_true q702
      go_wp2
      go_ret
      exact ⟨by first | rfl | (simp; done) | (simp [*]; done), by repeat (first | exact Drawn0.refl _ | apply Drawn0.step)⟩
    ·rw [if_neg c4] at H
     exact absurd H (by simp)
   ·rw [if_neg c3] at H
    have c3b0 : decide (x5_1 < (l0.length : Int)) = false := decide_eq_false c3
    clear c3
    obtain rfl := Option.some.inj H
    go_wp2
    go_ret
    exact ⟨by first | rfl | (simp; done) | (simp [*]; done), by repeat (first | exact Drawn0.refl _ | apply Drawn0.step)⟩

end Go.Proofs.Ytjmgbdepmbbepaa.Pa

namespace Go.Proofs.Ytjmgbdepmbbepaa.Pa
open Go.RowKit Go.Proofs.YtjmgbdepmbbepaaW.PrintWords Go.Proofs.YtjmgbdepmbbepaaW.PrintLast Go.Proofs.YtjmgbdepmbbepaaW.PrintMore
attribute [local go_sem] max2_int min2_int max_two min_two max_three min_three max_four min_four
set_option linter.unusedVariables false
set_option linter.unusedSimpArgs false

def laws_heldNoteSA2.l0 : Nat → Int → Int → List (S61) → List (S61) → Option (Int)
 | 0, _, _, _, _ => none
 | k + 1, x1, x5, x705000, x705001 => if x5 < 2 then (if x5 = 0 then ((laws_heldNoteS.f k x705000 x1).bind fun t705 => (if t705 < 0 then (some (-1)) else (laws_heldNoteSA2.l0 k t705 1 x705000 x705001))) else (if x5 = 1 then ((laws_heldNoteS.f k x705001 x1).bind fun t706 => (if t706 < 0 then (some (-1)) else (laws_heldNoteSA2.l0 k t706 2 x705000 x705001))) else (none))) else (some x1)
def laws_heldNoteSA2.f (k : Nat) (l0_0 : List (S61)) (l0_1 : List (S61)) (a1 : Int) : Option (Int) := laws_heldNoteSA2.l0 k a1 0 l0_0 l0_1
theorem laws_heldNoteSA2.mono_l : ∀ k, (∀ y0 y1 y2 y3, LeO (laws_heldNoteSA2.l0 k y0 y1 y2 y3) (laws_heldNoteSA2.l0 (k + 1) y0 y1 y2 y3))
 | 0 => fun _ _ _ _ r h => by simp [laws_heldNoteSA2.l0] at h
 | k + 1 => by
  have ih0 := laws_heldNoteSA2.mono_l k
  ·intro y0 y1 y2 y3
   unfold laws_heldNoteSA2.l0
   repeat' first
   | (with_reducible exact ih0 _ _ _ _)
   | (with_reducible exact laws_heldNoteS.mono _ _ _)
   | (with_reducible exact LeO.refl _)
   | (with_reducible exact LeO.none _)
   | (with_reducible refine LeO.ite ?_ ?_)
   | (with_reducible refine LeO.bind ?_ (fun _ => ?_))
   | exact ih0 _ _ _ _
   | exact laws_heldNoteS.mono _ _ _
   | exact LeO.none _
   | refine LeO.ite ?_ ?_
   | refine LeO.bind ?_ (fun _ => ?_)
theorem laws_heldNoteSA2.mono : ∀ a0 a1 a2 k, LeO (laws_heldNoteSA2.f k a0 a1 a2) (laws_heldNoteSA2.f (k + 1) a0 a1 a2) := by
 intro a0 a1 a2 k
 have ih0 := laws_heldNoteSA2.mono_l k
 unfold laws_heldNoteSA2.f
 repeat' first
  | (with_reducible exact ih0 _ _ _ _)
  | (with_reducible exact laws_heldNoteS.mono _ _ _)
  | (with_reducible exact LeO.refl _)
  | (with_reducible exact LeO.none _)
  | (with_reducible refine LeO.ite ?_ ?_)
  | (with_reducible refine LeO.bind ?_ (fun _ => ?_))
  | exact ih0 _ _ _ _
  | exact laws_heldNoteS.mono _ _ _
  | exact LeO.none _
  | refine LeO.ite ?_ ?_
  | refine LeO.bind ?_ (fun _ => ?_)
set_option maxHeartbeats 8000000 in
set_option maxRecDepth 100000 in
theorem laws_heldNoteSA2.calls (k : Nat) (A0_0 : Option Addr) (c0_0 : Nat) (l0_0 : List (S61)) (A0_1 : Option Addr) (c0_1 : Nat) (l0_1 : List (S61)) (a1 : Int) (r : Int) (w : World) (hr0_0 : Kd.C k61 w A0_0 l0_0.length l0_0) (hc0_0 : l0_0.length ≤ c0_0) (hr0_1 : Kd.C k61 w A0_1 l0_1.length l0_1) (hc0_1 : l0_1.length ≤ c0_1) (h : laws_heldNoteSA2.f k l0_0 l0_1 a1 = some r) :
 Calls Try.prog 49 #[.agg #[.slice A0_0 l0_0.length c0_0, .slice A0_1 l0_1.length c0_1], .int .i64 a1] w fun e w' => e = .returned (.int .i64 r) ∧ Below w.heap.size w w' := by
 have hu31 := Try.underlying31
 have HR0_0 := Aside0.mk hr0_0
 have HC0_0 := Aside0.mk hc0_0
 clear hr0_0 hc0_0
 have HR0_1 := Aside0.mk hr0_1
 have HC0_1 := Aside0.mk hc0_1
 clear hr0_1 hc0_1
 have HB := Aside0.mk (Below.refl w.heap.size w)
 have H : (laws_heldNoteSA2.l0 k a1 0 l0_0 l0_1) = some r := h
 clear h
 have H' := Aside0.mk H
 clear H
 go_enter Try.func49, Try.ntmps49
 go_wp2_with (first | ((with_reducible refine gate_dst (N := 2) rfl ?_); refine box_event ?hg (N := 2) ?hd (cs := #[.slice A0_0 l0_0.length c0_0, .slice A0_1 l0_1.length c0_1]) (t := 31) ?hr ?_; (case hd => rfl); (case hg => rfl); (case hr => first | (go_simp; done) | (go_simp; rfl)); intro gb704 hg w3 hbox hb; have n0_ := Aside0.mk (below_step (by repeat (first | (with_reducible first | exact HB.out | apply below_alloc | apply pw_below_drewN | apply below_drew1) | exact HB.out)) hb); have n1_ := Aside0.mk (hbox); have n2_ := Aside0.mk ((by rw [hg]; exact (below_size (by repeat (first | (with_reducible first | exact HB.out | apply below_alloc | apply pw_below_drewN | apply below_drew1) | exact HB.out))) : w.heap.size ≤ gb704)); have n3_ := Aside0.mk ((by rw [hg]; exact (below_size (by repeat (first | (with_reducible first | exact HB.out | apply below_alloc | apply pw_below_drewN | apply below_drew1) | exact HB.out))) : w.heap.size ≤ gb704)); clear HB; have HB := n0_; have BK704 := n1_; have GW704 := n2_; have GE704 := n3_; clear n0_ n1_ n2_ n3_; clear hb hbox hg))
 go_loopg [1, 5] k (fun kq v1 v5 w' => ∃ (x1_1 : Int) (x5_1 : Int), v1 = .int .i64 x1_1 ∧ v5 = .int .i64 x5_1 ∧ Aside0 (laws_heldNoteSA2.l0 kq x1_1 x5_1 l0_0 l0_1 = some r) ∧ Aside0 (kq ≤ k) ∧ Aside0 (w'.heap[gb704]? = some (.cells #[(.slice A0_0 l0_0.length c0_0), (.slice A0_1 l0_1.length c0_1)] 31 (0, 0))) ∧ Aside0 (Below w.heap.size w w'))
 case atStart => exact ⟨(a1), (0), (by first | rfl | (simp; done) | (simp [*]; done)), (by first | rfl | (simp; done) | (simp [*]; done)), H', ⟨Nat.le_refl _⟩, ⟨by (with_reducible repeat (first | refine blk_drewN ?_ _ | refine blk_drew ?_ | refine blk_alloc ?_ _)); exact BK704.out⟩, ⟨by repeat (first | (with_reducible first | exact HB.out | apply below_alloc | apply pw_below_drewN | apply below_drew1 | refine below_set ?_ GE704.out) | exact HB.out)⟩⟩
 case round =>
  clear H'
  (try clear p2)
  obtain ⟨x1_1, x5_1, rfl, rfl, HA, HK1, BK704, HB⟩ := hrel
  cases gk with
  | zero => exact absurd HA.out (by simp [laws_heldNoteSA2.l0])
  | succ k1 =>
   have H := HA.out
   clear HA
   simp only [laws_heldNoteSA2.l0] at H
   by_cases c4 : x5_1 < 2
   ·rw [if_pos c4] at H
    have c4b0 : decide (x5_1 < 2) = true := decide_eq_true c4
    clear c4
    by_cases c5 : x5_1 = 0
    ·rw [if_pos c5] at H
     subst c5
     replace H : ((laws_heldNoteS.f k1 l0_0 x1_1).bind fun t705 => (if t705 < 0 then (some (-1)) else (laws_heldNoteSA2.l0 k1 t705 1 l0_0 l0_1))) = some r := H
     replace H := Option.bind_eq_some_iff.mp H
     obtain ⟨t705, A60, H⟩ := H
     replace H : (if t705 < 0 then (some (-1)) else (laws_heldNoteSA2.l0 k1 t705 1 l0_0 l0_1)) = some r := H
     have A6 := Aside0.mk A60
     clear A60
     by_cases c7 : t705 < 0
     ·rw [if_pos c7] at H
      have c7b0 : decide (t705 < 0) = true := decide_eq_true c7
      clear c7
      obtain rfl := Option.some.inj H
      have hcz8_0 : wr.cell? ⟨gb704, 0, none⟩ = some (.slice A0_0 l0_0.length c0_0) := (blk_cell BK704.out 0).trans rfl
      have hcz8_1 : wr.cell? ⟨gb704, 1, none⟩ = some (.slice A0_1 l0_1.length c0_1) := (blk_cell BK704.out 1).trans rfl
      have hfz8_0 := blk_frozen BK704.out 0
      have hfz8_1 := blk_frozen BK704.out 1
      go_wp2_with (first | ((with_reducible refine gate_callee (f := 63) rfl ?_); refine goesL_ (some 14) rfl rfl Try.func63 (by kernel_rfl) rfl #[.slice A0_0 l0_0.length c0_0, .int .i64 x1_1] rfl (by (try simp only [List.map_toArray, List.map_cons, List.map_nil]); first | done | rfl | (simp only [List.length_drop, List.length_take]; rfl)) ?_; (with_reducible refine (laws_heldNoteS.calls k1 _ _ l0_0 x1_1 t705 _ ?side1 ?side2 A6.out).mono ?_); (case side1 => repeat (first | exact (Kd.C_below HR0_0.out HB.out) | (with_reducible refine Kd.C_alloc ?_ _) | (with_reducible refine Kd.C_drewN ?_ _) | (with_reducible refine Kd.C_drew ?_))); (case side2 => exact HC0_0.out); rintro e w' ⟨rfl, ⟨nd, rfl⟩⟩; refine ⟨_, rfl, ?_⟩))
      go_ret
      exact ⟨by first | rfl | (simp [errW_none, errW_some] <;> rfl) | (simp [*, errW_none, errW_some] <;> rfl), by repeat (first | (with_reducible first | exact HB.out | apply below_alloc | apply pw_below_drewN | apply below_drew1 | refine below_set ?_ GE704.out) | exact HB.out)⟩
     ·rw [if_neg c7] at H
      have c7b0 : decide (t705 < 0) = false := decide_eq_false c7
      clear c7
      have H' := Aside0.mk H
      clear H
      have hcz9_0 : wr.cell? ⟨gb704, 0, none⟩ = some (.slice A0_0 l0_0.length c0_0) := (blk_cell BK704.out 0).trans rfl
      have hcz9_1 : wr.cell? ⟨gb704, 1, none⟩ = some (.slice A0_1 l0_1.length c0_1) := (blk_cell BK704.out 1).trans rfl
      have hfz9_0 := blk_frozen BK704.out 0
      have hfz9_1 := blk_frozen BK704.out 1
      go_wp2_with (first | ((with_reducible refine gate_callee (f := 63) rfl ?_); refine goesL_ (some 14) rfl rfl Try.func63 (by kernel_rfl) rfl #[.slice A0_0 l0_0.length c0_0, .int .i64 x1_1] rfl (by (try simp only [List.map_toArray, List.map_cons, List.map_nil]); first | done | rfl | (simp only [List.length_drop, List.length_take]; rfl)) ?_; (with_reducible refine (laws_heldNoteS.calls k1 _ _ l0_0 x1_1 t705 _ ?side1 ?side2 A6.out).mono ?_); (case side1 => repeat (first | exact (Kd.C_below HR0_0.out HB.out) | (with_reducible refine Kd.C_alloc ?_ _) | (with_reducible refine Kd.C_drewN ?_ _) | (with_reducible refine Kd.C_drew ?_))); (case side2 => exact HC0_0.out); rintro e w' ⟨rfl, ⟨nd, rfl⟩⟩; refine ⟨_, rfl, ?_⟩))
      go_roundg k1
      case measure => have := HK1.out; omega
      case rel => exact ⟨(t705), (1), (by first | rfl | (simp; done) | (simp [*]; done)), (by first | rfl | (simp; done) | (simp [*]; done)), H', ⟨by have := HK1.out; omega⟩, ⟨by (with_reducible repeat (first | refine blk_drewN ?_ _ | refine blk_drew ?_ | refine blk_alloc ?_ _)); exact BK704.out⟩, ⟨by repeat (first | (with_reducible first | exact HB.out | apply below_alloc | apply pw_below_drewN | apply below_drew1 | refine below_set ?_ GE704.out) | exact HB.out)⟩⟩
    rw [if_neg c5] at H
    by_cases c10 : x5_1 = 1
    ·rw [if_pos c10] at H
     subst c10
     replace H : ((laws_heldNoteS.f k1 l0_1 x1_1).bind fun t706 => (if t706 < 0 then (some (-1)) else (laws_heldNoteSA2.l0 k1 t706 2 l0_0 l0_1))) = some r := H
     replace H := Option.bind_eq_some_iff.mp H
     obtain ⟨t706, A110, H⟩ := H
     replace H : (if t706 < 0 then (some (-1)) else (laws_heldNoteSA2.l0 k1 t706 2 l0_0 l0_1)) = some r := H
     have A11 := Aside0.mk A110
     clear A110
     by_cases c12 : t706 < 0
     ·rw [if_pos c12] at H
      have c12b0 : decide (t706 < 0) = true := decide_eq_true c12
      clear c12
      obtain rfl := Option.some.inj H
      have hcz13_0 : wr.cell? ⟨gb704, 0, none⟩ = some (.slice A0_0 l0_0.length c0_0) := (blk_cell BK704.out 0).trans rfl
      have hcz13_1 : wr.cell? ⟨gb704, 1, none⟩ = some (.slice A0_1 l0_1.length c0_1) := (blk_cell BK704.out 1).trans rfl
      have hfz13_0 := blk_frozen BK704.out 0
      have hfz13_1 := blk_frozen BK704.out 1
      go_wp2_with (first | ((with_reducible refine gate_callee (f := 63) rfl ?_); refine goesL_ (some 14) rfl rfl Try.func63 (by kernel_rfl) rfl #[.slice A0_1 l0_1.length c0_1, .int .i64 x1_1] rfl (by (try simp only [List.map_toArray, List.map_cons, List.map_nil]); first | done | rfl | (simp only [List.length_drop, List.length_take]; rfl)) ?_; (with_reducible refine (laws_heldNoteS.calls k1 _ _ l0_1 x1_1 t706 _ ?side1 ?side2 A11.out).mono ?_); (case side1 => repeat (first | exact (Kd.C_below HR0_1.out HB.out) | (with_reducible refine Kd.C_alloc ?_ _) | (with_reducible refine Kd.C_drewN ?_ _) | (with_reducible refine Kd.C_drew ?_))); (case side2 => exact HC0_1.out); rintro e w' ⟨rfl, ⟨nd, rfl⟩⟩; refine ⟨_, rfl, ?_⟩))
      go_ret
      exact ⟨by first | rfl | (simp [errW_none, errW_some] <;> rfl) | (simp [*, errW_none, errW_some] <;> rfl), by repeat (first | (with_reducible first | exact HB.out | apply below_alloc | apply pw_below_drewN | apply below_drew1 | refine below_set ?_ GE704.out) | exact HB.out)⟩
     ·rw [if_neg c12] at H
      have c12b0 : decide (t706 < 0) = false := decide_eq_false c12
      clear c12
      have H' := Aside0.mk H
      clear H
      have hcz14_0 : wr.cell? ⟨gb704, 0, none⟩ = some (.slice A0_0 l0_0.length c0_0) := (blk_cell BK704.out 0).trans rfl
      have hcz14_1 : wr.cell? ⟨gb704, 1, none⟩ = some (.slice A0_1 l0_1.length c0_1) := (blk_cell BK704.out 1).trans rfl
      have hfz14_0 := blk_frozen BK704.out 0
      have hfz14_1 := blk_frozen BK704.out 1
      go_wp2_with (first | ((with_reducible refine gate_callee (f := 63) rfl ?_); refine goesL_ (some 14) rfl rfl Try.func63 (by kernel_rfl) rfl #[.slice A0_1 l0_1.length c0_1, .int .i64 x1_1] rfl (by (try simp only [List.map_toArray, List.map_cons, List.map_nil]); first | done | rfl | (simp only [List.length_drop, List.length_take]; rfl)) ?_; (with_reducible refine (laws_heldNoteS.calls k1 _ _ l0_1 x1_1 t706 _ ?side1 ?side2 A11.out).mono ?_); (case side1 => repeat (first | exact (Kd.C_below HR0_1.out HB.out) | (with_reducible refine Kd.C_alloc ?_ _) | (with_reducible refine Kd.C_drewN ?_ _) | (with_reducible refine Kd.C_drew ?_))); (case side2 => exact HC0_1.out); rintro e w' ⟨rfl, ⟨nd, rfl⟩⟩; refine ⟨_, rfl, ?_⟩))
      go_roundg k1
      case measure => have := HK1.out; omega
      case rel => exact ⟨(t706), (2), (by first | rfl | (simp; done) | (simp [*]; done)), (by first | rfl | (simp; done) | (simp [*]; done)), H', ⟨by have := HK1.out; omega⟩, ⟨by (with_reducible repeat (first | refine blk_drewN ?_ _ | refine blk_drew ?_ | refine blk_alloc ?_ _)); exact BK704.out⟩, ⟨by repeat (first | (with_reducible first | exact HB.out | apply below_alloc | apply pw_below_drewN | apply below_drew1 | refine below_set ?_ GE704.out) | exact HB.out)⟩⟩
    rw [if_neg c10] at H
    exact absurd H (by simp)
   ·rw [if_neg c4] at H
    have c4b0 : decide (x5_1 < 2) = false := decide_eq_false c4
    clear c4
    obtain rfl := Option.some.inj H
    go_wp2
    go_ret
    exact ⟨by first | rfl | (simp [errW_none, errW_some] <;> rfl) | (simp [*, errW_none, errW_some] <;> rfl), by repeat (first | (with_reducible first | exact HB.out | apply below_alloc | apply pw_below_drewN | apply below_drew1 | refine below_set ?_ GE704.out) | exact HB.out)⟩

end Go.Proofs.Ytjmgbdepmbbepaa.Pa

namespace Go.Proofs.Ytjmgbdepmbbepaa.Pa
open Go.RowKit Go.Proofs.YtjmgbdepmbbepaaW.PrintWords Go.Proofs.YtjmgbdepmbbepaaW.PrintLast Go.Proofs.YtjmgbdepmbbepaaW.PrintMore
attribute [local go_sem] max2_int min2_int max_two min_two max_three min_three max_four min_four
set_option linter.unusedVariables false
set_option linter.unusedSimpArgs false

def laws_heldTrunk.f (k : Nat) (l0_0 : List Int) (l0_1 : List Int) (a0_2 : Int) (a0_3 : Int) (l0_4 : List (S61)) (l0_5 : List (S61)) (a1 : Int) : Option (Int) := (laws_heldIntSA2.f k l0_0 l0_1 a1).bind fun t708 => (if t708 < 0 then (some (-1)) else ((laws_heldNoteSA2.f k l0_4 l0_5 t708).bind fun t709 => (if t709 < 0 then (some (-1)) else (some t709))))
theorem laws_heldTrunk.mono : ∀ a0 a1 a2 a3 a4 a5 a6 k, LeO (laws_heldTrunk.f k a0 a1 a2 a3 a4 a5 a6) (laws_heldTrunk.f (k + 1) a0 a1 a2 a3 a4 a5 a6) := by
 intro a0 a1 a2 a3 a4 a5 a6 k
 unfold laws_heldTrunk.f
 repeat' first
  | (with_reducible exact laws_heldIntSA2.mono _ _ _ _)
  | (with_reducible exact laws_heldNoteSA2.mono _ _ _ _)
  | (with_reducible exact LeO.refl _)
  | (with_reducible exact LeO.none _)
  | (with_reducible refine LeO.ite ?_ ?_)
  | (with_reducible refine LeO.bind ?_ (fun _ => ?_))
  | exact laws_heldIntSA2.mono _ _ _ _
  | exact laws_heldNoteSA2.mono _ _ _ _
  | exact LeO.none _
  | refine LeO.ite ?_ ?_
  | refine LeO.bind ?_ (fun _ => ?_)
set_option maxHeartbeats 8000000 in
set_option maxRecDepth 100000 in
theorem laws_heldTrunk.calls (k : Nat) (A0_0 : Option Addr) (c0_0 : Nat) (l0_0 : List Int) (A0_1 : Option Addr) (c0_1 : Nat) (l0_1 : List Int) (a0_2 : Int) (a0_3 : Int) (A0_4 : Option Addr) (c0_4 : Nat) (l0_4 : List (S61)) (A0_5 : Option Addr) (c0_5 : Nat) (l0_5 : List (S61)) (a1 : Int) (r : Int) (w : World) (hr0_0 : Kd.C (Kd.int .i64) w A0_0 l0_0.length l0_0) (hc0_0 : l0_0.length ≤ c0_0) (hr0_1 : Kd.C (Kd.int .i64) w A0_1 l0_1.length l0_1) (hc0_1 : l0_1.length ≤ c0_1) (hr0_4 : Kd.C k61 w A0_4 l0_4.length l0_4) (hc0_4 : l0_4.length ≤ c0_4) (hr0_5 : Kd.C k61 w A0_5 l0_5.length l0_5) (hc0_5 : l0_5.length ≤ c0_5) (h : laws_heldTrunk.f k l0_0 l0_1 a0_2 a0_3 l0_4 l0_5 a1 = some r) :
 Calls Try.prog 27 #[.agg #[.slice A0_0 l0_0.length c0_0, .slice A0_1 l0_1.length c0_1, .int .i64 a0_2, .int .i64 a0_3, .slice A0_4 l0_4.length c0_4, .slice A0_5 l0_5.length c0_5], .int .i64 a1] w fun e w' => e = .returned (.int .i64 r) ∧ Below w.heap.size w w' := by
 have hu33 := Try.underlying33
 have hu28 := Try.underlying28
 have hu31 := Try.underlying31
 have HR0_0 := Aside0.mk hr0_0
 have HC0_0 := Aside0.mk hc0_0
 clear hr0_0 hc0_0
 have HR0_1 := Aside0.mk hr0_1
 have HC0_1 := Aside0.mk hc0_1
 clear hr0_1 hc0_1
 have HR0_4 := Aside0.mk hr0_4
 have HC0_4 := Aside0.mk hc0_4
 clear hr0_4 hc0_4
 have HR0_5 := Aside0.mk hr0_5
 have HC0_5 := Aside0.mk hc0_5
 clear hr0_5 hc0_5
 have HB := Aside0.mk (Below.refl w.heap.size w)
 have H : ((laws_heldIntSA2.f k l0_0 l0_1 a1).bind fun t708 => (if t708 < 0 then (some (-1)) else ((laws_heldNoteSA2.f k l0_4 l0_5 t708).bind fun t709 => (if t709 < 0 then (some (-1)) else (some t709))))) = some r := h
 clear h
 replace H := Option.bind_eq_some_iff.mp H
 obtain ⟨t708, A30, H⟩ := H
 replace H : (if t708 < 0 then (some (-1)) else ((laws_heldNoteSA2.f k l0_4 l0_5 t708).bind fun t709 => (if t709 < 0 then (some (-1)) else (some t709)))) = some r := H
 have A3 := Aside0.mk A30
 clear A30
 by_cases c4 : t708 < 0
 ·rw [if_pos c4] at H
  have c4b0 : decide (t708 < 0) = true := decide_eq_true c4
  clear c4
  obtain rfl := Option.some.inj H
  go_enter Try.func27, Try.ntmps27
  go_wp2_with (first | ((with_reducible refine gate_dst (N := 2) rfl ?_); refine box_event ?hg (N := 2) ?hd (cs := #[.slice A0_0 l0_0.length c0_0, .slice A0_1 l0_1.length c0_1, .int .i64 a0_2, .int .i64 a0_3, .slice A0_4 l0_4.length c0_4, .slice A0_5 l0_5.length c0_5]) (t := 33) ?hr ?_; (case hd => rfl); (case hg => rfl); (case hr => first | (go_simp; done) | (go_simp; rfl)); intro gb707 hg w5 hbox hb; have n0_ := Aside0.mk (below_step (by repeat (first | (with_reducible first | exact HB.out | apply below_alloc | apply pw_below_drewN | apply below_drew1) | exact HB.out)) hb); have n1_ := Aside0.mk (hbox); have n2_ := Aside0.mk ((by rw [hg]; exact (below_size (by repeat (first | (with_reducible first | exact HB.out | apply below_alloc | apply pw_below_drewN | apply below_drew1) | exact HB.out))) : w.heap.size ≤ gb707)); have n3_ := Aside0.mk ((by rw [hg]; exact (below_size (by repeat (first | (with_reducible first | exact HB.out | apply below_alloc | apply pw_below_drewN | apply below_drew1) | exact HB.out))) : w.heap.size ≤ gb707)); clear HB; have HB := n0_; have BK707 := n1_; have GW707 := n2_; have GE707 := n3_; clear n0_ n1_ n2_ n3_; clear hb hbox hg; have hcz6_0 : w5.cell? ⟨gb707, 0, none⟩ = some (.slice A0_0 l0_0.length c0_0) := (blk_cell BK707.out 0).trans rfl; have hcz6_1 : w5.cell? ⟨gb707, 1, none⟩ = some (.slice A0_1 l0_1.length c0_1) := (blk_cell BK707.out 1).trans rfl; have hcz6_2 : w5.cell? ⟨gb707, 2, none⟩ = some (.int .i64 a0_2) := (blk_cell BK707.out 2).trans rfl; have hcz6_3 : w5.cell? ⟨gb707, 3, none⟩ = some (.int .i64 a0_3) := (blk_cell BK707.out 3).trans rfl; have hcz6_4 : w5.cell? ⟨gb707, 4, none⟩ = some (.slice A0_4 l0_4.length c0_4) := (blk_cell BK707.out 4).trans rfl; have hcz6_5 : w5.cell? ⟨gb707, 5, none⟩ = some (.slice A0_5 l0_5.length c0_5) := (blk_cell BK707.out 5).trans rfl; have hfz6_0 := blk_frozen BK707.out 0; have hfz6_1 := blk_frozen BK707.out 1; have hfz6_2 := blk_frozen BK707.out 2; have hfz6_3 := blk_frozen BK707.out 3; have hfz6_4 := blk_frozen BK707.out 4; have hfz6_5 := blk_frozen BK707.out 5) | ((with_reducible refine gate_callee (f := 48) rfl ?_); refine goesL_ (some 8) rfl rfl Try.func48 (by kernel_rfl) rfl #[.agg #[.slice A0_0 l0_0.length c0_0, .slice A0_1 l0_1.length c0_1], .int .i64 a1] rfl (by (try simp only [List.map_toArray, List.map_cons, List.map_nil]); first | done | rfl | (simp only [List.length_drop, List.length_take]; rfl)) ?_; (with_reducible refine (laws_heldIntSA2.calls k _ _ l0_0 _ _ l0_1 a1 t708 _ ?side1 ?side2 ?side3 ?side4 A3.out).mono ?_); (case side1 => repeat (first | exact (Kd.C_below HR0_0.out HB.out) | (with_reducible refine Kd.C_alloc ?_ _) | (with_reducible refine Kd.C_drewN ?_ _) | (with_reducible refine Kd.C_drew ?_))); (case side2 => exact HC0_0.out); (case side3 => repeat (first | exact (Kd.C_below HR0_1.out HB.out) | (with_reducible refine Kd.C_alloc ?_ _) | (with_reducible refine Kd.C_drewN ?_ _) | (with_reducible refine Kd.C_drew ?_))); (case side4 => exact HC0_1.out); rintro e w7 ⟨rfl, hb⟩; refine ⟨_, rfl, ?_⟩; have n0_ := Aside0.mk (blk_below (g := gb707) (o := .cells #[.slice A0_0 l0_0.length c0_0, .slice A0_1 l0_1.length c0_1, .int .i64 a0_2, .int .i64 a0_3, .slice A0_4 l0_4.length c0_4, .slice A0_5 l0_5.length c0_5] 33 (0, 0)) (by (with_reducible repeat (first | refine blk_drewN ?_ _ | refine blk_drew ?_ | refine blk_alloc ?_ _)); exact BK707.out) hb); have n1_ := Aside0.mk (below_step (by repeat (first | (with_reducible first | exact HB.out | apply below_alloc | apply pw_below_drewN | apply below_drew1 | refine below_set ?_ GE707.out) | exact HB.out)) hb); clear BK707; clear HB; have BK707 := n0_; have HB := n1_; clear n0_ n1_; (try clear hb); (try clear hb2); (try clear hk); (try clear hi)))
  go_ret
  exact ⟨by first | rfl | (simp [errW_none, errW_some] <;> rfl) | (simp [*, errW_none, errW_some] <;> rfl), by repeat (first | (with_reducible first | exact HB.out | apply below_alloc | apply pw_below_drewN | apply below_drew1 | refine below_set ?_ GE707.out) | exact HB.out)⟩
 ·rw [if_neg c4] at H
  have c4b0 : decide (t708 < 0) = false := decide_eq_false c4
  clear c4
  replace H := Option.bind_eq_some_iff.mp H
  obtain ⟨t709, A80, H⟩ := H
  replace H : (if t709 < 0 then (some (-1)) else (some t709)) = some r := H
  have A8 := Aside0.mk A80
  clear A80
  by_cases c9 : t709 < 0
  ·rw [if_pos c9] at H
   have c9b0 : decide (t709 < 0) = true := decide_eq_true c9
   clear c9
   obtain rfl := Option.some.inj H
   go_enter Try.func27, Try.ntmps27
   go_wp2_with (first | ((with_reducible refine gate_dst (N := 2) rfl ?_); refine box_event ?hg (N := 2) ?hd (cs := #[.slice A0_0 l0_0.length c0_0, .slice A0_1 l0_1.length c0_1, .int .i64 a0_2, .int .i64 a0_3, .slice A0_4 l0_4.length c0_4, .slice A0_5 l0_5.length c0_5]) (t := 33) ?hr ?_; (case hd => rfl); (case hg => rfl); (case hr => first | (go_simp; done) | (go_simp; rfl)); intro gb707 hg w10 hbox hb; have n0_ := Aside0.mk (below_step (by repeat (first | (with_reducible first | exact HB.out | apply below_alloc | apply pw_below_drewN | apply below_drew1) | exact HB.out)) hb); have n1_ := Aside0.mk (hbox); have n2_ := Aside0.mk ((by rw [hg]; exact (below_size (by repeat (first | (with_reducible first | exact HB.out | apply below_alloc | apply pw_below_drewN | apply below_drew1) | exact HB.out))) : w.heap.size ≤ gb707)); have n3_ := Aside0.mk ((by rw [hg]; exact (below_size (by repeat (first | (with_reducible first | exact HB.out | apply below_alloc | apply pw_below_drewN | apply below_drew1) | exact HB.out))) : w.heap.size ≤ gb707)); clear HB; have HB := n0_; have BK707 := n1_; have GW707 := n2_; have GE707 := n3_; clear n0_ n1_ n2_ n3_; clear hb hbox hg; have hcz11_0 : w10.cell? ⟨gb707, 0, none⟩ = some (.slice A0_0 l0_0.length c0_0) := (blk_cell BK707.out 0).trans rfl; have hcz11_1 : w10.cell? ⟨gb707, 1, none⟩ = some (.slice A0_1 l0_1.length c0_1) := (blk_cell BK707.out 1).trans rfl; have hcz11_2 : w10.cell? ⟨gb707, 2, none⟩ = some (.int .i64 a0_2) := (blk_cell BK707.out 2).trans rfl; have hcz11_3 : w10.cell? ⟨gb707, 3, none⟩ = some (.int .i64 a0_3) := (blk_cell BK707.out 3).trans rfl; have hcz11_4 : w10.cell? ⟨gb707, 4, none⟩ = some (.slice A0_4 l0_4.length c0_4) := (blk_cell BK707.out 4).trans rfl; have hcz11_5 : w10.cell? ⟨gb707, 5, none⟩ = some (.slice A0_5 l0_5.length c0_5) := (blk_cell BK707.out 5).trans rfl; have hfz11_0 := blk_frozen BK707.out 0; have hfz11_1 := blk_frozen BK707.out 1; have hfz11_2 := blk_frozen BK707.out 2; have hfz11_3 := blk_frozen BK707.out 3; have hfz11_4 := blk_frozen BK707.out 4; have hfz11_5 := blk_frozen BK707.out 5) | ((with_reducible refine gate_callee (f := 48) rfl ?_); refine goesL_ (some 8) rfl rfl Try.func48 (by kernel_rfl) rfl #[.agg #[.slice A0_0 l0_0.length c0_0, .slice A0_1 l0_1.length c0_1], .int .i64 a1] rfl (by (try simp only [List.map_toArray, List.map_cons, List.map_nil]); first | done | rfl | (simp only [List.length_drop, List.length_take]; rfl)) ?_; (with_reducible refine (laws_heldIntSA2.calls k _ _ l0_0 _ _ l0_1 a1 t708 _ ?side1 ?side2 ?side3 ?side4 A3.out).mono ?_); (case side1 => repeat (first | exact (Kd.C_below HR0_0.out HB.out) | (with_reducible refine Kd.C_alloc ?_ _) | (with_reducible refine Kd.C_drewN ?_ _) | (with_reducible refine Kd.C_drew ?_))); (case side2 => exact HC0_0.out); (case side3 => repeat (first | exact (Kd.C_below HR0_1.out HB.out) | (with_reducible refine Kd.C_alloc ?_ _) | (with_reducible refine Kd.C_drewN ?_ _) | (with_reducible refine Kd.C_drew ?_))); (case side4 => exact HC0_1.out); rintro e w12 ⟨rfl, hb⟩; refine ⟨_, rfl, ?_⟩; have n0_ := Aside0.mk (blk_below (g := gb707) (o := .cells #[.slice A0_0 l0_0.length c0_0, .slice A0_1 l0_1.length c0_1, .int .i64 a0_2, .int .i64 a0_3, .slice A0_4 l0_4.length c0_4, .slice A0_5 l0_5.length c0_5] 33 (0, 0)) (by (with_reducible repeat (first | refine blk_drewN ?_ _ | refine blk_drew ?_ | refine blk_alloc ?_ _)); exact BK707.out) hb); have n1_ := Aside0.mk (below_step (by repeat (first | (with_reducible first | exact HB.out | apply below_alloc | apply pw_below_drewN | apply below_drew1 | refine below_set ?_ GE707.out) | exact HB.out)) hb); clear BK707; clear HB; have BK707 := n0_; have HB := n1_; clear n0_ n1_; (try clear hb); (try clear hb2); (try clear hk); (try clear hi); have hcz13_0 : w12.cell? ⟨gb707, 0, none⟩ = some (.slice A0_0 l0_0.length c0_0) := (blk_cell BK707.out 0).trans rfl; have hcz13_1 : w12.cell? ⟨gb707, 1, none⟩ = some (.slice A0_1 l0_1.length c0_1) := (blk_cell BK707.out 1).trans rfl; have hcz13_2 : w12.cell? ⟨gb707, 2, none⟩ = some (.int .i64 a0_2) := (blk_cell BK707.out 2).trans rfl; have hcz13_3 : w12.cell? ⟨gb707, 3, none⟩ = some (.int .i64 a0_3) := (blk_cell BK707.out 3).trans rfl; have hcz13_4 : w12.cell? ⟨gb707, 4, none⟩ = some (.slice A0_4 l0_4.length c0_4) := (blk_cell BK707.out 4).trans rfl; have hcz13_5 : w12.cell? ⟨gb707, 5, none⟩ = some (.slice A0_5 l0_5.length c0_5) := (blk_cell BK707.out 5).trans rfl; have hfz13_0 := blk_frozen BK707.out 0; have hfz13_1 := blk_frozen BK707.out 1; have hfz13_2 := blk_frozen BK707.out 2; have hfz13_3 := blk_frozen BK707.out 3; have hfz13_4 := blk_frozen BK707.out 4; have hfz13_5 := blk_frozen BK707.out 5) | ((with_reducible refine gate_callee (f := 49) rfl ?_); refine goesL_ (some 14) rfl rfl Try.func49 (by kernel_rfl) rfl #[.agg #[.slice A0_4 l0_4.length c0_4, .slice A0_5 l0_5.length c0_5], .int .i64 t708] rfl (by (try simp only [List.map_toArray, List.map_cons, List.map_nil]); first | done | rfl | (simp only [List.length_drop, List.length_take]; rfl)) ?_; (with_reducible refine (laws_heldNoteSA2.calls k _ _ l0_4 _ _ l0_5 t708 t709 _ ?side1 ?side2 ?side3 ?side4 A8.out).mono ?_); (case side1 => repeat (first | exact (Kd.C_below HR0_4.out HB.out) | (with_reducible refine Kd.C_alloc ?_ _) | (with_reducible refine Kd.C_drewN ?_ _) | (with_reducible refine Kd.C_drew ?_))); (case side2 => exact HC0_4.out); (case side3 => repeat (first | exact (Kd.C_below HR0_5.out HB.out) | (with_reducible refine Kd.C_alloc ?_ _) | (with_reducible refine Kd.C_drewN ?_ _) | (with_reducible refine Kd.C_drew ?_))); (case side4 => exact HC0_5.out); rintro e w14 ⟨rfl, hb⟩; refine ⟨_, rfl, ?_⟩; have n0_ := Aside0.mk (blk_below (g := gb707) (o := .cells #[.slice A0_0 l0_0.length c0_0, .slice A0_1 l0_1.length c0_1, .int .i64 a0_2, .int .i64 a0_3, .slice A0_4 l0_4.length c0_4, .slice A0_5 l0_5.length c0_5] 33 (0, 0)) (by (with_reducible repeat (first | refine blk_drewN ?_ _ | refine blk_drew ?_ | refine blk_alloc ?_ _)); exact BK707.out) hb); have n1_ := Aside0.mk (below_step (by repeat (first | (with_reducible first | exact HB.out | apply below_alloc | apply pw_below_drewN | apply below_drew1 | refine below_set ?_ GE707.out) | exact HB.out)) hb); clear BK707; clear HB; have BK707 := n0_; have HB := n1_; clear n0_ n1_; (try clear hb); (try clear hb2); (try clear hk); (try clear hi)))
   go_ret
   exact ⟨by first | rfl | (simp [errW_none, errW_some] <;> rfl) | (simp [*, errW_none, errW_some] <;> rfl), by repeat (first | (with_reducible first | exact HB.out | apply below_alloc | apply pw_below_drewN | apply below_drew1 | refine below_set ?_ GE707.out) | exact HB.out)⟩
  ·rw [if_neg c9] at H
   have c9b0 : decide (t709 < 0) = false := decide_eq_false c9
   clear c9
   obtain rfl := Option.some.inj H
   go_enter Try.func27, Try.ntmps27
   go_wp2_with (first | ((with_reducible refine gate_dst (N := 2) rfl ?_); refine box_event ?hg (N := 2) ?hd (cs := #[.slice A0_0 l0_0.length c0_0, .slice A0_1 l0_1.length c0_1, .int .i64 a0_2, .int .i64 a0_3, .slice A0_4 l0_4.length c0_4, .slice A0_5 l0_5.length c0_5]) (t := 33) ?hr ?_; (case hd => rfl); (case hg => rfl); (case hr => first | (go_simp; done) | (go_simp; rfl)); intro gb707 hg w15 hbox hb; have n0_ := Aside0.mk (below_step (by repeat (first | (with_reducible first | exact HB.out | apply below_alloc | apply pw_below_drewN | apply below_drew1) | exact HB.out)) hb); have n1_ := Aside0.mk (hbox); have n2_ := Aside0.mk ((by rw [hg]; exact (below_size (by repeat (first | (with_reducible first | exact HB.out | apply below_alloc | apply pw_below_drewN | apply below_drew1) | exact HB.out))) : w.heap.size ≤ gb707)); have n3_ := Aside0.mk ((by rw [hg]; exact (below_size (by repeat (first | (with_reducible first | exact HB.out | apply below_alloc | apply pw_below_drewN | apply below_drew1) | exact HB.out))) : w.heap.size ≤ gb707)); clear HB; have HB := n0_; have BK707 := n1_; have GW707 := n2_; have GE707 := n3_; clear n0_ n1_ n2_ n3_; clear hb hbox hg; have hcz16_0 : w15.cell? ⟨gb707, 0, none⟩ = some (.slice A0_0 l0_0.length c0_0) := (blk_cell BK707.out 0).trans rfl; have hcz16_1 : w15.cell? ⟨gb707, 1, none⟩ = some (.slice A0_1 l0_1.length c0_1) := (blk_cell BK707.out 1).trans rfl; have hcz16_2 : w15.cell? ⟨gb707, 2, none⟩ = some (.int .i64 a0_2) := (blk_cell BK707.out 2).trans rfl; have hcz16_3 : w15.cell? ⟨gb707, 3, none⟩ = some (.int .i64 a0_3) := (blk_cell BK707.out 3).trans rfl; have hcz16_4 : w15.cell? ⟨gb707, 4, none⟩ = some (.slice A0_4 l0_4.length c0_4) := (blk_cell BK707.out 4).trans rfl; have hcz16_5 : w15.cell? ⟨gb707, 5, none⟩ = some (.slice A0_5 l0_5.length c0_5) := (blk_cell BK707.out 5).trans rfl; have hfz16_0 := blk_frozen BK707.out 0; have hfz16_1 := blk_frozen BK707.out 1; have hfz16_2 := blk_frozen BK707.out 2; have hfz16_3 := blk_frozen BK707.out 3; have hfz16_4 := blk_frozen BK707.out 4; have hfz16_5 := blk_frozen BK707.out 5) | ((with_reducible refine gate_callee (f := 48) rfl ?_); refine goesL_ (some 8) rfl rfl Try.func48 (by kernel_rfl) rfl #[.agg #[.slice A0_0 l0_0.length c0_0, .slice A0_1 l0_1.length c0_1], .int .i64 a1] rfl (by (try simp only [List.map_toArray, List.map_cons, List.map_nil]); first | done | rfl | (simp only [List.length_drop, List.length_take]; rfl)) ?_; (with_reducible refine (laws_heldIntSA2.calls k _ _ l0_0 _ _ l0_1 a1 t708 _ ?side1 ?side2 ?side3 ?side4 A3.out).mono ?_); (case side1 => repeat (first | exact (Kd.C_below HR0_0.out HB.out) | (with_reducible refine Kd.C_alloc ?_ _) | (with_reducible refine Kd.C_drewN ?_ _) | (with_reducible refine Kd.C_drew ?_))); (case side2 => exact HC0_0.out); (case side3 => repeat (first | exact (Kd.C_below HR0_1.out HB.out) | (with_reducible refine Kd.C_alloc ?_ _) | (with_reducible refine Kd.C_drewN ?_ _) | (with_reducible refine Kd.C_drew ?_))); (case side4 => exact HC0_1.out); rintro e w17 ⟨rfl, hb⟩; refine ⟨_, rfl, ?_⟩; have n0_ := Aside0.mk (blk_below (g := gb707) (o := .cells #[.slice A0_0 l0_0.length c0_0, .slice A0_1 l0_1.length c0_1, .int .i64 a0_2, .int .i64 a0_3, .slice A0_4 l0_4.length c0_4, .slice A0_5 l0_5.length c0_5] 33 (0, 0)) (by (with_reducible repeat (first | refine blk_drewN ?_ _ | refine blk_drew ?_ | refine blk_alloc ?_ _)); exact BK707.out) hb); have n1_ := Aside0.mk (below_step (by repeat (first | (with_reducible first | exact HB.out | apply below_alloc | apply pw_below_drewN | apply below_drew1 | refine below_set ?_ GE707.out) | exact HB.out)) hb); clear BK707; clear HB; have BK707 := n0_; have HB := n1_; clear n0_ n1_; (try clear hb); (try clear hb2); (try clear hk); (try clear hi); have hcz18_0 : w17.cell? ⟨gb707, 0, none⟩ = some (.slice A0_0 l0_0.length c0_0) := (blk_cell BK707.out 0).trans rfl; have hcz18_1 : w17.cell? ⟨gb707, 1, none⟩ = some (.slice A0_1 l0_1.length c0_1) := (blk_cell BK707.out 1).trans rfl; have hcz18_2 : w17.cell? ⟨gb707, 2, none⟩ = some (.int .i64 a0_2) := (blk_cell BK707.out 2).trans rfl; have hcz18_3 : w17.cell? ⟨gb707, 3, none⟩ = some (.int .i64 a0_3) := (blk_cell BK707.out 3).trans rfl; have hcz18_4 : w17.cell? ⟨gb707, 4, none⟩ = some (.slice A0_4 l0_4.length c0_4) := (blk_cell BK707.out 4).trans rfl; have hcz18_5 : w17.cell? ⟨gb707, 5, none⟩ = some (.slice A0_5 l0_5.length c0_5) := (blk_cell BK707.out 5).trans rfl; have hfz18_0 := blk_frozen BK707.out 0; have hfz18_1 := blk_frozen BK707.out 1; have hfz18_2 := blk_frozen BK707.out 2; have hfz18_3 := blk_frozen BK707.out 3; have hfz18_4 := blk_frozen BK707.out 4; have hfz18_5 := blk_frozen BK707.out 5) | ((with_reducible refine gate_callee (f := 49) rfl ?_); refine goesL_ (some 14) rfl rfl Try.func49 (by kernel_rfl) rfl #[.agg #[.slice A0_4 l0_4.length c0_4, .slice A0_5 l0_5.length c0_5], .int .i64 t708] rfl (by (try simp only [List.map_toArray, List.map_cons, List.map_nil]); first | done | rfl | (simp only [List.length_drop, List.length_take]; rfl)) ?_; (with_reducible refine (laws_heldNoteSA2.calls k _ _ l0_4 _ _ l0_5 t708 t709 _ ?side1 ?side2 ?side3 ?side4 A8.out).mono ?_); (case side1 => repeat (first | exact (Kd.C_below HR0_4.out HB.out) | (with_reducible refine Kd.C_alloc ?_ _) | (with_reducible refine Kd.C_drewN ?_ _) | (with_reducible refine Kd.C_drew ?_))); (case side2 => exact HC0_4.out); (case side3 => repeat (first | exact (Kd.C_below HR0_5.out HB.out) | (with_reducible refine Kd.C_alloc ?_ _) | (with_reducible refine Kd.C_drewN ?_ _) | (with_reducible refine Kd.C_drew ?_))); (case side4 => exact HC0_5.out); rintro e w19 ⟨rfl, hb⟩; refine ⟨_, rfl, ?_⟩; have n0_ := Aside0.mk (blk_below (g := gb707) (o := .cells #[.slice A0_0 l0_0.length c0_0, .slice A0_1 l0_1.length c0_1, .int .i64 a0_2, .int .i64 a0_3, .slice A0_4 l0_4.length c0_4, .slice A0_5 l0_5.length c0_5] 33 (0, 0)) (by (with_reducible repeat (first | refine blk_drewN ?_ _ | refine blk_drew ?_ | refine blk_alloc ?_ _)); exact BK707.out) hb); have n1_ := Aside0.mk (below_step (by repeat (first | (with_reducible first | exact HB.out | apply below_alloc | apply pw_below_drewN | apply below_drew1 | refine below_set ?_ GE707.out) | exact HB.out)) hb); clear BK707; clear HB; have BK707 := n0_; have HB := n1_; clear n0_ n1_; (try clear hb); (try clear hb2); (try clear hk); (try clear hi)))
   go_ret
   exact ⟨by first | rfl | (simp [errW_none, errW_some] <;> rfl) | (simp [*, errW_none, errW_some] <;> rfl), by repeat (first | (with_reducible first | exact HB.out | apply below_alloc | apply pw_below_drewN | apply below_drew1 | refine below_set ?_ GE707.out) | exact HB.out)⟩

end Go.Proofs.Ytjmgbdepmbbepaa.Pa

namespace Go.Proofs.Ytjmgbdepmbbepaa.Pure
open Go.RowKit Go.Proofs.Ytjmgbdepmbbepaa.Pa Go.Proofs.Ytjmgbdepmbbepaa.Kit Go.Proofs.YtjmgbdepmbbepaaW.PrintWords Go.Proofs.YtjmgbdepmbbepaaW.PrintLast Go.Proofs.YtjmgbdepmbbepaaW.PrintMore

def note (x : S90) : S61 := ⟨x.f0, x.f1⟩
theorem toNoteS_ev (l : List S90) (hl : l.length ≤ 17592186044416) : Ev (fun k => laws_toNoteS.f k l) (l.map note) := by
 unfold laws_toNoteS.f
 refine ev_pos (by omega) (ev_pos (by omega) ?_)
 have hz : ((l.length : Int)).toNat = l.length := by omega
 rw [hz]
 refine map_loop (fun out i k => laws_toNoteS.l0 k l out i) z90 z61 note l ?_ ?_
 ·intro out ho
  exact Ev.step (fun _ => rfl) (ev_neg (by omega) (ev_some _))
 ·intro i out hi ho h
  refine Ev.step (fun _ => rfl) (ev_pos (by omega) (ev_pos (by omega) (ev_bindc rfl (ev_pos (by omega) ?_))))
  rw [wrap_next i l.length hi (by omega)]
  exact h
theorem toNoteSA2_ev (l m : List S90) (hl : l.length ≤ 17592186044416) (hm : m.length ≤ 17592186044416) : Ev (fun k => laws_toNoteSA2.f k l m) (l.map note, m.map note) := by
 unfold laws_toNoteSA2.f
 exact Ev.step (fun _ => rfl) (ev_pos (by omega) (ev_pos rfl (Ev.bind (toNoteS_ev l hl) (Ev.step (fun _ => rfl) (ev_pos (by omega) (ev_neg (by omega) (ev_pos rfl (Ev.bind (toNoteS_ev m hm) (Ev.step (fun _ => rfl) (ev_neg (by omega) (ev_some _)))))))))))
theorem toIntSA2_ev (l m : List Int) (hl : l.length ≤ 35184372088832) (hm : m.length ≤ 35184372088832) : Ev (fun k => laws_toIntSA2.f k l m) (l, m) := by
 unfold laws_toIntSA2.f
 exact Ev.step (fun _ => rfl) (ev_pos (by omega) (ev_pos rfl (Ev.bind (toIntS_ev l hl) (Ev.step (fun _ => rfl) (ev_pos (by omega) (ev_neg (by omega) (ev_pos rfl (Ev.bind (toIntS_ev m hm) (Ev.step (fun _ => rfl) (ev_neg (by omega) (ev_some _)))))))))))
theorem toIntA2_ev (a b : Int) : Ev (fun k => laws_toIntA2.f k a b) (a, b) := by
 unfold laws_toIntA2.f
 exact Ev.step (fun _ => rfl) (ev_pos (by omega) (ev_pos rfl (Ev.step (fun _ => rfl) (ev_pos (by omega) (ev_neg (by omega) (ev_pos rfl (Ev.step (fun _ => rfl) (ev_neg (by omega) (ev_some _)))))))))
theorem toTrunk_ev (l m : List Int) (a b : Int) (u v : List S90) (hl : l.length ≤ 17592186044416) (hm : m.length ≤ 17592186044416) (hu : u.length ≤ 17592186044416) (hv : v.length ≤ 17592186044416) : Ev (fun k => laws_toTrunk.f k l m a b u v) (l, m, a, b, u.map note, v.map note) := by
 unfold laws_toTrunk.f
 exact Ev.bind (toIntSA2_ev l m (by omega) (by omega)) (Ev.bind (toIntA2_ev a b) (Ev.bind (toNoteSA2_ev u v hu hv) (ev_some _)))
theorem eqNoteS_ev (l : List S61) (hl : l.length ≤ 9223372036854775807) : Ev (fun k => laws_eqNoteS.f k l l) true := by
 unfold laws_eqNoteS.f
 refine ev_pos rfl ?_
 refine ev_upto l.length (fun i k => laws_eqNoteS.l0 k l l (i : Int)) true ?_ ?_ 0 (by omega)
 ·exact Ev.step (fun _ => rfl) (ev_neg (by omega) (ev_some _))
 ·intro i hi h
  refine Ev.step (fun _ => rfl) (ev_pos (by omega) (ev_pos (by omega) (ev_pos (by omega) (ev_bindc (a := true) (by simp [laws_eqNote.f]) (ev_pos rfl ?_)))))
  rw [wrap_next i l.length hi hl]; exact h
theorem eqNoteSA2_ev (l m : List S61) (hl : l.length ≤ 9223372036854775807) (hm : m.length ≤ 9223372036854775807) : Ev (fun k => laws_eqNoteSA2.f k l m l m) true := by
 unfold laws_eqNoteSA2.f
 exact Ev.step (fun _ => rfl) (ev_pos (by omega) (ev_pos rfl (Ev.bind (eqNoteS_ev l hl) (ev_pos rfl (Ev.step (fun _ => rfl) (ev_pos (by omega) (ev_neg (by omega) (ev_pos rfl (Ev.bind (eqNoteS_ev m hm) (ev_pos rfl (Ev.step (fun _ => rfl) (ev_neg (by omega) (ev_some _)))))))))))))
theorem eqIntSA2_ev (l m : List Int) (hl : l.length ≤ 9223372036854775807) (hm : m.length ≤ 9223372036854775807) : Ev (fun k => laws_eqIntSA2.f k l m l m) true := by
 unfold laws_eqIntSA2.f
 exact Ev.step (fun _ => rfl) (ev_pos (by omega) (ev_pos rfl (Ev.bind (eqIntS_ev l hl) (ev_pos rfl (Ev.step (fun _ => rfl) (ev_pos (by omega) (ev_neg (by omega) (ev_pos rfl (Ev.bind (eqIntS_ev m hm) (ev_pos rfl (Ev.step (fun _ => rfl) (ev_neg (by omega) (ev_some _)))))))))))))
theorem eqIntA2_ev (a b : Int) : Ev (fun k => laws_eqIntA2.f k a b a b) true := by
 unfold laws_eqIntA2.f
 exact Ev.step (fun _ => rfl) (ev_pos (by omega) (ev_pos rfl (ev_pos rfl (Ev.step (fun _ => rfl) (ev_pos (by omega) (ev_neg (by omega) (ev_pos rfl (ev_pos rfl (Ev.step (fun _ => rfl) (ev_neg (by omega) (ev_some _)))))))))))
theorem eqTrunk_ev (l m : List Int) (a b : Int) (u v : List S61) (hl : l.length ≤ 9223372036854775807) (hm : m.length ≤ 9223372036854775807) (hu : u.length ≤ 9223372036854775807) (hv : v.length ≤ 9223372036854775807) : Ev (fun k => laws_eqTrunk.f k l m a b u v l m a b u v) true := by
 unfold laws_eqTrunk.f
 exact Ev.bind (eqIntSA2_ev l m hl hm) (ev_pos rfl (Ev.bind (eqIntA2_ev a b) (ev_pos rfl (Ev.bind (eqNoteSA2_ev u v hu hv) (ev_pos rfl (ev_some _))))))

end Go.Proofs.Ytjmgbdepmbbepaa.Pure

namespace Go.Proofs.Ytjmgbdepmbbepaa.Pure
open Go.RowKit Go.Proofs.Ytjmgbdepmbbepaa.Pa Go.Proofs.Ytjmgbdepmbbepaa.Kit Go.Proofs.YtjmgbdepmbbepaaW.PrintWords Go.Proofs.YtjmgbdepmbbepaaW.PrintLast Go.Proofs.YtjmgbdepmbbepaaW.PrintMore

def szS (n : Nat) (a : Int) : Int := if wrap64 (a - (n : Int)) < 0 then -1 else wrap64 (a - (n : Int))
theorem szIntS_eq (l : List Int) (a : Int) : laws_szIntS.f l a = some (szS l.length a) := by
 unfold laws_szIntS.f szS
 split <;> rfl
theorem szNoteS_eq (l : List S90) (a : Int) : laws_szNoteS.f l a = some (szS l.length a) := by
 unfold laws_szNoteS.f szS
 split <;> rfl
theorem szIntSA2_ev (l m : List Int) (a : Int) : ∃ t, Ev (fun k => laws_szIntSA2.f k l m a) t := by
 unfold laws_szIntSA2.f
 by_cases h : szS l.length a < 0
 ·exact ⟨_, Ev.step (fun _ => rfl) (ev_pos (by omega) (ev_pos rfl (ev_bindc (szIntS_eq _ _) (ev_pos h (ev_some _)))))⟩
 ·by_cases h2 : szS m.length (szS l.length a) < 0
  ·exact ⟨_, Ev.step (fun _ => rfl) (ev_pos (by omega) (ev_pos rfl (ev_bindc (szIntS_eq _ _) (ev_neg h (Ev.step (fun _ => rfl) (ev_pos (by omega) (ev_neg (by omega) (ev_pos rfl (ev_bindc (szIntS_eq _ _) (ev_pos h2 (ev_some _)))))))))))⟩
  ·exact ⟨_, Ev.step (fun _ => rfl) (ev_pos (by omega) (ev_pos rfl (ev_bindc (szIntS_eq _ _) (ev_neg h (Ev.step (fun _ => rfl) (ev_pos (by omega) (ev_neg (by omega) (ev_pos rfl (ev_bindc (szIntS_eq _ _) (ev_neg h2 (Ev.step (fun _ => rfl) (ev_neg (by omega) (ev_some _)))))))))))))⟩
theorem szNoteSA2_ev (l m : List S90) (a : Int) : ∃ t, Ev (fun k => laws_szNoteSA2.f k l m a) t := by
 unfold laws_szNoteSA2.f
 by_cases h : szS l.length a < 0
 ·exact ⟨_, Ev.step (fun _ => rfl) (ev_pos (by omega) (ev_pos rfl (ev_bindc (szNoteS_eq _ _) (ev_pos h (ev_some _)))))⟩
 ·by_cases h2 : szS m.length (szS l.length a) < 0
  ·exact ⟨_, Ev.step (fun _ => rfl) (ev_pos (by omega) (ev_pos rfl (ev_bindc (szNoteS_eq _ _) (ev_neg h (Ev.step (fun _ => rfl) (ev_pos (by omega) (ev_neg (by omega) (ev_pos rfl (ev_bindc (szNoteS_eq _ _) (ev_pos h2 (ev_some _)))))))))))⟩
  ·exact ⟨_, Ev.step (fun _ => rfl) (ev_pos (by omega) (ev_pos rfl (ev_bindc (szNoteS_eq _ _) (ev_neg h (Ev.step (fun _ => rfl) (ev_pos (by omega) (ev_neg (by omega) (ev_pos rfl (ev_bindc (szNoteS_eq _ _) (ev_neg h2 (Ev.step (fun _ => rfl) (ev_neg (by omega) (ev_some _)))))))))))))⟩
theorem szTrunk_ev (l m : List Int) (a b : Int) (u v : List S90) (n : Int) : ∃ t, Ev (fun k => laws_szTrunk.f k l m a b u v n) t := by
 unfold laws_szTrunk.f
 obtain ⟨t, ht⟩ := szIntSA2_ev l m n
 by_cases h : t < 0
 ·exact ⟨_, Ev.bind ht (ev_pos h (ev_some _))⟩
 ·obtain ⟨t2, h2⟩ := szNoteSA2_ev u v t
  by_cases h3 : t2 < 0
  ·exact ⟨_, Ev.bind ht (ev_neg h (Ev.bind h2 (ev_pos h3 (ev_some _))))⟩
  ·exact ⟨_, Ev.bind ht (ev_neg h (Ev.bind h2 (ev_neg h3 (ev_some _))))⟩

end Go.Proofs.Ytjmgbdepmbbepaa.Pure

namespace Go.Proofs.Ytjmgbdepmbbepaa.Pure
open Go.RowKit Go.Proofs.Ytjmgbdepmbbepaa.Pa Go.Proofs.Ytjmgbdepmbbepaa.Kit Go.Proofs.YtjmgbdepmbbepaaW.PrintWords Go.Proofs.YtjmgbdepmbbepaaW.PrintLast Go.Proofs.YtjmgbdepmbbepaaW.PrintMore

def inB (x a b : Int) : Bool := decide (a ≤ x) && decide (x ≤ b)
theorem impl_in_eq (x a b : Int) : impl_in.f x a b = some (inB x a b) := by
 unfold impl_in.f inB
 by_cases h : a ≤ x <;> simp [h]
theorem spec_in_eq (x a b : Int) : spec_l1In.f x a b = some (inB x a b) := by
 unfold spec_l1In.f inB
 by_cases h : a ≤ x <;> simp [h]
theorem inB_iff (x a b : Int) : inB x a b = true ↔ a ≤ x ∧ x ≤ b := by simp [inB]

end Go.Proofs.Ytjmgbdepmbbepaa.Pure

namespace Go.Proofs.Ytjmgbdepmbbepaa.Pure
open Go.RowKit Go.Proofs.Ytjmgbdepmbbepaa.Pa Go.Proofs.Ytjmgbdepmbbepaa.Kit Go.Proofs.YtjmgbdepmbbepaaW.PrintWords Go.Proofs.YtjmgbdepmbbepaaW.PrintLast Go.Proofs.YtjmgbdepmbbepaaW.PrintMore

def circB (l : List Int) : Bool := l.all fun c => inB c 0 4
def noteB (n : Nat) (x : S61) : Bool := inB x.f0 1 5 && inB x.f1 0 (wrap64 ((n : Int) - 1))
def trunkB (l m : List Int) (a b : Int) (u v : List S61) : Bool :=
 decide (l.length = m.length) && inB (l.length : Int) 1 24 && (circB l && (u.all (noteB l.length) && (inB a 0 1000000 && decide ((u.length : Int) ≤ 60) && (circB m && (v.all (noteB l.length) && (inB b 0 1000000 && decide ((v.length : Int) ≤ 60)))))))

section impl
variable (l m : List Int) (a b : Int) (u v : List S61)
theorem iT102 (hv : v.length ≤ 9223372036854775807) : Ev (fun k => impl_TrunkOk.l202 k (l.length : Int) v (v.length : Int) 0 l m a b u v) (v.all (noteB l.length) && (inB b 0 1000000 && decide ((v.length : Int) ≤ 60))) := by
 refine all_loop (fun i k => impl_TrunkOk.l202 k (l.length : Int) v (v.length : Int) i l m a b u v) z61 (noteB l.length) v _ ?_ ?_ ?_
 ·refine Ev.step (fun _ => rfl) (ev_neg (by omega) (ev_bindc (impl_in_eq _ _ _) (ev_const ?_)))
  cases inB b 0 1000000
  ·simp
  ·by_cases h : (v.length : Int) ≤ 60
   ·simp [h, Int.not_lt.2 h]
   ·simp [h, Int.not_le.1 h]
 ·intro i hi hp r h
  have hp' : noteB l.length (rd_T61 v (i : Int)) = true := hp
  unfold noteB at hp'
  rw [Bool.and_eq_true] at hp'
  refine Ev.step (fun _ => rfl) (ev_pos (by omega) (ev_pos (by omega) (ev_pos (by omega) (ev_bindc ((impl_in_eq _ _ _).trans (congrArg some hp'.1)) (ev_pos rfl (ev_bindc ((impl_in_eq _ _ _).trans (congrArg some hp'.2)) (ev_pos rfl ?_)))))))
  rw [wrap_next i v.length hi hv]; exact h
 ·intro i hi hp
  have hp' : noteB l.length (rd_T61 v (i : Int)) = false := hp
  unfold noteB at hp'
  refine Ev.step (fun _ => rfl) (ev_pos (by omega) (ev_pos (by omega) (ev_pos (by omega) ?_)))
  simp only [impl_in_eq, Option.bind_some]
  cases h1 : inB (rd_T61 v (i : Int)).f0 1 5
  ·exact ev_neg (by simp) (ev_some _)
  refine ev_pos rfl ?_
  cases h2 : inB (rd_T61 v (i : Int)).f1 0 (wrap64 ((l.length : Int) - 1))
  ·exact ev_neg (by simp) (ev_some _)
  rw [h1, h2] at hp'
  cases hp'
theorem iT101 (B : Bool) (hm : m.length ≤ 9223372036854775807) (hB : Ev (fun k => impl_TrunkOk.l202 k (l.length : Int) v (v.length : Int) 0 l m a b u v) B) : Ev (fun k => impl_TrunkOk.l201 k (l.length : Int) m (m.length : Int) 0 l m a b u v) (circB m && B) := by
 refine all_loop (fun i k => impl_TrunkOk.l201 k (l.length : Int) m (m.length : Int) i l m a b u v) 0 (fun c => inB c 0 4) m _ ?_ ?_ ?_
 ·exact Ev.step (fun _ => rfl) (ev_neg (by omega) hB)
 ·intro i hi hp r h
  have hp' : inB (rd m (i : Int)) 0 4 = true := hp
  refine Ev.step (fun _ => rfl) (ev_pos (by omega) (ev_pos (by omega) (ev_pos (by omega) (ev_bindc ((impl_in_eq _ _ _).trans (congrArg some hp')) (ev_pos rfl ?_)))))
  rw [wrap_next i m.length hi hm]; exact h
 ·intro i hi hp
  have hp' : inB (rd m (i : Int)) 0 4 = false := hp
  exact Ev.step (fun _ => rfl) (ev_pos (by omega) (ev_pos (by omega) (ev_pos (by omega) (ev_bindc ((impl_in_eq _ _ _).trans (congrArg some hp')) (ev_neg (by simp) (ev_some _))))))
theorem iT2 (B : Bool) (hu : u.length ≤ 9223372036854775807) (hB : Ev (fun k => impl_TrunkOk.l201 k (l.length : Int) m (m.length : Int) 0 l m a b u v) B) : Ev (fun k => impl_TrunkOk.l102 k (l.length : Int) u (u.length : Int) 0 l m a b u v) (u.all (noteB l.length) && (inB a 0 1000000 && decide ((u.length : Int) ≤ 60) && B)) := by
 refine all_loop (fun i k => impl_TrunkOk.l102 k (l.length : Int) u (u.length : Int) i l m a b u v) z61 (noteB l.length) u _ ?_ ?_ ?_
 ·refine Ev.step (fun _ => rfl) (ev_neg (by omega) (ev_bindc (impl_in_eq _ _ _) ?_))
  cases inB a 0 1000000
  ·exact ev_neg (by simp) (ev_some _)
  ·refine ev_pos rfl ?_
   by_cases h : (u.length : Int) ≤ 60
   ·exact ev_neg (by omega) (ev_eq hB (by simp [h]))
   ·exact ev_pos (by omega) (ev_eq (ev_some _) (by simp [h]))
 ·intro i hi hp r h
  have hp' : noteB l.length (rd_T61 u (i : Int)) = true := hp
  unfold noteB at hp'
  rw [Bool.and_eq_true] at hp'
  refine Ev.step (fun _ => rfl) (ev_pos (by omega) (ev_pos (by omega) (ev_pos (by omega) (ev_bindc ((impl_in_eq _ _ _).trans (congrArg some hp'.1)) (ev_pos rfl (ev_bindc ((impl_in_eq _ _ _).trans (congrArg some hp'.2)) (ev_pos rfl ?_)))))))
  rw [wrap_next i u.length hi hu]; exact h
 ·intro i hi hp
  have hp' : noteB l.length (rd_T61 u (i : Int)) = false := hp
  unfold noteB at hp'
  refine Ev.step (fun _ => rfl) (ev_pos (by omega) (ev_pos (by omega) (ev_pos (by omega) ?_)))
  simp only [impl_in_eq, Option.bind_some]
  cases h1 : inB (rd_T61 u (i : Int)).f0 1 5
  ·exact ev_neg (by simp) (ev_some _)
  refine ev_pos rfl ?_
  cases h2 : inB (rd_T61 u (i : Int)).f1 0 (wrap64 ((l.length : Int) - 1))
  ·exact ev_neg (by simp) (ev_some _)
  rw [h1, h2] at hp'
  cases hp'
theorem iT1 (B : Bool) (hl : l.length ≤ 9223372036854775807) (hB : Ev (fun k => impl_TrunkOk.l102 k (l.length : Int) u (u.length : Int) 0 l m a b u v) B) : Ev (fun k => impl_TrunkOk.l101 k (l.length : Int) l (l.length : Int) 0 l m a b u v) (circB l && B) := by
 refine all_loop (fun i k => impl_TrunkOk.l101 k (l.length : Int) l (l.length : Int) i l m a b u v) 0 (fun c => inB c 0 4) l _ ?_ ?_ ?_
 ·exact Ev.step (fun _ => rfl) (ev_neg (by omega) hB)
 ·intro i hi hp r h
  have hp' : inB (rd l (i : Int)) 0 4 = true := hp
  refine Ev.step (fun _ => rfl) (ev_pos (by omega) (ev_pos (by omega) (ev_pos (by omega) (ev_bindc ((impl_in_eq _ _ _).trans (congrArg some hp')) (ev_pos rfl ?_)))))
  rw [wrap_next i l.length hi hl]; exact h
 ·intro i hi hp
  have hp' : inB (rd l (i : Int)) 0 4 = false := hp
  exact Ev.step (fun _ => rfl) (ev_pos (by omega) (ev_pos (by omega) (ev_pos (by omega) (ev_bindc ((impl_in_eq _ _ _).trans (congrArg some hp')) (ev_neg (by simp) (ev_some _))))))
theorem implTrunkOk_ev (hl : l.length ≤ 9223372036854775807) (hm : m.length ≤ 9223372036854775807) (hu : u.length ≤ 9223372036854775807) (hv : v.length ≤ 9223372036854775807) : Ev (fun k => impl_TrunkOk.f k l m a b u v) (trunkB l m a b u v) := by
 have hr := iT1 l m a b u v _ hl (iT2 l m a b u v _ hu (iT101 l m a b u v _ hm (iT102 l m a b u v hv)))
 have hj : ∀ x, Ev (fun k => impl_TrunkOk.j0 k (l.length : Int) x l m a b u v) (!x && (circB l && (u.all (noteB l.length) && (inB a 0 1000000 && decide ((u.length : Int) ≤ 60) && (circB m && (v.all (noteB l.length) && (inB b 0 1000000 && decide ((v.length : Int) ≤ 60)))))))) := by
  intro x
  cases x
  ·have : Ev (fun k => impl_TrunkOk.j0 k (l.length : Int) false l m a b u v) _ := Ev.step (fun _ => rfl) hr
   simpa using this
  ·have : Ev (fun k => impl_TrunkOk.j0 k (l.length : Int) true l m a b u v) false := Ev.step (f := fun _ => some false) (fun _ => rfl) (ev_some _)
   simpa using this
 unfold impl_TrunkOk.f trunkB
 by_cases h : l.length = m.length
 ·refine ev_pos (by omega) (ev_bindc (impl_in_eq _ _ _) (ev_eq (hj _) ?_))
  simp [h]
 ·refine ev_neg (by omega) (ev_eq (hj _) ?_)
  simp [h]
end impl

section spec
variable (l m : List Int) (a b : Int) (u v : List S61)
theorem sT102 (hv : v.length ≤ 9223372036854775807) : Ev (fun k => spec_TrunkOk.l202 k (l.length : Int) 0 l m a b u v) (v.all (noteB l.length) && (inB b 0 1000000 && decide ((v.length : Int) ≤ 60))) := by
 refine all_loop (fun i k => spec_TrunkOk.l202 k (l.length : Int) i l m a b u v) z61 (noteB l.length) v _ ?_ ?_ ?_
 ·refine Ev.step (fun _ => rfl) (ev_neg (by omega) (ev_const ?_))
  simp only [spec_in_eq, Option.bind_some]
  cases inB b 0 1000000
  ·simp
  ·by_cases h : (v.length : Int) ≤ 60
   ·simp [h, Int.not_lt.2 h]
   ·simp [h, Int.not_le.1 h]
 ·intro i hi hp r h
  have hp' : noteB l.length (rd_T61 v (i : Int)) = true := hp
  unfold noteB at hp'
  rw [Bool.and_eq_true] at hp'
  refine Ev.step (fun _ => rfl) (ev_pos (by omega) (ev_pos (by omega) (ev_bindc ((spec_in_eq _ _ _).trans (congrArg some hp'.1)) (ev_pos rfl (ev_bindc ((spec_in_eq _ _ _).trans (congrArg some hp'.2)) (ev_pos rfl ?_))))))
  rw [wrap_next i v.length hi hv]; exact h
 ·intro i hi hp
  have hp' : noteB l.length (rd_T61 v (i : Int)) = false := hp
  unfold noteB at hp'
  refine Ev.step (fun _ => rfl) (ev_pos (by omega) (ev_pos (by omega) ?_))
  simp only [spec_in_eq, Option.bind_some]
  cases h1 : inB (rd_T61 v (i : Int)).f0 1 5
  ·exact ev_neg (by simp) (ev_some _)
  refine ev_pos rfl ?_
  cases h2 : inB (rd_T61 v (i : Int)).f1 0 (wrap64 ((l.length : Int) - 1))
  ·exact ev_neg (by simp) (ev_some _)
  rw [h1, h2] at hp'
  cases hp'
theorem sT101 (B : Bool) (hm : m.length ≤ 9223372036854775807) (he : l.length = m.length) (hB : Ev (fun k => spec_TrunkOk.l202 k (l.length : Int) 0 l m a b u v) B) : Ev (fun k => spec_TrunkOk.l201 k (l.length : Int) 0 l m a b u v) (circB m && B) := by
 refine all_loop (fun i k => spec_TrunkOk.l201 k (l.length : Int) i l m a b u v) 0 (fun c => inB c 0 4) m _ ?_ ?_ ?_
 ·exact Ev.step (fun _ => rfl) (ev_neg (by omega) hB)
 ·intro i hi hp r h
  have hp' : inB (rd m (i : Int)) 0 4 = true := hp
  refine Ev.step (fun _ => rfl) (ev_pos (by omega) (ev_pos (by omega) (ev_pos (by omega) (ev_bindc ((spec_in_eq _ _ _).trans (congrArg some hp')) (ev_pos rfl ?_)))))
  rw [wrap_next i m.length hi hm]; exact h
 ·intro i hi hp
  have hp' : inB (rd m (i : Int)) 0 4 = false := hp
  exact Ev.step (fun _ => rfl) (ev_pos (by omega) (ev_pos (by omega) (ev_pos (by omega) (ev_bindc ((spec_in_eq _ _ _).trans (congrArg some hp')) (ev_neg (by simp) (ev_some _))))))
theorem sT2 (B : Bool) (hu : u.length ≤ 9223372036854775807) (hB : Ev (fun k => spec_TrunkOk.l201 k (l.length : Int) 0 l m a b u v) B) : Ev (fun k => spec_TrunkOk.l102 k (l.length : Int) 0 l m a b u v) (u.all (noteB l.length) && (inB a 0 1000000 && decide ((u.length : Int) ≤ 60) && B)) := by
 refine all_loop (fun i k => spec_TrunkOk.l102 k (l.length : Int) i l m a b u v) z61 (noteB l.length) u _ ?_ ?_ ?_
 ·refine Ev.step (fun _ => rfl) (ev_neg (by omega) ?_)
  simp only [spec_in_eq, Option.bind_some]
  by_cases h : (u.length : Int) ≤ 60
  ·refine ev_neg (by omega) ?_
   cases inB a 0 1000000
   ·exact ev_neg (by simp) (ev_some _)
   ·exact ev_pos rfl (ev_eq hB (by simp [h]))
  ·exact ev_pos (by omega) (ev_eq (ev_some _) (by simp [h]))
 ·intro i hi hp r h
  have hp' : noteB l.length (rd_T61 u (i : Int)) = true := hp
  unfold noteB at hp'
  rw [Bool.and_eq_true] at hp'
  refine Ev.step (fun _ => rfl) (ev_pos (by omega) (ev_pos (by omega) (ev_bindc ((spec_in_eq _ _ _).trans (congrArg some hp'.1)) (ev_pos rfl (ev_bindc ((spec_in_eq _ _ _).trans (congrArg some hp'.2)) (ev_pos rfl ?_))))))
  rw [wrap_next i u.length hi hu]; exact h
 ·intro i hi hp
  have hp' : noteB l.length (rd_T61 u (i : Int)) = false := hp
  unfold noteB at hp'
  refine Ev.step (fun _ => rfl) (ev_pos (by omega) (ev_pos (by omega) ?_))
  simp only [spec_in_eq, Option.bind_some]
  cases h1 : inB (rd_T61 u (i : Int)).f0 1 5
  ·exact ev_neg (by simp) (ev_some _)
  refine ev_pos rfl ?_
  cases h2 : inB (rd_T61 u (i : Int)).f1 0 (wrap64 ((l.length : Int) - 1))
  ·exact ev_neg (by simp) (ev_some _)
  rw [h1, h2] at hp'
  cases hp'
theorem sT1 (B : Bool) (hl : l.length ≤ 9223372036854775807) (hB : Ev (fun k => spec_TrunkOk.l102 k (l.length : Int) 0 l m a b u v) B) : Ev (fun k => spec_TrunkOk.l101 k (l.length : Int) 0 l m a b u v) (circB l && B) := by
 refine all_loop (fun i k => spec_TrunkOk.l101 k (l.length : Int) i l m a b u v) 0 (fun c => inB c 0 4) l _ ?_ ?_ ?_
 ·exact Ev.step (fun _ => rfl) (ev_neg (by omega) hB)
 ·intro i hi hp r h
  have hp' : inB (rd l (i : Int)) 0 4 = true := hp
  refine Ev.step (fun _ => rfl) (ev_pos (by omega) (ev_pos (by omega) (ev_pos (by omega) (ev_bindc ((spec_in_eq _ _ _).trans (congrArg some hp')) (ev_pos rfl ?_)))))
  rw [wrap_next i l.length hi hl]; exact h
 ·intro i hi hp
  have hp' : inB (rd l (i : Int)) 0 4 = false := hp
  exact Ev.step (fun _ => rfl) (ev_pos (by omega) (ev_pos (by omega) (ev_pos (by omega) (ev_bindc ((spec_in_eq _ _ _).trans (congrArg some hp')) (ev_neg (by simp) (ev_some _))))))
theorem specTrunkOk_ev (hl : l.length ≤ 9223372036854775807) (hm : m.length ≤ 9223372036854775807) (hu : u.length ≤ 9223372036854775807) (hv : v.length ≤ 9223372036854775807) : Ev (fun k => spec_TrunkOk.f k l m a b u v) (trunkB l m a b u v) := by
 have h0 : Ev (fun k => spec_TrunkOk.j0 k (l.length : Int) true l m a b u v) false := Ev.step (f := fun _ => some false) (fun _ => rfl) (ev_some _)
 unfold spec_TrunkOk.f trunkB
 refine ev_bindc (spec_in_eq _ _ _) ?_
 cases h1 : inB (l.length : Int) 1 24
 ·refine ev_neg (by simp) (ev_eq h0 (by simp))
 ·refine ev_pos rfl ?_
  by_cases h : l.length = m.length
  ·have e : ((m.length : Int) != (l.length : Int)) = false := by simp [h]
   rw [e]
   have hr := sT1 l m a b u v _ hl (sT2 l m a b u v _ hu (sT101 l m a b u v _ hm h (sT102 l m a b u v hv)))
   have : Ev (fun k => spec_TrunkOk.j0 k (l.length : Int) false l m a b u v) _ := Ev.step (fun _ => rfl) hr
   exact ev_eq this (by simp [h])
  ·have e : ((m.length : Int) != (l.length : Int)) = true := by simp; omega
   rw [e]
   exact ev_eq h0 (by simp [h])
end spec

end Go.Proofs.Ytjmgbdepmbbepaa.Pure

namespace Go.Proofs.Ytjmgbdepmbbepaa.Pure
open Go.RowKit Go.Proofs.Ytjmgbdepmbbepaa.Pa Go.Proofs.Ytjmgbdepmbbepaa.Kit Go.Proofs.YtjmgbdepmbbepaaW.PrintWords Go.Proofs.YtjmgbdepmbbepaaW.PrintLast Go.Proofs.YtjmgbdepmbbepaaW.PrintMore

def pairB (a b : Int) : Bool := (decide (a = 0) && decide (b = 0)) || (decide (a = 2) && decide (b = 3)) || (decide (a = 3) && decide (b = 2))
theorem settled_if (a b : Int) (R : Option Bool) : (if a = 0 then (if b = 0 then R else (if a = 2 then (if b = 3 then R else (if a = 3 then (if (b = 2) then R else (some false)) else (some false))) else (if a = 3 then (if (b = 2) then R else (some false)) else (some false)))) else (if a = 2 then (if b = 3 then R else (if a = 3 then (if (b = 2) then R else (some false)) else (some false))) else (if a = 3 then (if (b = 2) then R else (some false)) else (some false)))) = if pairB a b = true then R else some false := by
 unfold pairB
 by_cases h1 : a = 0 <;> by_cases h2 : a = 2 <;> by_cases h3 : a = 3 <;> by_cases h4 : b = 0 <;> by_cases h5 : b = 3 <;> by_cases h6 : b = 2 <;> simp_all
def pairsB (l m : List Int) : Bool := (List.range l.length).all fun i => pairB (rd l (i : Int)) (rd m (i : Int))
def settledB (l m : List Int) (a b : Int) (u v : List S61) : Bool := trunkB l m a b u v && !decide ((u.length : Int) + (v.length : Int) > 0) && pairsB l m
theorem trunkB_len {l m : List Int} {a b : Int} {u v : List S61} (h : trunkB l m a b u v = true) : l.length = m.length ∧ l.length ≤ 24 ∧ 1 ≤ l.length ∧ u.length ≤ 60 ∧ v.length ≤ 60 := by
 simp only [trunkB, Bool.and_eq_true, decide_eq_true_eq, inB_iff] at h
 omega
theorem implSettled_l0 (l m : List Int) (a b : Int) (u v : List S61) (hl : l.length ≤ 9223372036854775807) (he : l.length = m.length) : Ev (fun k => impl_Settled.l0 k l (l.length : Int) 0 l m a b u v) (pairsB l m && true) := by
 have hr : (List.range l.length).length = l.length := List.length_range
 refine all_loop (fun i k => impl_Settled.l0 k l (l.length : Int) i l m a b u v) 0 (fun i : Nat => pairB (rd l (i : Int)) (rd m (i : Int))) (List.range l.length) true ?_ ?_ ?_
 ·rw [hr]; exact Ev.step (fun _ => rfl) (ev_neg (by omega) (ev_some _))
 ·intro i hi hp r h
  rw [hr] at hi
  have e : (List.range l.length).getD i 0 = i := by simp [List.getD_eq_getElem?_getD, hi]
  rw [e] at hp
  refine Ev.step (fun _ => rfl) (ev_pos (by omega) (ev_pos (by omega) (ev_pos (by omega) (ev_pos (by omega) (Ev.congr (fun _ => settled_if _ _ _) (ev_pos hp ?_))))))
  rw [wrap_next i l.length hi hl]; exact h
 ·intro i hi hp
  rw [hr] at hi
  have e : (List.range l.length).getD i 0 = i := by simp [List.getD_eq_getElem?_getD, hi]
  rw [e] at hp
  exact Ev.step (fun _ => rfl) (ev_pos (by omega) (ev_pos (by omega) (ev_pos (by omega) (ev_pos (by omega) (Ev.congr (fun _ => settled_if _ _ _) (ev_neg (by rw [hp]; simp) (ev_some _)))))))
theorem specSettled_l0 (l m : List Int) (a b : Int) (u v : List S61) (hl : l.length ≤ 9223372036854775807) (he : l.length = m.length) : Ev (fun k => spec_Settled.l0 k 0 l m a b u v) (pairsB l m && true) := by
 have hr : (List.range l.length).length = l.length := List.length_range
 refine all_loop (fun i k => spec_Settled.l0 k i l m a b u v) 0 (fun i : Nat => pairB (rd l (i : Int)) (rd m (i : Int))) (List.range l.length) true ?_ ?_ ?_
 ·rw [hr]; exact Ev.step (fun _ => rfl) (ev_neg (by omega) (ev_some _))
 ·intro i hi hp r h
  rw [hr] at hi
  have e : (List.range l.length).getD i 0 = i := by simp [List.getD_eq_getElem?_getD, hi]
  rw [e] at hp
  refine Ev.step (fun _ => rfl) (ev_pos (by omega) (ev_pos (by omega) (ev_pos (by omega) (Ev.congr (fun _ => settled_if _ _ _) (ev_pos hp ?_)))))
  rw [wrap_next i l.length hi hl]; exact h
 ·intro i hi hp
  rw [hr] at hi
  have e : (List.range l.length).getD i 0 = i := by simp [List.getD_eq_getElem?_getD, hi]
  rw [e] at hp
  exact Ev.step (fun _ => rfl) (ev_pos (by omega) (ev_pos (by omega) (ev_pos (by omega) (Ev.congr (fun _ => settled_if _ _ _) (ev_neg (by rw [hp]; simp) (ev_some _))))))
theorem implSettled_ev (l m : List Int) (a b : Int) (u v : List S61) (hl : l.length ≤ 9223372036854775807) (hm : m.length ≤ 9223372036854775807) (hu : u.length ≤ 9223372036854775807) (hv : v.length ≤ 9223372036854775807) : Ev (fun k => impl_Settled.f k l m a b u v) (settledB l m a b u v) := by
 unfold impl_Settled.f settledB
 refine Ev.bind (implTrunkOk_ev l m a b u v hl hm hu hv) ?_
 have h0 : Ev (fun k => impl_Settled.j0 k true l m a b u v) false := Ev.step (f := fun _ => some false) (fun _ => rfl) (ev_some _)
 cases h : trunkB l m a b u v
 ·exact ev_neg (by simp) (ev_eq h0 (by simp))
 ·have hb := trunkB_len h
  refine ev_pos rfl ?_
  have e : wrap64 ((u.length : Int) + (v.length : Int)) = (u.length : Int) + (v.length : Int) := wrap_in (by omega) (by omega)
  rw [e]
  by_cases h2 : (u.length : Int) + (v.length : Int) > 0
  ·rw [decide_eq_true h2]
   exact ev_eq h0 (by simp)
  ·rw [decide_eq_false h2]
   have : Ev (fun k => impl_Settled.j0 k false l m a b u v) _ := Ev.step (fun _ => rfl) (implSettled_l0 l m a b u v hl hb.1)
   exact ev_eq this (by simp)
theorem specSettled_ev (l m : List Int) (a b : Int) (u v : List S61) (hl : l.length ≤ 9223372036854775807) (hm : m.length ≤ 9223372036854775807) (hu : u.length ≤ 9223372036854775807) (hv : v.length ≤ 9223372036854775807) : Ev (fun k => spec_Settled.f k l m a b u v) (settledB l m a b u v) := by
 unfold spec_Settled.f settledB
 refine Ev.bind (specTrunkOk_ev l m a b u v hl hm hu hv) ?_
 have h0 : Ev (fun k => spec_Settled.j0 k true l m a b u v) false := Ev.step (f := fun _ => some false) (fun _ => rfl) (ev_some _)
 cases h : trunkB l m a b u v
 ·exact ev_neg (by simp) (ev_eq h0 (by simp))
 ·have hb := trunkB_len h
  refine ev_pos rfl ?_
  have e : wrap64 ((u.length : Int) + (v.length : Int)) = (u.length : Int) + (v.length : Int) := wrap_in (by omega) (by omega)
  rw [e]
  by_cases h2 : (u.length : Int) + (v.length : Int) > 0
  ·rw [decide_eq_true h2]
   exact ev_eq h0 (by simp)
  ·rw [decide_eq_false h2]
   have : Ev (fun k => spec_Settled.j0 k false l m a b u v) _ := Ev.step (fun _ => rfl) (specSettled_l0 l m a b u v hl hb.1)
   exact ev_eq this (by simp)

end Go.Proofs.Ytjmgbdepmbbepaa.Pure

namespace Go.Proofs.Ytjmgbdepmbbepaa.Pure
open Go.RowKit Go.Proofs.Ytjmgbdepmbbepaa.Pa Go.Proofs.Ytjmgbdepmbbepaa.Kit Go.Proofs.YtjmgbdepmbbepaaW.PrintWords Go.Proofs.YtjmgbdepmbbepaaW.PrintLast

theorem FnExactSettled : laws_FnExactSettled.Pure := by
 intro l m a b u v h
 have h1 := h.1.1.1
 have h2 := h.1.2.1
 have h3 := h.2.2.1.1
 have h4 := h.2.2.2.1
 have hl : l.length ≤ 17592186044416 := by omega
 have hm : m.length ≤ 17592186044416 := by omega
 have hu : u.length ≤ 17592186044416 := by omega
 have hv : v.length ≤ 17592186044416 := by omega
 have hu' : (u.map note).length ≤ 9223372036854775807 := by rw [List.length_map]; omega
 have hv' : (v.map note).length ≤ 9223372036854775807 := by rw [List.length_map]; omega
 have hl' : l.length ≤ 9223372036854775807 := by omega
 have hm' : m.length ≤ 9223372036854775807 := by omega
 refine Ev.rounds (g := fun k => laws_FnExactSettled.f k l m a b u v) ?_
 unfold laws_FnExactSettled.f
 obtain ⟨t, ht⟩ := szTrunk_ev l m a b u v 1048576
 refine Ev.bind ht ?_
 by_cases h0 : t < 0
 ·exact ev_pos h0 (ev_some _)
 ·have hto := toTrunk_ev l m a b u v hl hm hu hv
  exact ev_neg h0 (Ev.bind hto (Ev.bind (specSettled_ev _ _ _ _ _ _ hl' hm' hu' hv') (Ev.bind hto (Ev.bind (implSettled_ev _ _ _ _ _ _ hl' hm' hu' hv') (ev_neg (by simp) (Ev.bind hto (Ev.bind (eqTrunk_ev _ _ _ _ _ _ hl' hm' hu' hv') (ev_pos rfl (ev_some _)))))))))

end Go.Proofs.Ytjmgbdepmbbepaa.Pure

