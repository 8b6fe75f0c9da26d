/- A part of a proof that laws of the given program hold for every input: no condition. -/
import Derived.Test.YtkmncnkohkfkoaaPbx0
namespace Go.Proofs.Ytkmncnkohkfkoaa.Pb
open Go.RowKit Go.Proofs.YtkmncnkohkfkoaaW.PrintWords Go.Proofs.YtkmncnkohkfkoaaW.PrintLast Go.Proofs.YtkmncnkohkfkoaaW.PrintMore
attribute [local go_sem] max2_int min2_int max_two min_two max_three min_three max_four min_four   -- for this text's walks alone
set_option linter.unusedVariables false
set_option linter.unusedSimpArgs false

/-! ### impl_CellSum: function 17 -/
def impl_CellSum.l0 : Nat → Int → Int → Int → Int → Int → Int → Int → Int → Int → Int → Int → Int → Int → Int → Int → Int → Int → Int → Option (Int)
  | 0, _, _, _, _, _, _, _, _, _, _, _, _, _, _, _, _, _, _ => none
  | k + 1, x3, x7, x900006000, x900006001, x900006002, x900006003, x900006004, x900006005, x900006006, x900006007, x900006008, x900006009, x900006010, x900006011, x900006012, x900006013, x900006014, x900006015 => if x7 < 16 then (if x7 = 0 then (impl_CellSum.l0 k (wrap64 (x3 + (wrap64 ((wrap64 (x900006000)) * 1)))) 1 x900006000 x900006001 x900006002 x900006003 x900006004 x900006005 x900006006 x900006007 x900006008 x900006009 x900006010 x900006011 x900006012 x900006013 x900006014 x900006015) else (if x7 = 1 then (impl_CellSum.l0 k (wrap64 (x3 + (wrap64 ((wrap64 (x900006001)) * 2)))) 2 x900006000 x900006001 x900006002 x900006003 x900006004 x900006005 x900006006 x900006007 x900006008 x900006009 x900006010 x900006011 x900006012 x900006013 x900006014 x900006015) else (if x7 = 2 then (impl_CellSum.l0 k (wrap64 (x3 + (wrap64 ((wrap64 (x900006002)) * 3)))) 3 x900006000 x900006001 x900006002 x900006003 x900006004 x900006005 x900006006 x900006007 x900006008 x900006009 x900006010 x900006011 x900006012 x900006013 x900006014 x900006015) else (if x7 = 3 then (impl_CellSum.l0 k (wrap64 (x3 + (wrap64 ((wrap64 (x900006003)) * 4)))) 4 x900006000 x900006001 x900006002 x900006003 x900006004 x900006005 x900006006 x900006007 x900006008 x900006009 x900006010 x900006011 x900006012 x900006013 x900006014 x900006015) else (if x7 = 4 then (impl_CellSum.l0 k (wrap64 (x3 + (wrap64 ((wrap64 (x900006004)) * 5)))) 5 x900006000 x900006001 x900006002 x900006003 x900006004 x900006005 x900006006 x900006007 x900006008 x900006009 x900006010 x900006011 x900006012 x900006013 x900006014 x900006015) else (if x7 = 5 then (impl_CellSum.l0 k (wrap64 (x3 + (wrap64 ((wrap64 (x900006005)) * 6)))) 6 x900006000 x900006001 x900006002 x900006003 x900006004 x900006005 x900006006 x900006007 x900006008 x900006009 x900006010 x900006011 x900006012 x900006013 x900006014 x900006015) else (if x7 = 6 then (impl_CellSum.l0 k (wrap64 (x3 + (wrap64 ((wrap64 (x900006006)) * 7)))) 7 x900006000 x900006001 x900006002 x900006003 x900006004 x900006005 x900006006 x900006007 x900006008 x900006009 x900006010 x900006011 x900006012 x900006013 x900006014 x900006015) else (if x7 = 7 then (impl_CellSum.l0 k (wrap64 (x3 + (wrap64 ((wrap64 (x900006007)) * 8)))) 8 x900006000 x900006001 x900006002 x900006003 x900006004 x900006005 x900006006 x900006007 x900006008 x900006009 x900006010 x900006011 x900006012 x900006013 x900006014 x900006015) else (if x7 = 8 then (impl_CellSum.l0 k (wrap64 (x3 + (wrap64 ((wrap64 (x900006008)) * 9)))) 9 x900006000 x900006001 x900006002 x900006003 x900006004 x900006005 x900006006 x900006007 x900006008 x900006009 x900006010 x900006011 x900006012 x900006013 x900006014 x900006015) else (if x7 = 9 then (impl_CellSum.l0 k (wrap64 (x3 + (wrap64 ((wrap64 (x900006009)) * 10)))) 10 x900006000 x900006001 x900006002 x900006003 x900006004 x900006005 x900006006 x900006007 x900006008 x900006009 x900006010 x900006011 x900006012 x900006013 x900006014 x900006015) else (if x7 = 10 then (impl_CellSum.l0 k (wrap64 (x3 + (wrap64 ((wrap64 (x900006010)) * 11)))) 11 x900006000 x900006001 x900006002 x900006003 x900006004 x900006005 x900006006 x900006007 x900006008 x900006009 x900006010 x900006011 x900006012 x900006013 x900006014 x900006015) else (if x7 = 11 then (impl_CellSum.l0 k (wrap64 (x3 + (wrap64 ((wrap64 (x900006011)) * 12)))) 12 x900006000 x900006001 x900006002 x900006003 x900006004 x900006005 x900006006 x900006007 x900006008 x900006009 x900006010 x900006011 x900006012 x900006013 x900006014 x900006015) else (if x7 = 12 then (impl_CellSum.l0 k (wrap64 (x3 + (wrap64 ((wrap64 (x900006012)) * 13)))) 13 x900006000 x900006001 x900006002 x900006003 x900006004 x900006005 x900006006 x900006007 x900006008 x900006009 x900006010 x900006011 x900006012 x900006013 x900006014 x900006015) else (if x7 = 13 then (impl_CellSum.l0 k (wrap64 (x3 + (wrap64 ((wrap64 (x900006013)) * 14)))) 14 x900006000 x900006001 x900006002 x900006003 x900006004 x900006005 x900006006 x900006007 x900006008 x900006009 x900006010 x900006011 x900006012 x900006013 x900006014 x900006015) else (if x7 = 14 then (impl_CellSum.l0 k (wrap64 (x3 + (wrap64 ((wrap64 (x900006014)) * 15)))) 15 x900006000 x900006001 x900006002 x900006003 x900006004 x900006005 x900006006 x900006007 x900006008 x900006009 x900006010 x900006011 x900006012 x900006013 x900006014 x900006015) else (if x7 = 15 then (impl_CellSum.l0 k (wrap64 (x3 + (wrap64 ((wrap64 (x900006015)) * 16)))) 16 x900006000 x900006001 x900006002 x900006003 x900006004 x900006005 x900006006 x900006007 x900006008 x900006009 x900006010 x900006011 x900006012 x900006013 x900006014 x900006015) else (none))))))))))))))))) else (some (Int.tmod x3 251))
def impl_CellSum.f (k : Nat) (a0_0 : Int) (a0_1 : Int) (a0_2 : Int) (a0_3 : Int) (a0_4 : Int) (a0_5 : Int) (a0_6 : Int) (a0_7 : Int) (a0_8 : Int) (a0_9 : Int) (a0_10 : Int) (a0_11 : Int) (a0_12 : Int) (a0_13 : Int) (a0_14 : Int) (a0_15 : Int) : Option (Int) := impl_CellSum.l0 k 0 0 a0_0 a0_1 a0_2 a0_3 a0_4 a0_5 a0_6 a0_7 a0_8 a0_9 a0_10 a0_11 a0_12 a0_13 a0_14 a0_15
theorem impl_CellSum.mono_l : ∀ k, (∀ y0 y1 y2 y3 y4 y5 y6 y7 y8 y9 y10 y11 y12 y13 y14 y15 y16 y17, LeO (impl_CellSum.l0 k y0 y1 y2 y3 y4 y5 y6 y7 y8 y9 y10 y11 y12 y13 y14 y15 y16 y17) (impl_CellSum.l0 (k + 1) y0 y1 y2 y3 y4 y5 y6 y7 y8 y9 y10 y11 y12 y13 y14 y15 y16 y17))
  | 0 => fun _ _ _ _ _ _ _ _ _ _ _ _ _ _ _ _ _ _ r h => by simp [impl_CellSum.l0] at h
  | k + 1 => by
    have ih0 := impl_CellSum.mono_l k
    · intro y0 y1 y2 y3 y4 y5 y6 y7 y8 y9 y10 y11 y12 y13 y14 y15 y16 y17
      unfold impl_CellSum.l0
      repeat' first
      | (with_reducible exact ih0 _ _ _ _ _ _ _ _ _ _ _ _ _ _ _ _ _ _)
      | (with_reducible exact LeO.refl _)
      | (with_reducible exact LeO.none _)
      | (with_reducible refine LeO.ite ?_ ?_)
      | (with_reducible refine LeO.bind ?_ (fun _ => ?_))
      | exact ih0 _ _ _ _ _ _ _ _ _ _ _ _ _ _ _ _ _ _
      | exact LeO.none _
      | refine LeO.ite ?_ ?_
      | refine LeO.bind ?_ (fun _ => ?_)
theorem impl_CellSum.mono : ∀ a0 a1 a2 a3 a4 a5 a6 a7 a8 a9 a10 a11 a12 a13 a14 a15 k, LeO (impl_CellSum.f k a0 a1 a2 a3 a4 a5 a6 a7 a8 a9 a10 a11 a12 a13 a14 a15) (impl_CellSum.f (k + 1) a0 a1 a2 a3 a4 a5 a6 a7 a8 a9 a10 a11 a12 a13 a14 a15) := by
  intro a0 a1 a2 a3 a4 a5 a6 a7 a8 a9 a10 a11 a12 a13 a14 a15 k
  have ih0 := impl_CellSum.mono_l k
  unfold impl_CellSum.f
  repeat' first
      | (with_reducible exact ih0 _ _ _ _ _ _ _ _ _ _ _ _ _ _ _ _ _ _)
      | (with_reducible exact LeO.refl _)
      | (with_reducible exact LeO.none _)
      | (with_reducible refine LeO.ite ?_ ?_)
      | (with_reducible refine LeO.bind ?_ (fun _ => ?_))
      | exact ih0 _ _ _ _ _ _ _ _ _ _ _ _ _ _ _ _ _ _
      | exact LeO.none _
      | refine LeO.ite ?_ ?_
      | refine LeO.bind ?_ (fun _ => ?_)
set_option maxHeartbeats 8000000 in
set_option maxRecDepth 100000 in
theorem impl_CellSum.calls (k : Nat) (a0_0 : Int) (a0_1 : Int) (a0_2 : Int) (a0_3 : Int) (a0_4 : Int) (a0_5 : Int) (a0_6 : Int) (a0_7 : Int) (a0_8 : Int) (a0_9 : Int) (a0_10 : Int) (a0_11 : Int) (a0_12 : Int) (a0_13 : Int) (a0_14 : Int) (a0_15 : Int) (r : Int) (w : World) (h : impl_CellSum.f k a0_0 a0_1 a0_2 a0_3 a0_4 a0_5 a0_6 a0_7 a0_8 a0_9 a0_10 a0_11 a0_12 a0_13 a0_14 a0_15 = some r) :
    Calls Try.prog 17 #[.agg #[.int .u8 a0_0, .int .u8 a0_1, .int .u8 a0_2, .int .u8 a0_3, .int .u8 a0_4, .int .u8 a0_5, .int .u8 a0_6, .int .u8 a0_7, .int .u8 a0_8, .int .u8 a0_9, .int .u8 a0_10, .int .u8 a0_11, .int .u8 a0_12, .int .u8 a0_13, .int .u8 a0_14, .int .u8 a0_15]] w fun e w' => e = .returned (.int .i64 r) ∧ Below w.heap.size w w' := by
  have hu23 := Try.underlying23
  have HB := Aside0.mk (Below.refl w.heap.size w)
  have H : (impl_CellSum.l0 k 0 0 a0_0 a0_1 a0_2 a0_3 a0_4 a0_5 a0_6 a0_7 a0_8 a0_9 a0_10 a0_11 a0_12 a0_13 a0_14 a0_15) = some r := h
  clear h
  have H' := Aside0.mk H
  clear H
  go_enter Try.func17, Try.ntmps17
  go_wp2_with (first | ((with_reducible refine gate_dst (N := 1) rfl ?_); refine box_event ?hg (N := 1) ?hd (cs := #[.int .u8 a0_0, .int .u8 a0_1, .int .u8 a0_2, .int .u8 a0_3, .int .u8 a0_4, .int .u8 a0_5, .int .u8 a0_6, .int .u8 a0_7, .int .u8 a0_8, .int .u8 a0_9, .int .u8 a0_10, .int .u8 a0_11, .int .u8 a0_12, .int .u8 a0_13, .int .u8 a0_14, .int .u8 a0_15]) (t := 23) ?hr ?_; (case hd => rfl); (case hg => rfl); (case hr => first | (go_simp; done) | (go_simp; rfl)); intro gb105 hg w2 hbox hb; have n0_ := Aside0.mk (below_step (by repeat (first | (with_reducible first | exact HB.out | apply below_alloc | apply pw_below_drewN | apply below_drew1) | exact HB.out)) hb); have n1_ := Aside0.mk (hbox); have n2_ := Aside0.mk ((by rw [hg]; exact (below_size (by repeat (first | (with_reducible first | exact HB.out | apply below_alloc | apply pw_below_drewN | apply below_drew1) | exact HB.out))) : w.heap.size ≤ gb105)); have n3_ := Aside0.mk ((by rw [hg]; exact (below_size (by repeat (first | (with_reducible first | exact HB.out | apply below_alloc | apply pw_below_drewN | apply below_drew1) | exact HB.out))) : w.heap.size ≤ gb105)); clear HB; have HB := n0_; have BK105 := n1_; have GW105 := n2_; have GE105 := n3_; clear n0_ n1_ n2_ n3_; clear hb hbox hg; have hcz3_0 : w2.cell? ⟨gb105, 0, none⟩ = some (.int .u8 a0_0) := (blk_cell BK105.out 0).trans rfl; have hcz3_1 : w2.cell? ⟨gb105, 1, none⟩ = some (.int .u8 a0_1) := (blk_cell BK105.out 1).trans rfl; have hcz3_2 : w2.cell? ⟨gb105, 2, none⟩ = some (.int .u8 a0_2) := (blk_cell BK105.out 2).trans rfl; have hcz3_3 : w2.cell? ⟨gb105, 3, none⟩ = some (.int .u8 a0_3) := (blk_cell BK105.out 3).trans rfl; have hcz3_4 : w2.cell? ⟨gb105, 4, none⟩ = some (.int .u8 a0_4) := (blk_cell BK105.out 4).trans rfl; have hcz3_5 : w2.cell? ⟨gb105, 5, none⟩ = some (.int .u8 a0_5) := (blk_cell BK105.out 5).trans rfl; have hcz3_6 : w2.cell? ⟨gb105, 6, none⟩ = some (.int .u8 a0_6) := (blk_cell BK105.out 6).trans rfl; have hcz3_7 : w2.cell? ⟨gb105, 7, none⟩ = some (.int .u8 a0_7) := (blk_cell BK105.out 7).trans rfl; have hcz3_8 : w2.cell? ⟨gb105, 8, none⟩ = some (.int .u8 a0_8) := (blk_cell BK105.out 8).trans rfl; have hcz3_9 : w2.cell? ⟨gb105, 9, none⟩ = some (.int .u8 a0_9) := (blk_cell BK105.out 9).trans rfl; have hcz3_10 : w2.cell? ⟨gb105, 10, none⟩ = some (.int .u8 a0_10) := (blk_cell BK105.out 10).trans rfl; have hcz3_11 : w2.cell? ⟨gb105, 11, none⟩ = some (.int .u8 a0_11) := (blk_cell BK105.out 11).trans rfl; have hcz3_12 : w2.cell? ⟨gb105, 12, none⟩ = some (.int .u8 a0_12) := (blk_cell BK105.out 12).trans rfl; have hcz3_13 : w2.cell? ⟨gb105, 13, none⟩ = some (.int .u8 a0_13) := (blk_cell BK105.out 13).trans rfl; have hcz3_14 : w2.cell? ⟨gb105, 14, none⟩ = some (.int .u8 a0_14) := (blk_cell BK105.out 14).trans rfl; have hcz3_15 : w2.cell? ⟨gb105, 15, none⟩ = some (.int .u8 a0_15) := (blk_cell BK105.out 15).trans rfl; have hfz3_0 := blk_frozen BK105.out 0; have hfz3_1 := blk_frozen BK105.out 1; have hfz3_2 := blk_frozen BK105.out 2; have hfz3_3 := blk_frozen BK105.out 3; have hfz3_4 := blk_frozen BK105.out 4; have hfz3_5 := blk_frozen BK105.out 5; have hfz3_6 := blk_frozen BK105.out 6; have hfz3_7 := blk_frozen BK105.out 7; have hfz3_8 := blk_frozen BK105.out 8; have hfz3_9 := blk_frozen BK105.out 9; have hfz3_10 := blk_frozen BK105.out 10; have hfz3_11 := blk_frozen BK105.out 11; have hfz3_12 := blk_frozen BK105.out 12; have hfz3_13 := blk_frozen BK105.out 13; have hfz3_14 := blk_frozen BK105.out 14; have hfz3_15 := blk_frozen BK105.out 15))
  go_loopg [3, 7] k (fun kq v3 v7 w' => ∃ (x3_1 : Int) (x7_1 : Int), v3 = .int .i64 x3_1 ∧ v7 = .int .i64 x7_1 ∧ Aside0 (impl_CellSum.l0 kq x3_1 x7_1 a0_0 a0_1 a0_2 a0_3 a0_4 a0_5 a0_6 a0_7 a0_8 a0_9 a0_10 a0_11 a0_12 a0_13 a0_14 a0_15 = some r) ∧ Aside0 (kq ≤ k) ∧ Aside0 (w'.heap[gb105]? = some (.cells #[.int .u8 a0_0, .int .u8 a0_1, .int .u8 a0_2, .int .u8 a0_3, .int .u8 a0_4, .int .u8 a0_5, .int .u8 a0_6, .int .u8 a0_7, .int .u8 a0_8, .int .u8 a0_9, .int .u8 a0_10, .int .u8 a0_11, .int .u8 a0_12, .int .u8 a0_13, .int .u8 a0_14, .int .u8 a0_15] 23 (0, 0))) ∧ Aside0 (Below w.heap.size w w'))
  case atStart => exact ⟨(0), (0), (by first | rfl | (simp; done) | (simp [*]; done)), (by first | rfl | (simp; done) | (simp [*]; done)), H', ⟨Nat.le_refl _⟩, ⟨by (with_reducible repeat (first | refine blk_drewN ?_ _ | refine blk_drew ?_ | refine blk_alloc ?_ _)); exact BK105.out⟩, ⟨by repeat (first | (with_reducible first | exact HB.out | apply below_alloc | apply pw_below_drewN | apply below_drew1 | refine below_set ?_ GE105.out) | exact HB.out)⟩⟩
  case round =>
    clear H'
    try clear c1
    try clear p2
    try clear hcz3_0
    try clear hcz3_1
    try clear hcz3_10
    try clear hcz3_11
    try clear hcz3_12
    try clear hcz3_13
    try clear hcz3_14
    try clear hcz3_15
    try clear hcz3_2
    try clear hcz3_3
    try clear hcz3_4
    try clear hcz3_5
    try clear hcz3_6
    try clear hcz3_7
    try clear hcz3_8
    try clear hcz3_9
    try clear hfz3_0
    try clear hfz3_1
    try clear hfz3_10
    try clear hfz3_11
    try clear hfz3_12
    try clear hfz3_13
    try clear hfz3_14
    try clear hfz3_15
    try clear hfz3_2
    try clear hfz3_3
    try clear hfz3_4
    try clear hfz3_5
    try clear hfz3_6
    try clear hfz3_7
    try clear hfz3_8
    try clear hfz3_9
    obtain ⟨x3_1, x7_1, rfl, rfl, HA, HK1, BK105, HB⟩ := hrel
    cases gk with
    | zero => exact absurd HA.out (by simp [impl_CellSum.l0])
    | succ k1 =>
      have H := HA.out
      clear HA
      simp only [impl_CellSum.l0] at H
      by_cases c4 : x7_1 < 16
      · rw [if_pos c4] at H
        have c4b0 : decide (x7_1 < 16) = true := decide_eq_true c4
        clear c4
        by_cases c5 : x7_1 = 0
        · rw [if_pos c5] at H
          subst c5
          replace H : (impl_CellSum.l0 k1 (wrap64 (x3_1 + (wrap64 ((wrap64 (a0_0)) * 1)))) 1 a0_0 a0_1 a0_2 a0_3 a0_4 a0_5 a0_6 a0_7 a0_8 a0_9 a0_10 a0_11 a0_12 a0_13 a0_14 a0_15) = some r := H
          have H' := Aside0.mk H
          clear H
          have ix6 : ∀ w_ : World, (Instr.index 23 (.agg #[.int .u8 a0_0, .int .u8 a0_1, .int .u8 a0_2, .int .u8 a0_3, .int .u8 a0_4, .int .u8 a0_5, .int .u8 a0_6, .int .u8 a0_7, .int .u8 a0_8, .int .u8 a0_9, .int .u8 a0_10, .int .u8 a0_11, .int .u8 a0_12, .int .u8 a0_13, .int .u8 a0_14, .int .u8 a0_15]) (.int .i64 0)).run Try.prog w_ = .ok (.int .u8 a0_0) w_ := fun _ => by kernel_rfl
          go_wp2
          go_roundg k1
          case measure => have := HK1.out; omega
          case rel => exact ⟨(wrap64 (x3_1 + (wrap64 ((wrap64 (a0_0)) * 1)))), (1), (by first | rfl | (simp; done) | (simp [*]; done)), (by first | rfl | (simp; done) | (simp [*]; done)), H', ⟨by have := HK1.out; omega⟩, ⟨by (with_reducible repeat (first | refine blk_drewN ?_ _ | refine blk_drew ?_ | refine blk_alloc ?_ _)); exact BK105.out⟩, ⟨by repeat (first | (with_reducible first | exact HB.out | apply below_alloc | apply pw_below_drewN | apply below_drew1 | refine below_set ?_ GE105.out) | exact HB.out)⟩⟩
        rw [if_neg c5] at H
        by_cases c7 : x7_1 = 1
        · rw [if_pos c7] at H
          subst c7
          replace H : (impl_CellSum.l0 k1 (wrap64 (x3_1 + (wrap64 ((wrap64 (a0_1)) * 2)))) 2 a0_0 a0_1 a0_2 a0_3 a0_4 a0_5 a0_6 a0_7 a0_8 a0_9 a0_10 a0_11 a0_12 a0_13 a0_14 a0_15) = some r := H
          have H' := Aside0.mk H
          clear H
          have ix8 : ∀ w_ : World, (Instr.index 23 (.agg #[.int .u8 a0_0, .int .u8 a0_1, .int .u8 a0_2, .int .u8 a0_3, .int .u8 a0_4, .int .u8 a0_5, .int .u8 a0_6, .int .u8 a0_7, .int .u8 a0_8, .int .u8 a0_9, .int .u8 a0_10, .int .u8 a0_11, .int .u8 a0_12, .int .u8 a0_13, .int .u8 a0_14, .int .u8 a0_15]) (.int .i64 1)).run Try.prog w_ = .ok (.int .u8 a0_1) w_ := fun _ => by kernel_rfl
          go_wp2
          go_roundg k1
          case measure => have := HK1.out; omega
          case rel => exact ⟨(wrap64 (x3_1 + (wrap64 ((wrap64 (a0_1)) * 2)))), (2), (by first | rfl | (simp; done) | (simp [*]; done)), (by first | rfl | (simp; done) | (simp [*]; done)), H', ⟨by have := HK1.out; omega⟩, ⟨by (with_reducible repeat (first | refine blk_drewN ?_ _ | refine blk_drew ?_ | refine blk_alloc ?_ _)); exact BK105.out⟩, ⟨by repeat (first | (with_reducible first | exact HB.out | apply below_alloc | apply pw_below_drewN | apply below_drew1 | refine below_set ?_ GE105.out) | exact HB.out)⟩⟩
        rw [if_neg c7] at H
        by_cases c9 : x7_1 = 2
        · rw [if_pos c9] at H
          subst c9
          replace H : (impl_CellSum.l0 k1 (wrap64 (x3_1 + (wrap64 ((wrap64 (a0_2)) * 3)))) 3 a0_0 a0_1 a0_2 a0_3 a0_4 a0_5 a0_6 a0_7 a0_8 a0_9 a0_10 a0_11 a0_12 a0_13 a0_14 a0_15) = some r := H
          have H' := Aside0.mk H
          clear H
          have ix10 : ∀ w_ : World, (Instr.index 23 (.agg #[.int .u8 a0_0, .int .u8 a0_1, .int .u8 a0_2, .int .u8 a0_3, .int .u8 a0_4, .int .u8 a0_5, .int .u8 a0_6, .int .u8 a0_7, .int .u8 a0_8, .int .u8 a0_9, .int .u8 a0_10, .int .u8 a0_11, .int .u8 a0_12, .int .u8 a0_13, .int .u8 a0_14, .int .u8 a0_15]) (.int .i64 2)).run Try.prog w_ = .ok (.int .u8 a0_2) w_ := fun _ => by kernel_rfl
          go_wp2
          go_roundg k1
          case measure => have := HK1.out; omega
          case rel => exact ⟨(wrap64 (x3_1 + (wrap64 ((wrap64 (a0_2)) * 3)))), (3), (by first | rfl | (simp; done) | (simp [*]; done)), (by first | rfl | (simp; done) | (simp [*]; done)), H', ⟨by have := HK1.out; omega⟩, ⟨by (with_reducible repeat (first | refine blk_drewN ?_ _ | refine blk_drew ?_ | refine blk_alloc ?_ _)); exact BK105.out⟩, ⟨by repeat (first | (with_reducible first | exact HB.out | apply below_alloc | apply pw_below_drewN | apply below_drew1 | refine below_set ?_ GE105.out) | exact HB.out)⟩⟩
        rw [if_neg c9] at H
        by_cases c11 : x7_1 = 3
        · rw [if_pos c11] at H
          subst c11
          replace H : (impl_CellSum.l0 k1 (wrap64 (x3_1 + (wrap64 ((wrap64 (a0_3)) * 4)))) 4 a0_0 a0_1 a0_2 a0_3 a0_4 a0_5 a0_6 a0_7 a0_8 a0_9 a0_10 a0_11 a0_12 a0_13 a0_14 a0_15) = some r := H
          have H' := Aside0.mk H
          clear H
          have ix12 : ∀ w_ : World, (Instr.index 23 (.agg #[.int .u8 a0_0, .int .u8 a0_1, .int .u8 a0_2, .int .u8 a0_3, .int .u8 a0_4, .int .u8 a0_5, .int .u8 a0_6, .int .u8 a0_7, .int .u8 a0_8, .int .u8 a0_9, .int .u8 a0_10, .int .u8 a0_11, .int .u8 a0_12, .int .u8 a0_13, .int .u8 a0_14, .int .u8 a0_15]) (.int .i64 3)).run Try.prog w_ = .ok (.int .u8 a0_3) w_ := fun _ => by kernel_rfl
          go_wp2
          go_roundg k1
          case measure => have := HK1.out; omega
          case rel => exact ⟨(wrap64 (x3_1 + (wrap64 ((wrap64 (a0_3)) * 4)))), (4), (by first | rfl | (simp; done) | (simp [*]; done)), (by first | rfl | (simp; done) | (simp [*]; done)), H', ⟨by have := HK1.out; omega⟩, ⟨by (with_reducible repeat (first | refine blk_drewN ?_ _ | refine blk_drew ?_ | refine blk_alloc ?_ _)); exact BK105.out⟩, ⟨by repeat (first | (with_reducible first | exact HB.out | apply below_alloc | apply pw_below_drewN | apply below_drew1 | refine below_set ?_ GE105.out) | exact HB.out)⟩⟩
        rw [if_neg c11] at H
        by_cases c13 : x7_1 = 4
        · rw [if_pos c13] at H
          subst c13
          replace H : (impl_CellSum.l0 k1 (wrap64 (x3_1 + (wrap64 ((wrap64 (a0_4)) * 5)))) 5 a0_0 a0_1 a0_2 a0_3 a0_4 a0_5 a0_6 a0_7 a0_8 a0_9 a0_10 a0_11 a0_12 a0_13 a0_14 a0_15) = some r := H
          have H' := Aside0.mk H
          clear H
          have ix14 : ∀ w_ : World, (Instr.index 23 (.agg #[.int .u8 a0_0, .int .u8 a0_1, .int .u8 a0_2, .int .u8 a0_3, .int .u8 a0_4, .int .u8 a0_5, .int .u8 a0_6, .int .u8 a0_7, .int .u8 a0_8, .int .u8 a0_9, .int .u8 a0_10, .int .u8 a0_11, .int .u8 a0_12, .int .u8 a0_13, .int .u8 a0_14, .int .u8 a0_15]) (.int .i64 4)).run Try.prog w_ = .ok (.int .u8 a0_4) w_ := fun _ => by kernel_rfl
          go_wp2
          go_roundg k1
          case measure => have := HK1.out; omega
          case rel => exact ⟨(wrap64 (x3_1 + (wrap64 ((wrap64 (a0_4)) * 5)))), (5), (by first | rfl | (simp; done) | (simp [*]; done)), (by first | rfl | (simp; done) | (simp [*]; done)), H', ⟨by have := HK1.out; omega⟩, ⟨by (with_reducible repeat (first | refine blk_drewN ?_ _ | refine blk_drew ?_ | refine blk_alloc ?_ _)); exact BK105.out⟩, ⟨by repeat (first | (with_reducible first | exact HB.out | apply below_alloc | apply pw_below_drewN | apply below_drew1 | refine below_set ?_ GE105.out) | exact HB.out)⟩⟩
        rw [if_neg c13] at H
        by_cases c15 : x7_1 = 5
        · rw [if_pos c15] at H
          subst c15
          replace H : (impl_CellSum.l0 k1 (wrap64 (x3_1 + (wrap64 ((wrap64 (a0_5)) * 6)))) 6 a0_0 a0_1 a0_2 a0_3 a0_4 a0_5 a0_6 a0_7 a0_8 a0_9 a0_10 a0_11 a0_12 a0_13 a0_14 a0_15) = some r := H
          have H' := Aside0.mk H
          clear H
          have ix16 : ∀ w_ : World, (Instr.index 23 (.agg #[.int .u8 a0_0, .int .u8 a0_1, .int .u8 a0_2, .int .u8 a0_3, .int .u8 a0_4, .int .u8 a0_5, .int .u8 a0_6, .int .u8 a0_7, .int .u8 a0_8, .int .u8 a0_9, .int .u8 a0_10, .int .u8 a0_11, .int .u8 a0_12, .int .u8 a0_13, .int .u8 a0_14, .int .u8 a0_15]) (.int .i64 5)).run Try.prog w_ = .ok (.int .u8 a0_5) w_ := fun _ => by kernel_rfl
          go_wp2
          go_roundg k1
          case measure => have := HK1.out; omega
          case rel => exact ⟨(wrap64 (x3_1 + (wrap64 ((wrap64 (a0_5)) * 6)))), (6), (by first | rfl | (simp; done) | (simp [*]; done)), (by first | rfl | (simp; done) | (simp [*]; done)), H', ⟨by have := HK1.out; omega⟩, ⟨by (with_reducible repeat (first | refine blk_drewN ?_ _ | refine blk_drew ?_ | refine blk_alloc ?_ _)); exact BK105.out⟩, ⟨by repeat (first | (with_reducible first | exact HB.out | apply below_alloc | apply pw_below_drewN | apply below_drew1 | refine below_set ?_ GE105.out) | exact HB.out)⟩⟩
        rw [if_neg c15] at H
        by_cases c17 : x7_1 = 6
        · rw [if_pos c17] at H
          subst c17
          replace H : (impl_CellSum.l0 k1 (wrap64 (x3_1 + (wrap64 ((wrap64 (a0_6)) * 7)))) 7 a0_0 a0_1 a0_2 a0_3 a0_4 a0_5 a0_6 a0_7 a0_8 a0_9 a0_10 a0_11 a0_12 a0_13 a0_14 a0_15) = some r := H
          have H' := Aside0.mk H
          clear H
          have ix18 : ∀ w_ : World, (Instr.index 23 (.agg #[.int .u8 a0_0, .int .u8 a0_1, .int .u8 a0_2, .int .u8 a0_3, .int .u8 a0_4, .int .u8 a0_5, .int .u8 a0_6, .int .u8 a0_7, .int .u8 a0_8, .int .u8 a0_9, .int .u8 a0_10, .int .u8 a0_11, .int .u8 a0_12, .int .u8 a0_13, .int .u8 a0_14, .int .u8 a0_15]) (.int .i64 6)).run Try.prog w_ = .ok (.int .u8 a0_6) w_ := fun _ => by kernel_rfl
          go_wp2
          go_roundg k1
          case measure => have := HK1.out; omega
          case rel => exact ⟨(wrap64 (x3_1 + (wrap64 ((wrap64 (a0_6)) * 7)))), (7), (by first | rfl | (simp; done) | (simp [*]; done)), (by first | rfl | (simp; done) | (simp [*]; done)), H', ⟨by have := HK1.out; omega⟩, ⟨by (with_reducible repeat (first | refine blk_drewN ?_ _ | refine blk_drew ?_ | refine blk_alloc ?_ _)); exact BK105.out⟩, ⟨by repeat (first | (with_reducible first | exact HB.out | apply below_alloc | apply pw_below_drewN | apply below_drew1 | refine below_set ?_ GE105.out) | exact HB.out)⟩⟩
        rw [if_neg c17] at H
        by_cases c19 : x7_1 = 7
        · rw [if_pos c19] at H
          subst c19
          replace H : (impl_CellSum.l0 k1 (wrap64 (x3_1 + (wrap64 ((wrap64 (a0_7)) * 8)))) 8 a0_0 a0_1 a0_2 a0_3 a0_4 a0_5 a0_6 a0_7 a0_8 a0_9 a0_10 a0_11 a0_12 a0_13 a0_14 a0_15) = some r := H
          have H' := Aside0.mk H
          clear H
          have ix20 : ∀ w_ : World, (Instr.index 23 (.agg #[.int .u8 a0_0, .int .u8 a0_1, .int .u8 a0_2, .int .u8 a0_3, .int .u8 a0_4, .int .u8 a0_5, .int .u8 a0_6, .int .u8 a0_7, .int .u8 a0_8, .int .u8 a0_9, .int .u8 a0_10, .int .u8 a0_11, .int .u8 a0_12, .int .u8 a0_13, .int .u8 a0_14, .int .u8 a0_15]) (.int .i64 7)).run Try.prog w_ = .ok (.int .u8 a0_7) w_ := fun _ => by kernel_rfl
          go_wp2
          go_roundg k1
          case measure => have := HK1.out; omega
          case rel => exact ⟨(wrap64 (x3_1 + (wrap64 ((wrap64 (a0_7)) * 8)))), (8), (by first | rfl | (simp; done) | (simp [*]; done)), (by first | rfl | (simp; done) | (simp [*]; done)), H', ⟨by have := HK1.out; omega⟩, ⟨by (with_reducible repeat (first | refine blk_drewN ?_ _ | refine blk_drew ?_ | refine blk_alloc ?_ _)); exact BK105.out⟩, ⟨by repeat (first | (with_reducible first | exact HB.out | apply below_alloc | apply pw_below_drewN | apply below_drew1 | refine below_set ?_ GE105.out) | exact HB.out)⟩⟩
        rw [if_neg c19] at H
        by_cases c21 : x7_1 = 8
        · rw [if_pos c21] at H
          subst c21
          replace H : (impl_CellSum.l0 k1 (wrap64 (x3_1 + (wrap64 ((wrap64 (a0_8)) * 9)))) 9 a0_0 a0_1 a0_2 a0_3 a0_4 a0_5 a0_6 a0_7 a0_8 a0_9 a0_10 a0_11 a0_12 a0_13 a0_14 a0_15) = some r := H
          have H' := Aside0.mk H
          clear H
          have ix22 : ∀ w_ : World, (Instr.index 23 (.agg #[.int .u8 a0_0, .int .u8 a0_1, .int .u8 a0_2, .int .u8 a0_3, .int .u8 a0_4, .int .u8 a0_5, .int .u8 a0_6, .int .u8 a0_7, .int .u8 a0_8, .int .u8 a0_9, .int .u8 a0_10, .int .u8 a0_11, .int .u8 a0_12, .int .u8 a0_13, .int .u8 a0_14, .int .u8 a0_15]) (.int .i64 8)).run Try.prog w_ = .ok (.int .u8 a0_8) w_ := fun _ => by kernel_rfl
          go_wp2
          go_roundg k1
          case measure => have := HK1.out; omega
          case rel => exact ⟨(wrap64 (x3_1 + (wrap64 ((wrap64 (a0_8)) * 9)))), (9), (by first | rfl | (simp; done) | (simp [*]; done)), (by first | rfl | (simp; done) | (simp [*]; done)), H', ⟨by have := HK1.out; omega⟩, ⟨by (with_reducible repeat (first | refine blk_drewN ?_ _ | refine blk_drew ?_ | refine blk_alloc ?_ _)); exact BK105.out⟩, ⟨by repeat (first | (with_reducible first | exact HB.out | apply below_alloc | apply pw_below_drewN | apply below_drew1 | refine below_set ?_ GE105.out) | exact HB.out)⟩⟩
        rw [if_neg c21] at H
        by_cases c23 : x7_1 = 9
        · rw [if_pos c23] at H
          subst c23
          replace H : (impl_CellSum.l0 k1 (wrap64 (x3_1 + (wrap64 ((wrap64 (a0_9)) * 10)))) 10 a0_0 a0_1 a0_2 a0_3 a0_4 a0_5 a0_6 a0_7 a0_8 a0_9 a0_10 a0_11 a0_12 a0_13 a0_14 a0_15) = some r := H
          have H' := Aside0.mk H
          clear H
          have ix24 : ∀ w_ : World, (Instr.index 23 (.agg #[.int .u8 a0_0, .int .u8 a0_1, .int .u8 a0_2, .int .u8 a0_3, .int .u8 a0_4, .int .u8 a0_5, .int .u8 a0_6, .int .u8 a0_7, .int .u8 a0_8, .int .u8 a0_9, .int .u8 a0_10, .int .u8 a0_11, .int .u8 a0_12, .int .u8 a0_13, .int .u8 a0_14, .int .u8 a0_15]) (.int .i64 9)).run Try.prog w_ = .ok (.int .u8 a0_9) w_ := fun _ => by kernel_rfl
          go_wp2
          go_roundg k1
          case measure => have := HK1.out; omega
          case rel => exact ⟨(wrap64 (x3_1 + (wrap64 ((wrap64 (a0_9)) * 10)))), (10), (by first | rfl | (simp; done) | (simp [*]; done)), (by first | rfl | (simp; done) | (simp [*]; done)), H', ⟨by have := HK1.out; omega⟩, ⟨by (with_reducible repeat (first | refine blk_drewN ?_ _ | refine blk_drew ?_ | refine blk_alloc ?_ _)); exact BK105.out⟩, ⟨by repeat (first | (with_reducible first | exact HB.out | apply below_alloc | apply pw_below_drewN | apply below_drew1 | refine below_set ?_ GE105.out) | exact HB.out)⟩⟩
        rw [if_neg c23] at H
        by_cases c25 : x7_1 = 10
        · rw [if_pos c25] at H
          subst c25
          replace H : (impl_CellSum.l0 k1 (wrap64 (x3_1 + (wrap64 ((wrap64 (a0_10)) * 11)))) 11 a0_0 a0_1 a0_2 a0_3 a0_4 a0_5 a0_6 a0_7 a0_8 a0_9 a0_10 a0_11 a0_12 a0_13 a0_14 a0_15) = some r := H
          have H' := Aside0.mk H
          clear H
          have ix26 : ∀ w_ : World, (Instr.index 23 (.agg #[.int .u8 a0_0, .int .u8 a0_1, .int .u8 a0_2, .int .u8 a0_3, .int .u8 a0_4, .int .u8 a0_5, .int .u8 a0_6, .int .u8 a0_7, .int .u8 a0_8, .int .u8 a0_9, .int .u8 a0_10, .int .u8 a0_11, .int .u8 a0_12, .int .u8 a0_13, .int .u8 a0_14, .int .u8 a0_15]) (.int .i64 10)).run Try.prog w_ = .ok (.int .u8 a0_10) w_ := fun _ => by kernel_rfl
          go_wp2
          go_roundg k1
          case measure => have := HK1.out; omega
          case rel => exact ⟨(wrap64 (x3_1 + (wrap64 ((wrap64 (a0_10)) * 11)))), (11), (by first | rfl | (simp; done) | (simp [*]; done)), (by first | rfl | (simp; done) | (simp [*]; done)), H', ⟨by have := HK1.out; omega⟩, ⟨by (with_reducible repeat (first | refine blk_drewN ?_ _ | refine blk_drew ?_ | refine blk_alloc ?_ _)); exact BK105.out⟩, ⟨by repeat (first | (with_reducible first | exact HB.out | apply below_alloc | apply pw_below_drewN | apply below_drew1 | refine below_set ?_ GE105.out) | exact HB.out)⟩⟩
        rw [if_neg c25] at H
        by_cases c27 : x7_1 = 11
        · rw [if_pos c27] at H
          subst c27
          replace H : (impl_CellSum.l0 k1 (wrap64 (x3_1 + (wrap64 ((wrap64 (a0_11)) * 12)))) 12 a0_0 a0_1 a0_2 a0_3 a0_4 a0_5 a0_6 a0_7 a0_8 a0_9 a0_10 a0_11 a0_12 a0_13 a0_14 a0_15) = some r := H
          have H' := Aside0.mk H
          clear H
          have ix28 : ∀ w_ : World, (Instr.index 23 (.agg #[.int .u8 a0_0, .int .u8 a0_1, .int .u8 a0_2, .int .u8 a0_3, .int .u8 a0_4, .int .u8 a0_5, .int .u8 a0_6, .int .u8 a0_7, .int .u8 a0_8, .int .u8 a0_9, .int .u8 a0_10, .int .u8 a0_11, .int .u8 a0_12, .int .u8 a0_13, .int .u8 a0_14, .int .u8 a0_15]) (.int .i64 11)).run Try.prog w_ = .ok (.int .u8 a0_11) w_ := fun _ => by kernel_rfl
          go_wp2
          go_roundg k1
          case measure => have := HK1.out; omega
          case rel => exact ⟨(wrap64 (x3_1 + (wrap64 ((wrap64 (a0_11)) * 12)))), (12), (by first | rfl | (simp; done) | (simp [*]; done)), (by first | rfl | (simp; done) | (simp [*]; done)), H', ⟨by have := HK1.out; omega⟩, ⟨by (with_reducible repeat (first | refine blk_drewN ?_ _ | refine blk_drew ?_ | refine blk_alloc ?_ _)); exact BK105.out⟩, ⟨by repeat (first | (with_reducible first | exact HB.out | apply below_alloc | apply pw_below_drewN | apply below_drew1 | refine below_set ?_ GE105.out) | exact HB.out)⟩⟩
        rw [if_neg c27] at H
        by_cases c29 : x7_1 = 12
        · rw [if_pos c29] at H
          subst c29
          replace H : (impl_CellSum.l0 k1 (wrap64 (x3_1 + (wrap64 ((wrap64 (a0_12)) * 13)))) 13 a0_0 a0_1 a0_2 a0_3 a0_4 a0_5 a0_6 a0_7 a0_8 a0_9 a0_10 a0_11 a0_12 a0_13 a0_14 a0_15) = some r := H
          have H' := Aside0.mk H
          clear H
          have ix30 : ∀ w_ : World, (Instr.index 23 (.agg #[.int .u8 a0_0, .int .u8 a0_1, .int .u8 a0_2, .int .u8 a0_3, .int .u8 a0_4, .int .u8 a0_5, .int .u8 a0_6, .int .u8 a0_7, .int .u8 a0_8, .int .u8 a0_9, .int .u8 a0_10, .int .u8 a0_11, .int .u8 a0_12, .int .u8 a0_13, .int .u8 a0_14, .int .u8 a0_15]) (.int .i64 12)).run Try.prog w_ = .ok (.int .u8 a0_12) w_ := fun _ => by kernel_rfl
          go_wp2
          go_roundg k1
          case measure => have := HK1.out; omega
          case rel => exact ⟨(wrap64 (x3_1 + (wrap64 ((wrap64 (a0_12)) * 13)))), (13), (by first | rfl | (simp; done) | (simp [*]; done)), (by first | rfl | (simp; done) | (simp [*]; done)), H', ⟨by have := HK1.out; omega⟩, ⟨by (with_reducible repeat (first | refine blk_drewN ?_ _ | refine blk_drew ?_ | refine blk_alloc ?_ _)); exact BK105.out⟩, ⟨by repeat (first | (with_reducible first | exact HB.out | apply below_alloc | apply pw_below_drewN | apply below_drew1 | refine below_set ?_ GE105.out) | exact HB.out)⟩⟩
        rw [if_neg c29] at H
        by_cases c31 : x7_1 = 13
        · rw [if_pos c31] at H
          subst c31
          replace H : (impl_CellSum.l0 k1 (wrap64 (x3_1 + (wrap64 ((wrap64 (a0_13)) * 14)))) 14 a0_0 a0_1 a0_2 a0_3 a0_4 a0_5 a0_6 a0_7 a0_8 a0_9 a0_10 a0_11 a0_12 a0_13 a0_14 a0_15) = some r := H
          have H' := Aside0.mk H
          clear H
          have ix32 : ∀ w_ : World, (Instr.index 23 (.agg #[.int .u8 a0_0, .int .u8 a0_1, .int .u8 a0_2, .int .u8 a0_3, .int .u8 a0_4, .int .u8 a0_5, .int .u8 a0_6, .int .u8 a0_7, .int .u8 a0_8, .int .u8 a0_9, .int .u8 a0_10, .int .u8 a0_11, .int .u8 a0_12, .int .u8 a0_13, .int .u8 a0_14, .int .u8 a0_15]) (.int .i64 13)).run Try.prog w_ = .ok (.int .u8 a0_13) w_ := fun _ => by kernel_rfl
          go_wp2
          go_roundg k1
          case measure => have := HK1.out; omega
          case rel => exact ⟨(wrap64 (x3_1 + (wrap64 ((wrap64 (a0_13)) * 14)))), (14), (by first | rfl | (simp; done) | (simp [*]; done)), (by first | rfl | (simp; done) | (simp [*]; done)), H', ⟨by have := HK1.out; omega⟩, ⟨by (with_reducible repeat (first | refine blk_drewN ?_ _ | refine blk_drew ?_ | refine blk_alloc ?_ _)); exact BK105.out⟩, ⟨by repeat (first | (with_reducible first | exact HB.out | apply below_alloc | apply pw_below_drewN | apply below_drew1 | refine below_set ?_ GE105.out) | exact HB.out)⟩⟩
        rw [if_neg c31] at H
        by_cases c33 : x7_1 = 14
        · rw [if_pos c33] at H
          subst c33
          replace H : (impl_CellSum.l0 k1 (wrap64 (x3_1 + (wrap64 ((wrap64 (a0_14)) * 15)))) 15 a0_0 a0_1 a0_2 a0_3 a0_4 a0_5 a0_6 a0_7 a0_8 a0_9 a0_10 a0_11 a0_12 a0_13 a0_14 a0_15) = some r := H
          have H' := Aside0.mk H
          clear H
          have ix34 : ∀ w_ : World, (Instr.index 23 (.agg #[.int .u8 a0_0, .int .u8 a0_1, .int .u8 a0_2, .int .u8 a0_3, .int .u8 a0_4, .int .u8 a0_5, .int .u8 a0_6, .int .u8 a0_7, .int .u8 a0_8, .int .u8 a0_9, .int .u8 a0_10, .int .u8 a0_11, .int .u8 a0_12, .int .u8 a0_13, .int .u8 a0_14, .int .u8 a0_15]) (.int .i64 14)).run Try.prog w_ = .ok (.int .u8 a0_14) w_ := fun _ => by kernel_rfl
          go_wp2
          go_roundg k1
          case measure => have := HK1.out; omega
          case rel => exact ⟨(wrap64 (x3_1 + (wrap64 ((wrap64 (a0_14)) * 15)))), (15), (by first | rfl | (simp; done) | (simp [*]; done)), (by first | rfl | (simp; done) | (simp [*]; done)), H', ⟨by have := HK1.out; omega⟩, ⟨by (with_reducible repeat (first | refine blk_drewN ?_ _ | refine blk_drew ?_ | refine blk_alloc ?_ _)); exact BK105.out⟩, ⟨by repeat (first | (with_reducible first | exact HB.out | apply below_alloc | apply pw_below_drewN | apply below_drew1 | refine below_set ?_ GE105.out) | exact HB.out)⟩⟩
        rw [if_neg c33] at H
        by_cases c35 : x7_1 = 15
        · rw [if_pos c35] at H
          subst c35
          replace H : (impl_CellSum.l0 k1 (wrap64 (x3_1 + (wrap64 ((wrap64 (a0_15)) * 16)))) 16 a0_0 a0_1 a0_2 a0_3 a0_4 a0_5 a0_6 a0_7 a0_8 a0_9 a0_10 a0_11 a0_12 a0_13 a0_14 a0_15) = some r := H
          have H' := Aside0.mk H
          clear H
          have ix36 : ∀ w_ : World, (Instr.index 23 (.agg #[.int .u8 a0_0, .int .u8 a0_1, .int .u8 a0_2, .int .u8 a0_3, .int .u8 a0_4, .int .u8 a0_5, .int .u8 a0_6, .int .u8 a0_7, .int .u8 a0_8, .int .u8 a0_9, .int .u8 a0_10, .int .u8 a0_11, .int .u8 a0_12, .int .u8 a0_13, .int .u8 a0_14, .int .u8 a0_15]) (.int .i64 15)).run Try.prog w_ = .ok (.int .u8 a0_15) w_ := fun _ => by kernel_rfl
          go_wp2
          go_roundg k1
          case measure => have := HK1.out; omega
          case rel => exact ⟨(wrap64 (x3_1 + (wrap64 ((wrap64 (a0_15)) * 16)))), (16), (by first | rfl | (simp; done) | (simp [*]; done)), (by first | rfl | (simp; done) | (simp [*]; done)), H', ⟨by have := HK1.out; omega⟩, ⟨by (with_reducible repeat (first | refine blk_drewN ?_ _ | refine blk_drew ?_ | refine blk_alloc ?_ _)); exact BK105.out⟩, ⟨by repeat (first | (with_reducible first | exact HB.out | apply below_alloc | apply pw_below_drewN | apply below_drew1 | refine below_set ?_ GE105.out) | exact HB.out)⟩⟩
        rw [if_neg c35] at H
        exact absurd H (by simp)
      · rw [if_neg c4] at H
        have c4b0 : decide (x7_1 < 16) = false := decide_eq_false c4
        clear c4
        obtain rfl := Option.some.inj H
        go_wp2
        go_ret
        exact ⟨by first | rfl | (simp [errW_none, errW_some] <;> rfl) | (simp [*, errW_none, errW_some] <;> rfl), by repeat (first | (with_reducible first | exact HB.out | apply below_alloc | apply pw_below_drewN | apply below_drew1 | refine below_set ?_ GE105.out) | exact HB.out)⟩

end Go.Proofs.Ytkmncnkohkfkoaa.Pb
