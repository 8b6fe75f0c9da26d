/- A part of a proof that laws of the given program hold for every input: no condition. -/
import Derived.Test.YtkmncnkohkfkoaaPbx0
namespace Go.Proofs.Ytkmncnkohkfkoaa.Pb
open Go.RowKit Go.Proofs.YtkmncnkohkfkoaaW.PrintWords Go.Proofs.YtkmncnkohkfkoaaW.PrintLast Go.Proofs.YtkmncnkohkfkoaaW.PrintMore
attribute [local go_sem] max2_int min2_int max_two min_two max_three min_three max_four min_four   -- for this text's walks alone
set_option linter.unusedVariables false
set_option linter.unusedSimpArgs false

/-! ### spec_CellSum: function 15 -/
def spec_CellSum.l0 : Nat → Int → Int → Int → Int → Int → Int → Int → Int → Int → Int → Int → Int → Int → Int → Int → Int → Int → Int → Option (Int)
  | 0, _, _, _, _, _, _, _, _, _, _, _, _, _, _, _, _, _, _ => none
  | k + 1, x3, x4, x102000, x102001, x102002, x102003, x102004, x102005, x102006, x102007, x102008, x102009, x102010, x102011, x102012, x102013, x102014, x102015 => if x4 < 16 then (if x4 = 0 then (spec_CellSum.l0 k (wrap64 (x3 + (wrap64 (1 * (wrap64 (x102000)))))) 1 x102000 x102001 x102002 x102003 x102004 x102005 x102006 x102007 x102008 x102009 x102010 x102011 x102012 x102013 x102014 x102015) else (if x4 = 1 then (spec_CellSum.l0 k (wrap64 (x3 + (wrap64 (2 * (wrap64 (x102001)))))) 2 x102000 x102001 x102002 x102003 x102004 x102005 x102006 x102007 x102008 x102009 x102010 x102011 x102012 x102013 x102014 x102015) else (if x4 = 2 then (spec_CellSum.l0 k (wrap64 (x3 + (wrap64 (3 * (wrap64 (x102002)))))) 3 x102000 x102001 x102002 x102003 x102004 x102005 x102006 x102007 x102008 x102009 x102010 x102011 x102012 x102013 x102014 x102015) else (if x4 = 3 then (spec_CellSum.l0 k (wrap64 (x3 + (wrap64 (4 * (wrap64 (x102003)))))) 4 x102000 x102001 x102002 x102003 x102004 x102005 x102006 x102007 x102008 x102009 x102010 x102011 x102012 x102013 x102014 x102015) else (if x4 = 4 then (spec_CellSum.l0 k (wrap64 (x3 + (wrap64 (5 * (wrap64 (x102004)))))) 5 x102000 x102001 x102002 x102003 x102004 x102005 x102006 x102007 x102008 x102009 x102010 x102011 x102012 x102013 x102014 x102015) else (if x4 = 5 then (spec_CellSum.l0 k (wrap64 (x3 + (wrap64 (6 * (wrap64 (x102005)))))) 6 x102000 x102001 x102002 x102003 x102004 x102005 x102006 x102007 x102008 x102009 x102010 x102011 x102012 x102013 x102014 x102015) else (if x4 = 6 then (spec_CellSum.l0 k (wrap64 (x3 + (wrap64 (7 * (wrap64 (x102006)))))) 7 x102000 x102001 x102002 x102003 x102004 x102005 x102006 x102007 x102008 x102009 x102010 x102011 x102012 x102013 x102014 x102015) else (if x4 = 7 then (spec_CellSum.l0 k (wrap64 (x3 + (wrap64 (8 * (wrap64 (x102007)))))) 8 x102000 x102001 x102002 x102003 x102004 x102005 x102006 x102007 x102008 x102009 x102010 x102011 x102012 x102013 x102014 x102015) else (if x4 = 8 then (spec_CellSum.l0 k (wrap64 (x3 + (wrap64 (9 * (wrap64 (x102008)))))) 9 x102000 x102001 x102002 x102003 x102004 x102005 x102006 x102007 x102008 x102009 x102010 x102011 x102012 x102013 x102014 x102015) else (if x4 = 9 then (spec_CellSum.l0 k (wrap64 (x3 + (wrap64 (10 * (wrap64 (x102009)))))) 10 x102000 x102001 x102002 x102003 x102004 x102005 x102006 x102007 x102008 x102009 x102010 x102011 x102012 x102013 x102014 x102015) else (if x4 = 10 then (spec_CellSum.l0 k (wrap64 (x3 + (wrap64 (11 * (wrap64 (x102010)))))) 11 x102000 x102001 x102002 x102003 x102004 x102005 x102006 x102007 x102008 x102009 x102010 x102011 x102012 x102013 x102014 x102015) else (if x4 = 11 then (spec_CellSum.l0 k (wrap64 (x3 + (wrap64 (12 * (wrap64 (x102011)))))) 12 x102000 x102001 x102002 x102003 x102004 x102005 x102006 x102007 x102008 x102009 x102010 x102011 x102012 x102013 x102014 x102015) else (if x4 = 12 then (spec_CellSum.l0 k (wrap64 (x3 + (wrap64 (13 * (wrap64 (x102012)))))) 13 x102000 x102001 x102002 x102003 x102004 x102005 x102006 x102007 x102008 x102009 x102010 x102011 x102012 x102013 x102014 x102015) else (if x4 = 13 then (spec_CellSum.l0 k (wrap64 (x3 + (wrap64 (14 * (wrap64 (x102013)))))) 14 x102000 x102001 x102002 x102003 x102004 x102005 x102006 x102007 x102008 x102009 x102010 x102011 x102012 x102013 x102014 x102015) else (if x4 = 14 then (spec_CellSum.l0 k (wrap64 (x3 + (wrap64 (15 * (wrap64 (x102014)))))) 15 x102000 x102001 x102002 x102003 x102004 x102005 x102006 x102007 x102008 x102009 x102010 x102011 x102012 x102013 x102014 x102015) else (if x4 = 15 then (spec_CellSum.l0 k (wrap64 (x3 + (wrap64 (16 * (wrap64 (x102015)))))) 16 x102000 x102001 x102002 x102003 x102004 x102005 x102006 x102007 x102008 x102009 x102010 x102011 x102012 x102013 x102014 x102015) else (none))))))))))))))))) else (some (Int.tmod x3 251))
def spec_CellSum.f (k : Nat) (a0_0 : Int) (a0_1 : Int) (a0_2 : Int) (a0_3 : Int) (a0_4 : Int) (a0_5 : Int) (a0_6 : Int) (a0_7 : Int) (a0_8 : Int) (a0_9 : Int) (a0_10 : Int) (a0_11 : Int) (a0_12 : Int) (a0_13 : Int) (a0_14 : Int) (a0_15 : Int) : Option (Int) := spec_CellSum.l0 k 0 0 a0_0 a0_1 a0_2 a0_3 a0_4 a0_5 a0_6 a0_7 a0_8 a0_9 a0_10 a0_11 a0_12 a0_13 a0_14 a0_15
theorem spec_CellSum.mono_l : ∀ k, (∀ y0 y1 y2 y3 y4 y5 y6 y7 y8 y9 y10 y11 y12 y13 y14 y15 y16 y17, LeO (spec_CellSum.l0 k y0 y1 y2 y3 y4 y5 y6 y7 y8 y9 y10 y11 y12 y13 y14 y15 y16 y17) (spec_CellSum.l0 (k + 1) y0 y1 y2 y3 y4 y5 y6 y7 y8 y9 y10 y11 y12 y13 y14 y15 y16 y17))
  | 0 => fun _ _ _ _ _ _ _ _ _ _ _ _ _ _ _ _ _ _ r h => by simp [spec_CellSum.l0] at h
  | k + 1 => by
    have ih0 := spec_CellSum.mono_l k
    · intro y0 y1 y2 y3 y4 y5 y6 y7 y8 y9 y10 y11 y12 y13 y14 y15 y16 y17
      unfold spec_CellSum.l0
      repeat' first
      | (with_reducible exact ih0 _ _ _ _ _ _ _ _ _ _ _ _ _ _ _ _ _ _)
      | (with_reducible exact LeO.refl _)
      | (with_reducible exact LeO.none _)
      | (with_reducible refine LeO.ite ?_ ?_)
      | (with_reducible refine LeO.bind ?_ (fun _ => ?_))
      | exact ih0 _ _ _ _ _ _ _ _ _ _ _ _ _ _ _ _ _ _
      | exact LeO.none _
      | refine LeO.ite ?_ ?_
      | refine LeO.bind ?_ (fun _ => ?_)
theorem spec_CellSum.mono : ∀ a0 a1 a2 a3 a4 a5 a6 a7 a8 a9 a10 a11 a12 a13 a14 a15 k, LeO (spec_CellSum.f k a0 a1 a2 a3 a4 a5 a6 a7 a8 a9 a10 a11 a12 a13 a14 a15) (spec_CellSum.f (k + 1) a0 a1 a2 a3 a4 a5 a6 a7 a8 a9 a10 a11 a12 a13 a14 a15) := by
  intro a0 a1 a2 a3 a4 a5 a6 a7 a8 a9 a10 a11 a12 a13 a14 a15 k
  have ih0 := spec_CellSum.mono_l k
  unfold spec_CellSum.f
  repeat' first
      | (with_reducible exact ih0 _ _ _ _ _ _ _ _ _ _ _ _ _ _ _ _ _ _)
      | (with_reducible exact LeO.refl _)
      | (with_reducible exact LeO.none _)
      | (with_reducible refine LeO.ite ?_ ?_)
      | (with_reducible refine LeO.bind ?_ (fun _ => ?_))
      | exact ih0 _ _ _ _ _ _ _ _ _ _ _ _ _ _ _ _ _ _
      | exact LeO.none _
      | refine LeO.ite ?_ ?_
      | refine LeO.bind ?_ (fun _ => ?_)
set_option maxHeartbeats 8000000 in
set_option maxRecDepth 100000 in
theorem spec_CellSum.calls (k : Nat) (a0_0 : Int) (a0_1 : Int) (a0_2 : Int) (a0_3 : Int) (a0_4 : Int) (a0_5 : Int) (a0_6 : Int) (a0_7 : Int) (a0_8 : Int) (a0_9 : Int) (a0_10 : Int) (a0_11 : Int) (a0_12 : Int) (a0_13 : Int) (a0_14 : Int) (a0_15 : Int) (r : Int) (w : World) (h : spec_CellSum.f k a0_0 a0_1 a0_2 a0_3 a0_4 a0_5 a0_6 a0_7 a0_8 a0_9 a0_10 a0_11 a0_12 a0_13 a0_14 a0_15 = some r) :
    Calls Try.prog 15 #[.agg #[.int .u8 a0_0, .int .u8 a0_1, .int .u8 a0_2, .int .u8 a0_3, .int .u8 a0_4, .int .u8 a0_5, .int .u8 a0_6, .int .u8 a0_7, .int .u8 a0_8, .int .u8 a0_9, .int .u8 a0_10, .int .u8 a0_11, .int .u8 a0_12, .int .u8 a0_13, .int .u8 a0_14, .int .u8 a0_15]] w fun e w' => e = .returned (.int .i64 r) ∧ Below w.heap.size w w' := by
  have hu23 := Try.underlying23
  have HB := Aside0.mk (Below.refl w.heap.size w)
  have H : (spec_CellSum.l0 k 0 0 a0_0 a0_1 a0_2 a0_3 a0_4 a0_5 a0_6 a0_7 a0_8 a0_9 a0_10 a0_11 a0_12 a0_13 a0_14 a0_15) = some r := h
  clear h
  have H' := Aside0.mk H
  clear H
  go_enter Try.func15, Try.ntmps15
  go_wp2_with (first | ((with_reducible refine gate_dst (N := 1) rfl ?_); refine box_event ?hg (N := 1) ?hd (cs := #[.int .u8 a0_0, .int .u8 a0_1, .int .u8 a0_2, .int .u8 a0_3, .int .u8 a0_4, .int .u8 a0_5, .int .u8 a0_6, .int .u8 a0_7, .int .u8 a0_8, .int .u8 a0_9, .int .u8 a0_10, .int .u8 a0_11, .int .u8 a0_12, .int .u8 a0_13, .int .u8 a0_14, .int .u8 a0_15]) (t := 23) ?hr ?_; (case hd => rfl); (case hg => rfl); (case hr => first | (go_simp; done) | (go_simp; rfl)); intro gb101 hg w2 hbox hb; have n0_ := Aside0.mk (below_step (by repeat (first | (with_reducible first | exact HB.out | apply below_alloc | apply pw_below_drewN | apply below_drew1) | exact HB.out)) hb); have n1_ := Aside0.mk (hbox); have n2_ := Aside0.mk ((by rw [hg]; exact (below_size (by repeat (first | (with_reducible first | exact HB.out | apply below_alloc | apply pw_below_drewN | apply below_drew1) | exact HB.out))) : w.heap.size ≤ gb101)); have n3_ := Aside0.mk ((by rw [hg]; exact (below_size (by repeat (first | (with_reducible first | exact HB.out | apply below_alloc | apply pw_below_drewN | apply below_drew1) | exact HB.out))) : w.heap.size ≤ gb101)); clear HB; have HB := n0_; have BK101 := n1_; have GW101 := n2_; have GE101 := n3_; clear n0_ n1_ n2_ n3_; clear hb hbox hg))
  go_loopg [3, 4] k (fun kq v3 v4 w' => ∃ (x3_1 : Int) (x4_1 : Int), v3 = .int .i64 x3_1 ∧ v4 = .int .i64 x4_1 ∧ Aside0 (spec_CellSum.l0 kq x3_1 x4_1 a0_0 a0_1 a0_2 a0_3 a0_4 a0_5 a0_6 a0_7 a0_8 a0_9 a0_10 a0_11 a0_12 a0_13 a0_14 a0_15 = some r) ∧ Aside0 (kq ≤ k) ∧ Aside0 (w'.heap[gb101]? = some (.cells #[.int .u8 a0_0, .int .u8 a0_1, .int .u8 a0_2, .int .u8 a0_3, .int .u8 a0_4, .int .u8 a0_5, .int .u8 a0_6, .int .u8 a0_7, .int .u8 a0_8, .int .u8 a0_9, .int .u8 a0_10, .int .u8 a0_11, .int .u8 a0_12, .int .u8 a0_13, .int .u8 a0_14, .int .u8 a0_15] 23 (0, 0))) ∧ Aside0 (Below w.heap.size w w'))
  case atStart => exact ⟨(0), (0), (by first | rfl | (simp; done) | (simp [*]; done)), (by first | rfl | (simp; done) | (simp [*]; done)), H', ⟨Nat.le_refl _⟩, ⟨by (with_reducible repeat (first | refine blk_drewN ?_ _ | refine blk_drew ?_ | refine blk_alloc ?_ _)); exact BK101.out⟩, ⟨by repeat (first | (with_reducible first | exact HB.out | apply below_alloc | apply pw_below_drewN | apply below_drew1 | refine below_set ?_ GE101.out) | exact HB.out)⟩⟩
  case round =>
    clear H'
    try clear c1
    try clear p2
    obtain ⟨x3_1, x4_1, rfl, rfl, HA, HK1, BK101, HB⟩ := hrel
    cases gk with
    | zero => exact absurd HA.out (by simp [spec_CellSum.l0])
    | succ k1 =>
      have H := HA.out
      clear HA
      simp only [spec_CellSum.l0] at H
      by_cases c3 : x4_1 < 16
      · rw [if_pos c3] at H
        have c3b0 : decide (x4_1 < 16) = true := decide_eq_true c3
        clear c3
        by_cases c4 : x4_1 = 0
        · rw [if_pos c4] at H
          subst c4
          replace H : (spec_CellSum.l0 k1 (wrap64 (x3_1 + (wrap64 (1 * (wrap64 (a0_0)))))) 1 a0_0 a0_1 a0_2 a0_3 a0_4 a0_5 a0_6 a0_7 a0_8 a0_9 a0_10 a0_11 a0_12 a0_13 a0_14 a0_15) = some r := H
          have H' := Aside0.mk H
          clear H
          have hcz5_0 : wr.cell? ⟨gb101, 0, none⟩ = some (.int .u8 a0_0) := (blk_cell BK101.out 0).trans rfl
          have hcz5_1 : wr.cell? ⟨gb101, 1, none⟩ = some (.int .u8 a0_1) := (blk_cell BK101.out 1).trans rfl
          have hcz5_2 : wr.cell? ⟨gb101, 2, none⟩ = some (.int .u8 a0_2) := (blk_cell BK101.out 2).trans rfl
          have hcz5_3 : wr.cell? ⟨gb101, 3, none⟩ = some (.int .u8 a0_3) := (blk_cell BK101.out 3).trans rfl
          have hcz5_4 : wr.cell? ⟨gb101, 4, none⟩ = some (.int .u8 a0_4) := (blk_cell BK101.out 4).trans rfl
          have hcz5_5 : wr.cell? ⟨gb101, 5, none⟩ = some (.int .u8 a0_5) := (blk_cell BK101.out 5).trans rfl
          have hcz5_6 : wr.cell? ⟨gb101, 6, none⟩ = some (.int .u8 a0_6) := (blk_cell BK101.out 6).trans rfl
          have hcz5_7 : wr.cell? ⟨gb101, 7, none⟩ = some (.int .u8 a0_7) := (blk_cell BK101.out 7).trans rfl
          have hcz5_8 : wr.cell? ⟨gb101, 8, none⟩ = some (.int .u8 a0_8) := (blk_cell BK101.out 8).trans rfl
          have hcz5_9 : wr.cell? ⟨gb101, 9, none⟩ = some (.int .u8 a0_9) := (blk_cell BK101.out 9).trans rfl
          have hcz5_10 : wr.cell? ⟨gb101, 10, none⟩ = some (.int .u8 a0_10) := (blk_cell BK101.out 10).trans rfl
          have hcz5_11 : wr.cell? ⟨gb101, 11, none⟩ = some (.int .u8 a0_11) := (blk_cell BK101.out 11).trans rfl
          have hcz5_12 : wr.cell? ⟨gb101, 12, none⟩ = some (.int .u8 a0_12) := (blk_cell BK101.out 12).trans rfl
          have hcz5_13 : wr.cell? ⟨gb101, 13, none⟩ = some (.int .u8 a0_13) := (blk_cell BK101.out 13).trans rfl
          have hcz5_14 : wr.cell? ⟨gb101, 14, none⟩ = some (.int .u8 a0_14) := (blk_cell BK101.out 14).trans rfl
          have hcz5_15 : wr.cell? ⟨gb101, 15, none⟩ = some (.int .u8 a0_15) := (blk_cell BK101.out 15).trans rfl
          have hfz5_0 := blk_frozen BK101.out 0
          have hfz5_1 := blk_frozen BK101.out 1
          have hfz5_2 := blk_frozen BK101.out 2
          have hfz5_3 := blk_frozen BK101.out 3
          have hfz5_4 := blk_frozen BK101.out 4
          have hfz5_5 := blk_frozen BK101.out 5
          have hfz5_6 := blk_frozen BK101.out 6
          have hfz5_7 := blk_frozen BK101.out 7
          have hfz5_8 := blk_frozen BK101.out 8
          have hfz5_9 := blk_frozen BK101.out 9
          have hfz5_10 := blk_frozen BK101.out 10
          have hfz5_11 := blk_frozen BK101.out 11
          have hfz5_12 := blk_frozen BK101.out 12
          have hfz5_13 := blk_frozen BK101.out 13
          have hfz5_14 := blk_frozen BK101.out 14
          have hfz5_15 := blk_frozen BK101.out 15
          go_wp2
          go_roundg k1
          case measure => have := HK1.out; omega
          case rel => exact ⟨(wrap64 (x3_1 + (wrap64 (1 * (wrap64 (a0_0)))))), (1), (by first | rfl | (simp; done) | (simp [*]; done)), (by first | rfl | (simp; done) | (simp [*]; done)), H', ⟨by have := HK1.out; omega⟩, ⟨by (with_reducible repeat (first | refine blk_drewN ?_ _ | refine blk_drew ?_ | refine blk_alloc ?_ _)); exact BK101.out⟩, ⟨by repeat (first | (with_reducible first | exact HB.out | apply below_alloc | apply pw_below_drewN | apply below_drew1 | refine below_set ?_ GE101.out) | exact HB.out)⟩⟩
        rw [if_neg c4] at H
        by_cases c6 : x4_1 = 1
        · rw [if_pos c6] at H
          subst c6
          replace H : (spec_CellSum.l0 k1 (wrap64 (x3_1 + (wrap64 (2 * (wrap64 (a0_1)))))) 2 a0_0 a0_1 a0_2 a0_3 a0_4 a0_5 a0_6 a0_7 a0_8 a0_9 a0_10 a0_11 a0_12 a0_13 a0_14 a0_15) = some r := H
          have H' := Aside0.mk H
          clear H
          have hcz7_0 : wr.cell? ⟨gb101, 0, none⟩ = some (.int .u8 a0_0) := (blk_cell BK101.out 0).trans rfl
          have hcz7_1 : wr.cell? ⟨gb101, 1, none⟩ = some (.int .u8 a0_1) := (blk_cell BK101.out 1).trans rfl
          have hcz7_2 : wr.cell? ⟨gb101, 2, none⟩ = some (.int .u8 a0_2) := (blk_cell BK101.out 2).trans rfl
          have hcz7_3 : wr.cell? ⟨gb101, 3, none⟩ = some (.int .u8 a0_3) := (blk_cell BK101.out 3).trans rfl
          have hcz7_4 : wr.cell? ⟨gb101, 4, none⟩ = some (.int .u8 a0_4) := (blk_cell BK101.out 4).trans rfl
          have hcz7_5 : wr.cell? ⟨gb101, 5, none⟩ = some (.int .u8 a0_5) := (blk_cell BK101.out 5).trans rfl
          have hcz7_6 : wr.cell? ⟨gb101, 6, none⟩ = some (.int .u8 a0_6) := (blk_cell BK101.out 6).trans rfl
          have hcz7_7 : wr.cell? ⟨gb101, 7, none⟩ = some (.int .u8 a0_7) := (blk_cell BK101.out 7).trans rfl
          have hcz7_8 : wr.cell? ⟨gb101, 8, none⟩ = some (.int .u8 a0_8) := (blk_cell BK101.out 8).trans rfl
          have hcz7_9 : wr.cell? ⟨gb101, 9, none⟩ = some (.int .u8 a0_9) := (blk_cell BK101.out 9).trans rfl
          have hcz7_10 : wr.cell? ⟨gb101, 10, none⟩ = some (.int .u8 a0_10) := (blk_cell BK101.out 10).trans rfl
          have hcz7_11 : wr.cell? ⟨gb101, 11, none⟩ = some (.int .u8 a0_11) := (blk_cell BK101.out 11).trans rfl
          have hcz7_12 : wr.cell? ⟨gb101, 12, none⟩ = some (.int .u8 a0_12) := (blk_cell BK101.out 12).trans rfl
          have hcz7_13 : wr.cell? ⟨gb101, 13, none⟩ = some (.int .u8 a0_13) := (blk_cell BK101.out 13).trans rfl
          have hcz7_14 : wr.cell? ⟨gb101, 14, none⟩ = some (.int .u8 a0_14) := (blk_cell BK101.out 14).trans rfl
          have hcz7_15 : wr.cell? ⟨gb101, 15, none⟩ = some (.int .u8 a0_15) := (blk_cell BK101.out 15).trans rfl
          have hfz7_0 := blk_frozen BK101.out 0
          have hfz7_1 := blk_frozen BK101.out 1
          have hfz7_2 := blk_frozen BK101.out 2
          have hfz7_3 := blk_frozen BK101.out 3
          have hfz7_4 := blk_frozen BK101.out 4
          have hfz7_5 := blk_frozen BK101.out 5
          have hfz7_6 := blk_frozen BK101.out 6
          have hfz7_7 := blk_frozen BK101.out 7
          have hfz7_8 := blk_frozen BK101.out 8
          have hfz7_9 := blk_frozen BK101.out 9
          have hfz7_10 := blk_frozen BK101.out 10
          have hfz7_11 := blk_frozen BK101.out 11
          have hfz7_12 := blk_frozen BK101.out 12
          have hfz7_13 := blk_frozen BK101.out 13
          have hfz7_14 := blk_frozen BK101.out 14
          have hfz7_15 := blk_frozen BK101.out 15
          go_wp2
          go_roundg k1
          case measure => have := HK1.out; omega
          case rel => exact ⟨(wrap64 (x3_1 + (wrap64 (2 * (wrap64 (a0_1)))))), (2), (by first | rfl | (simp; done) | (simp [*]; done)), (by first | rfl | (simp; done) | (simp [*]; done)), H', ⟨by have := HK1.out; omega⟩, ⟨by (with_reducible repeat (first | refine blk_drewN ?_ _ | refine blk_drew ?_ | refine blk_alloc ?_ _)); exact BK101.out⟩, ⟨by repeat (first | (with_reducible first | exact HB.out | apply below_alloc | apply pw_below_drewN | apply below_drew1 | refine below_set ?_ GE101.out) | exact HB.out)⟩⟩
        rw [if_neg c6] at H
        by_cases c8 : x4_1 = 2
        · rw [if_pos c8] at H
          subst c8
          replace H : (spec_CellSum.l0 k1 (wrap64 (x3_1 + (wrap64 (3 * (wrap64 (a0_2)))))) 3 a0_0 a0_1 a0_2 a0_3 a0_4 a0_5 a0_6 a0_7 a0_8 a0_9 a0_10 a0_11 a0_12 a0_13 a0_14 a0_15) = some r := H
          have H' := Aside0.mk H
          clear H
          have hcz9_0 : wr.cell? ⟨gb101, 0, none⟩ = some (.int .u8 a0_0) := (blk_cell BK101.out 0).trans rfl
          have hcz9_1 : wr.cell? ⟨gb101, 1, none⟩ = some (.int .u8 a0_1) := (blk_cell BK101.out 1).trans rfl
          have hcz9_2 : wr.cell? ⟨gb101, 2, none⟩ = some (.int .u8 a0_2) := (blk_cell BK101.out 2).trans rfl
          have hcz9_3 : wr.cell? ⟨gb101, 3, none⟩ = some (.int .u8 a0_3) := (blk_cell BK101.out 3).trans rfl
          have hcz9_4 : wr.cell? ⟨gb101, 4, none⟩ = some (.int .u8 a0_4) := (blk_cell BK101.out 4).trans rfl
          have hcz9_5 : wr.cell? ⟨gb101, 5, none⟩ = some (.int .u8 a0_5) := (blk_cell BK101.out 5).trans rfl
          have hcz9_6 : wr.cell? ⟨gb101, 6, none⟩ = some (.int .u8 a0_6) := (blk_cell BK101.out 6).trans rfl
          have hcz9_7 : wr.cell? ⟨gb101, 7, none⟩ = some (.int .u8 a0_7) := (blk_cell BK101.out 7).trans rfl
          have hcz9_8 : wr.cell? ⟨gb101, 8, none⟩ = some (.int .u8 a0_8) := (blk_cell BK101.out 8).trans rfl
          have hcz9_9 : wr.cell? ⟨gb101, 9, none⟩ = some (.int .u8 a0_9) := (blk_cell BK101.out 9).trans rfl
          have hcz9_10 : wr.cell? ⟨gb101, 10, none⟩ = some (.int .u8 a0_10) := (blk_cell BK101.out 10).trans rfl
          have hcz9_11 : wr.cell? ⟨gb101, 11, none⟩ = some (.int .u8 a0_11) := (blk_cell BK101.out 11).trans rfl
          have hcz9_12 : wr.cell? ⟨gb101, 12, none⟩ = some (.int .u8 a0_12) := (blk_cell BK101.out 12).trans rfl
          have hcz9_13 : wr.cell? ⟨gb101, 13, none⟩ = some (.int .u8 a0_13) := (blk_cell BK101.out 13).trans rfl
          have hcz9_14 : wr.cell? ⟨gb101, 14, none⟩ = some (.int .u8 a0_14) := (blk_cell BK101.out 14).trans rfl
          have hcz9_15 : wr.cell? ⟨gb101, 15, none⟩ = some (.int .u8 a0_15) := (blk_cell BK101.out 15).trans rfl
          have hfz9_0 := blk_frozen BK101.out 0
          have hfz9_1 := blk_frozen BK101.out 1
          have hfz9_2 := blk_frozen BK101.out 2
          have hfz9_3 := blk_frozen BK101.out 3
          have hfz9_4 := blk_frozen BK101.out 4
          have hfz9_5 := blk_frozen BK101.out 5
          have hfz9_6 := blk_frozen BK101.out 6
          have hfz9_7 := blk_frozen BK101.out 7
          have hfz9_8 := blk_frozen BK101.out 8
          have hfz9_9 := blk_frozen BK101.out 9
          have hfz9_10 := blk_frozen BK101.out 10
          have hfz9_11 := blk_frozen BK101.out 11
          have hfz9_12 := blk_frozen BK101.out 12
          have hfz9_13 := blk_frozen BK101.out 13
          have hfz9_14 := blk_frozen BK101.out 14
          have hfz9_15 := blk_frozen BK101.out 15
          go_wp2
          go_roundg k1
          case measure => have := HK1.out; omega
          case rel => exact ⟨(wrap64 (x3_1 + (wrap64 (3 * (wrap64 (a0_2)))))), (3), (by first | rfl | (simp; done) | (simp [*]; done)), (by first | rfl | (simp; done) | (simp [*]; done)), H', ⟨by have := HK1.out; omega⟩, ⟨by (with_reducible repeat (first | refine blk_drewN ?_ _ | refine blk_drew ?_ | refine blk_alloc ?_ _)); exact BK101.out⟩, ⟨by repeat (first | (with_reducible first | exact HB.out | apply below_alloc | apply pw_below_drewN | apply below_drew1 | refine below_set ?_ GE101.out) | exact HB.out)⟩⟩
        rw [if_neg c8] at H
        by_cases c10 : x4_1 = 3
        · rw [if_pos c10] at H
          subst c10
          replace H : (spec_CellSum.l0 k1 (wrap64 (x3_1 + (wrap64 (4 * (wrap64 (a0_3)))))) 4 a0_0 a0_1 a0_2 a0_3 a0_4 a0_5 a0_6 a0_7 a0_8 a0_9 a0_10 a0_11 a0_12 a0_13 a0_14 a0_15) = some r := H
          have H' := Aside0.mk H
          clear H
          have hcz11_0 : wr.cell? ⟨gb101, 0, none⟩ = some (.int .u8 a0_0) := (blk_cell BK101.out 0).trans rfl
          have hcz11_1 : wr.cell? ⟨gb101, 1, none⟩ = some (.int .u8 a0_1) := (blk_cell BK101.out 1).trans rfl
          have hcz11_2 : wr.cell? ⟨gb101, 2, none⟩ = some (.int .u8 a0_2) := (blk_cell BK101.out 2).trans rfl
          have hcz11_3 : wr.cell? ⟨gb101, 3, none⟩ = some (.int .u8 a0_3) := (blk_cell BK101.out 3).trans rfl
          have hcz11_4 : wr.cell? ⟨gb101, 4, none⟩ = some (.int .u8 a0_4) := (blk_cell BK101.out 4).trans rfl
          have hcz11_5 : wr.cell? ⟨gb101, 5, none⟩ = some (.int .u8 a0_5) := (blk_cell BK101.out 5).trans rfl
          have hcz11_6 : wr.cell? ⟨gb101, 6, none⟩ = some (.int .u8 a0_6) := (blk_cell BK101.out 6).trans rfl
          have hcz11_7 : wr.cell? ⟨gb101, 7, none⟩ = some (.int .u8 a0_7) := (blk_cell BK101.out 7).trans rfl
          have hcz11_8 : wr.cell? ⟨gb101, 8, none⟩ = some (.int .u8 a0_8) := (blk_cell BK101.out 8).trans rfl
          have hcz11_9 : wr.cell? ⟨gb101, 9, none⟩ = some (.int .u8 a0_9) := (blk_cell BK101.out 9).trans rfl
          have hcz11_10 : wr.cell? ⟨gb101, 10, none⟩ = some (.int .u8 a0_10) := (blk_cell BK101.out 10).trans rfl
          have hcz11_11 : wr.cell? ⟨gb101, 11, none⟩ = some (.int .u8 a0_11) := (blk_cell BK101.out 11).trans rfl
          have hcz11_12 : wr.cell? ⟨gb101, 12, none⟩ = some (.int .u8 a0_12) := (blk_cell BK101.out 12).trans rfl
          have hcz11_13 : wr.cell? ⟨gb101, 13, none⟩ = some (.int .u8 a0_13) := (blk_cell BK101.out 13).trans rfl
          have hcz11_14 : wr.cell? ⟨gb101, 14, none⟩ = some (.int .u8 a0_14) := (blk_cell BK101.out 14).trans rfl
          have hcz11_15 : wr.cell? ⟨gb101, 15, none⟩ = some (.int .u8 a0_15) := (blk_cell BK101.out 15).trans rfl
          have hfz11_0 := blk_frozen BK101.out 0
          have hfz11_1 := blk_frozen BK101.out 1
          have hfz11_2 := blk_frozen BK101.out 2
          have hfz11_3 := blk_frozen BK101.out 3
          have hfz11_4 := blk_frozen BK101.out 4
          have hfz11_5 := blk_frozen BK101.out 5
          have hfz11_6 := blk_frozen BK101.out 6
          have hfz11_7 := blk_frozen BK101.out 7
          have hfz11_8 := blk_frozen BK101.out 8
          have hfz11_9 := blk_frozen BK101.out 9
          have hfz11_10 := blk_frozen BK101.out 10
          have hfz11_11 := blk_frozen BK101.out 11
          have hfz11_12 := blk_frozen BK101.out 12
          have hfz11_13 := blk_frozen BK101.out 13
          have hfz11_14 := blk_frozen BK101.out 14
          have hfz11_15 := blk_frozen BK101.out 15
          go_wp2
          go_roundg k1
          case measure => have := HK1.out; omega
          case rel => exact ⟨(wrap64 (x3_1 + (wrap64 (4 * (wrap64 (a0_3)))))), (4), (by first | rfl | (simp; done) | (simp [*]; done)), (by first | rfl | (simp; done) | (simp [*]; done)), H', ⟨by have := HK1.out; omega⟩, ⟨by (with_reducible repeat (first | refine blk_drewN ?_ _ | refine blk_drew ?_ | refine blk_alloc ?_ _)); exact BK101.out⟩, ⟨by repeat (first | (with_reducible first | exact HB.out | apply below_alloc | apply pw_below_drewN | apply below_drew1 | refine below_set ?_ GE101.out) | exact HB.out)⟩⟩
        rw [if_neg c10] at H
        by_cases c12 : x4_1 = 4
        · rw [if_pos c12] at H
          subst c12
          replace H : (spec_CellSum.l0 k1 (wrap64 (x3_1 + (wrap64 (5 * (wrap64 (a0_4)))))) 5 a0_0 a0_1 a0_2 a0_3 a0_4 a0_5 a0_6 a0_7 a0_8 a0_9 a0_10 a0_11 a0_12 a0_13 a0_14 a0_15) = some r := H
          have H' := Aside0.mk H
          clear H
          have hcz13_0 : wr.cell? ⟨gb101, 0, none⟩ = some (.int .u8 a0_0) := (blk_cell BK101.out 0).trans rfl
          have hcz13_1 : wr.cell? ⟨gb101, 1, none⟩ = some (.int .u8 a0_1) := (blk_cell BK101.out 1).trans rfl
          have hcz13_2 : wr.cell? ⟨gb101, 2, none⟩ = some (.int .u8 a0_2) := (blk_cell BK101.out 2).trans rfl
          have hcz13_3 : wr.cell? ⟨gb101, 3, none⟩ = some (.int .u8 a0_3) := (blk_cell BK101.out 3).trans rfl
          have hcz13_4 : wr.cell? ⟨gb101, 4, none⟩ = some (.int .u8 a0_4) := (blk_cell BK101.out 4).trans rfl
          have hcz13_5 : wr.cell? ⟨gb101, 5, none⟩ = some (.int .u8 a0_5) := (blk_cell BK101.out 5).trans rfl
          have hcz13_6 : wr.cell? ⟨gb101, 6, none⟩ = some (.int .u8 a0_6) := (blk_cell BK101.out 6).trans rfl
          have hcz13_7 : wr.cell? ⟨gb101, 7, none⟩ = some (.int .u8 a0_7) := (blk_cell BK101.out 7).trans rfl
          have hcz13_8 : wr.cell? ⟨gb101, 8, none⟩ = some (.int .u8 a0_8) := (blk_cell BK101.out 8).trans rfl
          have hcz13_9 : wr.cell? ⟨gb101, 9, none⟩ = some (.int .u8 a0_9) := (blk_cell BK101.out 9).trans rfl
          have hcz13_10 : wr.cell? ⟨gb101, 10, none⟩ = some (.int .u8 a0_10) := (blk_cell BK101.out 10).trans rfl
          have hcz13_11 : wr.cell? ⟨gb101, 11, none⟩ = some (.int .u8 a0_11) := (blk_cell BK101.out 11).trans rfl
          have hcz13_12 : wr.cell? ⟨gb101, 12, none⟩ = some (.int .u8 a0_12) := (blk_cell BK101.out 12).trans rfl
          have hcz13_13 : wr.cell? ⟨gb101, 13, none⟩ = some (.int .u8 a0_13) := (blk_cell BK101.out 13).trans rfl
          have hcz13_14 : wr.cell? ⟨gb101, 14, none⟩ = some (.int .u8 a0_14) := (blk_cell BK101.out 14).trans rfl
          have hcz13_15 : wr.cell? ⟨gb101, 15, none⟩ = some (.int .u8 a0_15) := (blk_cell BK101.out 15).trans rfl
          have hfz13_0 := blk_frozen BK101.out 0
          have hfz13_1 := blk_frozen BK101.out 1
          have hfz13_2 := blk_frozen BK101.out 2
          have hfz13_3 := blk_frozen BK101.out 3
          have hfz13_4 := blk_frozen BK101.out 4
          have hfz13_5 := blk_frozen BK101.out 5
          have hfz13_6 := blk_frozen BK101.out 6
          have hfz13_7 := blk_frozen BK101.out 7
          have hfz13_8 := blk_frozen BK101.out 8
          have hfz13_9 := blk_frozen BK101.out 9
          have hfz13_10 := blk_frozen BK101.out 10
          have hfz13_11 := blk_frozen BK101.out 11
          have hfz13_12 := blk_frozen BK101.out 12
          have hfz13_13 := blk_frozen BK101.out 13
          have hfz13_14 := blk_frozen BK101.out 14
          have hfz13_15 := blk_frozen BK101.out 15
          go_wp2
          go_roundg k1
          case measure => have := HK1.out; omega
          case rel => exact ⟨(wrap64 (x3_1 + (wrap64 (5 * (wrap64 (a0_4)))))), (5), (by first | rfl | (simp; done) | (simp [*]; done)), (by first | rfl | (simp; done) | (simp [*]; done)), H', ⟨by have := HK1.out; omega⟩, ⟨by (with_reducible repeat (first | refine blk_drewN ?_ _ | refine blk_drew ?_ | refine blk_alloc ?_ _)); exact BK101.out⟩, ⟨by repeat (first | (with_reducible first | exact HB.out | apply below_alloc | apply pw_below_drewN | apply below_drew1 | refine below_set ?_ GE101.out) | exact HB.out)⟩⟩
        rw [if_neg c12] at H
        by_cases c14 : x4_1 = 5
        · rw [if_pos c14] at H
          subst c14
          replace H : (spec_CellSum.l0 k1 (wrap64 (x3_1 + (wrap64 (6 * (wrap64 (a0_5)))))) 6 a0_0 a0_1 a0_2 a0_3 a0_4 a0_5 a0_6 a0_7 a0_8 a0_9 a0_10 a0_11 a0_12 a0_13 a0_14 a0_15) = some r := H
          have H' := Aside0.mk H
          clear H
          have hcz15_0 : wr.cell? ⟨gb101, 0, none⟩ = some (.int .u8 a0_0) := (blk_cell BK101.out 0).trans rfl
          have hcz15_1 : wr.cell? ⟨gb101, 1, none⟩ = some (.int .u8 a0_1) := (blk_cell BK101.out 1).trans rfl
          have hcz15_2 : wr.cell? ⟨gb101, 2, none⟩ = some (.int .u8 a0_2) := (blk_cell BK101.out 2).trans rfl
          have hcz15_3 : wr.cell? ⟨gb101, 3, none⟩ = some (.int .u8 a0_3) := (blk_cell BK101.out 3).trans rfl
          have hcz15_4 : wr.cell? ⟨gb101, 4, none⟩ = some (.int .u8 a0_4) := (blk_cell BK101.out 4).trans rfl
          have hcz15_5 : wr.cell? ⟨gb101, 5, none⟩ = some (.int .u8 a0_5) := (blk_cell BK101.out 5).trans rfl
          have hcz15_6 : wr.cell? ⟨gb101, 6, none⟩ = some (.int .u8 a0_6) := (blk_cell BK101.out 6).trans rfl
          have hcz15_7 : wr.cell? ⟨gb101, 7, none⟩ = some (.int .u8 a0_7) := (blk_cell BK101.out 7).trans rfl
          have hcz15_8 : wr.cell? ⟨gb101, 8, none⟩ = some (.int .u8 a0_8) := (blk_cell BK101.out 8).trans rfl
          have hcz15_9 : wr.cell? ⟨gb101, 9, none⟩ = some (.int .u8 a0_9) := (blk_cell BK101.out 9).trans rfl
          have hcz15_10 : wr.cell? ⟨gb101, 10, none⟩ = some (.int .u8 a0_10) := (blk_cell BK101.out 10).trans rfl
          have hcz15_11 : wr.cell? ⟨gb101, 11, none⟩ = some (.int .u8 a0_11) := (blk_cell BK101.out 11).trans rfl
          have hcz15_12 : wr.cell? ⟨gb101, 12, none⟩ = some (.int .u8 a0_12) := (blk_cell BK101.out 12).trans rfl
          have hcz15_13 : wr.cell? ⟨gb101, 13, none⟩ = some (.int .u8 a0_13) := (blk_cell BK101.out 13).trans rfl
          have hcz15_14 : wr.cell? ⟨gb101, 14, none⟩ = some (.int .u8 a0_14) := (blk_cell BK101.out 14).trans rfl
          have hcz15_15 : wr.cell? ⟨gb101, 15, none⟩ = some (.int .u8 a0_15) := (blk_cell BK101.out 15).trans rfl
          have hfz15_0 := blk_frozen BK101.out 0
          have hfz15_1 := blk_frozen BK101.out 1
          have hfz15_2 := blk_frozen BK101.out 2
          have hfz15_3 := blk_frozen BK101.out 3
          have hfz15_4 := blk_frozen BK101.out 4
          have hfz15_5 := blk_frozen BK101.out 5
          have hfz15_6 := blk_frozen BK101.out 6
          have hfz15_7 := blk_frozen BK101.out 7
          have hfz15_8 := blk_frozen BK101.out 8
          have hfz15_9 := blk_frozen BK101.out 9
          have hfz15_10 := blk_frozen BK101.out 10
          have hfz15_11 := blk_frozen BK101.out 11
          have hfz15_12 := blk_frozen BK101.out 12
          have hfz15_13 := blk_frozen BK101.out 13
          have hfz15_14 := blk_frozen BK101.out 14
          have hfz15_15 := blk_frozen BK101.out 15
          go_wp2
          go_roundg k1
          case measure => have := HK1.out; omega
          case rel => exact ⟨(wrap64 (x3_1 + (wrap64 (6 * (wrap64 (a0_5)))))), (6), (by first | rfl | (simp; done) | (simp [*]; done)), (by first | rfl | (simp; done) | (simp [*]; done)), H', ⟨by have := HK1.out; omega⟩, ⟨by (with_reducible repeat (first | refine blk_drewN ?_ _ | refine blk_drew ?_ | refine blk_alloc ?_ _)); exact BK101.out⟩, ⟨by repeat (first | (with_reducible first | exact HB.out | apply below_alloc | apply pw_below_drewN | apply below_drew1 | refine below_set ?_ GE101.out) | exact HB.out)⟩⟩
        rw [if_neg c14] at H
        by_cases c16 : x4_1 = 6
        · rw [if_pos c16] at H
          subst c16
          replace H : (spec_CellSum.l0 k1 (wrap64 (x3_1 + (wrap64 (7 * (wrap64 (a0_6)))))) 7 a0_0 a0_1 a0_2 a0_3 a0_4 a0_5 a0_6 a0_7 a0_8 a0_9 a0_10 a0_11 a0_12 a0_13 a0_14 a0_15) = some r := H
          have H' := Aside0.mk H
          clear H
          have hcz17_0 : wr.cell? ⟨gb101, 0, none⟩ = some (.int .u8 a0_0) := (blk_cell BK101.out 0).trans rfl
          have hcz17_1 : wr.cell? ⟨gb101, 1, none⟩ = some (.int .u8 a0_1) := (blk_cell BK101.out 1).trans rfl
          have hcz17_2 : wr.cell? ⟨gb101, 2, none⟩ = some (.int .u8 a0_2) := (blk_cell BK101.out 2).trans rfl
          have hcz17_3 : wr.cell? ⟨gb101, 3, none⟩ = some (.int .u8 a0_3) := (blk_cell BK101.out 3).trans rfl
          have hcz17_4 : wr.cell? ⟨gb101, 4, none⟩ = some (.int .u8 a0_4) := (blk_cell BK101.out 4).trans rfl
          have hcz17_5 : wr.cell? ⟨gb101, 5, none⟩ = some (.int .u8 a0_5) := (blk_cell BK101.out 5).trans rfl
          have hcz17_6 : wr.cell? ⟨gb101, 6, none⟩ = some (.int .u8 a0_6) := (blk_cell BK101.out 6).trans rfl
          have hcz17_7 : wr.cell? ⟨gb101, 7, none⟩ = some (.int .u8 a0_7) := (blk_cell BK101.out 7).trans rfl
          have hcz17_8 : wr.cell? ⟨gb101, 8, none⟩ = some (.int .u8 a0_8) := (blk_cell BK101.out 8).trans rfl
          have hcz17_9 : wr.cell? ⟨gb101, 9, none⟩ = some (.int .u8 a0_9) := (blk_cell BK101.out 9).trans rfl
          have hcz17_10 : wr.cell? ⟨gb101, 10, none⟩ = some (.int .u8 a0_10) := (blk_cell BK101.out 10).trans rfl
          have hcz17_11 : wr.cell? ⟨gb101, 11, none⟩ = some (.int .u8 a0_11) := (blk_cell BK101.out 11).trans rfl
          have hcz17_12 : wr.cell? ⟨gb101, 12, none⟩ = some (.int .u8 a0_12) := (blk_cell BK101.out 12).trans rfl
          have hcz17_13 : wr.cell? ⟨gb101, 13, none⟩ = some (.int .u8 a0_13) := (blk_cell BK101.out 13).trans rfl
          have hcz17_14 : wr.cell? ⟨gb101, 14, none⟩ = some (.int .u8 a0_14) := (blk_cell BK101.out 14).trans rfl
          have hcz17_15 : wr.cell? ⟨gb101, 15, none⟩ = some (.int .u8 a0_15) := (blk_cell BK101.out 15).trans rfl
          have hfz17_0 := blk_frozen BK101.out 0
          have hfz17_1 := blk_frozen BK101.out 1
          have hfz17_2 := blk_frozen BK101.out 2
          have hfz17_3 := blk_frozen BK101.out 3
          have hfz17_4 := blk_frozen BK101.out 4
          have hfz17_5 := blk_frozen BK101.out 5
          have hfz17_6 := blk_frozen BK101.out 6
          have hfz17_7 := blk_frozen BK101.out 7
          have hfz17_8 := blk_frozen BK101.out 8
          have hfz17_9 := blk_frozen BK101.out 9
          have hfz17_10 := blk_frozen BK101.out 10
          have hfz17_11 := blk_frozen BK101.out 11
          have hfz17_12 := blk_frozen BK101.out 12
          have hfz17_13 := blk_frozen BK101.out 13
          have hfz17_14 := blk_frozen BK101.out 14
          have hfz17_15 := blk_frozen BK101.out 15
          go_wp2
          go_roundg k1
          case measure => have := HK1.out; omega
          case rel => exact ⟨(wrap64 (x3_1 + (wrap64 (7 * (wrap64 (a0_6)))))), (7), (by first | rfl | (simp; done) | (simp [*]; done)), (by first | rfl | (simp; done) | (simp [*]; done)), H', ⟨by have := HK1.out; omega⟩, ⟨by (with_reducible repeat (first | refine blk_drewN ?_ _ | refine blk_drew ?_ | refine blk_alloc ?_ _)); exact BK101.out⟩, ⟨by repeat (first | (with_reducible first | exact HB.out | apply below_alloc | apply pw_below_drewN | apply below_drew1 | refine below_set ?_ GE101.out) | exact HB.out)⟩⟩
        rw [if_neg c16] at H
        by_cases c18 : x4_1 = 7
        · rw [if_pos c18] at H
          subst c18
          replace H : (spec_CellSum.l0 k1 (wrap64 (x3_1 + (wrap64 (8 * (wrap64 (a0_7)))))) 8 a0_0 a0_1 a0_2 a0_3 a0_4 a0_5 a0_6 a0_7 a0_8 a0_9 a0_10 a0_11 a0_12 a0_13 a0_14 a0_15) = some r := H
          have H' := Aside0.mk H
          clear H
          have hcz19_0 : wr.cell? ⟨gb101, 0, none⟩ = some (.int .u8 a0_0) := (blk_cell BK101.out 0).trans rfl
          have hcz19_1 : wr.cell? ⟨gb101, 1, none⟩ = some (.int .u8 a0_1) := (blk_cell BK101.out 1).trans rfl
          have hcz19_2 : wr.cell? ⟨gb101, 2, none⟩ = some (.int .u8 a0_2) := (blk_cell BK101.out 2).trans rfl
          have hcz19_3 : wr.cell? ⟨gb101, 3, none⟩ = some (.int .u8 a0_3) := (blk_cell BK101.out 3).trans rfl
          have hcz19_4 : wr.cell? ⟨gb101, 4, none⟩ = some (.int .u8 a0_4) := (blk_cell BK101.out 4).trans rfl
          have hcz19_5 : wr.cell? ⟨gb101, 5, none⟩ = some (.int .u8 a0_5) := (blk_cell BK101.out 5).trans rfl
          have hcz19_6 : wr.cell? ⟨gb101, 6, none⟩ = some (.int .u8 a0_6) := (blk_cell BK101.out 6).trans rfl
          have hcz19_7 : wr.cell? ⟨gb101, 7, none⟩ = some (.int .u8 a0_7) := (blk_cell BK101.out 7).trans rfl
          have hcz19_8 : wr.cell? ⟨gb101, 8, none⟩ = some (.int .u8 a0_8) := (blk_cell BK101.out 8).trans rfl
          have hcz19_9 : wr.cell? ⟨gb101, 9, none⟩ = some (.int .u8 a0_9) := (blk_cell BK101.out 9).trans rfl
          have hcz19_10 : wr.cell? ⟨gb101, 10, none⟩ = some (.int .u8 a0_10) := (blk_cell BK101.out 10).trans rfl
          have hcz19_11 : wr.cell? ⟨gb101, 11, none⟩ = some (.int .u8 a0_11) := (blk_cell BK101.out 11).trans rfl
          have hcz19_12 : wr.cell? ⟨gb101, 12, none⟩ = some (.int .u8 a0_12) := (blk_cell BK101.out 12).trans rfl
          have hcz19_13 : wr.cell? ⟨gb101, 13, none⟩ = some (.int .u8 a0_13) := (blk_cell BK101.out 13).trans rfl
          have hcz19_14 : wr.cell? ⟨gb101, 14, none⟩ = some (.int .u8 a0_14) := (blk_cell BK101.out 14).trans rfl
          have hcz19_15 : wr.cell? ⟨gb101, 15, none⟩ = some (.int .u8 a0_15) := (blk_cell BK101.out 15).trans rfl
          have hfz19_0 := blk_frozen BK101.out 0
          have hfz19_1 := blk_frozen BK101.out 1
          have hfz19_2 := blk_frozen BK101.out 2
          have hfz19_3 := blk_frozen BK101.out 3
          have hfz19_4 := blk_frozen BK101.out 4
          have hfz19_5 := blk_frozen BK101.out 5
          have hfz19_6 := blk_frozen BK101.out 6
          have hfz19_7 := blk_frozen BK101.out 7
          have hfz19_8 := blk_frozen BK101.out 8
          have hfz19_9 := blk_frozen BK101.out 9
          have hfz19_10 := blk_frozen BK101.out 10
          have hfz19_11 := blk_frozen BK101.out 11
          have hfz19_12 := blk_frozen BK101.out 12
          have hfz19_13 := blk_frozen BK101.out 13
          have hfz19_14 := blk_frozen BK101.out 14
          have hfz19_15 := blk_frozen BK101.out 15
          go_wp2
          go_roundg k1
          case measure => have := HK1.out; omega
          case rel => exact ⟨(wrap64 (x3_1 + (wrap64 (8 * (wrap64 (a0_7)))))), (8), (by first | rfl | (simp; done) | (simp [*]; done)), (by first | rfl | (simp; done) | (simp [*]; done)), H', ⟨by have := HK1.out; omega⟩, ⟨by (with_reducible repeat (first | refine blk_drewN ?_ _ | refine blk_drew ?_ | refine blk_alloc ?_ _)); exact BK101.out⟩, ⟨by repeat (first | (with_reducible first | exact HB.out | apply below_alloc | apply pw_below_drewN | apply below_drew1 | refine below_set ?_ GE101.out) | exact HB.out)⟩⟩
        rw [if_neg c18] at H
        by_cases c20 : x4_1 = 8
        · rw [if_pos c20] at H
          subst c20
          replace H : (spec_CellSum.l0 k1 (wrap64 (x3_1 + (wrap64 (9 * (wrap64 (a0_8)))))) 9 a0_0 a0_1 a0_2 a0_3 a0_4 a0_5 a0_6 a0_7 a0_8 a0_9 a0_10 a0_11 a0_12 a0_13 a0_14 a0_15) = some r := H
          have H' := Aside0.mk H
          clear H
          have hcz21_0 : wr.cell? ⟨gb101, 0, none⟩ = some (.int .u8 a0_0) := (blk_cell BK101.out 0).trans rfl
          have hcz21_1 : wr.cell? ⟨gb101, 1, none⟩ = some (.int .u8 a0_1) := (blk_cell BK101.out 1).trans rfl
          have hcz21_2 : wr.cell? ⟨gb101, 2, none⟩ = some (.int .u8 a0_2) := (blk_cell BK101.out 2).trans rfl
          have hcz21_3 : wr.cell? ⟨gb101, 3, none⟩ = some (.int .u8 a0_3) := (blk_cell BK101.out 3).trans rfl
          have hcz21_4 : wr.cell? ⟨gb101, 4, none⟩ = some (.int .u8 a0_4) := (blk_cell BK101.out 4).trans rfl
          have hcz21_5 : wr.cell? ⟨gb101, 5, none⟩ = some (.int .u8 a0_5) := (blk_cell BK101.out 5).trans rfl
          have hcz21_6 : wr.cell? ⟨gb101, 6, none⟩ = some (.int .u8 a0_6) := (blk_cell BK101.out 6).trans rfl
          have hcz21_7 : wr.cell? ⟨gb101, 7, none⟩ = some (.int .u8 a0_7) := (blk_cell BK101.out 7).trans rfl
          have hcz21_8 : wr.cell? ⟨gb101, 8, none⟩ = some (.int .u8 a0_8) := (blk_cell BK101.out 8).trans rfl
          have hcz21_9 : wr.cell? ⟨gb101, 9, none⟩ = some (.int .u8 a0_9) := (blk_cell BK101.out 9).trans rfl
          have hcz21_10 : wr.cell? ⟨gb101, 10, none⟩ = some (.int .u8 a0_10) := (blk_cell BK101.out 10).trans rfl
          have hcz21_11 : wr.cell? ⟨gb101, 11, none⟩ = some (.int .u8 a0_11) := (blk_cell BK101.out 11).trans rfl
          have hcz21_12 : wr.cell? ⟨gb101, 12, none⟩ = some (.int .u8 a0_12) := (blk_cell BK101.out 12).trans rfl
          have hcz21_13 : wr.cell? ⟨gb101, 13, none⟩ = some (.int .u8 a0_13) := (blk_cell BK101.out 13).trans rfl
          have hcz21_14 : wr.cell? ⟨gb101, 14, none⟩ = some (.int .u8 a0_14) := (blk_cell BK101.out 14).trans rfl
          have hcz21_15 : wr.cell? ⟨gb101, 15, none⟩ = some (.int .u8 a0_15) := (blk_cell BK101.out 15).trans rfl
          have hfz21_0 := blk_frozen BK101.out 0
          have hfz21_1 := blk_frozen BK101.out 1
          have hfz21_2 := blk_frozen BK101.out 2
          have hfz21_3 := blk_frozen BK101.out 3
          have hfz21_4 := blk_frozen BK101.out 4
          have hfz21_5 := blk_frozen BK101.out 5
          have hfz21_6 := blk_frozen BK101.out 6
          have hfz21_7 := blk_frozen BK101.out 7
          have hfz21_8 := blk_frozen BK101.out 8
          have hfz21_9 := blk_frozen BK101.out 9
          have hfz21_10 := blk_frozen BK101.out 10
          have hfz21_11 := blk_frozen BK101.out 11
          have hfz21_12 := blk_frozen BK101.out 12
          have hfz21_13 := blk_frozen BK101.out 13
          have hfz21_14 := blk_frozen BK101.out 14
          have hfz21_15 := blk_frozen BK101.out 15
          go_wp2
          go_roundg k1
          case measure => have := HK1.out; omega
          case rel => exact ⟨(wrap64 (x3_1 + (wrap64 (9 * (wrap64 (a0_8)))))), (9), (by first | rfl | (simp; done) | (simp [*]; done)), (by first | rfl | (simp; done) | (simp [*]; done)), H', ⟨by have := HK1.out; omega⟩, ⟨by (with_reducible repeat (first | refine blk_drewN ?_ _ | refine blk_drew ?_ | refine blk_alloc ?_ _)); exact BK101.out⟩, ⟨by repeat (first | (with_reducible first | exact HB.out | apply below_alloc | apply pw_below_drewN | apply below_drew1 | refine below_set ?_ GE101.out) | exact HB.out)⟩⟩
        rw [if_neg c20] at H
        by_cases c22 : x4_1 = 9
        · rw [if_pos c22] at H
          subst c22
          replace H : (spec_CellSum.l0 k1 (wrap64 (x3_1 + (wrap64 (10 * (wrap64 (a0_9)))))) 10 a0_0 a0_1 a0_2 a0_3 a0_4 a0_5 a0_6 a0_7 a0_8 a0_9 a0_10 a0_11 a0_12 a0_13 a0_14 a0_15) = some r := H
          have H' := Aside0.mk H
          clear H
          have hcz23_0 : wr.cell? ⟨gb101, 0, none⟩ = some (.int .u8 a0_0) := (blk_cell BK101.out 0).trans rfl
          have hcz23_1 : wr.cell? ⟨gb101, 1, none⟩ = some (.int .u8 a0_1) := (blk_cell BK101.out 1).trans rfl
          have hcz23_2 : wr.cell? ⟨gb101, 2, none⟩ = some (.int .u8 a0_2) := (blk_cell BK101.out 2).trans rfl
          have hcz23_3 : wr.cell? ⟨gb101, 3, none⟩ = some (.int .u8 a0_3) := (blk_cell BK101.out 3).trans rfl
          have hcz23_4 : wr.cell? ⟨gb101, 4, none⟩ = some (.int .u8 a0_4) := (blk_cell BK101.out 4).trans rfl
          have hcz23_5 : wr.cell? ⟨gb101, 5, none⟩ = some (.int .u8 a0_5) := (blk_cell BK101.out 5).trans rfl
          have hcz23_6 : wr.cell? ⟨gb101, 6, none⟩ = some (.int .u8 a0_6) := (blk_cell BK101.out 6).trans rfl
          have hcz23_7 : wr.cell? ⟨gb101, 7, none⟩ = some (.int .u8 a0_7) := (blk_cell BK101.out 7).trans rfl
          have hcz23_8 : wr.cell? ⟨gb101, 8, none⟩ = some (.int .u8 a0_8) := (blk_cell BK101.out 8).trans rfl
          have hcz23_9 : wr.cell? ⟨gb101, 9, none⟩ = some (.int .u8 a0_9) := (blk_cell BK101.out 9).trans rfl
          have hcz23_10 : wr.cell? ⟨gb101, 10, none⟩ = some (.int .u8 a0_10) := (blk_cell BK101.out 10).trans rfl
          have hcz23_11 : wr.cell? ⟨gb101, 11, none⟩ = some (.int .u8 a0_11) := (blk_cell BK101.out 11).trans rfl
          have hcz23_12 : wr.cell? ⟨gb101, 12, none⟩ = some (.int .u8 a0_12) := (blk_cell BK101.out 12).trans rfl
          have hcz23_13 : wr.cell? ⟨gb101, 13, none⟩ = some (.int .u8 a0_13) := (blk_cell BK101.out 13).trans rfl
          have hcz23_14 : wr.cell? ⟨gb101, 14, none⟩ = some (.int .u8 a0_14) := (blk_cell BK101.out 14).trans rfl
          have hcz23_15 : wr.cell? ⟨gb101, 15, none⟩ = some (.int .u8 a0_15) := (blk_cell BK101.out 15).trans rfl
          have hfz23_0 := blk_frozen BK101.out 0
          have hfz23_1 := blk_frozen BK101.out 1
          have hfz23_2 := blk_frozen BK101.out 2
          have hfz23_3 := blk_frozen BK101.out 3
          have hfz23_4 := blk_frozen BK101.out 4
          have hfz23_5 := blk_frozen BK101.out 5
          have hfz23_6 := blk_frozen BK101.out 6
          have hfz23_7 := blk_frozen BK101.out 7
          have hfz23_8 := blk_frozen BK101.out 8
          have hfz23_9 := blk_frozen BK101.out 9
          have hfz23_10 := blk_frozen BK101.out 10
          have hfz23_11 := blk_frozen BK101.out 11
          have hfz23_12 := blk_frozen BK101.out 12
          have hfz23_13 := blk_frozen BK101.out 13
          have hfz23_14 := blk_frozen BK101.out 14
          have hfz23_15 := blk_frozen BK101.out 15
          go_wp2
          go_roundg k1
          case measure => have := HK1.out; omega
          case rel => exact ⟨(wrap64 (x3_1 + (wrap64 (10 * (wrap64 (a0_9)))))), (10), (by first | rfl | (simp; done) | (simp [*]; done)), (by first | rfl | (simp; done) | (simp [*]; done)), H', ⟨by have := HK1.out; omega⟩, ⟨by (with_reducible repeat (first | refine blk_drewN ?_ _ | refine blk_drew ?_ | refine blk_alloc ?_ _)); exact BK101.out⟩, ⟨by repeat (first | (with_reducible first | exact HB.out | apply below_alloc | apply pw_below_drewN | apply below_drew1 | refine below_set ?_ GE101.out) | exact HB.out)⟩⟩
        rw [if_neg c22] at H
        by_cases c24 : x4_1 = 10
        · rw [if_pos c24] at H
          subst c24
          replace H : (spec_CellSum.l0 k1 (wrap64 (x3_1 + (wrap64 (11 * (wrap64 (a0_10)))))) 11 a0_0 a0_1 a0_2 a0_3 a0_4 a0_5 a0_6 a0_7 a0_8 a0_9 a0_10 a0_11 a0_12 a0_13 a0_14 a0_15) = some r := H
          have H' := Aside0.mk H
          clear H
          have hcz25_0 : wr.cell? ⟨gb101, 0, none⟩ = some (.int .u8 a0_0) := (blk_cell BK101.out 0).trans rfl
          have hcz25_1 : wr.cell? ⟨gb101, 1, none⟩ = some (.int .u8 a0_1) := (blk_cell BK101.out 1).trans rfl
          have hcz25_2 : wr.cell? ⟨gb101, 2, none⟩ = some (.int .u8 a0_2) := (blk_cell BK101.out 2).trans rfl
          have hcz25_3 : wr.cell? ⟨gb101, 3, none⟩ = some (.int .u8 a0_3) := (blk_cell BK101.out 3).trans rfl
          have hcz25_4 : wr.cell? ⟨gb101, 4, none⟩ = some (.int .u8 a0_4) := (blk_cell BK101.out 4).trans rfl
          have hcz25_5 : wr.cell? ⟨gb101, 5, none⟩ = some (.int .u8 a0_5) := (blk_cell BK101.out 5).trans rfl
          have hcz25_6 : wr.cell? ⟨gb101, 6, none⟩ = some (.int .u8 a0_6) := (blk_cell BK101.out 6).trans rfl
          have hcz25_7 : wr.cell? ⟨gb101, 7, none⟩ = some (.int .u8 a0_7) := (blk_cell BK101.out 7).trans rfl
          have hcz25_8 : wr.cell? ⟨gb101, 8, none⟩ = some (.int .u8 a0_8) := (blk_cell BK101.out 8).trans rfl
          have hcz25_9 : wr.cell? ⟨gb101, 9, none⟩ = some (.int .u8 a0_9) := (blk_cell BK101.out 9).trans rfl
          have hcz25_10 : wr.cell? ⟨gb101, 10, none⟩ = some (.int .u8 a0_10) := (blk_cell BK101.out 10).trans rfl
          have hcz25_11 : wr.cell? ⟨gb101, 11, none⟩ = some (.int .u8 a0_11) := (blk_cell BK101.out 11).trans rfl
          have hcz25_12 : wr.cell? ⟨gb101, 12, none⟩ = some (.int .u8 a0_12) := (blk_cell BK101.out 12).trans rfl
          have hcz25_13 : wr.cell? ⟨gb101, 13, none⟩ = some (.int .u8 a0_13) := (blk_cell BK101.out 13).trans rfl
          have hcz25_14 : wr.cell? ⟨gb101, 14, none⟩ = some (.int .u8 a0_14) := (blk_cell BK101.out 14).trans rfl
          have hcz25_15 : wr.cell? ⟨gb101, 15, none⟩ = some (.int .u8 a0_15) := (blk_cell BK101.out 15).trans rfl
          have hfz25_0 := blk_frozen BK101.out 0
          have hfz25_1 := blk_frozen BK101.out 1
          have hfz25_2 := blk_frozen BK101.out 2
          have hfz25_3 := blk_frozen BK101.out 3
          have hfz25_4 := blk_frozen BK101.out 4
          have hfz25_5 := blk_frozen BK101.out 5
          have hfz25_6 := blk_frozen BK101.out 6
          have hfz25_7 := blk_frozen BK101.out 7
          have hfz25_8 := blk_frozen BK101.out 8
          have hfz25_9 := blk_frozen BK101.out 9
          have hfz25_10 := blk_frozen BK101.out 10
          have hfz25_11 := blk_frozen BK101.out 11
          have hfz25_12 := blk_frozen BK101.out 12
          have hfz25_13 := blk_frozen BK101.out 13
          have hfz25_14 := blk_frozen BK101.out 14
          have hfz25_15 := blk_frozen BK101.out 15
          go_wp2
          go_roundg k1
          case measure => have := HK1.out; omega
          case rel => exact ⟨(wrap64 (x3_1 + (wrap64 (11 * (wrap64 (a0_10)))))), (11), (by first | rfl | (simp; done) | (simp [*]; done)), (by first | rfl | (simp; done) | (simp [*]; done)), H', ⟨by have := HK1.out; omega⟩, ⟨by (with_reducible repeat (first | refine blk_drewN ?_ _ | refine blk_drew ?_ | refine blk_alloc ?_ _)); exact BK101.out⟩, ⟨by repeat (first | (with_reducible first | exact HB.out | apply below_alloc | apply pw_below_drewN | apply below_drew1 | refine below_set ?_ GE101.out) | exact HB.out)⟩⟩
        rw [if_neg c24] at H
        by_cases c26 : x4_1 = 11
        · rw [if_pos c26] at H
          subst c26
          replace H : (spec_CellSum.l0 k1 (wrap64 (x3_1 + (wrap64 (12 * (wrap64 (a0_11)))))) 12 a0_0 a0_1 a0_2 a0_3 a0_4 a0_5 a0_6 a0_7 a0_8 a0_9 a0_10 a0_11 a0_12 a0_13 a0_14 a0_15) = some r := H
          have H' := Aside0.mk H
          clear H
          have hcz27_0 : wr.cell? ⟨gb101, 0, none⟩ = some (.int .u8 a0_0) := (blk_cell BK101.out 0).trans rfl
          have hcz27_1 : wr.cell? ⟨gb101, 1, none⟩ = some (.int .u8 a0_1) := (blk_cell BK101.out 1).trans rfl
          have hcz27_2 : wr.cell? ⟨gb101, 2, none⟩ = some (.int .u8 a0_2) := (blk_cell BK101.out 2).trans rfl
          have hcz27_3 : wr.cell? ⟨gb101, 3, none⟩ = some (.int .u8 a0_3) := (blk_cell BK101.out 3).trans rfl
          have hcz27_4 : wr.cell? ⟨gb101, 4, none⟩ = some (.int .u8 a0_4) := (blk_cell BK101.out 4).trans rfl
          have hcz27_5 : wr.cell? ⟨gb101, 5, none⟩ = some (.int .u8 a0_5) := (blk_cell BK101.out 5).trans rfl
          have hcz27_6 : wr.cell? ⟨gb101, 6, none⟩ = some (.int .u8 a0_6) := (blk_cell BK101.out 6).trans rfl
          have hcz27_7 : wr.cell? ⟨gb101, 7, none⟩ = some (.int .u8 a0_7) := (blk_cell BK101.out 7).trans rfl
          have hcz27_8 : wr.cell? ⟨gb101, 8, none⟩ = some (.int .u8 a0_8) := (blk_cell BK101.out 8).trans rfl
          have hcz27_9 : wr.cell? ⟨gb101, 9, none⟩ = some (.int .u8 a0_9) := (blk_cell BK101.out 9).trans rfl
          have hcz27_10 : wr.cell? ⟨gb101, 10, none⟩ = some (.int .u8 a0_10) := (blk_cell BK101.out 10).trans rfl
          have hcz27_11 : wr.cell? ⟨gb101, 11, none⟩ = some (.int .u8 a0_11) := (blk_cell BK101.out 11).trans rfl
          have hcz27_12 : wr.cell? ⟨gb101, 12, none⟩ = some (.int .u8 a0_12) := (blk_cell BK101.out 12).trans rfl
          have hcz27_13 : wr.cell? ⟨gb101, 13, none⟩ = some (.int .u8 a0_13) := (blk_cell BK101.out 13).trans rfl
          have hcz27_14 : wr.cell? ⟨gb101, 14, none⟩ = some (.int .u8 a0_14) := (blk_cell BK101.out 14).trans rfl
          have hcz27_15 : wr.cell? ⟨gb101, 15, none⟩ = some (.int .u8 a0_15) := (blk_cell BK101.out 15).trans rfl
          have hfz27_0 := blk_frozen BK101.out 0
          have hfz27_1 := blk_frozen BK101.out 1
          have hfz27_2 := blk_frozen BK101.out 2
          have hfz27_3 := blk_frozen BK101.out 3
          have hfz27_4 := blk_frozen BK101.out 4
          have hfz27_5 := blk_frozen BK101.out 5
          have hfz27_6 := blk_frozen BK101.out 6
          have hfz27_7 := blk_frozen BK101.out 7
          have hfz27_8 := blk_frozen BK101.out 8
          have hfz27_9 := blk_frozen BK101.out 9
          have hfz27_10 := blk_frozen BK101.out 10
          have hfz27_11 := blk_frozen BK101.out 11
          have hfz27_12 := blk_frozen BK101.out 12
          have hfz27_13 := blk_frozen BK101.out 13
          have hfz27_14 := blk_frozen BK101.out 14
          have hfz27_15 := blk_frozen BK101.out 15
          go_wp2
          go_roundg k1
          case measure => have := HK1.out; omega
          case rel => exact ⟨(wrap64 (x3_1 + (wrap64 (12 * (wrap64 (a0_11)))))), (12), (by first | rfl | (simp; done) | (simp [*]; done)), (by first | rfl | (simp; done) | (simp [*]; done)), H', ⟨by have := HK1.out; omega⟩, ⟨by (with_reducible repeat (first | refine blk_drewN ?_ _ | refine blk_drew ?_ | refine blk_alloc ?_ _)); exact BK101.out⟩, ⟨by repeat (first | (with_reducible first | exact HB.out | apply below_alloc | apply pw_below_drewN | apply below_drew1 | refine below_set ?_ GE101.out) | exact HB.out)⟩⟩
        rw [if_neg c26] at H
        by_cases c28 : x4_1 = 12
        · rw [if_pos c28] at H
          subst c28
          replace H : (spec_CellSum.l0 k1 (wrap64 (x3_1 + (wrap64 (13 * (wrap64 (a0_12)))))) 13 a0_0 a0_1 a0_2 a0_3 a0_4 a0_5 a0_6 a0_7 a0_8 a0_9 a0_10 a0_11 a0_12 a0_13 a0_14 a0_15) = some r := H
          have H' := Aside0.mk H
          clear H
          have hcz29_0 : wr.cell? ⟨gb101, 0, none⟩ = some (.int .u8 a0_0) := (blk_cell BK101.out 0).trans rfl
          have hcz29_1 : wr.cell? ⟨gb101, 1, none⟩ = some (.int .u8 a0_1) := (blk_cell BK101.out 1).trans rfl
          have hcz29_2 : wr.cell? ⟨gb101, 2, none⟩ = some (.int .u8 a0_2) := (blk_cell BK101.out 2).trans rfl
          have hcz29_3 : wr.cell? ⟨gb101, 3, none⟩ = some (.int .u8 a0_3) := (blk_cell BK101.out 3).trans rfl
          have hcz29_4 : wr.cell? ⟨gb101, 4, none⟩ = some (.int .u8 a0_4) := (blk_cell BK101.out 4).trans rfl
          have hcz29_5 : wr.cell? ⟨gb101, 5, none⟩ = some (.int .u8 a0_5) := (blk_cell BK101.out 5).trans rfl
          have hcz29_6 : wr.cell? ⟨gb101, 6, none⟩ = some (.int .u8 a0_6) := (blk_cell BK101.out 6).trans rfl
          have hcz29_7 : wr.cell? ⟨gb101, 7, none⟩ = some (.int .u8 a0_7) := (blk_cell BK101.out 7).trans rfl
          have hcz29_8 : wr.cell? ⟨gb101, 8, none⟩ = some (.int .u8 a0_8) := (blk_cell BK101.out 8).trans rfl
          have hcz29_9 : wr.cell? ⟨gb101, 9, none⟩ = some (.int .u8 a0_9) := (blk_cell BK101.out 9).trans rfl
          have hcz29_10 : wr.cell? ⟨gb101, 10, none⟩ = some (.int .u8 a0_10) := (blk_cell BK101.out 10).trans rfl
          have hcz29_11 : wr.cell? ⟨gb101, 11, none⟩ = some (.int .u8 a0_11) := (blk_cell BK101.out 11).trans rfl
          have hcz29_12 : wr.cell? ⟨gb101, 12, none⟩ = some (.int .u8 a0_12) := (blk_cell BK101.out 12).trans rfl
          have hcz29_13 : wr.cell? ⟨gb101, 13, none⟩ = some (.int .u8 a0_13) := (blk_cell BK101.out 13).trans rfl
          have hcz29_14 : wr.cell? ⟨gb101, 14, none⟩ = some (.int .u8 a0_14) := (blk_cell BK101.out 14).trans rfl
          have hcz29_15 : wr.cell? ⟨gb101, 15, none⟩ = some (.int .u8 a0_15) := (blk_cell BK101.out 15).trans rfl
          have hfz29_0 := blk_frozen BK101.out 0
          have hfz29_1 := blk_frozen BK101.out 1
          have hfz29_2 := blk_frozen BK101.out 2
          have hfz29_3 := blk_frozen BK101.out 3
          have hfz29_4 := blk_frozen BK101.out 4
          have hfz29_5 := blk_frozen BK101.out 5
          have hfz29_6 := blk_frozen BK101.out 6
          have hfz29_7 := blk_frozen BK101.out 7
          have hfz29_8 := blk_frozen BK101.out 8
          have hfz29_9 := blk_frozen BK101.out 9
          have hfz29_10 := blk_frozen BK101.out 10
          have hfz29_11 := blk_frozen BK101.out 11
          have hfz29_12 := blk_frozen BK101.out 12
          have hfz29_13 := blk_frozen BK101.out 13
          have hfz29_14 := blk_frozen BK101.out 14
          have hfz29_15 := blk_frozen BK101.out 15
          go_wp2
          go_roundg k1
          case measure => have := HK1.out; omega
          case rel => exact ⟨(wrap64 (x3_1 + (wrap64 (13 * (wrap64 (a0_12)))))), (13), (by first | rfl | (simp; done) | (simp [*]; done)), (by first | rfl | (simp; done) | (simp [*]; done)), H', ⟨by have := HK1.out; omega⟩, ⟨by (with_reducible repeat (first | refine blk_drewN ?_ _ | refine blk_drew ?_ | refine blk_alloc ?_ _)); exact BK101.out⟩, ⟨by repeat (first | (with_reducible first | exact HB.out | apply below_alloc | apply pw_below_drewN | apply below_drew1 | refine below_set ?_ GE101.out) | exact HB.out)⟩⟩
        rw [if_neg c28] at H
        by_cases c30 : x4_1 = 13
        · rw [if_pos c30] at H
          subst c30
          replace H : (spec_CellSum.l0 k1 (wrap64 (x3_1 + (wrap64 (14 * (wrap64 (a0_13)))))) 14 a0_0 a0_1 a0_2 a0_3 a0_4 a0_5 a0_6 a0_7 a0_8 a0_9 a0_10 a0_11 a0_12 a0_13 a0_14 a0_15) = some r := H
          have H' := Aside0.mk H
          clear H
          have hcz31_0 : wr.cell? ⟨gb101, 0, none⟩ = some (.int .u8 a0_0) := (blk_cell BK101.out 0).trans rfl
          have hcz31_1 : wr.cell? ⟨gb101, 1, none⟩ = some (.int .u8 a0_1) := (blk_cell BK101.out 1).trans rfl
          have hcz31_2 : wr.cell? ⟨gb101, 2, none⟩ = some (.int .u8 a0_2) := (blk_cell BK101.out 2).trans rfl
          have hcz31_3 : wr.cell? ⟨gb101, 3, none⟩ = some (.int .u8 a0_3) := (blk_cell BK101.out 3).trans rfl
          have hcz31_4 : wr.cell? ⟨gb101, 4, none⟩ = some (.int .u8 a0_4) := (blk_cell BK101.out 4).trans rfl
          have hcz31_5 : wr.cell? ⟨gb101, 5, none⟩ = some (.int .u8 a0_5) := (blk_cell BK101.out 5).trans rfl
          have hcz31_6 : wr.cell? ⟨gb101, 6, none⟩ = some (.int .u8 a0_6) := (blk_cell BK101.out 6).trans rfl
          have hcz31_7 : wr.cell? ⟨gb101, 7, none⟩ = some (.int .u8 a0_7) := (blk_cell BK101.out 7).trans rfl
          have hcz31_8 : wr.cell? ⟨gb101, 8, none⟩ = some (.int .u8 a0_8) := (blk_cell BK101.out 8).trans rfl
          have hcz31_9 : wr.cell? ⟨gb101, 9, none⟩ = some (.int .u8 a0_9) := (blk_cell BK101.out 9).trans rfl
          have hcz31_10 : wr.cell? ⟨gb101, 10, none⟩ = some (.int .u8 a0_10) := (blk_cell BK101.out 10).trans rfl
          have hcz31_11 : wr.cell? ⟨gb101, 11, none⟩ = some (.int .u8 a0_11) := (blk_cell BK101.out 11).trans rfl
          have hcz31_12 : wr.cell? ⟨gb101, 12, none⟩ = some (.int .u8 a0_12) := (blk_cell BK101.out 12).trans rfl
          have hcz31_13 : wr.cell? ⟨gb101, 13, none⟩ = some (.int .u8 a0_13) := (blk_cell BK101.out 13).trans rfl
          have hcz31_14 : wr.cell? ⟨gb101, 14, none⟩ = some (.int .u8 a0_14) := (blk_cell BK101.out 14).trans rfl
          have hcz31_15 : wr.cell? ⟨gb101, 15, none⟩ = some (.int .u8 a0_15) := (blk_cell BK101.out 15).trans rfl
          have hfz31_0 := blk_frozen BK101.out 0
          have hfz31_1 := blk_frozen BK101.out 1
          have hfz31_2 := blk_frozen BK101.out 2
          have hfz31_3 := blk_frozen BK101.out 3
          have hfz31_4 := blk_frozen BK101.out 4
          have hfz31_5 := blk_frozen BK101.out 5
          have hfz31_6 := blk_frozen BK101.out 6
          have hfz31_7 := blk_frozen BK101.out 7
          have hfz31_8 := blk_frozen BK101.out 8
          have hfz31_9 := blk_frozen BK101.out 9
          have hfz31_10 := blk_frozen BK101.out 10
          have hfz31_11 := blk_frozen BK101.out 11
          have hfz31_12 := blk_frozen BK101.out 12
          have hfz31_13 := blk_frozen BK101.out 13
          have hfz31_14 := blk_frozen BK101.out 14
          have hfz31_15 := blk_frozen BK101.out 15
          go_wp2
          go_roundg k1
          case measure => have := HK1.out; omega
          case rel => exact ⟨(wrap64 (x3_1 + (wrap64 (14 * (wrap64 (a0_13)))))), (14), (by first | rfl | (simp; done) | (simp [*]; done)), (by first | rfl | (simp; done) | (simp [*]; done)), H', ⟨by have := HK1.out; omega⟩, ⟨by (with_reducible repeat (first | refine blk_drewN ?_ _ | refine blk_drew ?_ | refine blk_alloc ?_ _)); exact BK101.out⟩, ⟨by repeat (first | (with_reducible first | exact HB.out | apply below_alloc | apply pw_below_drewN | apply below_drew1 | refine below_set ?_ GE101.out) | exact HB.out)⟩⟩
        rw [if_neg c30] at H
        by_cases c32 : x4_1 = 14
        · rw [if_pos c32] at H
          subst c32
          replace H : (spec_CellSum.l0 k1 (wrap64 (x3_1 + (wrap64 (15 * (wrap64 (a0_14)))))) 15 a0_0 a0_1 a0_2 a0_3 a0_4 a0_5 a0_6 a0_7 a0_8 a0_9 a0_10 a0_11 a0_12 a0_13 a0_14 a0_15) = some r := H
          have H' := Aside0.mk H
          clear H
          have hcz33_0 : wr.cell? ⟨gb101, 0, none⟩ = some (.int .u8 a0_0) := (blk_cell BK101.out 0).trans rfl
          have hcz33_1 : wr.cell? ⟨gb101, 1, none⟩ = some (.int .u8 a0_1) := (blk_cell BK101.out 1).trans rfl
          have hcz33_2 : wr.cell? ⟨gb101, 2, none⟩ = some (.int .u8 a0_2) := (blk_cell BK101.out 2).trans rfl
          have hcz33_3 : wr.cell? ⟨gb101, 3, none⟩ = some (.int .u8 a0_3) := (blk_cell BK101.out 3).trans rfl
          have hcz33_4 : wr.cell? ⟨gb101, 4, none⟩ = some (.int .u8 a0_4) := (blk_cell BK101.out 4).trans rfl
          have hcz33_5 : wr.cell? ⟨gb101, 5, none⟩ = some (.int .u8 a0_5) := (blk_cell BK101.out 5).trans rfl
          have hcz33_6 : wr.cell? ⟨gb101, 6, none⟩ = some (.int .u8 a0_6) := (blk_cell BK101.out 6).trans rfl
          have hcz33_7 : wr.cell? ⟨gb101, 7, none⟩ = some (.int .u8 a0_7) := (blk_cell BK101.out 7).trans rfl
          have hcz33_8 : wr.cell? ⟨gb101, 8, none⟩ = some (.int .u8 a0_8) := (blk_cell BK101.out 8).trans rfl
          have hcz33_9 : wr.cell? ⟨gb101, 9, none⟩ = some (.int .u8 a0_9) := (blk_cell BK101.out 9).trans rfl
          have hcz33_10 : wr.cell? ⟨gb101, 10, none⟩ = some (.int .u8 a0_10) := (blk_cell BK101.out 10).trans rfl
          have hcz33_11 : wr.cell? ⟨gb101, 11, none⟩ = some (.int .u8 a0_11) := (blk_cell BK101.out 11).trans rfl
          have hcz33_12 : wr.cell? ⟨gb101, 12, none⟩ = some (.int .u8 a0_12) := (blk_cell BK101.out 12).trans rfl
          have hcz33_13 : wr.cell? ⟨gb101, 13, none⟩ = some (.int .u8 a0_13) := (blk_cell BK101.out 13).trans rfl
          have hcz33_14 : wr.cell? ⟨gb101, 14, none⟩ = some (.int .u8 a0_14) := (blk_cell BK101.out 14).trans rfl
          have hcz33_15 : wr.cell? ⟨gb101, 15, none⟩ = some (.int .u8 a0_15) := (blk_cell BK101.out 15).trans rfl
          have hfz33_0 := blk_frozen BK101.out 0
          have hfz33_1 := blk_frozen BK101.out 1
          have hfz33_2 := blk_frozen BK101.out 2
          have hfz33_3 := blk_frozen BK101.out 3
          have hfz33_4 := blk_frozen BK101.out 4
          have hfz33_5 := blk_frozen BK101.out 5
          have hfz33_6 := blk_frozen BK101.out 6
          have hfz33_7 := blk_frozen BK101.out 7
          have hfz33_8 := blk_frozen BK101.out 8
          have hfz33_9 := blk_frozen BK101.out 9
          have hfz33_10 := blk_frozen BK101.out 10
          have hfz33_11 := blk_frozen BK101.out 11
          have hfz33_12 := blk_frozen BK101.out 12
          have hfz33_13 := blk_frozen BK101.out 13
          have hfz33_14 := blk_frozen BK101.out 14
          have hfz33_15 := blk_frozen BK101.out 15
          go_wp2
          go_roundg k1
          case measure => have := HK1.out; omega
          case rel => exact ⟨(wrap64 (x3_1 + (wrap64 (15 * (wrap64 (a0_14)))))), (15), (by first | rfl | (simp; done) | (simp [*]; done)), (by first | rfl | (simp; done) | (simp [*]; done)), H', ⟨by have := HK1.out; omega⟩, ⟨by (with_reducible repeat (first | refine blk_drewN ?_ _ | refine blk_drew ?_ | refine blk_alloc ?_ _)); exact BK101.out⟩, ⟨by repeat (first | (with_reducible first | exact HB.out | apply below_alloc | apply pw_below_drewN | apply below_drew1 | refine below_set ?_ GE101.out) | exact HB.out)⟩⟩
        rw [if_neg c32] at H
        by_cases c34 : x4_1 = 15
        · rw [if_pos c34] at H
          subst c34
          replace H : (spec_CellSum.l0 k1 (wrap64 (x3_1 + (wrap64 (16 * (wrap64 (a0_15)))))) 16 a0_0 a0_1 a0_2 a0_3 a0_4 a0_5 a0_6 a0_7 a0_8 a0_9 a0_10 a0_11 a0_12 a0_13 a0_14 a0_15) = some r := H
          have H' := Aside0.mk H
          clear H
          have hcz35_0 : wr.cell? ⟨gb101, 0, none⟩ = some (.int .u8 a0_0) := (blk_cell BK101.out 0).trans rfl
          have hcz35_1 : wr.cell? ⟨gb101, 1, none⟩ = some (.int .u8 a0_1) := (blk_cell BK101.out 1).trans rfl
          have hcz35_2 : wr.cell? ⟨gb101, 2, none⟩ = some (.int .u8 a0_2) := (blk_cell BK101.out 2).trans rfl
          have hcz35_3 : wr.cell? ⟨gb101, 3, none⟩ = some (.int .u8 a0_3) := (blk_cell BK101.out 3).trans rfl
          have hcz35_4 : wr.cell? ⟨gb101, 4, none⟩ = some (.int .u8 a0_4) := (blk_cell BK101.out 4).trans rfl
          have hcz35_5 : wr.cell? ⟨gb101, 5, none⟩ = some (.int .u8 a0_5) := (blk_cell BK101.out 5).trans rfl
          have hcz35_6 : wr.cell? ⟨gb101, 6, none⟩ = some (.int .u8 a0_6) := (blk_cell BK101.out 6).trans rfl
          have hcz35_7 : wr.cell? ⟨gb101, 7, none⟩ = some (.int .u8 a0_7) := (blk_cell BK101.out 7).trans rfl
          have hcz35_8 : wr.cell? ⟨gb101, 8, none⟩ = some (.int .u8 a0_8) := (blk_cell BK101.out 8).trans rfl
          have hcz35_9 : wr.cell? ⟨gb101, 9, none⟩ = some (.int .u8 a0_9) := (blk_cell BK101.out 9).trans rfl
          have hcz35_10 : wr.cell? ⟨gb101, 10, none⟩ = some (.int .u8 a0_10) := (blk_cell BK101.out 10).trans rfl
          have hcz35_11 : wr.cell? ⟨gb101, 11, none⟩ = some (.int .u8 a0_11) := (blk_cell BK101.out 11).trans rfl
          have hcz35_12 : wr.cell? ⟨gb101, 12, none⟩ = some (.int .u8 a0_12) := (blk_cell BK101.out 12).trans rfl
          have hcz35_13 : wr.cell? ⟨gb101, 13, none⟩ = some (.int .u8 a0_13) := (blk_cell BK101.out 13).trans rfl
          have hcz35_14 : wr.cell? ⟨gb101, 14, none⟩ = some (.int .u8 a0_14) := (blk_cell BK101.out 14).trans rfl
          have hcz35_15 : wr.cell? ⟨gb101, 15, none⟩ = some (.int .u8 a0_15) := (blk_cell BK101.out 15).trans rfl
          have hfz35_0 := blk_frozen BK101.out 0
          have hfz35_1 := blk_frozen BK101.out 1
          have hfz35_2 := blk_frozen BK101.out 2
          have hfz35_3 := blk_frozen BK101.out 3
          have hfz35_4 := blk_frozen BK101.out 4
          have hfz35_5 := blk_frozen BK101.out 5
          have hfz35_6 := blk_frozen BK101.out 6
          have hfz35_7 := blk_frozen BK101.out 7
          have hfz35_8 := blk_frozen BK101.out 8
          have hfz35_9 := blk_frozen BK101.out 9
          have hfz35_10 := blk_frozen BK101.out 10
          have hfz35_11 := blk_frozen BK101.out 11
          have hfz35_12 := blk_frozen BK101.out 12
          have hfz35_13 := blk_frozen BK101.out 13
          have hfz35_14 := blk_frozen BK101.out 14
          have hfz35_15 := blk_frozen BK101.out 15
          go_wp2
          go_roundg k1
          case measure => have := HK1.out; omega
          case rel => exact ⟨(wrap64 (x3_1 + (wrap64 (16 * (wrap64 (a0_15)))))), (16), (by first | rfl | (simp; done) | (simp [*]; done)), (by first | rfl | (simp; done) | (simp [*]; done)), H', ⟨by have := HK1.out; omega⟩, ⟨by (with_reducible repeat (first | refine blk_drewN ?_ _ | refine blk_drew ?_ | refine blk_alloc ?_ _)); exact BK101.out⟩, ⟨by repeat (first | (with_reducible first | exact HB.out | apply below_alloc | apply pw_below_drewN | apply below_drew1 | refine below_set ?_ GE101.out) | exact HB.out)⟩⟩
        rw [if_neg c34] at H
        exact absurd H (by simp)
      · rw [if_neg c3] at H
        have c3b0 : decide (x4_1 < 16) = false := decide_eq_false c3
        clear c3
        obtain rfl := Option.some.inj H
        go_wp2
        go_ret
        exact ⟨by first | rfl | (simp [errW_none, errW_some] <;> rfl) | (simp [*, errW_none, errW_some] <;> rfl), by repeat (first | (with_reducible first | exact HB.out | apply below_alloc | apply pw_below_drewN | apply below_drew1 | refine below_set ?_ GE101.out) | exact HB.out)⟩

end Go.Proofs.Ytkmncnkohkfkoaa.Pb
