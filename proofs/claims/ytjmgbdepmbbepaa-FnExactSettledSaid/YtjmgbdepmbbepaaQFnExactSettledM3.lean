/- A part of a proof that laws of the given program hold for every input: no condition. -/
import Derived.Test.YtjmgbdepmbbepaaQFnExactSettledM2
namespace Go.Proofs.Ytjmgbdepmbbepaa.Pa
open Go.RowKit Go.Proofs.YtjmgbdepmbbepaaW.PrintWords Go.Proofs.YtjmgbdepmbbepaaW.PrintLast Go.Proofs.YtjmgbdepmbbepaaW.PrintMore
attribute [local go_sem] max2_int min2_int max_two min_two max_three min_three max_four min_four
set_option linter.unusedVariables false
set_option linter.unusedSimpArgs false

mutual
def spec_Settled.j0 : Nat → Bool → List Int → List Int → Int → Int → List (S61) → List (S61) → Option (Bool)
 | 0, _, _, _, _, _, _, _ => none
 | k + 1, x20, x550000, x550001, x550002, x550003, x550004, x550005 => if x20 = true then (some false) else (spec_Settled.l0 k 0 x550000 x550001 x550002 x550003 x550004 x550005)
def spec_Settled.l0 : Nat → Int → List Int → List Int → Int → Int → List (S61) → List (S61) → Option (Bool)
 | 0, _, _, _, _, _, _, _ => none
 | k + 1, x3, x550000, x550001, x550002, x550003, x550004, x550005 => if x3 < (x550000.length : Int) then (if 0 ≤ x3 then (if x3 < (x550001.length : Int) then (if (rd x550000 x3) = 0 then (if (rd x550001 x3) = 0 then (spec_Settled.l0 k (wrap64 (x3 + 1)) x550000 x550001 x550002 x550003 x550004 x550005) else (if (rd x550000 x3) = 2 then (if (rd x550001 x3) = 3 then (spec_Settled.l0 k (wrap64 (x3 + 1)) x550000 x550001 x550002 x550003 x550004 x550005) else (if (rd x550000 x3) = 3 then (if ((rd x550001 x3) = 2) then (spec_Settled.l0 k (wrap64 (x3 + 1)) x550000 x550001 x550002 x550003 x550004 x550005) else (some false)) else (some false))) else (if (rd x550000 x3) = 3 then (if ((rd x550001 x3) = 2) then (spec_Settled.l0 k (wrap64 (x3 + 1)) x550000 x550001 x550002 x550003 x550004 x550005) else (some false)) else (some false)))) else (if (rd x550000 x3) = 2 then (if (rd x550001 x3) = 3 then (spec_Settled.l0 k (wrap64 (x3 + 1)) x550000 x550001 x550002 x550003 x550004 x550005) else (if (rd x550000 x3) = 3 then (if ((rd x550001 x3) = 2) then (spec_Settled.l0 k (wrap64 (x3 + 1)) x550000 x550001 x550002 x550003 x550004 x550005) else (some false)) else (some false))) else (if (rd x550000 x3) = 3 then (if ((rd x550001 x3) = 2) then (spec_Settled.l0 k (wrap64 (x3 + 1)) x550000 x550001 x550002 x550003 x550004 x550005) else (some false)) else (some false)))) else (none)) else (none)) else (some true)
end
def spec_Settled.f (k : Nat) (l0_0 : List Int) (l0_1 : List Int) (a0_2 : Int) (a0_3 : Int) (l0_4 : List (S61)) (l0_5 : List (S61)) : Option (Bool) := (spec_TrunkOk.f k l0_0 l0_1 a0_2 a0_3 l0_4 l0_5).bind fun t550 => (if t550 = true then (spec_Settled.j0 k (decide ((wrap64 ((l0_4.length : Int) + (l0_5.length : Int))) > 0)) l0_0 l0_1 a0_2 a0_3 l0_4 l0_5) else (spec_Settled.j0 k true l0_0 l0_1 a0_2 a0_3 l0_4 l0_5))
theorem spec_Settled.mono_l : ∀ k, (∀ y0 y1 y2 y3 y4 y5 y6, LeO (spec_Settled.j0 k y0 y1 y2 y3 y4 y5 y6) (spec_Settled.j0 (k + 1) y0 y1 y2 y3 y4 y5 y6)) ∧ (∀ y0 y1 y2 y3 y4 y5 y6, LeO (spec_Settled.l0 k y0 y1 y2 y3 y4 y5 y6) (spec_Settled.l0 (k + 1) y0 y1 y2 y3 y4 y5 y6))
 | 0 => ⟨fun _ _ _ _ _ _ _ r h => by simp [spec_Settled.j0] at h, fun _ _ _ _ _ _ _ r h => by simp [spec_Settled.l0] at h⟩
 | k + 1 => by
  obtain ⟨ih0, ih1⟩ := spec_Settled.mono_l k
  refine ⟨?_, ?_⟩
  ·intro y0 y1 y2 y3 y4 y5 y6
   unfold spec_Settled.j0
   repeat' first
   | (with_reducible exact ih0 _ _ _ _ _ _ _)
   | (with_reducible exact ih1 _ _ _ _ _ _ _)
   | (with_reducible exact spec_TrunkOk.mono _ _ _ _ _ _ _)
   | (with_reducible exact LeO.refl _)
   | (with_reducible exact LeO.none _)
   | (with_reducible refine LeO.ite ?_ ?_)
   | (with_reducible refine LeO.bind ?_ (fun _ => ?_))
   | exact ih0 _ _ _ _ _ _ _
   | exact ih1 _ _ _ _ _ _ _
   | exact spec_TrunkOk.mono _ _ _ _ _ _ _
   | exact LeO.none _
   | refine LeO.ite ?_ ?_
   | refine LeO.bind ?_ (fun _ => ?_)
  ·intro y0 y1 y2 y3 y4 y5 y6
   unfold spec_Settled.l0
   repeat' first
   | (with_reducible exact ih0 _ _ _ _ _ _ _)
   | (with_reducible exact ih1 _ _ _ _ _ _ _)
   | (with_reducible exact spec_TrunkOk.mono _ _ _ _ _ _ _)
   | (with_reducible exact LeO.refl _)
   | (with_reducible exact LeO.none _)
   | (with_reducible refine LeO.ite ?_ ?_)
   | (with_reducible refine LeO.bind ?_ (fun _ => ?_))
   | exact ih0 _ _ _ _ _ _ _
   | exact ih1 _ _ _ _ _ _ _
   | exact spec_TrunkOk.mono _ _ _ _ _ _ _
   | exact LeO.none _
   | refine LeO.ite ?_ ?_
   | refine LeO.bind ?_ (fun _ => ?_)
theorem spec_Settled.mono : ∀ a0 a1 a2 a3 a4 a5 k, LeO (spec_Settled.f k a0 a1 a2 a3 a4 a5) (spec_Settled.f (k + 1) a0 a1 a2 a3 a4 a5) := by
 intro a0 a1 a2 a3 a4 a5 k
 obtain ⟨ih0, ih1⟩ := spec_Settled.mono_l k
 unfold spec_Settled.f
 repeat' first
  | (with_reducible exact ih0 _ _ _ _ _ _ _)
  | (with_reducible exact ih1 _ _ _ _ _ _ _)
  | (with_reducible exact spec_TrunkOk.mono _ _ _ _ _ _ _)
  | (with_reducible exact LeO.refl _)
  | (with_reducible exact LeO.none _)
  | (with_reducible refine LeO.ite ?_ ?_)
  | (with_reducible refine LeO.bind ?_ (fun _ => ?_))
  | exact ih0 _ _ _ _ _ _ _
  | exact ih1 _ _ _ _ _ _ _
  | exact spec_TrunkOk.mono _ _ _ _ _ _ _
  | exact LeO.none _
  | refine LeO.ite ?_ ?_
  | refine LeO.bind ?_ (fun _ => ?_)
set_option maxHeartbeats 8000000 in
set_option maxRecDepth 100000 in
theorem spec_Settled.calls (k : Nat) (A0_0 : Option Addr) (c0_0 : Nat) (l0_0 : List Int) (A0_1 : Option Addr) (c0_1 : Nat) (l0_1 : List Int) (a0_2 : Int) (a0_3 : Int) (A0_4 : Option Addr) (c0_4 : Nat) (l0_4 : List (S61)) (A0_5 : Option Addr) (c0_5 : Nat) (l0_5 : List (S61)) (r : Bool) (w : World) (hr0_0 : Kd.C (Kd.int .i64) w A0_0 l0_0.length l0_0) (hc0_0 : l0_0.length ≤ c0_0) (hr0_1 : Kd.C (Kd.int .i64) w A0_1 l0_1.length l0_1) (hc0_1 : l0_1.length ≤ c0_1) (hr0_4 : Kd.C k61 w A0_4 l0_4.length l0_4) (hc0_4 : l0_4.length ≤ c0_4) (hr0_5 : Kd.C k61 w A0_5 l0_5.length l0_5) (hc0_5 : l0_5.length ≤ c0_5) (h : spec_Settled.f k l0_0 l0_1 a0_2 a0_3 l0_4 l0_5 = some r) :
 Calls Try.prog 23 #[.agg #[.slice A0_0 l0_0.length c0_0, .slice A0_1 l0_1.length c0_1, .int .i64 a0_2, .int .i64 a0_3, .slice A0_4 l0_4.length c0_4, .slice A0_5 l0_5.length c0_5]] w fun e w' => e = .returned (.bool r) ∧ Below w.heap.size w w' := by
 have hu33 := Try.underlying33
 have HR0_0 := Aside0.mk hr0_0
 have HC0_0 := Aside0.mk hc0_0
 clear hr0_0 hc0_0
 have HR0_1 := Aside0.mk hr0_1
 have HC0_1 := Aside0.mk hc0_1
 clear hr0_1 hc0_1
 have HR0_4 := Aside0.mk hr0_4
 have HC0_4 := Aside0.mk hc0_4
 clear hr0_4 hc0_4
 have HR0_5 := Aside0.mk hr0_5
 have HC0_5 := Aside0.mk hc0_5
 clear hr0_5 hc0_5
 have HB := Aside0.mk (Below.refl w.heap.size w)
 have H : ((spec_TrunkOk.f k l0_0 l0_1 a0_2 a0_3 l0_4 l0_5).bind fun t550 => (if t550 = true then (spec_Settled.j0 k (decide ((wrap64 ((l0_4.length : Int) + (l0_5.length : Int))) > 0)) l0_0 l0_1 a0_2 a0_3 l0_4 l0_5) else (spec_Settled.j0 k true l0_0 l0_1 a0_2 a0_3 l0_4 l0_5))) = some r := h
 clear h
 have HC2 := Aside0.mk H
 clear H
 go_enter Try.func23, Try.ntmps23
 go_upto_region 1 with (first | ((with_reducible refine gate_dst (N := 1) rfl ?_); (try (refine gate_guard (by rfl) ?_; dsimp only)); refine box_event ?hg (N := 1) ?hd (cs := #[.slice A0_0 l0_0.length c0_0, .slice A0_1 l0_1.length c0_1, .int .i64 a0_2, .int .i64 a0_3, .slice A0_4 l0_4.length c0_4, .slice A0_5 l0_5.length c0_5]) (t := 33) ?hr ?_; (case hd => rfl); (case hg => rfl); (case hr => first | (go_simp; done) | (go_simp; rfl)); intro gb549 hg w3 hbox hb; have n0_ := Aside0.mk (below_step (by repeat (first | (with_reducible first | exact HB.out | apply below_alloc | apply pw_below_drewN | apply below_drew1) | exact HB.out)) hb); have n1_ := Aside0.mk (hbox); have n2_ := Aside0.mk ((by rw [hg]; exact (below_size (by repeat (first | (with_reducible first | exact HB.out | apply below_alloc | apply pw_below_drewN | apply below_drew1) | exact HB.out))) : w.heap.size ≤ gb549)); have n3_ := Aside0.mk ((by rw [hg]; exact (below_size (by repeat (first | (with_reducible first | exact HB.out | apply below_alloc | apply pw_below_drewN | apply below_drew1) | exact HB.out))) : w.heap.size ≤ gb549)); clear HB; have HB := n0_; have BK549 := n1_; have GW549 := n2_; have GE549 := n3_; clear n0_ n1_ n2_ n3_; clear hb hbox hg))
 repeat (go_quiet (first | ((with_reducible refine gate_dst (N := 1) rfl ?_); (try (refine gate_guard (by rfl) ?_; dsimp only)); refine box_event ?hg (N := 1) ?hd (cs := #[.slice A0_0 l0_0.length c0_0, .slice A0_1 l0_1.length c0_1, .int .i64 a0_2, .int .i64 a0_3, .slice A0_4 l0_4.length c0_4, .slice A0_5 l0_5.length c0_5]) (t := 33) ?hr ?_; (case hd => rfl); (case hg => rfl); (case hr => first | (go_simp; done) | (go_simp; rfl)); intro gb549 hg w3 hbox hb; have n0_ := Aside0.mk (below_step (by repeat (first | (with_reducible first | exact HB.out | apply below_alloc | apply pw_below_drewN | apply below_drew1) | exact HB.out)) hb); have n1_ := Aside0.mk (hbox); have n2_ := Aside0.mk ((by rw [hg]; exact (below_size (by repeat (first | (with_reducible first | exact HB.out | apply below_alloc | apply pw_below_drewN | apply below_drew1) | exact HB.out))) : w.heap.size ≤ gb549)); have n3_ := Aside0.mk ((by rw [hg]; exact (below_size (by repeat (first | (with_reducible first | exact HB.out | apply below_alloc | apply pw_below_drewN | apply below_drew1) | exact HB.out))) : w.heap.size ≤ gb549)); clear HB; have HB := n0_; have BK549 := n1_; have GW549 := n2_; have GE549 := n3_; clear n0_ n1_ n2_ n3_; clear hb hbox hg)); go_upto_region 1 with (first | ((with_reducible refine gate_dst (N := 1) rfl ?_); (try (refine gate_guard (by rfl) ?_; dsimp only)); refine box_event ?hg (N := 1) ?hd (cs := #[.slice A0_0 l0_0.length c0_0, .slice A0_1 l0_1.length c0_1, .int .i64 a0_2, .int .i64 a0_3, .slice A0_4 l0_4.length c0_4, .slice A0_5 l0_5.length c0_5]) (t := 33) ?hr ?_; (case hd => rfl); (case hg => rfl); (case hr => first | (go_simp; done) | (go_simp; rfl)); intro gb549 hg w3 hbox hb; have n0_ := Aside0.mk (below_step (by repeat (first | (with_reducible first | exact HB.out | apply below_alloc | apply pw_below_drewN | apply below_drew1) | exact HB.out)) hb); have n1_ := Aside0.mk (hbox); have n2_ := Aside0.mk ((by rw [hg]; exact (below_size (by repeat (first | (with_reducible first | exact HB.out | apply below_alloc | apply pw_below_drewN | apply below_drew1) | exact HB.out))) : w.heap.size ≤ gb549)); have n3_ := Aside0.mk ((by rw [hg]; exact (below_size (by repeat (first | (with_reducible first | exact HB.out | apply below_alloc | apply pw_below_drewN | apply below_drew1) | exact HB.out))) : w.heap.size ≤ gb549)); clear HB; have HB := n0_; have BK549 := n1_; have GW549 := n2_; have GE549 := n3_; clear n0_ n1_ n2_ n3_; clear hb hbox hg)))
 (try simp only [Act.put, List.setIfInBounds_toArray, List.set_cons_zero, List.set_cons_succ])
 go_cut [20] (fun v20 wc => ∃ (kq : Nat) (x20_1 : Bool), v20 = .bool x20_1 ∧ Aside0 (spec_Settled.j0 kq x20_1 l0_0 l0_1 a0_2 a0_3 l0_4 l0_5 = some r) ∧ Aside0 (kq ≤ k) ∧ Aside0 (wc.heap[gb549]? = some (.cells #[(.slice A0_0 l0_0.length c0_0), (.slice A0_1 l0_1.length c0_1), .int .i64 a0_2, .int .i64 a0_3, (.slice A0_4 l0_4.length c0_4), (.slice A0_5 l0_5.length c0_5)] 33 (0, 0))) ∧ Aside0 (Below w.heap.size w wc))
 case first =>
  have H := HC2.out
  clear HC2
  replace H := Option.bind_eq_some_iff.mp H
  obtain ⟨t550, A40, H⟩ := H
  replace H : (if t550 = true then (spec_Settled.j0 k (decide ((wrap64 ((l0_4.length : Int) + (l0_5.length : Int))) > 0)) l0_0 l0_1 a0_2 a0_3 l0_4 l0_5) else (spec_Settled.j0 k true l0_0 l0_1 a0_2 a0_3 l0_4 l0_5)) = some r := H
  have A4 := Aside0.mk A40
  clear A40
  by_cases c5 : t550 = true
  ·subst c5
   have H1 : (spec_Settled.j0 k (decide ((wrap64 ((l0_4.length : Int) + (l0_5.length : Int))) > 0)) l0_0 l0_1 a0_2 a0_3 l0_4 l0_5) = some r := by rw [if_pos rfl] at H; exact H
   clear H
   have H := H1
   clear H1
   have H' := Aside0.mk H
   clear H
   have hcz6_0 : w3.cell? ⟨gb549, 0, none⟩ = some (.slice A0_0 l0_0.length c0_0) := (blk_cell BK549.out 0).trans rfl
   have hcz6_1 : w3.cell? ⟨gb549, 1, none⟩ = some (.slice A0_1 l0_1.length c0_1) := (blk_cell BK549.out 1).trans rfl
   have hcz6_2 : w3.cell? ⟨gb549, 2, none⟩ = some (.int .i64 a0_2) := (blk_cell BK549.out 2).trans rfl
   have hcz6_3 : w3.cell? ⟨gb549, 3, none⟩ = some (.int .i64 a0_3) := (blk_cell BK549.out 3).trans rfl
   have hcz6_4 : w3.cell? ⟨gb549, 4, none⟩ = some (.slice A0_4 l0_4.length c0_4) := (blk_cell BK549.out 4).trans rfl
   have hcz6_5 : w3.cell? ⟨gb549, 5, none⟩ = some (.slice A0_5 l0_5.length c0_5) := (blk_cell BK549.out 5).trans rfl
   have hfz6_0 := blk_frozen BK549.out 0
   have hfz6_1 := blk_frozen BK549.out 1
   have hfz6_2 := blk_frozen BK549.out 2
   have hfz6_3 := blk_frozen BK549.out 3
   have hfz6_4 := blk_frozen BK549.out 4
   have hfz6_5 := blk_frozen BK549.out 5
   go_wp2_with (first | (go_at_call 20; (with_reducible refine (spec_TrunkOk.calls k _ _ l0_0 _ _ l0_1 a0_2 a0_3 (fun k_ => k_ < w.heap.size) _ _ l0_4 _ _ l0_5 true _ ?side1 ?side2 ?side3 ?side4 ?side5 ?side6 ?side7 A4.out).mono ?_); (case side1 => repeat (first | exact (Kd.C_below HR0_0.out HB.out) | (with_reducible refine Kd.C_alloc ?_ _) | (with_reducible refine Kd.C_drewN ?_ _) | (with_reducible refine Kd.C_drew ?_))); (case side2 => exact HC0_0.out); (case side3 => repeat (first | exact (Kd.C_below HR0_1.out HB.out) | (with_reducible refine Kd.C_alloc ?_ _) | (with_reducible refine Kd.C_drewN ?_ _) | (with_reducible refine Kd.C_drew ?_))); (case side4 => exact HC0_1.out); (case side5 => exact Kd.V_mk HC0_4.out (Kd.F_below (Kd.C_F k61_heap HR0_4.out) (by repeat (first | (with_reducible first | exact HB.out | apply below_alloc | apply pw_below_drewN | apply below_drew1 | refine below_set ?_ GE549.out) | exact HB.out)))); (case side6 => repeat (first | exact (Kd.C_below HR0_5.out HB.out) | (with_reducible refine Kd.C_alloc ?_ _) | (with_reducible refine Kd.C_drewN ?_ _) | (with_reducible refine Kd.C_drew ?_))); (case side7 => exact HC0_5.out); rintro e w7 ⟨rfl, hb⟩; have n0_ := Aside0.mk (blk_below (g := gb549) (o := .cells #[.slice A0_0 l0_0.length c0_0, .slice A0_1 l0_1.length c0_1, .int .i64 a0_2, .int .i64 a0_3, .slice A0_4 l0_4.length c0_4, .slice A0_5 l0_5.length c0_5] 33 (0, 0)) (by (with_reducible repeat (first | refine blk_drewN ?_ _ | refine blk_drew ?_ | refine blk_alloc ?_ _)); exact BK549.out) hb); have n1_ := Aside0.mk (below_step (by repeat (first | (with_reducible first | exact HB.out | apply below_alloc | apply pw_below_drewN | apply below_drew1 | refine below_set ?_ GE549.out) | exact HB.out)) hb); clear BK549; clear HB; have BK549 := n0_; have HB := n1_; clear n0_ n1_; (try clear hb); (try clear hb2); (try clear hk); (try clear hi); have hcz8_0 : w7.cell? ⟨gb549, 0, none⟩ = some (.slice A0_0 l0_0.length c0_0) := (blk_cell BK549.out 0).trans rfl; have hcz8_1 : w7.cell? ⟨gb549, 1, none⟩ = some (.slice A0_1 l0_1.length c0_1) := (blk_cell BK549.out 1).trans rfl; have hcz8_2 : w7.cell? ⟨gb549, 2, none⟩ = some (.int .i64 a0_2) := (blk_cell BK549.out 2).trans rfl; have hcz8_3 : w7.cell? ⟨gb549, 3, none⟩ = some (.int .i64 a0_3) := (blk_cell BK549.out 3).trans rfl; have hcz8_4 : w7.cell? ⟨gb549, 4, none⟩ = some (.slice A0_4 l0_4.length c0_4) := (blk_cell BK549.out 4).trans rfl; have hcz8_5 : w7.cell? ⟨gb549, 5, none⟩ = some (.slice A0_5 l0_5.length c0_5) := (blk_cell BK549.out 5).trans rfl; have hfz8_0 := blk_frozen BK549.out 0; have hfz8_1 := blk_frozen BK549.out 1; have hfz8_2 := blk_frozen BK549.out 2; have hfz8_3 := blk_frozen BK549.out 3; have hfz8_4 := blk_frozen BK549.out 4; have hfz8_5 := blk_frozen BK549.out 5))
   repeat (go_quiet (first | (go_at_call 20; (with_reducible refine (spec_TrunkOk.calls k _ _ l0_0 _ _ l0_1 a0_2 a0_3 (fun k_ => k_ < w.heap.size) _ _ l0_4 _ _ l0_5 true _ ?side1 ?side2 ?side3 ?side4 ?side5 ?side6 ?side7 A4.out).mono ?_); (case side1 => repeat (first | exact (Kd.C_below HR0_0.out HB.out) | (with_reducible refine Kd.C_alloc ?_ _) | (with_reducible refine Kd.C_drewN ?_ _) | (with_reducible refine Kd.C_drew ?_))); (case side2 => exact HC0_0.out); (case side3 => repeat (first | exact (Kd.C_below HR0_1.out HB.out) | (with_reducible refine Kd.C_alloc ?_ _) | (with_reducible refine Kd.C_drewN ?_ _) | (with_reducible refine Kd.C_drew ?_))); (case side4 => exact HC0_1.out); (case side5 => exact Kd.V_mk HC0_4.out (Kd.F_below (Kd.C_F k61_heap HR0_4.out) (by repeat (first | (with_reducible first | exact HB.out | apply below_alloc | apply pw_below_drewN | apply below_drew1 | refine below_set ?_ GE549.out) | exact HB.out)))); (case side6 => repeat (first | exact (Kd.C_below HR0_5.out HB.out) | (with_reducible refine Kd.C_alloc ?_ _) | (with_reducible refine Kd.C_drewN ?_ _) | (with_reducible refine Kd.C_drew ?_))); (case side7 => exact HC0_5.out); rintro e w7 ⟨rfl, hb⟩; have n0_ := Aside0.mk (blk_below (g := gb549) (o := .cells #[.slice A0_0 l0_0.length c0_0, .slice A0_1 l0_1.length c0_1, .int .i64 a0_2, .int .i64 a0_3, .slice A0_4 l0_4.length c0_4, .slice A0_5 l0_5.length c0_5] 33 (0, 0)) (by (with_reducible repeat (first | refine blk_drewN ?_ _ | refine blk_drew ?_ | refine blk_alloc ?_ _)); exact BK549.out) hb); have n1_ := Aside0.mk (below_step (by repeat (first | (with_reducible first | exact HB.out | apply below_alloc | apply pw_below_drewN | apply below_drew1 | refine below_set ?_ GE549.out) | exact HB.out)) hb); clear BK549; clear HB; have BK549 := n0_; have HB := n1_; clear n0_ n1_; (try clear hb); (try clear hb2); (try clear hk); (try clear hi); have hcz8_0 : w7.cell? ⟨gb549, 0, none⟩ = some (.slice A0_0 l0_0.length c0_0) := (blk_cell BK549.out 0).trans rfl; have hcz8_1 : w7.cell? ⟨gb549, 1, none⟩ = some (.slice A0_1 l0_1.length c0_1) := (blk_cell BK549.out 1).trans rfl; have hcz8_2 : w7.cell? ⟨gb549, 2, none⟩ = some (.int .i64 a0_2) := (blk_cell BK549.out 2).trans rfl; have hcz8_3 : w7.cell? ⟨gb549, 3, none⟩ = some (.int .i64 a0_3) := (blk_cell BK549.out 3).trans rfl; have hcz8_4 : w7.cell? ⟨gb549, 4, none⟩ = some (.slice A0_4 l0_4.length c0_4) := (blk_cell BK549.out 4).trans rfl; have hcz8_5 : w7.cell? ⟨gb549, 5, none⟩ = some (.slice A0_5 l0_5.length c0_5) := (blk_cell BK549.out 5).trans rfl; have hfz8_0 := blk_frozen BK549.out 0; have hfz8_1 := blk_frozen BK549.out 1; have hfz8_2 := blk_frozen BK549.out 2; have hfz8_3 := blk_frozen BK549.out 3; have hfz8_4 := blk_frozen BK549.out 4; have hfz8_5 := blk_frozen BK549.out 5)); try go_wp2_with (first | (go_at_call 20; (with_reducible refine (spec_TrunkOk.calls k _ _ l0_0 _ _ l0_1 a0_2 a0_3 (fun k_ => k_ < w.heap.size) _ _ l0_4 _ _ l0_5 true _ ?side1 ?side2 ?side3 ?side4 ?side5 ?side6 ?side7 A4.out).mono ?_); (case side1 => repeat (first | exact (Kd.C_below HR0_0.out HB.out) | (with_reducible refine Kd.C_alloc ?_ _) | (with_reducible refine Kd.C_drewN ?_ _) | (with_reducible refine Kd.C_drew ?_))); (case side2 => exact HC0_0.out); (case side3 => repeat (first | exact (Kd.C_below HR0_1.out HB.out) | (with_reducible refine Kd.C_alloc ?_ _) | (with_reducible refine Kd.C_drewN ?_ _) | (with_reducible refine Kd.C_drew ?_))); (case side4 => exact HC0_1.out); (case side5 => exact Kd.V_mk HC0_4.out (Kd.F_below (Kd.C_F k61_heap HR0_4.out) (by repeat (first | (with_reducible first | exact HB.out | apply below_alloc | apply pw_below_drewN | apply below_drew1 | refine below_set ?_ GE549.out) | exact HB.out)))); (case side6 => repeat (first | exact (Kd.C_below HR0_5.out HB.out) | (with_reducible refine Kd.C_alloc ?_ _) | (with_reducible refine Kd.C_drewN ?_ _) | (with_reducible refine Kd.C_drew ?_))); (case side7 => exact HC0_5.out); rintro e w7 ⟨rfl, hb⟩; have n0_ := Aside0.mk (blk_below (g := gb549) (o := .cells #[.slice A0_0 l0_0.length c0_0, .slice A0_1 l0_1.length c0_1, .int .i64 a0_2, .int .i64 a0_3, .slice A0_4 l0_4.length c0_4, .slice A0_5 l0_5.length c0_5] 33 (0, 0)) (by (with_reducible repeat (first | refine blk_drewN ?_ _ | refine blk_drew ?_ | refine blk_alloc ?_ _)); exact BK549.out) hb); have n1_ := Aside0.mk (below_step (by repeat (first | (with_reducible first | exact HB.out | apply below_alloc | apply pw_below_drewN | apply below_drew1 | refine below_set ?_ GE549.out) | exact HB.out)) hb); clear BK549; clear HB; have BK549 := n0_; have HB := n1_; clear n0_ n1_; (try clear hb); (try clear hb2); (try clear hk); (try clear hi); have hcz8_0 : w7.cell? ⟨gb549, 0, none⟩ = some (.slice A0_0 l0_0.length c0_0) := (blk_cell BK549.out 0).trans rfl; have hcz8_1 : w7.cell? ⟨gb549, 1, none⟩ = some (.slice A0_1 l0_1.length c0_1) := (blk_cell BK549.out 1).trans rfl; have hcz8_2 : w7.cell? ⟨gb549, 2, none⟩ = some (.int .i64 a0_2) := (blk_cell BK549.out 2).trans rfl; have hcz8_3 : w7.cell? ⟨gb549, 3, none⟩ = some (.int .i64 a0_3) := (blk_cell BK549.out 3).trans rfl; have hcz8_4 : w7.cell? ⟨gb549, 4, none⟩ = some (.slice A0_4 l0_4.length c0_4) := (blk_cell BK549.out 4).trans rfl; have hcz8_5 : w7.cell? ⟨gb549, 5, none⟩ = some (.slice A0_5 l0_5.length c0_5) := (blk_cell BK549.out 5).trans rfl; have hfz8_0 := blk_frozen BK549.out 0; have hfz8_1 := blk_frozen BK549.out 1; have hfz8_2 := blk_frozen BK549.out 2; have hfz8_3 := blk_frozen BK549.out 3; have hfz8_4 := blk_frozen BK549.out 4; have hfz8_5 := blk_frozen BK549.out 5)))
   go_meet
   case rel => exact ⟨_, (decide ((wrap64 ((l0_4.length : Int) + (l0_5.length : Int))) > 0)), (by first | rfl | (simp; done) | (simp [*]; done)), H', ⟨by first | omega | exact Nat.le_refl _⟩, ⟨by (with_reducible repeat (first | refine blk_drewN ?_ _ | refine blk_drew ?_ | refine blk_alloc ?_ _)); exact BK549.out⟩, ⟨by repeat (first | (with_reducible first | exact HB.out | apply below_alloc | apply pw_below_drewN | apply below_drew1 | refine below_set ?_ GE549.out) | exact HB.out)⟩⟩
  ·replace c5 := Bool.eq_false_iff.mpr c5
   subst c5
   have H1 : (spec_Settled.j0 k true l0_0 l0_1 a0_2 a0_3 l0_4 l0_5) = some r := by rw [if_neg (show ¬ (false = true) by decide)] at H; exact H
   clear H
   have H := H1
   clear H1
   have H' := Aside0.mk H
   clear H
   have hcz9_0 : w3.cell? ⟨gb549, 0, none⟩ = some (.slice A0_0 l0_0.length c0_0) := (blk_cell BK549.out 0).trans rfl
   have hcz9_1 : w3.cell? ⟨gb549, 1, none⟩ = some (.slice A0_1 l0_1.length c0_1) := (blk_cell BK549.out 1).trans rfl
   have hcz9_2 : w3.cell? ⟨gb549, 2, none⟩ = some (.int .i64 a0_2) := (blk_cell BK549.out 2).trans rfl
   have hcz9_3 : w3.cell? ⟨gb549, 3, none⟩ = some (.int .i64 a0_3) := (blk_cell BK549.out 3).trans rfl
   have hcz9_4 : w3.cell? ⟨gb549, 4, none⟩ = some (.slice A0_4 l0_4.length c0_4) := (blk_cell BK549.out 4).trans rfl
   have hcz9_5 : w3.cell? ⟨gb549, 5, none⟩ = some (.slice A0_5 l0_5.length c0_5) := (blk_cell BK549.out 5).trans rfl
   have hfz9_0 := blk_frozen BK549.out 0
   have hfz9_1 := blk_frozen BK549.out 1
   have hfz9_2 := blk_frozen BK549.out 2
   have hfz9_3 := blk_frozen BK549.out 3
   have hfz9_4 := blk_frozen BK549.out 4
   have hfz9_5 := blk_frozen BK549.out 5
   go_wp2_with (first | (go_at_call 20; (with_reducible refine (spec_TrunkOk.calls k _ _ l0_0 _ _ l0_1 a0_2 a0_3 (fun k_ => k_ < w.heap.size) _ _ l0_4 _ _ l0_5 false _ ?side1 ?side2 ?side3 ?side4 ?side5 ?side6 ?side7 A4.out).mono ?_); (case side1 => repeat (first | exact (Kd.C_below HR0_0.out HB.out) | (with_reducible refine Kd.C_alloc ?_ _) | (with_reducible refine Kd.C_drewN ?_ _) | (with_reducible refine Kd.C_drew ?_))); (case side2 => exact HC0_0.out); (case side3 => repeat (first | exact (Kd.C_below HR0_1.out HB.out) | (with_reducible refine Kd.C_alloc ?_ _) | (with_reducible refine Kd.C_drewN ?_ _) | (with_reducible refine Kd.C_drew ?_))); (case side4 => exact HC0_1.out); (case side5 => exact Kd.V_mk HC0_4.out (Kd.F_below (Kd.C_F k61_heap HR0_4.out) (by repeat (first | (with_reducible first | exact HB.out | apply below_alloc | apply pw_below_drewN | apply below_drew1 | refine below_set ?_ GE549.out) | exact HB.out)))); (case side6 => repeat (first | exact (Kd.C_below HR0_5.out HB.out) | (with_reducible refine Kd.C_alloc ?_ _) | (with_reducible refine Kd.C_drewN ?_ _) | (with_reducible refine Kd.C_drew ?_))); (case side7 => exact HC0_5.out); rintro e w10 ⟨rfl, hb⟩; have n0_ := Aside0.mk (blk_below (g := gb549) (o := .cells #[.slice A0_0 l0_0.length c0_0, .slice A0_1 l0_1.length c0_1, .int .i64 a0_2, .int .i64 a0_3, .slice A0_4 l0_4.length c0_4, .slice A0_5 l0_5.length c0_5] 33 (0, 0)) (by (with_reducible repeat (first | refine blk_drewN ?_ _ | refine blk_drew ?_ | refine blk_alloc ?_ _)); exact BK549.out) hb); have n1_ := Aside0.mk (below_step (by repeat (first | (with_reducible first | exact HB.out | apply below_alloc | apply pw_below_drewN | apply below_drew1 | refine below_set ?_ GE549.out) | exact HB.out)) hb); clear BK549; clear HB; have BK549 := n0_; have HB := n1_; clear n0_ n1_; (try clear hb); (try clear hb2); (try clear hk); (try clear hi)))
   repeat (go_quiet (first | (go_at_call 20; (with_reducible refine (spec_TrunkOk.calls k _ _ l0_0 _ _ l0_1 a0_2 a0_3 (fun k_ => k_ < w.heap.size) _ _ l0_4 _ _ l0_5 false _ ?side1 ?side2 ?side3 ?side4 ?side5 ?side6 ?side7 A4.out).mono ?_); (case side1 => repeat (first | exact (Kd.C_below HR0_0.out HB.out) | (with_reducible refine Kd.C_alloc ?_ _) | (with_reducible refine Kd.C_drewN ?_ _) | (with_reducible refine Kd.C_drew ?_))); (case side2 => exact HC0_0.out); (case side3 => repeat (first | exact (Kd.C_below HR0_1.out HB.out) | (with_reducible refine Kd.C_alloc ?_ _) | (with_reducible refine Kd.C_drewN ?_ _) | (with_reducible refine Kd.C_drew ?_))); (case side4 => exact HC0_1.out); (case side5 => exact Kd.V_mk HC0_4.out (Kd.F_below (Kd.C_F k61_heap HR0_4.out) (by repeat (first | (with_reducible first | exact HB.out | apply below_alloc | apply pw_below_drewN | apply below_drew1 | refine below_set ?_ GE549.out) | exact HB.out)))); (case side6 => repeat (first | exact (Kd.C_below HR0_5.out HB.out) | (with_reducible refine Kd.C_alloc ?_ _) | (with_reducible refine Kd.C_drewN ?_ _) | (with_reducible refine Kd.C_drew ?_))); (case side7 => exact HC0_5.out); rintro e w10 ⟨rfl, hb⟩; have n0_ := Aside0.mk (blk_below (g := gb549) (o := .cells #[.slice A0_0 l0_0.length c0_0, .slice A0_1 l0_1.length c0_1, .int .i64 a0_2, .int .i64 a0_3, .slice A0_4 l0_4.length c0_4, .slice A0_5 l0_5.length c0_5] 33 (0, 0)) (by (with_reducible repeat (first | refine blk_drewN ?_ _ | refine blk_drew ?_ | refine blk_alloc ?_ _)); exact BK549.out) hb); have n1_ := Aside0.mk (below_step (by repeat (first | (with_reducible first | exact HB.out | apply below_alloc | apply pw_below_drewN | apply below_drew1 | refine below_set ?_ GE549.out) | exact HB.out)) hb); clear BK549; clear HB; have BK549 := n0_; have HB := n1_; clear n0_ n1_; (try clear hb); (try clear hb2); (try clear hk); (try clear hi))); try go_wp2_with (first | (go_at_call 20; (with_reducible refine (spec_TrunkOk.calls k _ _ l0_0 _ _ l0_1 a0_2 a0_3 (fun k_ => k_ < w.heap.size) _ _ l0_4 _ _ l0_5 false _ ?side1 ?side2 ?side3 ?side4 ?side5 ?side6 ?side7 A4.out).mono ?_); (case side1 => repeat (first | exact (Kd.C_below HR0_0.out HB.out) | (with_reducible refine Kd.C_alloc ?_ _) | (with_reducible refine Kd.C_drewN ?_ _) | (with_reducible refine Kd.C_drew ?_))); (case side2 => exact HC0_0.out); (case side3 => repeat (first | exact (Kd.C_below HR0_1.out HB.out) | (with_reducible refine Kd.C_alloc ?_ _) | (with_reducible refine Kd.C_drewN ?_ _) | (with_reducible refine Kd.C_drew ?_))); (case side4 => exact HC0_1.out); (case side5 => exact Kd.V_mk HC0_4.out (Kd.F_below (Kd.C_F k61_heap HR0_4.out) (by repeat (first | (with_reducible first | exact HB.out | apply below_alloc | apply pw_below_drewN | apply below_drew1 | refine below_set ?_ GE549.out) | exact HB.out)))); (case side6 => repeat (first | exact (Kd.C_below HR0_5.out HB.out) | (with_reducible refine Kd.C_alloc ?_ _) | (with_reducible refine Kd.C_drewN ?_ _) | (with_reducible refine Kd.C_drew ?_))); (case side7 => exact HC0_5.out); rintro e w10 ⟨rfl, hb⟩; have n0_ := Aside0.mk (blk_below (g := gb549) (o := .cells #[.slice A0_0 l0_0.length c0_0, .slice A0_1 l0_1.length c0_1, .int .i64 a0_2, .int .i64 a0_3, .slice A0_4 l0_4.length c0_4, .slice A0_5 l0_5.length c0_5] 33 (0, 0)) (by (with_reducible repeat (first | refine blk_drewN ?_ _ | refine blk_drew ?_ | refine blk_alloc ?_ _)); exact BK549.out) hb); have n1_ := Aside0.mk (below_step (by repeat (first | (with_reducible first | exact HB.out | apply below_alloc | apply pw_below_drewN | apply below_drew1 | refine below_set ?_ GE549.out) | exact HB.out)) hb); clear BK549; clear HB; have BK549 := n0_; have HB := n1_; clear n0_ n1_; (try clear hb); (try clear hb2); (try clear hk); (try clear hi))))
   go_meet
   case rel => exact ⟨_, (true), (by first | rfl | (simp; done) | (simp [*]; done)), H', ⟨by first | omega | exact Nat.le_refl _⟩, ⟨by (with_reducible repeat (first | refine blk_drewN ?_ _ | refine blk_drew ?_ | refine blk_alloc ?_ _)); exact BK549.out⟩, ⟨by repeat (first | (with_reducible first | exact HB.out | apply below_alloc | apply pw_below_drewN | apply below_drew1 | refine below_set ?_ GE549.out) | exact HB.out)⟩⟩
 case rest =>
  clear HC2
  (try clear c2); (try clear p2); (try clear c5); (try clear p6); (try clear hcz6_0 hcz6_1 hcz6_2 hcz6_3 hcz6_4 hcz6_5); (try clear hcz8_0 hcz8_1 hcz8_2 hcz8_3 hcz8_4 hcz8_5); (try clear hcz9_0 hcz9_1 hcz9_2 hcz9_3 hcz9_4 hcz9_5); (try clear hfz6_0 hfz6_1 hfz6_2 hfz6_3 hfz6_4 hfz6_5); (try clear hfz8_0 hfz8_1 hfz8_2 hfz8_3 hfz8_4 hfz8_5); (try clear hfz9_0 hfz9_1 hfz9_2 hfz9_3 hfz9_4 hfz9_5)
  obtain ⟨kq, x20_1, rfl, HA, HJ1, BK549, HB⟩ := hcut
  cases kq with
  | zero => exact absurd HA.out (by simp [spec_Settled.j0])
  | succ kj1 =>
   have H := HA.out
   clear HA
   simp only [spec_Settled.j0] at H
   by_cases c11 : x20_1 = true
   ·subst c11
    have H1 : (some false) = some r := by rw [if_pos rfl] at H; exact H
    clear H
    have H := H1
    clear H1
    obtain rfl := Option.some.inj H
    go_wp2
    repeat (go_quiet (fail); try go_wp2)
    go_ret
    exact ⟨by first | rfl | (simp [errW_none, errW_some] <;> rfl) | (simp [*, errW_none, errW_some] <;> rfl), by repeat (first | (with_reducible first | exact HB.out | apply below_alloc | apply pw_below_drewN | apply below_drew1 | refine below_set ?_ GE549.out) | exact HB.out)⟩
   ·replace c11 := Bool.eq_false_iff.mpr c11
    subst c11
    have H1 : (spec_Settled.l0 kj1 0 l0_0 l0_1 a0_2 a0_3 l0_4 l0_5) = some r := by rw [if_neg (show ¬ (false = true) by decide)] at H; exact H
    clear H
    have H := H1
    clear H1
    have H' := Aside0.mk H
    clear H
    go_wp2
    repeat (go_quiet (fail); try go_wp2)
    go_loopg [3] kj1 (fun kq v3 w' => ∃ (x3_2 : Int), v3 = .int .i64 x3_2 ∧ Aside0 (spec_Settled.l0 kq x3_2 l0_0 l0_1 a0_2 a0_3 l0_4 l0_5 = some r) ∧ Aside0 (kq ≤ kj1) ∧ Aside0 (w'.heap[gb549]? = some (.cells #[(.slice A0_0 l0_0.length c0_0), (.slice A0_1 l0_1.length c0_1), .int .i64 a0_2, .int .i64 a0_3, (.slice A0_4 l0_4.length c0_4), (.slice A0_5 l0_5.length c0_5)] 33 (0, 0))) ∧ Aside0 (Below w.heap.size w w'))
    case atStart => exact ⟨(0), (by first | rfl | (simp; done) | (simp [*]; done)), H', ⟨Nat.le_refl _⟩, ⟨by (with_reducible repeat (first | refine blk_drewN ?_ _ | refine blk_drew ?_ | refine blk_alloc ?_ _)); exact BK549.out⟩, ⟨by repeat (first | (with_reducible first | exact HB.out | apply below_alloc | apply pw_below_drewN | apply below_drew1 | refine below_set ?_ GE549.out) | exact HB.out)⟩⟩
    case round =>
     clear H'
     (try clear c1); (try clear c2); (try clear p2); (try clear c5); (try clear p6); (try clear c11); (try clear hcz6_0 hcz6_1 hcz6_2 hcz6_3 hcz6_4 hcz6_5); (try clear hcz8_0 hcz8_1 hcz8_2 hcz8_3 hcz8_4 hcz8_5); (try clear hcz9_0 hcz9_1 hcz9_2 hcz9_3 hcz9_4 hcz9_5); (try clear hfz6_0 hfz6_1 hfz6_2 hfz6_3 hfz6_4 hfz6_5); (try clear hfz8_0 hfz8_1 hfz8_2 hfz8_3 hfz8_4 hfz8_5); (try clear hfz9_0 hfz9_1 hfz9_2 hfz9_3 hfz9_4 hfz9_5); (try clear p2); (try clear p6)
     obtain ⟨x3_2, rfl, HA, HK2, BK549, HB⟩ := hrel
     cases gk with
     | zero => exact absurd HA.out (by simp [spec_Settled.l0])
     | succ k2 =>
      have H := HA.out
      clear HA
      simp only [spec_Settled.l0] at H
      by_cases c12 : x3_2 < (l0_0.length : Int)
      ·rw [if_pos c12] at H
       have c12b0 : decide (x3_2 < (l0_0.length : Int)) = true := decide_eq_true c12
       clear c12
       by_cases c13 : 0 ≤ x3_2
       ·rw [if_pos c13] at H
        have c13b0 : decide (0 ≤ x3_2) = true := decide_eq_true c13
        clear c13
        by_cases c14 : x3_2 < (l0_1.length : Int)
        ·rw [if_pos c14] at H
         have c14b0 : decide (x3_2 < (l0_1.length : Int)) = true := decide_eq_true c14
         clear c14
         by_cases c15 : (rd l0_0 x3_2) = 0
         ·rw [if_pos c15] at H
          have c15b0 : ((rd l0_0 x3_2) == 0) = true := beq_iff_eq.mpr c15
          have c15b1 : ((rd l0_0 x3_2) != 0) = false := bne_eq_false_iff_eq.mpr c15
          clear c15
          by_cases c16 : (rd l0_1 x3_2) = 0
          ·rw [if_pos c16] at H
           have c16b0 : ((rd l0_1 x3_2) == 0) = true := beq_iff_eq.mpr c16
           have c16b1 : ((rd l0_1 x3_2) != 0) = false := bne_eq_false_iff_eq.mpr c16
           clear c16
           have H' := Aside0.mk H
           clear H
           have hcz17_0 : wr.cell? ⟨gb549, 0, none⟩ = some (.slice A0_0 l0_0.length c0_0) := (blk_cell BK549.out 0).trans rfl
           have hcz17_1 : wr.cell? ⟨gb549, 1, none⟩ = some (.slice A0_1 l0_1.length c0_1) := (blk_cell BK549.out 1).trans rfl
           have hcz17_2 : wr.cell? ⟨gb549, 2, none⟩ = some (.int .i64 a0_2) := (blk_cell BK549.out 2).trans rfl
           have hcz17_3 : wr.cell? ⟨gb549, 3, none⟩ = some (.int .i64 a0_3) := (blk_cell BK549.out 3).trans rfl
           have hcz17_4 : wr.cell? ⟨gb549, 4, none⟩ = some (.slice A0_4 l0_4.length c0_4) := (blk_cell BK549.out 4).trans rfl
           have hcz17_5 : wr.cell? ⟨gb549, 5, none⟩ = some (.slice A0_5 l0_5.length c0_5) := (blk_cell BK549.out 5).trans rfl
           have hfz17_0 := blk_frozen BK549.out 0
           have hfz17_1 := blk_frozen BK549.out 1
           have hfz17_2 := blk_frozen BK549.out 2
           have hfz17_3 := blk_frozen BK549.out 3
           have hfz17_4 := blk_frozen BK549.out 4
           have hfz17_5 := blk_frozen BK549.out 5
           have p551 : 0 ≤ (x3_2 : Int) := of_decide_eq_true (by first | (with_reducible assumption) | assumption)
           have q551 : x3_2 < (l0_0.length : Int) := of_decide_eq_true (by first | (with_reducible assumption) | assumption)
           obtain ⟨ad551, e551, hx551_0⟩ := Kd.at_int HR0_0.out x3_2 p551 q551
           cases e551
           replace hx551_0 := (HB.out.cell (World.block_lt_of_cell? w _ hx551_0)).trans hx551_0
           replace p551 := eq_true p551
           replace q551 := eq_true q551
           have p552 : 0 ≤ (x3_2 : Int) := of_decide_eq_true (by first | (with_reducible assumption) | assumption)
           have q552 : x3_2 < (l0_1.length : Int) := of_decide_eq_true (by first | (with_reducible assumption) | assumption)
           obtain ⟨ad552, e552, hx552_0⟩ := Kd.at_int HR0_1.out x3_2 p552 q552
           cases e552
           replace hx552_0 := (HB.out.cell (World.block_lt_of_cell? w _ hx552_0)).trans hx552_0
           replace p552 := eq_true p552
           replace q552 := eq_true q552
           go_wp2
           repeat (go_quiet (fail); try go_wp2)
           go_roundg k2
           case measure => have := HJ1.out; have := HK2.out; omega
           case rel => exact ⟨(wrap64 (x3_2 + 1)), (by first | rfl | (simp; done) | (simp [*]; done)), H', ⟨by have := HJ1.out; have := HK2.out; omega⟩, ⟨by (with_reducible repeat (first | refine blk_drewN ?_ _ | refine blk_drew ?_ | refine blk_alloc ?_ _)); exact BK549.out⟩, ⟨by repeat (first | (with_reducible first | exact HB.out | apply below_alloc | apply pw_below_drewN | apply below_drew1 | refine below_set ?_ GE549.out) | exact HB.out)⟩⟩
          ·rw [if_neg c16] at H
           have c16b0 : ((rd l0_1 x3_2) == 0) = false := beq_eq_false_iff_ne.mpr c16
           have c16b1 : ((rd l0_1 x3_2) != 0) = true := bne_iff_ne.mpr c16
           by_cases c18 : (rd l0_0 x3_2) = 2
           ·rw [if_pos c18] at H
            have c18b0 : ((rd l0_0 x3_2) == 2) = true := beq_iff_eq.mpr c18
            have c18b1 : ((rd l0_0 x3_2) != 2) = false := bne_eq_false_iff_eq.mpr c18
            clear c18
            by_cases c19 : (rd l0_1 x3_2) = 3
            ·rw [if_pos c19] at H
             have c19b0 : ((rd l0_1 x3_2) == 3) = true := beq_iff_eq.mpr c19
             have c19b1 : ((rd l0_1 x3_2) != 3) = false := bne_eq_false_iff_eq.mpr c19
             clear c19
             have H' := Aside0.mk H
             clear H
             have hcz20_0 : wr.cell? ⟨gb549, 0, none⟩ = some (.slice A0_0 l0_0.length c0_0) := (blk_cell BK549.out 0).trans rfl
             have hcz20_1 : wr.cell? ⟨gb549, 1, none⟩ = some (.slice A0_1 l0_1.length c0_1) := (blk_cell BK549.out 1).trans rfl
             have hcz20_2 : wr.cell? ⟨gb549, 2, none⟩ = some (.int .i64 a0_2) := (blk_cell BK549.out 2).trans rfl
             have hcz20_3 : wr.cell? ⟨gb549, 3, none⟩ = some (.int .i64 a0_3) := (blk_cell BK549.out 3).trans rfl
             have hcz20_4 : wr.cell? ⟨gb549, 4, none⟩ = some (.slice A0_4 l0_4.length c0_4) := (blk_cell BK549.out 4).trans rfl
             have hcz20_5 : wr.cell? ⟨gb549, 5, none⟩ = some (.slice A0_5 l0_5.length c0_5) := (blk_cell BK549.out 5).trans rfl
             have hfz20_0 := blk_frozen BK549.out 0
             have hfz20_1 := blk_frozen BK549.out 1
             have hfz20_2 := blk_frozen BK549.out 2
             have hfz20_3 := blk_frozen BK549.out 3
             have hfz20_4 := blk_frozen BK549.out 4
             have hfz20_5 := blk_frozen BK549.out 5
             have p551 : 0 ≤ (x3_2 : Int) := of_decide_eq_true (by first | (with_reducible assumption) | assumption)
             have q551 : x3_2 < (l0_0.length : Int) := of_decide_eq_true (by first | (with_reducible assumption) | assumption)
             obtain ⟨ad551, e551, hx551_0⟩ := Kd.at_int HR0_0.out x3_2 p551 q551
             cases e551
             replace hx551_0 := (HB.out.cell (World.block_lt_of_cell? w _ hx551_0)).trans hx551_0
             replace p551 := eq_true p551
             replace q551 := eq_true q551
             have p552 : 0 ≤ (x3_2 : Int) := of_decide_eq_true (by first | (with_reducible assumption) | assumption)
             have q552 : x3_2 < (l0_1.length : Int) := of_decide_eq_true (by first | (with_reducible assumption) | assumption)
             obtain ⟨ad552, e552, hx552_0⟩ := Kd.at_int HR0_1.out x3_2 p552 q552
             cases e552
             replace hx552_0 := (HB.out.cell (World.block_lt_of_cell? w _ hx552_0)).trans hx552_0
             replace p552 := eq_true p552
             replace q552 := eq_true q552
             go_wp2
             repeat (go_quiet (fail); try go_wp2)
             go_roundg k2
             case measure => have := HJ1.out; have := HK2.out; omega
             case rel => exact ⟨(wrap64 (x3_2 + 1)), (by first | rfl | (simp; done) | (simp [*]; done)), H', ⟨by have := HJ1.out; have := HK2.out; omega⟩, ⟨by (with_reducible repeat (first | refine blk_drewN ?_ _ | refine blk_drew ?_ | refine blk_alloc ?_ _)); exact BK549.out⟩, ⟨by repeat (first | (with_reducible first | exact HB.out | apply below_alloc | apply pw_below_drewN | apply below_drew1 | refine below_set ?_ GE549.out) | exact HB.out)⟩⟩
            ·rw [if_neg c19] at H
             have c19b0 : ((rd l0_1 x3_2) == 3) = false := beq_eq_false_iff_ne.mpr c19
             have c19b1 : ((rd l0_1 x3_2) != 3) = true := bne_iff_ne.mpr c19
             by_cases c21 : (rd l0_0 x3_2) = 3
             ·rw [if_pos c21] at H
              have c21b0 : ((rd l0_0 x3_2) == 3) = true := beq_iff_eq.mpr c21
              have c21b1 : ((rd l0_0 x3_2) != 3) = false := bne_eq_false_iff_eq.mpr c21
              clear c21
              by_cases c22 : ((rd l0_1 x3_2) = 2)
              ·rw [if_pos c22] at H
               have c22b0 : ((rd l0_1 x3_2) == 2) = true := beq_iff_eq.mpr c22
               have c22b1 : ((rd l0_1 x3_2) != 2) = false := bne_eq_false_iff_eq.mpr c22
               clear c22
               have H' := Aside0.mk H
               clear H
               have hcz23_0 : wr.cell? ⟨gb549, 0, none⟩ = some (.slice A0_0 l0_0.length c0_0) := (blk_cell BK549.out 0).trans rfl
               have hcz23_1 : wr.cell? ⟨gb549, 1, none⟩ = some (.slice A0_1 l0_1.length c0_1) := (blk_cell BK549.out 1).trans rfl
               have hcz23_2 : wr.cell? ⟨gb549, 2, none⟩ = some (.int .i64 a0_2) := (blk_cell BK549.out 2).trans rfl
               have hcz23_3 : wr.cell? ⟨gb549, 3, none⟩ = some (.int .i64 a0_3) := (blk_cell BK549.out 3).trans rfl
               have hcz23_4 : wr.cell? ⟨gb549, 4, none⟩ = some (.slice A0_4 l0_4.length c0_4) := (blk_cell BK549.out 4).trans rfl
               have hcz23_5 : wr.cell? ⟨gb549, 5, none⟩ = some (.slice A0_5 l0_5.length c0_5) := (blk_cell BK549.out 5).trans rfl
               have hfz23_0 := blk_frozen BK549.out 0
               have hfz23_1 := blk_frozen BK549.out 1
               have hfz23_2 := blk_frozen BK549.out 2
               have hfz23_3 := blk_frozen BK549.out 3
               have hfz23_4 := blk_frozen BK549.out 4
               have hfz23_5 := blk_frozen BK549.out 5
               have p551 : 0 ≤ (x3_2 : Int) := of_decide_eq_true (by first | (with_reducible assumption) | assumption)
               have q551 : x3_2 < (l0_0.length : Int) := of_decide_eq_true (by first | (with_reducible assumption) | assumption)
               obtain ⟨ad551, e551, hx551_0⟩ := Kd.at_int HR0_0.out x3_2 p551 q551
               cases e551
               replace hx551_0 := (HB.out.cell (World.block_lt_of_cell? w _ hx551_0)).trans hx551_0
               replace p551 := eq_true p551
               replace q551 := eq_true q551
               have p552 : 0 ≤ (x3_2 : Int) := of_decide_eq_true (by first | (with_reducible assumption) | assumption)
               have q552 : x3_2 < (l0_1.length : Int) := of_decide_eq_true (by first | (with_reducible assumption) | assumption)
               obtain ⟨ad552, e552, hx552_0⟩ := Kd.at_int HR0_1.out x3_2 p552 q552
               cases e552
               replace hx552_0 := (HB.out.cell (World.block_lt_of_cell? w _ hx552_0)).trans hx552_0
               replace p552 := eq_true p552
               replace q552 := eq_true q552
               go_wp2
               repeat (go_quiet (fail); try go_wp2)
               go_roundg k2
               case measure => have := HJ1.out; have := HK2.out; omega
               case rel => exact ⟨(wrap64 (x3_2 + 1)), (by first | rfl | (simp; done) | (simp [*]; done)), H', ⟨by have := HJ1.out; have := HK2.out; omega⟩, ⟨by (with_reducible repeat (first | refine blk_drewN ?_ _ | refine blk_drew ?_ | refine blk_alloc ?_ _)); exact BK549.out⟩, ⟨by repeat (first | (with_reducible first | exact HB.out | apply below_alloc | apply pw_below_drewN | apply below_drew1 | refine below_set ?_ GE549.out) | exact HB.out)⟩⟩
              ·rw [if_neg c22] at H
               have c22b0 : ((rd l0_1 x3_2) == 2) = false := beq_eq_false_iff_ne.mpr c22
               have c22b1 : ((rd l0_1 x3_2) != 2) = true := bne_iff_ne.mpr c22
               obtain rfl := Option.some.inj H
               have hcz24_0 : wr.cell? ⟨gb549, 0, none⟩ = some (.slice A0_0 l0_0.length c0_0) := (blk_cell BK549.out 0).trans rfl
               have hcz24_1 : wr.cell? ⟨gb549, 1, none⟩ = some (.slice A0_1 l0_1.length c0_1) := (blk_cell BK549.out 1).trans rfl
               have hcz24_2 : wr.cell? ⟨gb549, 2, none⟩ = some (.int .i64 a0_2) := (blk_cell BK549.out 2).trans rfl
               have hcz24_3 : wr.cell? ⟨gb549, 3, none⟩ = some (.int .i64 a0_3) := (blk_cell BK549.out 3).trans rfl
               have hcz24_4 : wr.cell? ⟨gb549, 4, none⟩ = some (.slice A0_4 l0_4.length c0_4) := (blk_cell BK549.out 4).trans rfl
               have hcz24_5 : wr.cell? ⟨gb549, 5, none⟩ = some (.slice A0_5 l0_5.length c0_5) := (blk_cell BK549.out 5).trans rfl
               have hfz24_0 := blk_frozen BK549.out 0
               have hfz24_1 := blk_frozen BK549.out 1
               have hfz24_2 := blk_frozen BK549.out 2
               have hfz24_3 := blk_frozen BK549.out 3
               have hfz24_4 := blk_frozen BK549.out 4
               have hfz24_5 := blk_frozen BK549.out 5
               have p551 : 0 ≤ (x3_2 : Int) := of_decide_eq_true (by first | (with_reducible assumption) | assumption)
               have q551 : x3_2 < (l0_0.length : Int) := of_decide_eq_true (by first | (with_reducible assumption) | assumption)
               obtain ⟨ad551, e551, hx551_0⟩ := Kd.at_int HR0_0.out x3_2 p551 q551
               cases e551
               replace hx551_0 := (HB.out.cell (World.block_lt_of_cell? w _ hx551_0)).trans hx551_0
               replace p551 := eq_true p551
               replace q551 := eq_true q551
               have p552 : 0 ≤ (x3_2 : Int) := of_decide_eq_true (by first | (with_reducible assumption) | assumption)
               have q552 : x3_2 < (l0_1.length : Int) := of_decide_eq_true (by first | (with_reducible assumption) | assumption)
               obtain ⟨ad552, e552, hx552_0⟩ := Kd.at_int HR0_1.out x3_2 p552 q552
               cases e552
               replace hx552_0 := (HB.out.cell (World.block_lt_of_cell? w _ hx552_0)).trans hx552_0
               replace p552 := eq_true p552
               replace q552 := eq_true q552
               go_wp2
               repeat (go_quiet (fail); try go_wp2)
               go_ret
               exact ⟨by first | rfl | (simp [errW_none, errW_some] <;> rfl) | (simp [*, errW_none, errW_some] <;> rfl), by repeat (first | (with_reducible first | exact HB.out | apply below_alloc | apply pw_below_drewN | apply below_drew1 | refine below_set ?_ GE549.out) | exact HB.out)⟩
             ·rw [if_neg c21] at H
              have c21b0 : ((rd l0_0 x3_2) == 3) = false := beq_eq_false_iff_ne.mpr c21
              have c21b1 : ((rd l0_0 x3_2) != 3) = true := bne_iff_ne.mpr c21
              obtain rfl := Option.some.inj H
              have hcz25_0 : wr.cell? ⟨gb549, 0, none⟩ = some (.slice A0_0 l0_0.length c0_0) := (blk_cell BK549.out 0).trans rfl
              have hcz25_1 : wr.cell? ⟨gb549, 1, none⟩ = some (.slice A0_1 l0_1.length c0_1) := (blk_cell BK549.out 1).trans rfl
              have hcz25_2 : wr.cell? ⟨gb549, 2, none⟩ = some (.int .i64 a0_2) := (blk_cell BK549.out 2).trans rfl
              have hcz25_3 : wr.cell? ⟨gb549, 3, none⟩ = some (.int .i64 a0_3) := (blk_cell BK549.out 3).trans rfl
              have hcz25_4 : wr.cell? ⟨gb549, 4, none⟩ = some (.slice A0_4 l0_4.length c0_4) := (blk_cell BK549.out 4).trans rfl
              have hcz25_5 : wr.cell? ⟨gb549, 5, none⟩ = some (.slice A0_5 l0_5.length c0_5) := (blk_cell BK549.out 5).trans rfl
              have hfz25_0 := blk_frozen BK549.out 0
              have hfz25_1 := blk_frozen BK549.out 1
              have hfz25_2 := blk_frozen BK549.out 2
              have hfz25_3 := blk_frozen BK549.out 3
              have hfz25_4 := blk_frozen BK549.out 4
              have hfz25_5 := blk_frozen BK549.out 5
              have p551 : 0 ≤ (x3_2 : Int) := of_decide_eq_true (by first | (with_reducible assumption) | assumption)
              have q551 : x3_2 < (l0_0.length : Int) := of_decide_eq_true (by first | (with_reducible assumption) | assumption)
              obtain ⟨ad551, e551, hx551_0⟩ := Kd.at_int HR0_0.out x3_2 p551 q551
              cases e551
              replace hx551_0 := (HB.out.cell (World.block_lt_of_cell? w _ hx551_0)).trans hx551_0
              replace p551 := eq_true p551
              replace q551 := eq_true q551
              have p552 : 0 ≤ (x3_2 : Int) := of_decide_eq_true (by first | (with_reducible assumption) | assumption)
              have q552 : x3_2 < (l0_1.length : Int) := of_decide_eq_true (by first | (with_reducible assumption) | assumption)
              obtain ⟨ad552, e552, hx552_0⟩ := Kd.at_int HR0_1.out x3_2 p552 q552
              cases e552
              replace hx552_0 := (HB.out.cell (World.block_lt_of_cell? w _ hx552_0)).trans hx552_0
              replace p552 := eq_true p552
              replace q552 := eq_true q552
              go_wp2
              repeat (go_quiet (fail); try go_wp2)
              go_ret
              exact ⟨by first | rfl | (simp [errW_none, errW_some] <;> rfl) | (simp [*, errW_none, errW_some] <;> rfl), by repeat (first | (with_reducible first | exact HB.out | apply below_alloc | apply pw_below_drewN | apply below_drew1 | refine below_set ?_ GE549.out) | exact HB.out)⟩
           ·rw [if_neg c18] at H
            have c18b0 : ((rd l0_0 x3_2) == 2) = false := beq_eq_false_iff_ne.mpr c18
            have c18b1 : ((rd l0_0 x3_2) != 2) = true := bne_iff_ne.mpr c18
            by_cases c26 : (rd l0_0 x3_2) = 3
            ·rw [if_pos c26] at H
             have c26b0 : ((rd l0_0 x3_2) == 3) = true := beq_iff_eq.mpr c26
             have c26b1 : ((rd l0_0 x3_2) != 3) = false := bne_eq_false_iff_eq.mpr c26
             clear c26
             by_cases c27 : ((rd l0_1 x3_2) = 2)
             ·rw [if_pos c27] at H
              have c27b0 : ((rd l0_1 x3_2) == 2) = true := beq_iff_eq.mpr c27
              have c27b1 : ((rd l0_1 x3_2) != 2) = false := bne_eq_false_iff_eq.mpr c27
              clear c27
              have H' := Aside0.mk H
              clear H
              have hcz28_0 : wr.cell? ⟨gb549, 0, none⟩ = some (.slice A0_0 l0_0.length c0_0) := (blk_cell BK549.out 0).trans rfl
              have hcz28_1 : wr.cell? ⟨gb549, 1, none⟩ = some (.slice A0_1 l0_1.length c0_1) := (blk_cell BK549.out 1).trans rfl
              have hcz28_2 : wr.cell? ⟨gb549, 2, none⟩ = some (.int .i64 a0_2) := (blk_cell BK549.out 2).trans rfl
              have hcz28_3 : wr.cell? ⟨gb549, 3, none⟩ = some (.int .i64 a0_3) := (blk_cell BK549.out 3).trans rfl
              have hcz28_4 : wr.cell? ⟨gb549, 4, none⟩ = some (.slice A0_4 l0_4.length c0_4) := (blk_cell BK549.out 4).trans rfl
              have hcz28_5 : wr.cell? ⟨gb549, 5, none⟩ = some (.slice A0_5 l0_5.length c0_5) := (blk_cell BK549.out 5).trans rfl
              have hfz28_0 := blk_frozen BK549.out 0
              have hfz28_1 := blk_frozen BK549.out 1
              have hfz28_2 := blk_frozen BK549.out 2
              have hfz28_3 := blk_frozen BK549.out 3
              have hfz28_4 := blk_frozen BK549.out 4
              have hfz28_5 := blk_frozen BK549.out 5
              have p551 : 0 ≤ (x3_2 : Int) := of_decide_eq_true (by first | (with_reducible assumption) | assumption)
              have q551 : x3_2 < (l0_0.length : Int) := of_decide_eq_true (by first | (with_reducible assumption) | assumption)
              obtain ⟨ad551, e551, hx551_0⟩ := Kd.at_int HR0_0.out x3_2 p551 q551
              cases e551
              replace hx551_0 := (HB.out.cell (World.block_lt_of_cell? w _ hx551_0)).trans hx551_0
              replace p551 := eq_true p551
              replace q551 := eq_true q551
              have p552 : 0 ≤ (x3_2 : Int) := of_decide_eq_true (by first | (with_reducible assumption) | assumption)
              have q552 : x3_2 < (l0_1.length : Int) := of_decide_eq_true (by first | (with_reducible assumption) | assumption)
              obtain ⟨ad552, e552, hx552_0⟩ := Kd.at_int HR0_1.out x3_2 p552 q552
              cases e552
              replace hx552_0 := (HB.out.cell (World.block_lt_of_cell? w _ hx552_0)).trans hx552_0
              replace p552 := eq_true p552
              replace q552 := eq_true q552
              go_wp2
              repeat (go_quiet (fail); try go_wp2)
              go_roundg k2
              case measure => have := HJ1.out; have := HK2.out; omega
              case rel => exact ⟨(wrap64 (x3_2 + 1)), (by first | rfl | (simp; done) | (simp [*]; done)), H', ⟨by have := HJ1.out; have := HK2.out; omega⟩, ⟨by (with_reducible repeat (first | refine blk_drewN ?_ _ | refine blk_drew ?_ | refine blk_alloc ?_ _)); exact BK549.out⟩, ⟨by repeat (first | (with_reducible first | exact HB.out | apply below_alloc | apply pw_below_drewN | apply below_drew1 | refine below_set ?_ GE549.out) | exact HB.out)⟩⟩
             ·rw [if_neg c27] at H
              have c27b0 : ((rd l0_1 x3_2) == 2) = false := beq_eq_false_iff_ne.mpr c27
              have c27b1 : ((rd l0_1 x3_2) != 2) = true := bne_iff_ne.mpr c27
              obtain rfl := Option.some.inj H
              have hcz29_0 : wr.cell? ⟨gb549, 0, none⟩ = some (.slice A0_0 l0_0.length c0_0) := (blk_cell BK549.out 0).trans rfl
              have hcz29_1 : wr.cell? ⟨gb549, 1, none⟩ = some (.slice A0_1 l0_1.length c0_1) := (blk_cell BK549.out 1).trans rfl
              have hcz29_2 : wr.cell? ⟨gb549, 2, none⟩ = some (.int .i64 a0_2) := (blk_cell BK549.out 2).trans rfl
              have hcz29_3 : wr.cell? ⟨gb549, 3, none⟩ = some (.int .i64 a0_3) := (blk_cell BK549.out 3).trans rfl
              have hcz29_4 : wr.cell? ⟨gb549, 4, none⟩ = some (.slice A0_4 l0_4.length c0_4) := (blk_cell BK549.out 4).trans rfl
              have hcz29_5 : wr.cell? ⟨gb549, 5, none⟩ = some (.slice A0_5 l0_5.length c0_5) := (blk_cell BK549.out 5).trans rfl
              have hfz29_0 := blk_frozen BK549.out 0
              have hfz29_1 := blk_frozen BK549.out 1
              have hfz29_2 := blk_frozen BK549.out 2
              have hfz29_3 := blk_frozen BK549.out 3
              have hfz29_4 := blk_frozen BK549.out 4
              have hfz29_5 := blk_frozen BK549.out 5
              have p551 : 0 ≤ (x3_2 : Int) := of_decide_eq_true (by first | (with_reducible assumption) | assumption)
              have q551 : x3_2 < (l0_0.length : Int) := of_decide_eq_true (by first | (with_reducible assumption) | assumption)
              obtain ⟨ad551, e551, hx551_0⟩ := Kd.at_int HR0_0.out x3_2 p551 q551
              cases e551
              replace hx551_0 := (HB.out.cell (World.block_lt_of_cell? w _ hx551_0)).trans hx551_0
              replace p551 := eq_true p551
              replace q551 := eq_true q551
              have p552 : 0 ≤ (x3_2 : Int) := of_decide_eq_true (by first | (with_reducible assumption) | assumption)
              have q552 : x3_2 < (l0_1.length : Int) := of_decide_eq_true (by first | (with_reducible assumption) | assumption)
              obtain ⟨ad552, e552, hx552_0⟩ := Kd.at_int HR0_1.out x3_2 p552 q552
              cases e552
              replace hx552_0 := (HB.out.cell (World.block_lt_of_cell? w _ hx552_0)).trans hx552_0
              replace p552 := eq_true p552
              replace q552 := eq_true q552
              go_wp2
              repeat (go_quiet (fail); try go_wp2)
              go_ret
              exact ⟨by first | rfl | (simp [errW_none, errW_some] <;> rfl) | (simp [*, errW_none, errW_some] <;> rfl), by repeat (first | (with_reducible first | exact HB.out | apply below_alloc | apply pw_below_drewN | apply below_drew1 | refine below_set ?_ GE549.out) | exact HB.out)⟩
            ·rw [if_neg c26] at H
             have c26b0 : ((rd l0_0 x3_2) == 3) = false := beq_eq_false_iff_ne.mpr c26
             have c26b1 : ((rd l0_0 x3_2) != 3) = true := bne_iff_ne.mpr c26
             obtain rfl := Option.some.inj H
             have hcz30_0 : wr.cell? ⟨gb549, 0, none⟩ = some (.slice A0_0 l0_0.length c0_0) := (blk_cell BK549.out 0).trans rfl
             have hcz30_1 : wr.cell? ⟨gb549, 1, none⟩ = some (.slice A0_1 l0_1.length c0_1) := (blk_cell BK549.out 1).trans rfl
             have hcz30_2 : wr.cell? ⟨gb549, 2, none⟩ = some (.int .i64 a0_2) := (blk_cell BK549.out 2).trans rfl
             have hcz30_3 : wr.cell? ⟨gb549, 3, none⟩ = some (.int .i64 a0_3) := (blk_cell BK549.out 3).trans rfl
             have hcz30_4 : wr.cell? ⟨gb549, 4, none⟩ = some (.slice A0_4 l0_4.length c0_4) := (blk_cell BK549.out 4).trans rfl
             have hcz30_5 : wr.cell? ⟨gb549, 5, none⟩ = some (.slice A0_5 l0_5.length c0_5) := (blk_cell BK549.out 5).trans rfl
             have hfz30_0 := blk_frozen BK549.out 0
             have hfz30_1 := blk_frozen BK549.out 1
             have hfz30_2 := blk_frozen BK549.out 2
             have hfz30_3 := blk_frozen BK549.out 3
             have hfz30_4 := blk_frozen BK549.out 4
             have hfz30_5 := blk_frozen BK549.out 5
             have p551 : 0 ≤ (x3_2 : Int) := of_decide_eq_true (by first | (with_reducible assumption) | assumption)
             have q551 : x3_2 < (l0_0.length : Int) := of_decide_eq_true (by first | (with_reducible assumption) | assumption)
             obtain ⟨ad551, e551, hx551_0⟩ := Kd.at_int HR0_0.out x3_2 p551 q551
             cases e551
             replace hx551_0 := (HB.out.cell (World.block_lt_of_cell? w _ hx551_0)).trans hx551_0
             replace p551 := eq_true p551
             replace q551 := eq_true q551
             have p552 : 0 ≤ (x3_2 : Int) := of_decide_eq_true (by first | (with_reducible assumption) | assumption)
             have q552 : x3_2 < (l0_1.length : Int) := of_decide_eq_true (by first | (with_reducible assumption) | assumption)
             obtain ⟨ad552, e552, hx552_0⟩ := Kd.at_int HR0_1.out x3_2 p552 q552
             cases e552
             replace hx552_0 := (HB.out.cell (World.block_lt_of_cell? w _ hx552_0)).trans hx552_0
             replace p552 := eq_true p552
             replace q552 := eq_true q552
             go_wp2
             repeat (go_quiet (fail); try go_wp2)
             go_ret
             exact ⟨by first | rfl | (simp [errW_none, errW_some] <;> rfl) | (simp [*, errW_none, errW_some] <;> rfl), by repeat (first | (with_reducible first | exact HB.out | apply below_alloc | apply pw_below_drewN | apply below_drew1 | refine below_set ?_ GE549.out) | exact HB.out)⟩
         ·rw [if_neg c15] at H
          have c15b0 : ((rd l0_0 x3_2) == 0) = false := beq_eq_false_iff_ne.mpr c15
          have c15b1 : ((rd l0_0 x3_2) != 0) = true := bne_iff_ne.mpr c15
          by_cases c31 : (rd l0_0 x3_2) = 2
          ·rw [if_pos c31] at H
           have c31b0 : ((rd l0_0 x3_2) == 2) = true := beq_iff_eq.mpr c31
           have c31b1 : ((rd l0_0 x3_2) != 2) = false := bne_eq_false_iff_eq.mpr c31
           clear c31
           by_cases c32 : (rd l0_1 x3_2) = 3
           ·rw [if_pos c32] at H
            have c32b0 : ((rd l0_1 x3_2) == 3) = true := beq_iff_eq.mpr c32
            have c32b1 : ((rd l0_1 x3_2) != 3) = false := bne_eq_false_iff_eq.mpr c32
            clear c32
            have H' := Aside0.mk H
            clear H
            have hcz33_0 : wr.cell? ⟨gb549, 0, none⟩ = some (.slice A0_0 l0_0.length c0_0) := (blk_cell BK549.out 0).trans rfl
            have hcz33_1 : wr.cell? ⟨gb549, 1, none⟩ = some (.slice A0_1 l0_1.length c0_1) := (blk_cell BK549.out 1).trans rfl
            have hcz33_2 : wr.cell? ⟨gb549, 2, none⟩ = some (.int .i64 a0_2) := (blk_cell BK549.out 2).trans rfl
            have hcz33_3 : wr.cell? ⟨gb549, 3, none⟩ = some (.int .i64 a0_3) := (blk_cell BK549.out 3).trans rfl
            have hcz33_4 : wr.cell? ⟨gb549, 4, none⟩ = some (.slice A0_4 l0_4.length c0_4) := (blk_cell BK549.out 4).trans rfl
            have hcz33_5 : wr.cell? ⟨gb549, 5, none⟩ = some (.slice A0_5 l0_5.length c0_5) := (blk_cell BK549.out 5).trans rfl
            have hfz33_0 := blk_frozen BK549.out 0
            have hfz33_1 := blk_frozen BK549.out 1
            have hfz33_2 := blk_frozen BK549.out 2
            have hfz33_3 := blk_frozen BK549.out 3
            have hfz33_4 := blk_frozen BK549.out 4
            have hfz33_5 := blk_frozen BK549.out 5
            have p551 : 0 ≤ (x3_2 : Int) := of_decide_eq_true (by first | (with_reducible assumption) | assumption)
            have q551 : x3_2 < (l0_0.length : Int) := of_decide_eq_true (by first | (with_reducible assumption) | assumption)
            obtain ⟨ad551, e551, hx551_0⟩ := Kd.at_int HR0_0.out x3_2 p551 q551
            cases e551
            replace hx551_0 := (HB.out.cell (World.block_lt_of_cell? w _ hx551_0)).trans hx551_0
            replace p551 := eq_true p551
            replace q551 := eq_true q551
            have p552 : 0 ≤ (x3_2 : Int) := of_decide_eq_true (by first | (with_reducible assumption) | assumption)
            have q552 : x3_2 < (l0_1.length : Int) := of_decide_eq_true (by first | (with_reducible assumption) | assumption)
            obtain ⟨ad552, e552, hx552_0⟩ := Kd.at_int HR0_1.out x3_2 p552 q552
            cases e552
            replace hx552_0 := (HB.out.cell (World.block_lt_of_cell? w _ hx552_0)).trans hx552_0
            replace p552 := eq_true p552
            replace q552 := eq_true q552
            go_wp2
            repeat (go_quiet (fail); try go_wp2)
            go_roundg k2
            case measure => have := HJ1.out; have := HK2.out; omega
            case rel => exact ⟨(wrap64 (x3_2 + 1)), (by first | rfl | (simp; done) | (simp [*]; done)), H', ⟨by have := HJ1.out; have := HK2.out; omega⟩, ⟨by (with_reducible repeat (first | refine blk_drewN ?_ _ | refine blk_drew ?_ | refine blk_alloc ?_ _)); exact BK549.out⟩, ⟨by repeat (first | (with_reducible first | exact HB.out | apply below_alloc | apply pw_below_drewN | apply below_drew1 | refine below_set ?_ GE549.out) | exact HB.out)⟩⟩
           ·rw [if_neg c32] at H
            have c32b0 : ((rd l0_1 x3_2) == 3) = false := beq_eq_false_iff_ne.mpr c32
            have c32b1 : ((rd l0_1 x3_2) != 3) = true := bne_iff_ne.mpr c32
            by_cases c34 : (rd l0_0 x3_2) = 3
            ·rw [if_pos c34] at H
             have c34b0 : ((rd l0_0 x3_2) == 3) = true := beq_iff_eq.mpr c34
             have c34b1 : ((rd l0_0 x3_2) != 3) = false := bne_eq_false_iff_eq.mpr c34
             clear c34
             by_cases c35 : ((rd l0_1 x3_2) = 2)
             ·rw [if_pos c35] at H
              have c35b0 : ((rd l0_1 x3_2) == 2) = true := beq_iff_eq.mpr c35
              have c35b1 : ((rd l0_1 x3_2) != 2) = false := bne_eq_false_iff_eq.mpr c35
              clear c35
              have H' := Aside0.mk H
              clear H
              have hcz36_0 : wr.cell? ⟨gb549, 0, none⟩ = some (.slice A0_0 l0_0.length c0_0) := (blk_cell BK549.out 0).trans rfl
              have hcz36_1 : wr.cell? ⟨gb549, 1, none⟩ = some (.slice A0_1 l0_1.length c0_1) := (blk_cell BK549.out 1).trans rfl
              have hcz36_2 : wr.cell? ⟨gb549, 2, none⟩ = some (.int .i64 a0_2) := (blk_cell BK549.out 2).trans rfl
              have hcz36_3 : wr.cell? ⟨gb549, 3, none⟩ = some (.int .i64 a0_3) := (blk_cell BK549.out 3).trans rfl
              have hcz36_4 : wr.cell? ⟨gb549, 4, none⟩ = some (.slice A0_4 l0_4.length c0_4) := (blk_cell BK549.out 4).trans rfl
              have hcz36_5 : wr.cell? ⟨gb549, 5, none⟩ = some (.slice A0_5 l0_5.length c0_5) := (blk_cell BK549.out 5).trans rfl
              have hfz36_0 := blk_frozen BK549.out 0
              have hfz36_1 := blk_frozen BK549.out 1
              have hfz36_2 := blk_frozen BK549.out 2
              have hfz36_3 := blk_frozen BK549.out 3
              have hfz36_4 := blk_frozen BK549.out 4
              have hfz36_5 := blk_frozen BK549.out 5
              have p551 : 0 ≤ (x3_2 : Int) := of_decide_eq_true (by first | (with_reducible assumption) | assumption)
              have q551 : x3_2 < (l0_0.length : Int) := of_decide_eq_true (by first | (with_reducible assumption) | assumption)
              obtain ⟨ad551, e551, hx551_0⟩ := Kd.at_int HR0_0.out x3_2 p551 q551
              cases e551
              replace hx551_0 := (HB.out.cell (World.block_lt_of_cell? w _ hx551_0)).trans hx551_0
              replace p551 := eq_true p551
              replace q551 := eq_true q551
              have p552 : 0 ≤ (x3_2 : Int) := of_decide_eq_true (by first | (with_reducible assumption) | assumption)
              have q552 : x3_2 < (l0_1.length : Int) := of_decide_eq_true (by first | (with_reducible assumption) | assumption)
              obtain ⟨ad552, e552, hx552_0⟩ := Kd.at_int HR0_1.out x3_2 p552 q552
              cases e552
              replace hx552_0 := (HB.out.cell (World.block_lt_of_cell? w _ hx552_0)).trans hx552_0
              replace p552 := eq_true p552
              replace q552 := eq_true q552
              go_wp2
              repeat (go_quiet (fail); try go_wp2)
              go_roundg k2
              case measure => have := HJ1.out; have := HK2.out; omega
              case rel => exact ⟨(wrap64 (x3_2 + 1)), (by first | rfl | (simp; done) | (simp [*]; done)), H', ⟨by have := HJ1.out; have := HK2.out; omega⟩, ⟨by (with_reducible repeat (first | refine blk_drewN ?_ _ | refine blk_drew ?_ | refine blk_alloc ?_ _)); exact BK549.out⟩, ⟨by repeat (first | (with_reducible first | exact HB.out | apply below_alloc | apply pw_below_drewN | apply below_drew1 | refine below_set ?_ GE549.out) | exact HB.out)⟩⟩
             ·rw [if_neg c35] at H
              have c35b0 : ((rd l0_1 x3_2) == 2) = false := beq_eq_false_iff_ne.mpr c35
              have c35b1 : ((rd l0_1 x3_2) != 2) = true := bne_iff_ne.mpr c35
              obtain rfl := Option.some.inj H
              have hcz37_0 : wr.cell? ⟨gb549, 0, none⟩ = some (.slice A0_0 l0_0.length c0_0) := (blk_cell BK549.out 0).trans rfl
              have hcz37_1 : wr.cell? ⟨gb549, 1, none⟩ = some (.slice A0_1 l0_1.length c0_1) := (blk_cell BK549.out 1).trans rfl
              have hcz37_2 : wr.cell? ⟨gb549, 2, none⟩ = some (.int .i64 a0_2) := (blk_cell BK549.out 2).trans rfl
              have hcz37_3 : wr.cell? ⟨gb549, 3, none⟩ = some (.int .i64 a0_3) := (blk_cell BK549.out 3).trans rfl
              have hcz37_4 : wr.cell? ⟨gb549, 4, none⟩ = some (.slice A0_4 l0_4.length c0_4) := (blk_cell BK549.out 4).trans rfl
              have hcz37_5 : wr.cell? ⟨gb549, 5, none⟩ = some (.slice A0_5 l0_5.length c0_5) := (blk_cell BK549.out 5).trans rfl
              have hfz37_0 := blk_frozen BK549.out 0
              have hfz37_1 := blk_frozen BK549.out 1
              have hfz37_2 := blk_frozen BK549.out 2
              have hfz37_3 := blk_frozen BK549.out 3
              have hfz37_4 := blk_frozen BK549.out 4
              have hfz37_5 := blk_frozen BK549.out 5
              have p551 : 0 ≤ (x3_2 : Int) := of_decide_eq_true (by first | (with_reducible assumption) | assumption)
              have q551 : x3_2 < (l0_0.length : Int) := of_decide_eq_true (by first | (with_reducible assumption) | assumption)
              obtain ⟨ad551, e551, hx551_0⟩ := Kd.at_int HR0_0.out x3_2 p551 q551
              cases e551
              replace hx551_0 := (HB.out.cell (World.block_lt_of_cell? w _ hx551_0)).trans hx551_0
              replace p551 := eq_true p551
              replace q551 := eq_true q551
              have p552 : 0 ≤ (x3_2 : Int) := of_decide_eq_true (by first | (with_reducible assumption) | assumption)
              have q552 : x3_2 < (l0_1.length : Int) := of_decide_eq_true (by first | (with_reducible assumption) | assumption)
              obtain ⟨ad552, e552, hx552_0⟩ := Kd.at_int HR0_1.out x3_2 p552 q552
              cases e552
              replace hx552_0 := (HB.out.cell (World.block_lt_of_cell? w _ hx552_0)).trans hx552_0
              replace p552 := eq_true p552
              replace q552 := eq_true q552
              go_wp2
              repeat (go_quiet (fail); try go_wp2)
              go_ret
              exact ⟨by first | rfl | (simp [errW_none, errW_some] <;> rfl) | (simp [*, errW_none, errW_some] <;> rfl), by repeat (first | (with_reducible first | exact HB.out | apply below_alloc | apply pw_below_drewN | apply below_drew1 | refine below_set ?_ GE549.out) | exact HB.out)⟩
            ·rw [if_neg c34] at H
             have c34b0 : ((rd l0_0 x3_2) == 3) = false := beq_eq_false_iff_ne.mpr c34
             have c34b1 : ((rd l0_0 x3_2) != 3) = true := bne_iff_ne.mpr c34
             obtain rfl := Option.some.inj H
             have hcz38_0 : wr.cell? ⟨gb549, 0, none⟩ = some (.slice A0_0 l0_0.length c0_0) := (blk_cell BK549.out 0).trans rfl
             have hcz38_1 : wr.cell? ⟨gb549, 1, none⟩ = some (.slice A0_1 l0_1.length c0_1) := (blk_cell BK549.out 1).trans rfl
             have hcz38_2 : wr.cell? ⟨gb549, 2, none⟩ = some (.int .i64 a0_2) := (blk_cell BK549.out 2).trans rfl
             have hcz38_3 : wr.cell? ⟨gb549, 3, none⟩ = some (.int .i64 a0_3) := (blk_cell BK549.out 3).trans rfl
             have hcz38_4 : wr.cell? ⟨gb549, 4, none⟩ = some (.slice A0_4 l0_4.length c0_4) := (blk_cell BK549.out 4).trans rfl
             have hcz38_5 : wr.cell? ⟨gb549, 5, none⟩ = some (.slice A0_5 l0_5.length c0_5) := (blk_cell BK549.out 5).trans rfl
             have hfz38_0 := blk_frozen BK549.out 0
             have hfz38_1 := blk_frozen BK549.out 1
             have hfz38_2 := blk_frozen BK549.out 2
             have hfz38_3 := blk_frozen BK549.out 3
             have hfz38_4 := blk_frozen BK549.out 4
             have hfz38_5 := blk_frozen BK549.out 5
             have p551 : 0 ≤ (x3_2 : Int) := of_decide_eq_true (by first | (with_reducible assumption) | assumption)
             have q551 : x3_2 < (l0_0.length : Int) := of_decide_eq_true (by first | (with_reducible assumption) | assumption)
             obtain ⟨ad551, e551, hx551_0⟩ := Kd.at_int HR0_0.out x3_2 p551 q551
             cases e551
             replace hx551_0 := (HB.out.cell (World.block_lt_of_cell? w _ hx551_0)).trans hx551_0
             replace p551 := eq_true p551
             replace q551 := eq_true q551
             have p552 : 0 ≤ (x3_2 : Int) := of_decide_eq_true (by first | (with_reducible assumption) | assumption)
             have q552 : x3_2 < (l0_1.length : Int) := of_decide_eq_true (by first | (with_reducible assumption) | assumption)
             obtain ⟨ad552, e552, hx552_0⟩ := Kd.at_int HR0_1.out x3_2 p552 q552
             cases e552
             replace hx552_0 := (HB.out.cell (World.block_lt_of_cell? w _ hx552_0)).trans hx552_0
             replace p552 := eq_true p552
             replace q552 := eq_true q552
             go_wp2
             repeat (go_quiet (fail); try go_wp2)
             go_ret
             exact ⟨by first | rfl | (simp [errW_none, errW_some] <;> rfl) | (simp [*, errW_none, errW_some] <;> rfl), by repeat (first | (with_reducible first | exact HB.out | apply below_alloc | apply pw_below_drewN | apply below_drew1 | refine below_set ?_ GE549.out) | exact HB.out)⟩
          ·rw [if_neg c31] at H
           have c31b0 : ((rd l0_0 x3_2) == 2) = false := beq_eq_false_iff_ne.mpr c31
           have c31b1 : ((rd l0_0 x3_2) != 2) = true := bne_iff_ne.mpr c31
           by_cases c39 : (rd l0_0 x3_2) = 3
           ·rw [if_pos c39] at H
            have c39b0 : ((rd l0_0 x3_2) == 3) = true := beq_iff_eq.mpr c39
            have c39b1 : ((rd l0_0 x3_2) != 3) = false := bne_eq_false_iff_eq.mpr c39
            clear c39
            by_cases c40 : ((rd l0_1 x3_2) = 2)
            ·rw [if_pos c40] at H
             have c40b0 : ((rd l0_1 x3_2) == 2) = true := beq_iff_eq.mpr c40
             have c40b1 : ((rd l0_1 x3_2) != 2) = false := bne_eq_false_iff_eq.mpr c40
             clear c40
             have H' := Aside0.mk H
             clear H
             have hcz41_0 : wr.cell? ⟨gb549, 0, none⟩ = some (.slice A0_0 l0_0.length c0_0) := (blk_cell BK549.out 0).trans rfl
             have hcz41_1 : wr.cell? ⟨gb549, 1, none⟩ = some (.slice A0_1 l0_1.length c0_1) := (blk_cell BK549.out 1).trans rfl
             have hcz41_2 : wr.cell? ⟨gb549, 2, none⟩ = some (.int .i64 a0_2) := (blk_cell BK549.out 2).trans rfl
             have hcz41_3 : wr.cell? ⟨gb549, 3, none⟩ = some (.int .i64 a0_3) := (blk_cell BK549.out 3).trans rfl
             have hcz41_4 : wr.cell? ⟨gb549, 4, none⟩ = some (.slice A0_4 l0_4.length c0_4) := (blk_cell BK549.out 4).trans rfl
             have hcz41_5 : wr.cell? ⟨gb549, 5, none⟩ = some (.slice A0_5 l0_5.length c0_5) := (blk_cell BK549.out 5).trans rfl
             have hfz41_0 := blk_frozen BK549.out 0
             have hfz41_1 := blk_frozen BK549.out 1
             have hfz41_2 := blk_frozen BK549.out 2
             have hfz41_3 := blk_frozen BK549.out 3
             have hfz41_4 := blk_frozen BK549.out 4
             have hfz41_5 := blk_frozen BK549.out 5
             have p551 : 0 ≤ (x3_2 : Int) := of_decide_eq_true (by first | (with_reducible assumption) | assumption)
             have q551 : x3_2 < (l0_0.length : Int) := of_decide_eq_true (by first | (with_reducible assumption) | assumption)
             obtain ⟨ad551, e551, hx551_0⟩ := Kd.at_int HR0_0.out x3_2 p551 q551
             cases e551
             replace hx551_0 := (HB.out.cell (World.block_lt_of_cell? w _ hx551_0)).trans hx551_0
             replace p551 := eq_true p551
             replace q551 := eq_true q551
             have p552 : 0 ≤ (x3_2 : Int) := of_decide_eq_true (by first | (with_reducible assumption) | assumption)
             have q552 : x3_2 < (l0_1.length : Int) := of_decide_eq_true (by first | (with_reducible assumption) | assumption)
             obtain ⟨ad552, e552, hx552_0⟩ := Kd.at_int HR0_1.out x3_2 p552 q552
             cases e552
             replace hx552_0 := (HB.out.cell (World.block_lt_of_cell? w _ hx552_0)).trans hx552_0
             replace p552 := eq_true p552
             replace q552 := eq_true q552
             go_wp2
             repeat (go_quiet (fail); try go_wp2)
             go_roundg k2
             case measure => have := HJ1.out; have := HK2.out; omega
             case rel => exact ⟨(wrap64 (x3_2 + 1)), (by first | rfl | (simp; done) | (simp [*]; done)), H', ⟨by have := HJ1.out; have := HK2.out; omega⟩, ⟨by (with_reducible repeat (first | refine blk_drewN ?_ _ | refine blk_drew ?_ | refine blk_alloc ?_ _)); exact BK549.out⟩, ⟨by repeat (first | (with_reducible first | exact HB.out | apply below_alloc | apply pw_below_drewN | apply below_drew1 | refine below_set ?_ GE549.out) | exact HB.out)⟩⟩
            ·rw [if_neg c40] at H
             have c40b0 : ((rd l0_1 x3_2) == 2) = false := beq_eq_false_iff_ne.mpr c40
             have c40b1 : ((rd l0_1 x3_2) != 2) = true := bne_iff_ne.mpr c40
             obtain rfl := Option.some.inj H
             have hcz42_0 : wr.cell? ⟨gb549, 0, none⟩ = some (.slice A0_0 l0_0.length c0_0) := (blk_cell BK549.out 0).trans rfl
             have hcz42_1 : wr.cell? ⟨gb549, 1, none⟩ = some (.slice A0_1 l0_1.length c0_1) := (blk_cell BK549.out 1).trans rfl
             have hcz42_2 : wr.cell? ⟨gb549, 2, none⟩ = some (.int .i64 a0_2) := (blk_cell BK549.out 2).trans rfl
             have hcz42_3 : wr.cell? ⟨gb549, 3, none⟩ = some (.int .i64 a0_3) := (blk_cell BK549.out 3).trans rfl
             have hcz42_4 : wr.cell? ⟨gb549, 4, none⟩ = some (.slice A0_4 l0_4.length c0_4) := (blk_cell BK549.out 4).trans rfl
             have hcz42_5 : wr.cell? ⟨gb549, 5, none⟩ = some (.slice A0_5 l0_5.length c0_5) := (blk_cell BK549.out 5).trans rfl
             have hfz42_0 := blk_frozen BK549.out 0
             have hfz42_1 := blk_frozen BK549.out 1
             have hfz42_2 := blk_frozen BK549.out 2
             have hfz42_3 := blk_frozen BK549.out 3
             have hfz42_4 := blk_frozen BK549.out 4
             have hfz42_5 := blk_frozen BK549.out 5
             have p551 : 0 ≤ (x3_2 : Int) := of_decide_eq_true (by first | (with_reducible assumption) | assumption)
             have q551 : x3_2 < (l0_0.length : Int) := of_decide_eq_true (by first | (with_reducible assumption) | assumption)
             obtain ⟨ad551, e551, hx551_0⟩ := Kd.at_int HR0_0.out x3_2 p551 q551
             cases e551
             replace hx551_0 := (HB.out.cell (World.block_lt_of_cell? w _ hx551_0)).trans hx551_0
             replace p551 := eq_true p551
             replace q551 := eq_true q551
             have p552 : 0 ≤ (x3_2 : Int) := of_decide_eq_true (by first | (with_reducible assumption) | assumption)
             have q552 : x3_2 < (l0_1.length : Int) := of_decide_eq_true (by first | (with_reducible assumption) | assumption)
             obtain ⟨ad552, e552, hx552_0⟩ := Kd.at_int HR0_1.out x3_2 p552 q552
             cases e552
             replace hx552_0 := (HB.out.cell (World.block_lt_of_cell? w _ hx552_0)).trans hx552_0
             replace p552 := eq_true p552
             replace q552 := eq_true q552
             go_wp2
             repeat (go_quiet (fail); try go_wp2)
             go_ret
             exact ⟨by first | rfl | (simp [errW_none, errW_some] <;> rfl) | (simp [*, errW_none, errW_some] <;> rfl), by repeat (first | (with_reducible first | exact HB.out | apply below_alloc | apply pw_below_drewN | apply below_drew1 | refine below_set ?_ GE549.out) | exact HB.out)⟩
           ·rw [if_neg c39] at H
            have c39b0 : ((rd l0_0 x3_2) == 3) = false := beq_eq_false_iff_ne.mpr c39
            have c39b1 : ((rd l0_0 x3_2) != 3) = true := bne_iff_ne.mpr c39
            obtain rfl := Option.some.inj H
            have hcz43_0 : wr.cell? ⟨gb549, 0, none⟩ = some (.slice A0_0 l0_0.length c0_0) := (blk_cell BK549.out 0).trans rfl
            have hcz43_1 : wr.cell? ⟨gb549, 1, none⟩ = some (.slice A0_1 l0_1.length c0_1) := (blk_cell BK549.out 1).trans rfl
            have hcz43_2 : wr.cell? ⟨gb549, 2, none⟩ = some (.int .i64 a0_2) := (blk_cell BK549.out 2).trans rfl
            have hcz43_3 : wr.cell? ⟨gb549, 3, none⟩ = some (.int .i64 a0_3) := (blk_cell BK549.out 3).trans rfl
            have hcz43_4 : wr.cell? ⟨gb549, 4, none⟩ = some (.slice A0_4 l0_4.length c0_4) := (blk_cell BK549.out 4).trans rfl
            have hcz43_5 : wr.cell? ⟨gb549, 5, none⟩ = some (.slice A0_5 l0_5.length c0_5) := (blk_cell BK549.out 5).trans rfl
            have hfz43_0 := blk_frozen BK549.out 0
            have hfz43_1 := blk_frozen BK549.out 1
            have hfz43_2 := blk_frozen BK549.out 2
            have hfz43_3 := blk_frozen BK549.out 3
            have hfz43_4 := blk_frozen BK549.out 4
            have hfz43_5 := blk_frozen BK549.out 5
            have p551 : 0 ≤ (x3_2 : Int) := of_decide_eq_true (by first | (with_reducible assumption) | assumption)
            have q551 : x3_2 < (l0_0.length : Int) := of_decide_eq_true (by first | (with_reducible assumption) | assumption)
            obtain ⟨ad551, e551, hx551_0⟩ := Kd.at_int HR0_0.out x3_2 p551 q551
            cases e551
            replace hx551_0 := (HB.out.cell (World.block_lt_of_cell? w _ hx551_0)).trans hx551_0
            replace p551 := eq_true p551
            replace q551 := eq_true q551
            have p552 : 0 ≤ (x3_2 : Int) := of_decide_eq_true (by first | (with_reducible assumption) | assumption)
            have q552 : x3_2 < (l0_1.length : Int) := of_decide_eq_true (by first | (with_reducible assumption) | assumption)
            obtain ⟨ad552, e552, hx552_0⟩ := Kd.at_int HR0_1.out x3_2 p552 q552
            cases e552
            replace hx552_0 := (HB.out.cell (World.block_lt_of_cell? w _ hx552_0)).trans hx552_0
            replace p552 := eq_true p552
            replace q552 := eq_true q552
            go_wp2
            repeat (go_quiet (fail); try go_wp2)
            go_ret
            exact ⟨by first | rfl | (simp [errW_none, errW_some] <;> rfl) | (simp [*, errW_none, errW_some] <;> rfl), by repeat (first | (with_reducible first | exact HB.out | apply below_alloc | apply pw_below_drewN | apply below_drew1 | refine below_set ?_ GE549.out) | exact HB.out)⟩
        ·rw [if_neg c14] at H
         exact absurd H (by simp)
       ·rw [if_neg c13] at H
        exact absurd H (by simp)
      ·rw [if_neg c12] at H
       have c12b0 : decide (x3_2 < (l0_0.length : Int)) = false := decide_eq_false c12
       clear c12
       obtain rfl := Option.some.inj H
       have hcz44_0 : wr.cell? ⟨gb549, 0, none⟩ = some (.slice A0_0 l0_0.length c0_0) := (blk_cell BK549.out 0).trans rfl
       have hcz44_1 : wr.cell? ⟨gb549, 1, none⟩ = some (.slice A0_1 l0_1.length c0_1) := (blk_cell BK549.out 1).trans rfl
       have hcz44_2 : wr.cell? ⟨gb549, 2, none⟩ = some (.int .i64 a0_2) := (blk_cell BK549.out 2).trans rfl
       have hcz44_3 : wr.cell? ⟨gb549, 3, none⟩ = some (.int .i64 a0_3) := (blk_cell BK549.out 3).trans rfl
       have hcz44_4 : wr.cell? ⟨gb549, 4, none⟩ = some (.slice A0_4 l0_4.length c0_4) := (blk_cell BK549.out 4).trans rfl
       have hcz44_5 : wr.cell? ⟨gb549, 5, none⟩ = some (.slice A0_5 l0_5.length c0_5) := (blk_cell BK549.out 5).trans rfl
       have hfz44_0 := blk_frozen BK549.out 0
       have hfz44_1 := blk_frozen BK549.out 1
       have hfz44_2 := blk_frozen BK549.out 2
       have hfz44_3 := blk_frozen BK549.out 3
       have hfz44_4 := blk_frozen BK549.out 4
       have hfz44_5 := blk_frozen BK549.out 5
       go_wp2
       repeat (go_quiet (fail); try go_wp2)
       go_ret
       exact ⟨by first | rfl | (simp [errW_none, errW_some] <;> rfl) | (simp [*, errW_none, errW_some] <;> rfl), by repeat (first | (with_reducible first | exact HB.out | apply below_alloc | apply pw_below_drewN | apply below_drew1 | refine below_set ?_ GE549.out) | exact HB.out)⟩

end Go.Proofs.Ytjmgbdepmbbepaa.Pa

