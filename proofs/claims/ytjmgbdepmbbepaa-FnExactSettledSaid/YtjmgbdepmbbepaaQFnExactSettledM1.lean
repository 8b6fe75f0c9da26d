/- A part of a proof that laws of the given program hold for every input: no condition. -/
import Derived.Test.YtjmgbdepmbbepaaQFnExactSettledM0
namespace Go.Proofs.Ytjmgbdepmbbepaa.Pa
open Go.RowKit Go.Proofs.YtjmgbdepmbbepaaW.PrintWords Go.Proofs.YtjmgbdepmbbepaaW.PrintLast Go.Proofs.YtjmgbdepmbbepaaW.PrintMore
attribute [local go_sem] max2_int min2_int max_two min_two max_three min_three max_four min_four
set_option linter.unusedVariables false
set_option linter.unusedSimpArgs false

mutual
def impl_Settled.j0 : Nat → Bool → List Int → List Int → Int → Int → List (S61) → List (S61) → Option (Bool)
 | 0, _, _, _, _, _, _, _ => none
 | k + 1, x20, x546000, x546001, x546002, x546003, x546004, x546005 => if x20 = true then (some false) else (impl_Settled.l0 k x546000 (x546000.length : Int) 0 x546000 x546001 x546002 x546003 x546004 x546005)
def impl_Settled.l0 : Nat → List Int → Int → Int → List Int → List Int → Int → Int → List (S61) → List (S61) → Option (Bool)
 | 0, _, _, _, _, _, _, _, _, _ => none
 | k + 1, x23, x24, x25, x546000, x546001, x546002, x546003, x546004, x546005 => if x25 < x24 then (if 0 ≤ x25 then (if x25 < (x23.length : Int) then (if x25 < (x546001.length : Int) then (if (rd x23 x25) = 0 then (if (rd x546001 x25) = 0 then (impl_Settled.l0 k x23 x24 (wrap64 (x25 + 1)) x546000 x546001 x546002 x546003 x546004 x546005) else (if (rd x23 x25) = 2 then (if (rd x546001 x25) = 3 then (impl_Settled.l0 k x23 x24 (wrap64 (x25 + 1)) x546000 x546001 x546002 x546003 x546004 x546005) else (if (rd x23 x25) = 3 then (if ((rd x546001 x25) = 2) then (impl_Settled.l0 k x23 x24 (wrap64 (x25 + 1)) x546000 x546001 x546002 x546003 x546004 x546005) else (some false)) else (some false))) else (if (rd x23 x25) = 3 then (if ((rd x546001 x25) = 2) then (impl_Settled.l0 k x23 x24 (wrap64 (x25 + 1)) x546000 x546001 x546002 x546003 x546004 x546005) else (some false)) else (some false)))) else (if (rd x23 x25) = 2 then (if (rd x546001 x25) = 3 then (impl_Settled.l0 k x23 x24 (wrap64 (x25 + 1)) x546000 x546001 x546002 x546003 x546004 x546005) else (if (rd x23 x25) = 3 then (if ((rd x546001 x25) = 2) then (impl_Settled.l0 k x23 x24 (wrap64 (x25 + 1)) x546000 x546001 x546002 x546003 x546004 x546005) else (some false)) else (some false))) else (if (rd x23 x25) = 3 then (if ((rd x546001 x25) = 2) then (impl_Settled.l0 k x23 x24 (wrap64 (x25 + 1)) x546000 x546001 x546002 x546003 x546004 x546005) else (some false)) else (some false)))) else (none)) else (none)) else (none)) else (some true)
end
def impl_Settled.f (k : Nat) (l0_0 : List Int) (l0_1 : List Int) (a0_2 : Int) (a0_3 : Int) (l0_4 : List (S61)) (l0_5 : List (S61)) : Option (Bool) := (impl_TrunkOk.f k l0_0 l0_1 a0_2 a0_3 l0_4 l0_5).bind fun t546 => (if t546 = true then (impl_Settled.j0 k (decide ((wrap64 ((l0_4.length : Int) + (l0_5.length : Int))) > 0)) l0_0 l0_1 a0_2 a0_3 l0_4 l0_5) else (impl_Settled.j0 k true l0_0 l0_1 a0_2 a0_3 l0_4 l0_5))
theorem impl_Settled.mono_l : ∀ k, (∀ y0 y1 y2 y3 y4 y5 y6, LeO (impl_Settled.j0 k y0 y1 y2 y3 y4 y5 y6) (impl_Settled.j0 (k + 1) y0 y1 y2 y3 y4 y5 y6)) ∧ (∀ y0 y1 y2 y3 y4 y5 y6 y7 y8, LeO (impl_Settled.l0 k y0 y1 y2 y3 y4 y5 y6 y7 y8) (impl_Settled.l0 (k + 1) y0 y1 y2 y3 y4 y5 y6 y7 y8))
 | 0 => ⟨fun _ _ _ _ _ _ _ r h => by simp [impl_Settled.j0] at h, fun _ _ _ _ _ _ _ _ _ r h => by simp [impl_Settled.l0] at h⟩
 | k + 1 => by
  obtain ⟨ih0, ih1⟩ := impl_Settled.mono_l k
  refine ⟨?_, ?_⟩
  ·intro y0 y1 y2 y3 y4 y5 y6
   unfold impl_Settled.j0
   repeat' first
   | (with_reducible exact ih0 _ _ _ _ _ _ _)
   | (with_reducible exact ih1 _ _ _ _ _ _ _ _ _)
   | (with_reducible exact impl_TrunkOk.mono _ _ _ _ _ _ _)
   | (with_reducible exact LeO.refl _)
   | (with_reducible exact LeO.none _)
   | (with_reducible refine LeO.ite ?_ ?_)
   | (with_reducible refine LeO.bind ?_ (fun _ => ?_))
   | exact ih0 _ _ _ _ _ _ _
   | exact ih1 _ _ _ _ _ _ _ _ _
   | exact impl_TrunkOk.mono _ _ _ _ _ _ _
   | exact LeO.none _
   | refine LeO.ite ?_ ?_
   | refine LeO.bind ?_ (fun _ => ?_)
  ·intro y0 y1 y2 y3 y4 y5 y6 y7 y8
   unfold impl_Settled.l0
   repeat' first
   | (with_reducible exact ih0 _ _ _ _ _ _ _)
   | (with_reducible exact ih1 _ _ _ _ _ _ _ _ _)
   | (with_reducible exact impl_TrunkOk.mono _ _ _ _ _ _ _)
   | (with_reducible exact LeO.refl _)
   | (with_reducible exact LeO.none _)
   | (with_reducible refine LeO.ite ?_ ?_)
   | (with_reducible refine LeO.bind ?_ (fun _ => ?_))
   | exact ih0 _ _ _ _ _ _ _
   | exact ih1 _ _ _ _ _ _ _ _ _
   | exact impl_TrunkOk.mono _ _ _ _ _ _ _
   | exact LeO.none _
   | refine LeO.ite ?_ ?_
   | refine LeO.bind ?_ (fun _ => ?_)
theorem impl_Settled.mono : ∀ a0 a1 a2 a3 a4 a5 k, LeO (impl_Settled.f k a0 a1 a2 a3 a4 a5) (impl_Settled.f (k + 1) a0 a1 a2 a3 a4 a5) := by
 intro a0 a1 a2 a3 a4 a5 k
 obtain ⟨ih0, ih1⟩ := impl_Settled.mono_l k
 unfold impl_Settled.f
 repeat' first
  | (with_reducible exact ih0 _ _ _ _ _ _ _)
  | (with_reducible exact ih1 _ _ _ _ _ _ _ _ _)
  | (with_reducible exact impl_TrunkOk.mono _ _ _ _ _ _ _)
  | (with_reducible exact LeO.refl _)
  | (with_reducible exact LeO.none _)
  | (with_reducible refine LeO.ite ?_ ?_)
  | (with_reducible refine LeO.bind ?_ (fun _ => ?_))
  | exact ih0 _ _ _ _ _ _ _
  | exact ih1 _ _ _ _ _ _ _ _ _
  | exact impl_TrunkOk.mono _ _ _ _ _ _ _
  | exact LeO.none _
  | refine LeO.ite ?_ ?_
  | refine LeO.bind ?_ (fun _ => ?_)
set_option maxHeartbeats 8000000 in
set_option maxRecDepth 100000 in
theorem impl_Settled.calls (k : Nat) (A0_0 : Option Addr) (c0_0 : Nat) (l0_0 : List Int) (A0_1 : Option Addr) (c0_1 : Nat) (l0_1 : List Int) (a0_2 : Int) (a0_3 : Int) (A0_4 : Option Addr) (c0_4 : Nat) (l0_4 : List (S61)) (A0_5 : Option Addr) (c0_5 : Nat) (l0_5 : List (S61)) (r : Bool) (w : World) (hr0_0 : Kd.C (Kd.int .i64) w A0_0 l0_0.length l0_0) (hc0_0 : l0_0.length ≤ c0_0) (hr0_1 : Kd.C (Kd.int .i64) w A0_1 l0_1.length l0_1) (hc0_1 : l0_1.length ≤ c0_1) (hr0_4 : Kd.C k61 w A0_4 l0_4.length l0_4) (hc0_4 : l0_4.length ≤ c0_4) (hr0_5 : Kd.C k61 w A0_5 l0_5.length l0_5) (hc0_5 : l0_5.length ≤ c0_5) (h : impl_Settled.f k l0_0 l0_1 a0_2 a0_3 l0_4 l0_5 = some r) :
 Calls Try.prog 22 #[.agg #[.slice A0_0 l0_0.length c0_0, .slice A0_1 l0_1.length c0_1, .int .i64 a0_2, .int .i64 a0_3, .slice A0_4 l0_4.length c0_4, .slice A0_5 l0_5.length c0_5]] w fun e w' => e = .returned (.bool r) ∧ Below w.heap.size w w' := by
 have hu33 := Try.underlying33
 have HR0_0 := Aside0.mk hr0_0
 have HC0_0 := Aside0.mk hc0_0
 clear hr0_0 hc0_0
 have HR0_1 := Aside0.mk hr0_1
 have HC0_1 := Aside0.mk hc0_1
 clear hr0_1 hc0_1
 have HR0_4 := Aside0.mk hr0_4
 have HC0_4 := Aside0.mk hc0_4
 clear hr0_4 hc0_4
 have HR0_5 := Aside0.mk hr0_5
 have HC0_5 := Aside0.mk hc0_5
 clear hr0_5 hc0_5
 have HB := Aside0.mk (Below.refl w.heap.size w)
 have H : ((impl_TrunkOk.f k l0_0 l0_1 a0_2 a0_3 l0_4 l0_5).bind fun t546 => (if t546 = true then (impl_Settled.j0 k (decide ((wrap64 ((l0_4.length : Int) + (l0_5.length : Int))) > 0)) l0_0 l0_1 a0_2 a0_3 l0_4 l0_5) else (impl_Settled.j0 k true l0_0 l0_1 a0_2 a0_3 l0_4 l0_5))) = some r := h
 clear h
 have HC2 := Aside0.mk H
 clear H
 go_enter Try.func22, Try.ntmps22
 go_upto_region 1 with (first | ((with_reducible refine gate_dst (N := 1) rfl ?_); (try (refine gate_guard (by rfl) ?_; dsimp only)); refine box_event ?hg (N := 1) ?hd (cs := #[.slice A0_0 l0_0.length c0_0, .slice A0_1 l0_1.length c0_1, .int .i64 a0_2, .int .i64 a0_3, .slice A0_4 l0_4.length c0_4, .slice A0_5 l0_5.length c0_5]) (t := 33) ?hr ?_; (case hd => rfl); (case hg => rfl); (case hr => first | (go_simp; done) | (go_simp; rfl)); intro gb545 hg w3 hbox hb; have n0_ := Aside0.mk (below_step (by repeat (first | (with_reducible first | exact HB.out | apply below_alloc | apply pw_below_drewN | apply below_drew1) | exact HB.out)) hb); have n1_ := Aside0.mk (hbox); have n2_ := Aside0.mk ((by rw [hg]; exact (below_size (by repeat (first | (with_reducible first | exact HB.out | apply below_alloc | apply pw_below_drewN | apply below_drew1) | exact HB.out))) : w.heap.size ≤ gb545)); have n3_ := Aside0.mk ((by rw [hg]; exact (below_size (by repeat (first | (with_reducible first | exact HB.out | apply below_alloc | apply pw_below_drewN | apply below_drew1) | exact HB.out))) : w.heap.size ≤ gb545)); clear HB; have HB := n0_; have BK545 := n1_; have GW545 := n2_; have GE545 := n3_; clear n0_ n1_ n2_ n3_; clear hb hbox hg))
 (try simp only [Act.put, List.setIfInBounds_toArray, List.set_cons_zero, List.set_cons_succ])
 go_cut [20] (fun v20 wc => ∃ (kq : Nat) (x20_1 : Bool), v20 = .bool x20_1 ∧ Aside0 (impl_Settled.j0 kq x20_1 l0_0 l0_1 a0_2 a0_3 l0_4 l0_5 = some r) ∧ Aside0 (kq ≤ k) ∧ Aside0 (wc.heap[gb545]? = some (.cells #[(.slice A0_0 l0_0.length c0_0), (.slice A0_1 l0_1.length c0_1), .int .i64 a0_2, .int .i64 a0_3, (.slice A0_4 l0_4.length c0_4), (.slice A0_5 l0_5.length c0_5)] 33 (0, 0))) ∧ Aside0 (Below w.heap.size w wc))
 case first =>
  have H := HC2.out
  clear HC2
  replace H := Option.bind_eq_some_iff.mp H
  obtain ⟨t546, A40, H⟩ := H
  replace H : (if t546 = true then (impl_Settled.j0 k (decide ((wrap64 ((l0_4.length : Int) + (l0_5.length : Int))) > 0)) l0_0 l0_1 a0_2 a0_3 l0_4 l0_5) else (impl_Settled.j0 k true l0_0 l0_1 a0_2 a0_3 l0_4 l0_5)) = some r := H
  have A4 := Aside0.mk A40
  clear A40
  by_cases c5 : t546 = true
  ·subst c5
   have H1 : (impl_Settled.j0 k (decide ((wrap64 ((l0_4.length : Int) + (l0_5.length : Int))) > 0)) l0_0 l0_1 a0_2 a0_3 l0_4 l0_5) = some r := by rw [if_pos rfl] at H; exact H
   clear H
   have H := H1
   clear H1
   have H' := Aside0.mk H
   clear H
   have hcz6_0 : w3.cell? ⟨gb545, 0, none⟩ = some (.slice A0_0 l0_0.length c0_0) := (blk_cell BK545.out 0).trans rfl
   have hcz6_1 : w3.cell? ⟨gb545, 1, none⟩ = some (.slice A0_1 l0_1.length c0_1) := (blk_cell BK545.out 1).trans rfl
   have hcz6_2 : w3.cell? ⟨gb545, 2, none⟩ = some (.int .i64 a0_2) := (blk_cell BK545.out 2).trans rfl
   have hcz6_3 : w3.cell? ⟨gb545, 3, none⟩ = some (.int .i64 a0_3) := (blk_cell BK545.out 3).trans rfl
   have hcz6_4 : w3.cell? ⟨gb545, 4, none⟩ = some (.slice A0_4 l0_4.length c0_4) := (blk_cell BK545.out 4).trans rfl
   have hcz6_5 : w3.cell? ⟨gb545, 5, none⟩ = some (.slice A0_5 l0_5.length c0_5) := (blk_cell BK545.out 5).trans rfl
   have hfz6_0 := blk_frozen BK545.out 0
   have hfz6_1 := blk_frozen BK545.out 1
   have hfz6_2 := blk_frozen BK545.out 2
   have hfz6_3 := blk_frozen BK545.out 3
   have hfz6_4 := blk_frozen BK545.out 4
   have hfz6_5 := blk_frozen BK545.out 5
   go_wp2_with (first | ((with_reducible refine gate_callee (f := 30) rfl ?_); refine goesL_ (some 7) rfl rfl Try.func30 (by kernel_rfl) rfl #[.agg #[.slice A0_0 l0_0.length c0_0, .slice A0_1 l0_1.length c0_1, .int .i64 a0_2, .int .i64 a0_3, .slice A0_4 l0_4.length c0_4, .slice A0_5 l0_5.length c0_5]] rfl (by (try simp only [List.map_toArray, List.map_cons, List.map_nil]); first | done | rfl | (simp only [List.length_drop, List.length_take]; rfl)) ?_; (with_reducible refine (impl_TrunkOk.calls k _ _ l0_0 _ _ l0_1 a0_2 a0_3 _ _ l0_4 _ _ l0_5 true _ ?side1 ?side2 ?side3 ?side4 ?side5 ?side6 ?side7 ?side8 A4.out).mono ?_); (case side1 => repeat (first | exact (Kd.C_below HR0_0.out HB.out) | (with_reducible refine Kd.C_alloc ?_ _) | (with_reducible refine Kd.C_drewN ?_ _) | (with_reducible refine Kd.C_drew ?_))); (case side2 => exact HC0_0.out); (case side3 => repeat (first | exact (Kd.C_below HR0_1.out HB.out) | (with_reducible refine Kd.C_alloc ?_ _) | (with_reducible refine Kd.C_drewN ?_ _) | (with_reducible refine Kd.C_drew ?_))); (case side4 => exact HC0_1.out); (case side5 => repeat (first | exact (Kd.C_below HR0_4.out HB.out) | (with_reducible refine Kd.C_alloc ?_ _) | (with_reducible refine Kd.C_drewN ?_ _) | (with_reducible refine Kd.C_drew ?_))); (case side6 => exact HC0_4.out); (case side7 => repeat (first | exact (Kd.C_below HR0_5.out HB.out) | (with_reducible refine Kd.C_alloc ?_ _) | (with_reducible refine Kd.C_drewN ?_ _) | (with_reducible refine Kd.C_drew ?_))); (case side8 => exact HC0_5.out); rintro e w7 ⟨rfl, hb⟩; refine ⟨_, rfl, ?_⟩; have n0_ := Aside0.mk (blk_below (g := gb545) (o := .cells #[.slice A0_0 l0_0.length c0_0, .slice A0_1 l0_1.length c0_1, .int .i64 a0_2, .int .i64 a0_3, .slice A0_4 l0_4.length c0_4, .slice A0_5 l0_5.length c0_5] 33 (0, 0)) (by (with_reducible repeat (first | refine blk_drewN ?_ _ | refine blk_drew ?_ | refine blk_alloc ?_ _)); exact BK545.out) hb); have n1_ := Aside0.mk (below_step (by repeat (first | (with_reducible first | exact HB.out | apply below_alloc | apply pw_below_drewN | apply below_drew1 | refine below_set ?_ GE545.out) | exact HB.out)) hb); clear BK545; clear HB; have BK545 := n0_; have HB := n1_; clear n0_ n1_; (try clear hb); (try clear hb2); (try clear hk); (try clear hi); have hcz8_0 : w7.cell? ⟨gb545, 0, none⟩ = some (.slice A0_0 l0_0.length c0_0) := (blk_cell BK545.out 0).trans rfl; have hcz8_1 : w7.cell? ⟨gb545, 1, none⟩ = some (.slice A0_1 l0_1.length c0_1) := (blk_cell BK545.out 1).trans rfl; have hcz8_2 : w7.cell? ⟨gb545, 2, none⟩ = some (.int .i64 a0_2) := (blk_cell BK545.out 2).trans rfl; have hcz8_3 : w7.cell? ⟨gb545, 3, none⟩ = some (.int .i64 a0_3) := (blk_cell BK545.out 3).trans rfl; have hcz8_4 : w7.cell? ⟨gb545, 4, none⟩ = some (.slice A0_4 l0_4.length c0_4) := (blk_cell BK545.out 4).trans rfl; have hcz8_5 : w7.cell? ⟨gb545, 5, none⟩ = some (.slice A0_5 l0_5.length c0_5) := (blk_cell BK545.out 5).trans rfl; have hfz8_0 := blk_frozen BK545.out 0; have hfz8_1 := blk_frozen BK545.out 1; have hfz8_2 := blk_frozen BK545.out 2; have hfz8_3 := blk_frozen BK545.out 3; have hfz8_4 := blk_frozen BK545.out 4; have hfz8_5 := blk_frozen BK545.out 5))
   go_meet
   case rel => exact ⟨_, (decide ((wrap64 ((l0_4.length : Int) + (l0_5.length : Int))) > 0)), (by first | rfl | (simp; done) | (simp [*]; done)), H', ⟨by first | omega | exact Nat.le_refl _⟩, ⟨by (with_reducible repeat (first | refine blk_drewN ?_ _ | refine blk_drew ?_ | refine blk_alloc ?_ _)); exact BK545.out⟩, ⟨by repeat (first | (with_reducible first | exact HB.out | apply below_alloc | apply pw_below_drewN | apply below_drew1 | refine below_set ?_ GE545.out) | exact HB.out)⟩⟩
  ·replace c5 := Bool.eq_false_iff.mpr c5
   subst c5
   have H1 : (impl_Settled.j0 k true l0_0 l0_1 a0_2 a0_3 l0_4 l0_5) = some r := by rw [if_neg (show ¬ (false = true) by decide)] at H; exact H
   clear H
   have H := H1
   clear H1
   have H' := Aside0.mk H
   clear H
   have hcz9_0 : w3.cell? ⟨gb545, 0, none⟩ = some (.slice A0_0 l0_0.length c0_0) := (blk_cell BK545.out 0).trans rfl
   have hcz9_1 : w3.cell? ⟨gb545, 1, none⟩ = some (.slice A0_1 l0_1.length c0_1) := (blk_cell BK545.out 1).trans rfl
   have hcz9_2 : w3.cell? ⟨gb545, 2, none⟩ = some (.int .i64 a0_2) := (blk_cell BK545.out 2).trans rfl
   have hcz9_3 : w3.cell? ⟨gb545, 3, none⟩ = some (.int .i64 a0_3) := (blk_cell BK545.out 3).trans rfl
   have hcz9_4 : w3.cell? ⟨gb545, 4, none⟩ = some (.slice A0_4 l0_4.length c0_4) := (blk_cell BK545.out 4).trans rfl
   have hcz9_5 : w3.cell? ⟨gb545, 5, none⟩ = some (.slice A0_5 l0_5.length c0_5) := (blk_cell BK545.out 5).trans rfl
   have hfz9_0 := blk_frozen BK545.out 0
   have hfz9_1 := blk_frozen BK545.out 1
   have hfz9_2 := blk_frozen BK545.out 2
   have hfz9_3 := blk_frozen BK545.out 3
   have hfz9_4 := blk_frozen BK545.out 4
   have hfz9_5 := blk_frozen BK545.out 5
   go_wp2_with (first | ((with_reducible refine gate_callee (f := 30) rfl ?_); refine goesL_ (some 7) rfl rfl Try.func30 (by kernel_rfl) rfl #[.agg #[.slice A0_0 l0_0.length c0_0, .slice A0_1 l0_1.length c0_1, .int .i64 a0_2, .int .i64 a0_3, .slice A0_4 l0_4.length c0_4, .slice A0_5 l0_5.length c0_5]] rfl (by (try simp only [List.map_toArray, List.map_cons, List.map_nil]); first | done | rfl | (simp only [List.length_drop, List.length_take]; rfl)) ?_; (with_reducible refine (impl_TrunkOk.calls k _ _ l0_0 _ _ l0_1 a0_2 a0_3 _ _ l0_4 _ _ l0_5 false _ ?side1 ?side2 ?side3 ?side4 ?side5 ?side6 ?side7 ?side8 A4.out).mono ?_); (case side1 => repeat (first | exact (Kd.C_below HR0_0.out HB.out) | (with_reducible refine Kd.C_alloc ?_ _) | (with_reducible refine Kd.C_drewN ?_ _) | (with_reducible refine Kd.C_drew ?_))); (case side2 => exact HC0_0.out); (case side3 => repeat (first | exact (Kd.C_below HR0_1.out HB.out) | (with_reducible refine Kd.C_alloc ?_ _) | (with_reducible refine Kd.C_drewN ?_ _) | (with_reducible refine Kd.C_drew ?_))); (case side4 => exact HC0_1.out); (case side5 => repeat (first | exact (Kd.C_below HR0_4.out HB.out) | (with_reducible refine Kd.C_alloc ?_ _) | (with_reducible refine Kd.C_drewN ?_ _) | (with_reducible refine Kd.C_drew ?_))); (case side6 => exact HC0_4.out); (case side7 => repeat (first | exact (Kd.C_below HR0_5.out HB.out) | (with_reducible refine Kd.C_alloc ?_ _) | (with_reducible refine Kd.C_drewN ?_ _) | (with_reducible refine Kd.C_drew ?_))); (case side8 => exact HC0_5.out); rintro e w10 ⟨rfl, hb⟩; refine ⟨_, rfl, ?_⟩; have n0_ := Aside0.mk (blk_below (g := gb545) (o := .cells #[.slice A0_0 l0_0.length c0_0, .slice A0_1 l0_1.length c0_1, .int .i64 a0_2, .int .i64 a0_3, .slice A0_4 l0_4.length c0_4, .slice A0_5 l0_5.length c0_5] 33 (0, 0)) (by (with_reducible repeat (first | refine blk_drewN ?_ _ | refine blk_drew ?_ | refine blk_alloc ?_ _)); exact BK545.out) hb); have n1_ := Aside0.mk (below_step (by repeat (first | (with_reducible first | exact HB.out | apply below_alloc | apply pw_below_drewN | apply below_drew1 | refine below_set ?_ GE545.out) | exact HB.out)) hb); clear BK545; clear HB; have BK545 := n0_; have HB := n1_; clear n0_ n1_; (try clear hb); (try clear hb2); (try clear hk); (try clear hi)))
   go_meet
   case rel => exact ⟨_, (true), (by first | rfl | (simp; done) | (simp [*]; done)), H', ⟨by first | omega | exact Nat.le_refl _⟩, ⟨by (with_reducible repeat (first | refine blk_drewN ?_ _ | refine blk_drew ?_ | refine blk_alloc ?_ _)); exact BK545.out⟩, ⟨by repeat (first | (with_reducible first | exact HB.out | apply below_alloc | apply pw_below_drewN | apply below_drew1 | refine below_set ?_ GE545.out) | exact HB.out)⟩⟩
 case rest =>
  clear HC2
  (try clear c2); (try clear p2); (try clear c3); (try clear c5); (try clear p6); (try clear hcz6_0 hcz6_1 hcz6_2 hcz6_3 hcz6_4 hcz6_5); (try clear hcz8_0 hcz8_1 hcz8_2 hcz8_3 hcz8_4 hcz8_5); (try clear hcz9_0 hcz9_1 hcz9_2 hcz9_3 hcz9_4 hcz9_5); (try clear hfz6_0 hfz6_1 hfz6_2 hfz6_3 hfz6_4 hfz6_5); (try clear hfz8_0 hfz8_1 hfz8_2 hfz8_3 hfz8_4 hfz8_5); (try clear hfz9_0 hfz9_1 hfz9_2 hfz9_3 hfz9_4 hfz9_5)
  obtain ⟨kq, x20_1, rfl, HA, HJ1, BK545, HB⟩ := hcut
  cases kq with
  | zero => exact absurd HA.out (by simp [impl_Settled.j0])
  | succ kj1 =>
   have H := HA.out
   clear HA
   simp only [impl_Settled.j0] at H
   by_cases c11 : x20_1 = true
   ·subst c11
    have H1 : (some false) = some r := by rw [if_pos rfl] at H; exact H
    clear H
    have H := H1
    clear H1
    obtain rfl := Option.some.inj H
    go_wp2
    go_ret
    exact ⟨by first | rfl | (simp [errW_none, errW_some] <;> rfl) | (simp [*, errW_none, errW_some] <;> rfl), by repeat (first | (with_reducible first | exact HB.out | apply below_alloc | apply pw_below_drewN | apply below_drew1 | refine below_set ?_ GE545.out) | exact HB.out)⟩
   ·replace c11 := Bool.eq_false_iff.mpr c11
    subst c11
    have H1 : (impl_Settled.l0 kj1 l0_0 (l0_0.length : Int) 0 l0_0 l0_1 a0_2 a0_3 l0_4 l0_5) = some r := by rw [if_neg (show ¬ (false = true) by decide)] at H; exact H
    clear H
    have H := H1
    clear H1
    have H' := Aside0.mk H
    clear H
    have hcz12_0 : wc.cell? ⟨gb545, 0, none⟩ = some (.slice A0_0 l0_0.length c0_0) := (blk_cell BK545.out 0).trans rfl
    have hcz12_1 : wc.cell? ⟨gb545, 1, none⟩ = some (.slice A0_1 l0_1.length c0_1) := (blk_cell BK545.out 1).trans rfl
    have hcz12_2 : wc.cell? ⟨gb545, 2, none⟩ = some (.int .i64 a0_2) := (blk_cell BK545.out 2).trans rfl
    have hcz12_3 : wc.cell? ⟨gb545, 3, none⟩ = some (.int .i64 a0_3) := (blk_cell BK545.out 3).trans rfl
    have hcz12_4 : wc.cell? ⟨gb545, 4, none⟩ = some (.slice A0_4 l0_4.length c0_4) := (blk_cell BK545.out 4).trans rfl
    have hcz12_5 : wc.cell? ⟨gb545, 5, none⟩ = some (.slice A0_5 l0_5.length c0_5) := (blk_cell BK545.out 5).trans rfl
    have hfz12_0 := blk_frozen BK545.out 0
    have hfz12_1 := blk_frozen BK545.out 1
    have hfz12_2 := blk_frozen BK545.out 2
    have hfz12_3 := blk_frozen BK545.out 3
    have hfz12_4 := blk_frozen BK545.out 4
    have hfz12_5 := blk_frozen BK545.out 5
    go_wp2
    go_loopg [25] kj1 (fun kq v25 w' => ∃ (x25_2 : Int), v25 = .int .i64 x25_2 ∧ Aside0 (impl_Settled.l0 kq l0_0 (l0_0.length : Int) x25_2 l0_0 l0_1 a0_2 a0_3 l0_4 l0_5 = some r) ∧ Aside0 (kq ≤ kj1) ∧ Aside0 (w'.heap[gb545]? = some (.cells #[(.slice A0_0 l0_0.length c0_0), (.slice A0_1 l0_1.length c0_1), .int .i64 a0_2, .int .i64 a0_3, (.slice A0_4 l0_4.length c0_4), (.slice A0_5 l0_5.length c0_5)] 33 (0, 0))) ∧ Aside0 (Below w.heap.size w w'))
    case atStart => exact ⟨(0), (by first | rfl | (simp; done) | (simp [*]; done)), H', ⟨Nat.le_refl _⟩, ⟨by (with_reducible repeat (first | refine blk_drewN ?_ _ | refine blk_drew ?_ | refine blk_alloc ?_ _)); exact BK545.out⟩, ⟨by repeat (first | (with_reducible first | exact HB.out | apply below_alloc | apply pw_below_drewN | apply below_drew1 | refine below_set ?_ GE545.out) | exact HB.out)⟩⟩
    case round =>
     clear H'
     (try clear c1); (try clear c2); (try clear p2); (try clear c3); (try clear c5); (try clear p6); (try clear c11); (try clear hcz12_0 hcz12_1 hcz12_2 hcz12_3 hcz12_4 hcz12_5); (try clear hcz6_0 hcz6_1 hcz6_2 hcz6_3 hcz6_4 hcz6_5); (try clear hcz8_0 hcz8_1 hcz8_2 hcz8_3 hcz8_4 hcz8_5); (try clear hcz9_0 hcz9_1 hcz9_2 hcz9_3 hcz9_4 hcz9_5); (try clear hfz12_0 hfz12_1 hfz12_2 hfz12_3 hfz12_4 hfz12_5); (try clear hfz6_0 hfz6_1 hfz6_2 hfz6_3 hfz6_4 hfz6_5); (try clear hfz8_0 hfz8_1 hfz8_2 hfz8_3 hfz8_4 hfz8_5); (try clear hfz9_0 hfz9_1 hfz9_2 hfz9_3 hfz9_4 hfz9_5); (try clear p2); (try clear p6)
     obtain ⟨x25_2, rfl, HA, HK2, BK545, HB⟩ := hrel
     cases gk with
     | zero => exact absurd HA.out (by simp [impl_Settled.l0])
     | succ k2 =>
      have H := HA.out
      clear HA
      simp only [impl_Settled.l0] at H
      by_cases c13 : x25_2 < (l0_0.length : Int)
      ·rw [if_pos c13] at H
       have c13b0 : decide (x25_2 < (l0_0.length : Int)) = true := decide_eq_true c13
       clear c13
       by_cases c14 : 0 ≤ x25_2
       ·rw [if_pos c14] at H
        have c14b0 : decide (0 ≤ x25_2) = true := decide_eq_true c14
        clear c14
        by_cases c15 : x25_2 < (l0_0.length : Int)
        ·rw [if_pos c15] at H
         have c15b0 : decide (x25_2 < (l0_0.length : Int)) = true := decide_eq_true c15
         clear c15
         by_cases c16 : x25_2 < (l0_1.length : Int)
         ·rw [if_pos c16] at H
          have c16b0 : decide (x25_2 < (l0_1.length : Int)) = true := decide_eq_true c16
          clear c16
          by_cases c17 : (rd l0_0 x25_2) = 0
          ·rw [if_pos c17] at H
           have c17b0 : ((rd l0_0 x25_2) == 0) = true := beq_iff_eq.mpr c17
           have c17b1 : ((rd l0_0 x25_2) != 0) = false := bne_eq_false_iff_eq.mpr c17
           clear c17
           by_cases c18 : (rd l0_1 x25_2) = 0
           ·rw [if_pos c18] at H
            have c18b0 : ((rd l0_1 x25_2) == 0) = true := beq_iff_eq.mpr c18
            have c18b1 : ((rd l0_1 x25_2) != 0) = false := bne_eq_false_iff_eq.mpr c18
            clear c18
            have H' := Aside0.mk H
            clear H
            have p547 : 0 ≤ (x25_2 : Int) := of_decide_eq_true (by first | (with_reducible assumption) | assumption)
            have q547 : x25_2 < (l0_0.length : Int) := of_decide_eq_true (by first | (with_reducible assumption) | assumption)
            obtain ⟨ad547, e547, hx547_0⟩ := Kd.at_int HR0_0.out x25_2 p547 q547
            cases e547
            replace hx547_0 := (HB.out.cell (World.block_lt_of_cell? w _ hx547_0)).trans hx547_0
            replace p547 := eq_true p547
            replace q547 := eq_true q547
            have hcz19_0 : wr.cell? ⟨gb545, 0, none⟩ = some (.slice (some ad547) l0_0.length c0_0) := (blk_cell BK545.out 0).trans rfl
            have hcz19_1 : wr.cell? ⟨gb545, 1, none⟩ = some (.slice A0_1 l0_1.length c0_1) := (blk_cell BK545.out 1).trans rfl
            have hcz19_2 : wr.cell? ⟨gb545, 2, none⟩ = some (.int .i64 a0_2) := (blk_cell BK545.out 2).trans rfl
            have hcz19_3 : wr.cell? ⟨gb545, 3, none⟩ = some (.int .i64 a0_3) := (blk_cell BK545.out 3).trans rfl
            have hcz19_4 : wr.cell? ⟨gb545, 4, none⟩ = some (.slice A0_4 l0_4.length c0_4) := (blk_cell BK545.out 4).trans rfl
            have hcz19_5 : wr.cell? ⟨gb545, 5, none⟩ = some (.slice A0_5 l0_5.length c0_5) := (blk_cell BK545.out 5).trans rfl
            have hfz19_0 := blk_frozen BK545.out 0
            have hfz19_1 := blk_frozen BK545.out 1
            have hfz19_2 := blk_frozen BK545.out 2
            have hfz19_3 := blk_frozen BK545.out 3
            have hfz19_4 := blk_frozen BK545.out 4
            have hfz19_5 := blk_frozen BK545.out 5
            have p548 : 0 ≤ (x25_2 : Int) := of_decide_eq_true (by first | (with_reducible assumption) | assumption)
            have q548 : x25_2 < (l0_1.length : Int) := of_decide_eq_true (by first | (with_reducible assumption) | assumption)
            obtain ⟨ad548, e548, hx548_0⟩ := Kd.at_int HR0_1.out x25_2 p548 q548
            cases e548
            replace hx548_0 := (HB.out.cell (World.block_lt_of_cell? w _ hx548_0)).trans hx548_0
            replace p548 := eq_true p548
            replace q548 := eq_true q548
            go_wp2
            go_roundg k2
            case measure => have := HJ1.out; have := HK2.out; omega
            case rel => exact ⟨(wrap64 (x25_2 + 1)), (by first | rfl | (simp; done) | (simp [*]; done)), H', ⟨by have := HJ1.out; have := HK2.out; omega⟩, ⟨by (with_reducible repeat (first | refine blk_drewN ?_ _ | refine blk_drew ?_ | refine blk_alloc ?_ _)); exact BK545.out⟩, ⟨by repeat (first | (with_reducible first | exact HB.out | apply below_alloc | apply pw_below_drewN | apply below_drew1 | refine below_set ?_ GE545.out) | exact HB.out)⟩⟩
           ·rw [if_neg c18] at H
            have c18b0 : ((rd l0_1 x25_2) == 0) = false := beq_eq_false_iff_ne.mpr c18
            have c18b1 : ((rd l0_1 x25_2) != 0) = true := bne_iff_ne.mpr c18
            by_cases c20 : (rd l0_0 x25_2) = 2
            ·rw [if_pos c20] at H
             have c20b0 : ((rd l0_0 x25_2) == 2) = true := beq_iff_eq.mpr c20
             have c20b1 : ((rd l0_0 x25_2) != 2) = false := bne_eq_false_iff_eq.mpr c20
             clear c20
             by_cases c21 : (rd l0_1 x25_2) = 3
             ·rw [if_pos c21] at H
              have c21b0 : ((rd l0_1 x25_2) == 3) = true := beq_iff_eq.mpr c21
              have c21b1 : ((rd l0_1 x25_2) != 3) = false := bne_eq_false_iff_eq.mpr c21
              clear c21
              have H' := Aside0.mk H
              clear H
              have p547 : 0 ≤ (x25_2 : Int) := of_decide_eq_true (by first | (with_reducible assumption) | assumption)
              have q547 : x25_2 < (l0_0.length : Int) := of_decide_eq_true (by first | (with_reducible assumption) | assumption)
              obtain ⟨ad547, e547, hx547_0⟩ := Kd.at_int HR0_0.out x25_2 p547 q547
              cases e547
              replace hx547_0 := (HB.out.cell (World.block_lt_of_cell? w _ hx547_0)).trans hx547_0
              replace p547 := eq_true p547
              replace q547 := eq_true q547
              have hcz22_0 : wr.cell? ⟨gb545, 0, none⟩ = some (.slice (some ad547) l0_0.length c0_0) := (blk_cell BK545.out 0).trans rfl
              have hcz22_1 : wr.cell? ⟨gb545, 1, none⟩ = some (.slice A0_1 l0_1.length c0_1) := (blk_cell BK545.out 1).trans rfl
              have hcz22_2 : wr.cell? ⟨gb545, 2, none⟩ = some (.int .i64 a0_2) := (blk_cell BK545.out 2).trans rfl
              have hcz22_3 : wr.cell? ⟨gb545, 3, none⟩ = some (.int .i64 a0_3) := (blk_cell BK545.out 3).trans rfl
              have hcz22_4 : wr.cell? ⟨gb545, 4, none⟩ = some (.slice A0_4 l0_4.length c0_4) := (blk_cell BK545.out 4).trans rfl
              have hcz22_5 : wr.cell? ⟨gb545, 5, none⟩ = some (.slice A0_5 l0_5.length c0_5) := (blk_cell BK545.out 5).trans rfl
              have hfz22_0 := blk_frozen BK545.out 0
              have hfz22_1 := blk_frozen BK545.out 1
              have hfz22_2 := blk_frozen BK545.out 2
              have hfz22_3 := blk_frozen BK545.out 3
              have hfz22_4 := blk_frozen BK545.out 4
              have hfz22_5 := blk_frozen BK545.out 5
              have p548 : 0 ≤ (x25_2 : Int) := of_decide_eq_true (by first | (with_reducible assumption) | assumption)
              have q548 : x25_2 < (l0_1.length : Int) := of_decide_eq_true (by first | (with_reducible assumption) | assumption)
              obtain ⟨ad548, e548, hx548_0⟩ := Kd.at_int HR0_1.out x25_2 p548 q548
              cases e548
              replace hx548_0 := (HB.out.cell (World.block_lt_of_cell? w _ hx548_0)).trans hx548_0
              replace p548 := eq_true p548
              replace q548 := eq_true q548
              go_wp2
              go_roundg k2
              case measure => have := HJ1.out; have := HK2.out; omega
              case rel => exact ⟨(wrap64 (x25_2 + 1)), (by first | rfl | (simp; done) | (simp [*]; done)), H', ⟨by have := HJ1.out; have := HK2.out; omega⟩, ⟨by (with_reducible repeat (first | refine blk_drewN ?_ _ | refine blk_drew ?_ | refine blk_alloc ?_ _)); exact BK545.out⟩, ⟨by repeat (first | (with_reducible first | exact HB.out | apply below_alloc | apply pw_below_drewN | apply below_drew1 | refine below_set ?_ GE545.out) | exact HB.out)⟩⟩
             ·rw [if_neg c21] at H
              have c21b0 : ((rd l0_1 x25_2) == 3) = false := beq_eq_false_iff_ne.mpr c21
              have c21b1 : ((rd l0_1 x25_2) != 3) = true := bne_iff_ne.mpr c21
              by_cases c23 : (rd l0_0 x25_2) = 3
              ·rw [if_pos c23] at H
               have c23b0 : ((rd l0_0 x25_2) == 3) = true := beq_iff_eq.mpr c23
               have c23b1 : ((rd l0_0 x25_2) != 3) = false := bne_eq_false_iff_eq.mpr c23
               clear c23
               by_cases c24 : ((rd l0_1 x25_2) = 2)
               ·rw [if_pos c24] at H
                have c24b0 : ((rd l0_1 x25_2) == 2) = true := beq_iff_eq.mpr c24
                have c24b1 : ((rd l0_1 x25_2) != 2) = false := bne_eq_false_iff_eq.mpr c24
                clear c24
                have H' := Aside0.mk H
                clear H
                have p547 : 0 ≤ (x25_2 : Int) := of_decide_eq_true (by first | (with_reducible assumption) | assumption)
                have q547 : x25_2 < (l0_0.length : Int) := of_decide_eq_true (by first | (with_reducible assumption) | assumption)
                obtain ⟨ad547, e547, hx547_0⟩ := Kd.at_int HR0_0.out x25_2 p547 q547
                cases e547
                replace hx547_0 := (HB.out.cell (World.block_lt_of_cell? w _ hx547_0)).trans hx547_0
                replace p547 := eq_true p547
                replace q547 := eq_true q547
                have hcz25_0 : wr.cell? ⟨gb545, 0, none⟩ = some (.slice (some ad547) l0_0.length c0_0) := (blk_cell BK545.out 0).trans rfl
                have hcz25_1 : wr.cell? ⟨gb545, 1, none⟩ = some (.slice A0_1 l0_1.length c0_1) := (blk_cell BK545.out 1).trans rfl
                have hcz25_2 : wr.cell? ⟨gb545, 2, none⟩ = some (.int .i64 a0_2) := (blk_cell BK545.out 2).trans rfl
                have hcz25_3 : wr.cell? ⟨gb545, 3, none⟩ = some (.int .i64 a0_3) := (blk_cell BK545.out 3).trans rfl
                have hcz25_4 : wr.cell? ⟨gb545, 4, none⟩ = some (.slice A0_4 l0_4.length c0_4) := (blk_cell BK545.out 4).trans rfl
                have hcz25_5 : wr.cell? ⟨gb545, 5, none⟩ = some (.slice A0_5 l0_5.length c0_5) := (blk_cell BK545.out 5).trans rfl
                have hfz25_0 := blk_frozen BK545.out 0
                have hfz25_1 := blk_frozen BK545.out 1
                have hfz25_2 := blk_frozen BK545.out 2
                have hfz25_3 := blk_frozen BK545.out 3
                have hfz25_4 := blk_frozen BK545.out 4
                have hfz25_5 := blk_frozen BK545.out 5
                have p548 : 0 ≤ (x25_2 : Int) := of_decide_eq_true (by first | (with_reducible assumption) | assumption)
                have q548 : x25_2 < (l0_1.length : Int) := of_decide_eq_true (by first | (with_reducible assumption) | assumption)
                obtain ⟨ad548, e548, hx548_0⟩ := Kd.at_int HR0_1.out x25_2 p548 q548
                cases e548
                replace hx548_0 := (HB.out.cell (World.block_lt_of_cell? w _ hx548_0)).trans hx548_0
                replace p548 := eq_true p548
                replace q548 := eq_true q548
                go_wp2
                go_roundg k2
                case measure => have := HJ1.out; have := HK2.out; omega
                case rel => exact ⟨(wrap64 (x25_2 + 1)), (by first | rfl | (simp; done) | (simp [*]; done)), H', ⟨by have := HJ1.out; have := HK2.out; omega⟩, ⟨by (with_reducible repeat (first | refine blk_drewN ?_ _ | refine blk_drew ?_ | refine blk_alloc ?_ _)); exact BK545.out⟩, ⟨by repeat (first | (with_reducible first | exact HB.out | apply below_alloc | apply pw_below_drewN | apply below_drew1 | refine below_set ?_ GE545.out) | exact HB.out)⟩⟩
               ·rw [if_neg c24] at H
                have c24b0 : ((rd l0_1 x25_2) == 2) = false := beq_eq_false_iff_ne.mpr c24
                have c24b1 : ((rd l0_1 x25_2) != 2) = true := bne_iff_ne.mpr c24
                obtain rfl := Option.some.inj H
                have p547 : 0 ≤ (x25_2 : Int) := of_decide_eq_true (by first | (with_reducible assumption) | assumption)
                have q547 : x25_2 < (l0_0.length : Int) := of_decide_eq_true (by first | (with_reducible assumption) | assumption)
                obtain ⟨ad547, e547, hx547_0⟩ := Kd.at_int HR0_0.out x25_2 p547 q547
                cases e547
                replace hx547_0 := (HB.out.cell (World.block_lt_of_cell? w _ hx547_0)).trans hx547_0
                replace p547 := eq_true p547
                replace q547 := eq_true q547
                have hcz26_0 : wr.cell? ⟨gb545, 0, none⟩ = some (.slice (some ad547) l0_0.length c0_0) := (blk_cell BK545.out 0).trans rfl
                have hcz26_1 : wr.cell? ⟨gb545, 1, none⟩ = some (.slice A0_1 l0_1.length c0_1) := (blk_cell BK545.out 1).trans rfl
                have hcz26_2 : wr.cell? ⟨gb545, 2, none⟩ = some (.int .i64 a0_2) := (blk_cell BK545.out 2).trans rfl
                have hcz26_3 : wr.cell? ⟨gb545, 3, none⟩ = some (.int .i64 a0_3) := (blk_cell BK545.out 3).trans rfl
                have hcz26_4 : wr.cell? ⟨gb545, 4, none⟩ = some (.slice A0_4 l0_4.length c0_4) := (blk_cell BK545.out 4).trans rfl
                have hcz26_5 : wr.cell? ⟨gb545, 5, none⟩ = some (.slice A0_5 l0_5.length c0_5) := (blk_cell BK545.out 5).trans rfl
                have hfz26_0 := blk_frozen BK545.out 0
                have hfz26_1 := blk_frozen BK545.out 1
                have hfz26_2 := blk_frozen BK545.out 2
                have hfz26_3 := blk_frozen BK545.out 3
                have hfz26_4 := blk_frozen BK545.out 4
                have hfz26_5 := blk_frozen BK545.out 5
                have p548 : 0 ≤ (x25_2 : Int) := of_decide_eq_true (by first | (with_reducible assumption) | assumption)
                have q548 : x25_2 < (l0_1.length : Int) := of_decide_eq_true (by first | (with_reducible assumption) | assumption)
                obtain ⟨ad548, e548, hx548_0⟩ := Kd.at_int HR0_1.out x25_2 p548 q548
                cases e548
                replace hx548_0 := (HB.out.cell (World.block_lt_of_cell? w _ hx548_0)).trans hx548_0
                replace p548 := eq_true p548
                replace q548 := eq_true q548
                go_wp2
                go_ret
                exact ⟨by first | rfl | (simp [errW_none, errW_some] <;> rfl) | (simp [*, errW_none, errW_some] <;> rfl), by repeat (first | (with_reducible first | exact HB.out | apply below_alloc | apply pw_below_drewN | apply below_drew1 | refine below_set ?_ GE545.out) | exact HB.out)⟩
              ·rw [if_neg c23] at H
               have c23b0 : ((rd l0_0 x25_2) == 3) = false := beq_eq_false_iff_ne.mpr c23
               have c23b1 : ((rd l0_0 x25_2) != 3) = true := bne_iff_ne.mpr c23
               obtain rfl := Option.some.inj H
               have p547 : 0 ≤ (x25_2 : Int) := of_decide_eq_true (by first | (with_reducible assumption) | assumption)
               have q547 : x25_2 < (l0_0.length : Int) := of_decide_eq_true (by first | (with_reducible assumption) | assumption)
               obtain ⟨ad547, e547, hx547_0⟩ := Kd.at_int HR0_0.out x25_2 p547 q547
               cases e547
               replace hx547_0 := (HB.out.cell (World.block_lt_of_cell? w _ hx547_0)).trans hx547_0
               replace p547 := eq_true p547
               replace q547 := eq_true q547
               have hcz27_0 : wr.cell? ⟨gb545, 0, none⟩ = some (.slice (some ad547) l0_0.length c0_0) := (blk_cell BK545.out 0).trans rfl
               have hcz27_1 : wr.cell? ⟨gb545, 1, none⟩ = some (.slice A0_1 l0_1.length c0_1) := (blk_cell BK545.out 1).trans rfl
               have hcz27_2 : wr.cell? ⟨gb545, 2, none⟩ = some (.int .i64 a0_2) := (blk_cell BK545.out 2).trans rfl
               have hcz27_3 : wr.cell? ⟨gb545, 3, none⟩ = some (.int .i64 a0_3) := (blk_cell BK545.out 3).trans rfl
               have hcz27_4 : wr.cell? ⟨gb545, 4, none⟩ = some (.slice A0_4 l0_4.length c0_4) := (blk_cell BK545.out 4).trans rfl
               have hcz27_5 : wr.cell? ⟨gb545, 5, none⟩ = some (.slice A0_5 l0_5.length c0_5) := (blk_cell BK545.out 5).trans rfl
               have hfz27_0 := blk_frozen BK545.out 0
               have hfz27_1 := blk_frozen BK545.out 1
               have hfz27_2 := blk_frozen BK545.out 2
               have hfz27_3 := blk_frozen BK545.out 3
               have hfz27_4 := blk_frozen BK545.out 4
               have hfz27_5 := blk_frozen BK545.out 5
               have p548 : 0 ≤ (x25_2 : Int) := of_decide_eq_true (by first | (with_reducible assumption) | assumption)
               have q548 : x25_2 < (l0_1.length : Int) := of_decide_eq_true (by first | (with_reducible assumption) | assumption)
               obtain ⟨ad548, e548, hx548_0⟩ := Kd.at_int HR0_1.out x25_2 p548 q548
               cases e548
               replace hx548_0 := (HB.out.cell (World.block_lt_of_cell? w _ hx548_0)).trans hx548_0
               replace p548 := eq_true p548
               replace q548 := eq_true q548
               go_wp2
               go_ret
               exact ⟨by first | rfl | (simp [errW_none, errW_some] <;> rfl) | (simp [*, errW_none, errW_some] <;> rfl), by repeat (first | (with_reducible first | exact HB.out | apply below_alloc | apply pw_below_drewN | apply below_drew1 | refine below_set ?_ GE545.out) | exact HB.out)⟩
            ·rw [if_neg c20] at H
             have c20b0 : ((rd l0_0 x25_2) == 2) = false := beq_eq_false_iff_ne.mpr c20
             have c20b1 : ((rd l0_0 x25_2) != 2) = true := bne_iff_ne.mpr c20
             by_cases c28 : (rd l0_0 x25_2) = 3
             ·rw [if_pos c28] at H
              have c28b0 : ((rd l0_0 x25_2) == 3) = true := beq_iff_eq.mpr c28
              have c28b1 : ((rd l0_0 x25_2) != 3) = false := bne_eq_false_iff_eq.mpr c28
              clear c28
              by_cases c29 : ((rd l0_1 x25_2) = 2)
              ·rw [if_pos c29] at H
               have c29b0 : ((rd l0_1 x25_2) == 2) = true := beq_iff_eq.mpr c29
               have c29b1 : ((rd l0_1 x25_2) != 2) = false := bne_eq_false_iff_eq.mpr c29
               clear c29
               have H' := Aside0.mk H
               clear H
               have p547 : 0 ≤ (x25_2 : Int) := of_decide_eq_true (by first | (with_reducible assumption) | assumption)
               have q547 : x25_2 < (l0_0.length : Int) := of_decide_eq_true (by first | (with_reducible assumption) | assumption)
               obtain ⟨ad547, e547, hx547_0⟩ := Kd.at_int HR0_0.out x25_2 p547 q547
               cases e547
               replace hx547_0 := (HB.out.cell (World.block_lt_of_cell? w _ hx547_0)).trans hx547_0
               replace p547 := eq_true p547
               replace q547 := eq_true q547
               have hcz30_0 : wr.cell? ⟨gb545, 0, none⟩ = some (.slice (some ad547) l0_0.length c0_0) := (blk_cell BK545.out 0).trans rfl
               have hcz30_1 : wr.cell? ⟨gb545, 1, none⟩ = some (.slice A0_1 l0_1.length c0_1) := (blk_cell BK545.out 1).trans rfl
               have hcz30_2 : wr.cell? ⟨gb545, 2, none⟩ = some (.int .i64 a0_2) := (blk_cell BK545.out 2).trans rfl
               have hcz30_3 : wr.cell? ⟨gb545, 3, none⟩ = some (.int .i64 a0_3) := (blk_cell BK545.out 3).trans rfl
               have hcz30_4 : wr.cell? ⟨gb545, 4, none⟩ = some (.slice A0_4 l0_4.length c0_4) := (blk_cell BK545.out 4).trans rfl
               have hcz30_5 : wr.cell? ⟨gb545, 5, none⟩ = some (.slice A0_5 l0_5.length c0_5) := (blk_cell BK545.out 5).trans rfl
               have hfz30_0 := blk_frozen BK545.out 0
               have hfz30_1 := blk_frozen BK545.out 1
               have hfz30_2 := blk_frozen BK545.out 2
               have hfz30_3 := blk_frozen BK545.out 3
               have hfz30_4 := blk_frozen BK545.out 4
               have hfz30_5 := blk_frozen BK545.out 5
               have p548 : 0 ≤ (x25_2 : Int) := of_decide_eq_true (by first | (with_reducible assumption) | assumption)
               have q548 : x25_2 < (l0_1.length : Int) := of_decide_eq_true (by first | (with_reducible assumption) | assumption)
               obtain ⟨ad548, e548, hx548_0⟩ := Kd.at_int HR0_1.out x25_2 p548 q548
               cases e548
               replace hx548_0 := (HB.out.cell (World.block_lt_of_cell? w _ hx548_0)).trans hx548_0
               replace p548 := eq_true p548
               replace q548 := eq_true q548
               go_wp2
               go_roundg k2
               case measure => have := HJ1.out; have := HK2.out; omega
               case rel => exact ⟨(wrap64 (x25_2 + 1)), (by first | rfl | (simp; done) | (simp [*]; done)), H', ⟨by have := HJ1.out; have := HK2.out; omega⟩, ⟨by (with_reducible repeat (first | refine blk_drewN ?_ _ | refine blk_drew ?_ | refine blk_alloc ?_ _)); exact BK545.out⟩, ⟨by repeat (first | (with_reducible first | exact HB.out | apply below_alloc | apply pw_below_drewN | apply below_drew1 | refine below_set ?_ GE545.out) | exact HB.out)⟩⟩
              ·rw [if_neg c29] at H
               have c29b0 : ((rd l0_1 x25_2) == 2) = false := beq_eq_false_iff_ne.mpr c29
               have c29b1 : ((rd l0_1 x25_2) != 2) = true := bne_iff_ne.mpr c29
               obtain rfl := Option.some.inj H
               have p547 : 0 ≤ (x25_2 : Int) := of_decide_eq_true (by first | (with_reducible assumption) | assumption)
               have q547 : x25_2 < (l0_0.length : Int) := of_decide_eq_true (by first | (with_reducible assumption) | assumption)
               obtain ⟨ad547, e547, hx547_0⟩ := Kd.at_int HR0_0.out x25_2 p547 q547
               cases e547
               replace hx547_0 := (HB.out.cell (World.block_lt_of_cell? w _ hx547_0)).trans hx547_0
               replace p547 := eq_true p547
               replace q547 := eq_true q547
               have hcz31_0 : wr.cell? ⟨gb545, 0, none⟩ = some (.slice (some ad547) l0_0.length c0_0) := (blk_cell BK545.out 0).trans rfl
               have hcz31_1 : wr.cell? ⟨gb545, 1, none⟩ = some (.slice A0_1 l0_1.length c0_1) := (blk_cell BK545.out 1).trans rfl
               have hcz31_2 : wr.cell? ⟨gb545, 2, none⟩ = some (.int .i64 a0_2) := (blk_cell BK545.out 2).trans rfl
               have hcz31_3 : wr.cell? ⟨gb545, 3, none⟩ = some (.int .i64 a0_3) := (blk_cell BK545.out 3).trans rfl
               have hcz31_4 : wr.cell? ⟨gb545, 4, none⟩ = some (.slice A0_4 l0_4.length c0_4) := (blk_cell BK545.out 4).trans rfl
               have hcz31_5 : wr.cell? ⟨gb545, 5, none⟩ = some (.slice A0_5 l0_5.length c0_5) := (blk_cell BK545.out 5).trans rfl
               have hfz31_0 := blk_frozen BK545.out 0
               have hfz31_1 := blk_frozen BK545.out 1
               have hfz31_2 := blk_frozen BK545.out 2
               have hfz31_3 := blk_frozen BK545.out 3
               have hfz31_4 := blk_frozen BK545.out 4
               have hfz31_5 := blk_frozen BK545.out 5
               have p548 : 0 ≤ (x25_2 : Int) := of_decide_eq_true (by first | (with_reducible assumption) | assumption)
               have q548 : x25_2 < (l0_1.length : Int) := of_decide_eq_true (by first | (with_reducible assumption) | assumption)
               obtain ⟨ad548, e548, hx548_0⟩ := Kd.at_int HR0_1.out x25_2 p548 q548
               cases e548
               replace hx548_0 := (HB.out.cell (World.block_lt_of_cell? w _ hx548_0)).trans hx548_0
               replace p548 := eq_true p548
               replace q548 := eq_true q548
               go_wp2
               go_ret
               exact ⟨by first | rfl | (simp [errW_none, errW_some] <;> rfl) | (simp [*, errW_none, errW_some] <;> rfl), by repeat (first | (with_reducible first | exact HB.out | apply below_alloc | apply pw_below_drewN | apply below_drew1 | refine below_set ?_ GE545.out) | exact HB.out)⟩
             ·rw [if_neg c28] at H
              have c28b0 : ((rd l0_0 x25_2) == 3) = false := beq_eq_false_iff_ne.mpr c28
              have c28b1 : ((rd l0_0 x25_2) != 3) = true := bne_iff_ne.mpr c28
              obtain rfl := Option.some.inj H
              have p547 : 0 ≤ (x25_2 : Int) := of_decide_eq_true (by first | (with_reducible assumption) | assumption)
              have q547 : x25_2 < (l0_0.length : Int) := of_decide_eq_true (by first | (with_reducible assumption) | assumption)
              obtain ⟨ad547, e547, hx547_0⟩ := Kd.at_int HR0_0.out x25_2 p547 q547
              cases e547
              replace hx547_0 := (HB.out.cell (World.block_lt_of_cell? w _ hx547_0)).trans hx547_0
              replace p547 := eq_true p547
              replace q547 := eq_true q547
              have hcz32_0 : wr.cell? ⟨gb545, 0, none⟩ = some (.slice (some ad547) l0_0.length c0_0) := (blk_cell BK545.out 0).trans rfl
              have hcz32_1 : wr.cell? ⟨gb545, 1, none⟩ = some (.slice A0_1 l0_1.length c0_1) := (blk_cell BK545.out 1).trans rfl
              have hcz32_2 : wr.cell? ⟨gb545, 2, none⟩ = some (.int .i64 a0_2) := (blk_cell BK545.out 2).trans rfl
              have hcz32_3 : wr.cell? ⟨gb545, 3, none⟩ = some (.int .i64 a0_3) := (blk_cell BK545.out 3).trans rfl
              have hcz32_4 : wr.cell? ⟨gb545, 4, none⟩ = some (.slice A0_4 l0_4.length c0_4) := (blk_cell BK545.out 4).trans rfl
              have hcz32_5 : wr.cell? ⟨gb545, 5, none⟩ = some (.slice A0_5 l0_5.length c0_5) := (blk_cell BK545.out 5).trans rfl
              have hfz32_0 := blk_frozen BK545.out 0
              have hfz32_1 := blk_frozen BK545.out 1
              have hfz32_2 := blk_frozen BK545.out 2
              have hfz32_3 := blk_frozen BK545.out 3
              have hfz32_4 := blk_frozen BK545.out 4
              have hfz32_5 := blk_frozen BK545.out 5
              have p548 : 0 ≤ (x25_2 : Int) := of_decide_eq_true (by first | (with_reducible assumption) | assumption)
              have q548 : x25_2 < (l0_1.length : Int) := of_decide_eq_true (by first | (with_reducible assumption) | assumption)
              obtain ⟨ad548, e548, hx548_0⟩ := Kd.at_int HR0_1.out x25_2 p548 q548
              cases e548
              replace hx548_0 := (HB.out.cell (World.block_lt_of_cell? w _ hx548_0)).trans hx548_0
              replace p548 := eq_true p548
              replace q548 := eq_true q548
              go_wp2
              go_ret
              exact ⟨by first | rfl | (simp [errW_none, errW_some] <;> rfl) | (simp [*, errW_none, errW_some] <;> rfl), by repeat (first | (with_reducible first | exact HB.out | apply below_alloc | apply pw_below_drewN | apply below_drew1 | refine below_set ?_ GE545.out) | exact HB.out)⟩
          ·rw [if_neg c17] at H
           have c17b0 : ((rd l0_0 x25_2) == 0) = false := beq_eq_false_iff_ne.mpr c17
           have c17b1 : ((rd l0_0 x25_2) != 0) = true := bne_iff_ne.mpr c17
           by_cases c33 : (rd l0_0 x25_2) = 2
           ·rw [if_pos c33] at H
            have c33b0 : ((rd l0_0 x25_2) == 2) = true := beq_iff_eq.mpr c33
            have c33b1 : ((rd l0_0 x25_2) != 2) = false := bne_eq_false_iff_eq.mpr c33
            clear c33
            by_cases c34 : (rd l0_1 x25_2) = 3
            ·rw [if_pos c34] at H
             have c34b0 : ((rd l0_1 x25_2) == 3) = true := beq_iff_eq.mpr c34
             have c34b1 : ((rd l0_1 x25_2) != 3) = false := bne_eq_false_iff_eq.mpr c34
             clear c34
             have H' := Aside0.mk H
             clear H
             have p547 : 0 ≤ (x25_2 : Int) := of_decide_eq_true (by first | (with_reducible assumption) | assumption)
             have q547 : x25_2 < (l0_0.length : Int) := of_decide_eq_true (by first | (with_reducible assumption) | assumption)
             obtain ⟨ad547, e547, hx547_0⟩ := Kd.at_int HR0_0.out x25_2 p547 q547
             cases e547
             replace hx547_0 := (HB.out.cell (World.block_lt_of_cell? w _ hx547_0)).trans hx547_0
             replace p547 := eq_true p547
             replace q547 := eq_true q547
             have hcz35_0 : wr.cell? ⟨gb545, 0, none⟩ = some (.slice (some ad547) l0_0.length c0_0) := (blk_cell BK545.out 0).trans rfl
             have hcz35_1 : wr.cell? ⟨gb545, 1, none⟩ = some (.slice A0_1 l0_1.length c0_1) := (blk_cell BK545.out 1).trans rfl
             have hcz35_2 : wr.cell? ⟨gb545, 2, none⟩ = some (.int .i64 a0_2) := (blk_cell BK545.out 2).trans rfl
             have hcz35_3 : wr.cell? ⟨gb545, 3, none⟩ = some (.int .i64 a0_3) := (blk_cell BK545.out 3).trans rfl
             have hcz35_4 : wr.cell? ⟨gb545, 4, none⟩ = some (.slice A0_4 l0_4.length c0_4) := (blk_cell BK545.out 4).trans rfl
             have hcz35_5 : wr.cell? ⟨gb545, 5, none⟩ = some (.slice A0_5 l0_5.length c0_5) := (blk_cell BK545.out 5).trans rfl
             have hfz35_0 := blk_frozen BK545.out 0
             have hfz35_1 := blk_frozen BK545.out 1
             have hfz35_2 := blk_frozen BK545.out 2
             have hfz35_3 := blk_frozen BK545.out 3
             have hfz35_4 := blk_frozen BK545.out 4
             have hfz35_5 := blk_frozen BK545.out 5
             have p548 : 0 ≤ (x25_2 : Int) := of_decide_eq_true (by first | (with_reducible assumption) | assumption)
             have q548 : x25_2 < (l0_1.length : Int) := of_decide_eq_true (by first | (with_reducible assumption) | assumption)
             obtain ⟨ad548, e548, hx548_0⟩ := Kd.at_int HR0_1.out x25_2 p548 q548
             cases e548
             replace hx548_0 := (HB.out.cell (World.block_lt_of_cell? w _ hx548_0)).trans hx548_0
             replace p548 := eq_true p548
             replace q548 := eq_true q548
             go_wp2
             go_roundg k2
             case measure => have := HJ1.out; have := HK2.out; omega
             case rel => exact ⟨(wrap64 (x25_2 + 1)), (by first | rfl | (simp; done) | (simp [*]; done)), H', ⟨by have := HJ1.out; have := HK2.out; omega⟩, ⟨by (with_reducible repeat (first | refine blk_drewN ?_ _ | refine blk_drew ?_ | refine blk_alloc ?_ _)); exact BK545.out⟩, ⟨by repeat (first | (with_reducible first | exact HB.out | apply below_alloc | apply pw_below_drewN | apply below_drew1 | refine below_set ?_ GE545.out) | exact HB.out)⟩⟩
            ·rw [if_neg c34] at H
             have c34b0 : ((rd l0_1 x25_2) == 3) = false := beq_eq_false_iff_ne.mpr c34
             have c34b1 : ((rd l0_1 x25_2) != 3) = true := bne_iff_ne.mpr c34
             by_cases c36 : (rd l0_0 x25_2) = 3
             ·rw [if_pos c36] at H
              have c36b0 : ((rd l0_0 x25_2) == 3) = true := beq_iff_eq.mpr c36
              have c36b1 : ((rd l0_0 x25_2) != 3) = false := bne_eq_false_iff_eq.mpr c36
              clear c36
              by_cases c37 : ((rd l0_1 x25_2) = 2)
              ·rw [if_pos c37] at H
               have c37b0 : ((rd l0_1 x25_2) == 2) = true := beq_iff_eq.mpr c37
               have c37b1 : ((rd l0_1 x25_2) != 2) = false := bne_eq_false_iff_eq.mpr c37
               clear c37
               have H' := Aside0.mk H
               clear H
               have p547 : 0 ≤ (x25_2 : Int) := of_decide_eq_true (by first | (with_reducible assumption) | assumption)
               have q547 : x25_2 < (l0_0.length : Int) := of_decide_eq_true (by first | (with_reducible assumption) | assumption)
               obtain ⟨ad547, e547, hx547_0⟩ := Kd.at_int HR0_0.out x25_2 p547 q547
               cases e547
               replace hx547_0 := (HB.out.cell (World.block_lt_of_cell? w _ hx547_0)).trans hx547_0
               replace p547 := eq_true p547
               replace q547 := eq_true q547
               have hcz38_0 : wr.cell? ⟨gb545, 0, none⟩ = some (.slice (some ad547) l0_0.length c0_0) := (blk_cell BK545.out 0).trans rfl
               have hcz38_1 : wr.cell? ⟨gb545, 1, none⟩ = some (.slice A0_1 l0_1.length c0_1) := (blk_cell BK545.out 1).trans rfl
               have hcz38_2 : wr.cell? ⟨gb545, 2, none⟩ = some (.int .i64 a0_2) := (blk_cell BK545.out 2).trans rfl
               have hcz38_3 : wr.cell? ⟨gb545, 3, none⟩ = some (.int .i64 a0_3) := (blk_cell BK545.out 3).trans rfl
               have hcz38_4 : wr.cell? ⟨gb545, 4, none⟩ = some (.slice A0_4 l0_4.length c0_4) := (blk_cell BK545.out 4).trans rfl
               have hcz38_5 : wr.cell? ⟨gb545, 5, none⟩ = some (.slice A0_5 l0_5.length c0_5) := (blk_cell BK545.out 5).trans rfl
               have hfz38_0 := blk_frozen BK545.out 0
               have hfz38_1 := blk_frozen BK545.out 1
               have hfz38_2 := blk_frozen BK545.out 2
               have hfz38_3 := blk_frozen BK545.out 3
               have hfz38_4 := blk_frozen BK545.out 4
               have hfz38_5 := blk_frozen BK545.out 5
               have p548 : 0 ≤ (x25_2 : Int) := of_decide_eq_true (by first | (with_reducible assumption) | assumption)
               have q548 : x25_2 < (l0_1.length : Int) := of_decide_eq_true (by first | (with_reducible assumption) | assumption)
               obtain ⟨ad548, e548, hx548_0⟩ := Kd.at_int HR0_1.out x25_2 p548 q548
               cases e548
               replace hx548_0 := (HB.out.cell (World.block_lt_of_cell? w _ hx548_0)).trans hx548_0
               replace p548 := eq_true p548
               replace q548 := eq_true q548
               go_wp2
               go_roundg k2
               case measure => have := HJ1.out; have := HK2.out; omega
               case rel => exact ⟨(wrap64 (x25_2 + 1)), (by first | rfl | (simp; done) | (simp [*]; done)), H', ⟨by have := HJ1.out; have := HK2.out; omega⟩, ⟨by (with_reducible repeat (first | refine blk_drewN ?_ _ | refine blk_drew ?_ | refine blk_alloc ?_ _)); exact BK545.out⟩, ⟨by repeat (first | (with_reducible first | exact HB.out | apply below_alloc | apply pw_below_drewN | apply below_drew1 | refine below_set ?_ GE545.out) | exact HB.out)⟩⟩
              ·rw [if_neg c37] at H
               have c37b0 : ((rd l0_1 x25_2) == 2) = false := beq_eq_false_iff_ne.mpr c37
               have c37b1 : ((rd l0_1 x25_2) != 2) = true := bne_iff_ne.mpr c37
               obtain rfl := Option.some.inj H
               have p547 : 0 ≤ (x25_2 : Int) := of_decide_eq_true (by first | (with_reducible assumption) | assumption)
               have q547 : x25_2 < (l0_0.length : Int) := of_decide_eq_true (by first | (with_reducible assumption) | assumption)
               obtain ⟨ad547, e547, hx547_0⟩ := Kd.at_int HR0_0.out x25_2 p547 q547
               cases e547
               replace hx547_0 := (HB.out.cell (World.block_lt_of_cell? w _ hx547_0)).trans hx547_0
               replace p547 := eq_true p547
               replace q547 := eq_true q547
               have hcz39_0 : wr.cell? ⟨gb545, 0, none⟩ = some (.slice (some ad547) l0_0.length c0_0) := (blk_cell BK545.out 0).trans rfl
               have hcz39_1 : wr.cell? ⟨gb545, 1, none⟩ = some (.slice A0_1 l0_1.length c0_1) := (blk_cell BK545.out 1).trans rfl
               have hcz39_2 : wr.cell? ⟨gb545, 2, none⟩ = some (.int .i64 a0_2) := (blk_cell BK545.out 2).trans rfl
               have hcz39_3 : wr.cell? ⟨gb545, 3, none⟩ = some (.int .i64 a0_3) := (blk_cell BK545.out 3).trans rfl
               have hcz39_4 : wr.cell? ⟨gb545, 4, none⟩ = some (.slice A0_4 l0_4.length c0_4) := (blk_cell BK545.out 4).trans rfl
               have hcz39_5 : wr.cell? ⟨gb545, 5, none⟩ = some (.slice A0_5 l0_5.length c0_5) := (blk_cell BK545.out 5).trans rfl
               have hfz39_0 := blk_frozen BK545.out 0
               have hfz39_1 := blk_frozen BK545.out 1
               have hfz39_2 := blk_frozen BK545.out 2
               have hfz39_3 := blk_frozen BK545.out 3
               have hfz39_4 := blk_frozen BK545.out 4
               have hfz39_5 := blk_frozen BK545.out 5
               have p548 : 0 ≤ (x25_2 : Int) := of_decide_eq_true (by first | (with_reducible assumption) | assumption)
               have q548 : x25_2 < (l0_1.length : Int) := of_decide_eq_true (by first | (with_reducible assumption) | assumption)
               obtain ⟨ad548, e548, hx548_0⟩ := Kd.at_int HR0_1.out x25_2 p548 q548
               cases e548
               replace hx548_0 := (HB.out.cell (World.block_lt_of_cell? w _ hx548_0)).trans hx548_0
               replace p548 := eq_true p548
               replace q548 := eq_true q548
               go_wp2
               go_ret
               exact ⟨by first | rfl | (simp [errW_none, errW_some] <;> rfl) | (simp [*, errW_none, errW_some] <;> rfl), by repeat (first | (with_reducible first | exact HB.out | apply below_alloc | apply pw_below_drewN | apply below_drew1 | refine below_set ?_ GE545.out) | exact HB.out)⟩
             ·rw [if_neg c36] at H
              have c36b0 : ((rd l0_0 x25_2) == 3) = false := beq_eq_false_iff_ne.mpr c36
              have c36b1 : ((rd l0_0 x25_2) != 3) = true := bne_iff_ne.mpr c36
              obtain rfl := Option.some.inj H
              have p547 : 0 ≤ (x25_2 : Int) := of_decide_eq_true (by first | (with_reducible assumption) | assumption)
              have q547 : x25_2 < (l0_0.length : Int) := of_decide_eq_true (by first | (with_reducible assumption) | assumption)
              obtain ⟨ad547, e547, hx547_0⟩ := Kd.at_int HR0_0.out x25_2 p547 q547
              cases e547
              replace hx547_0 := (HB.out.cell (World.block_lt_of_cell? w _ hx547_0)).trans hx547_0
              replace p547 := eq_true p547
              replace q547 := eq_true q547
              have hcz40_0 : wr.cell? ⟨gb545, 0, none⟩ = some (.slice (some ad547) l0_0.length c0_0) := (blk_cell BK545.out 0).trans rfl
              have hcz40_1 : wr.cell? ⟨gb545, 1, none⟩ = some (.slice A0_1 l0_1.length c0_1) := (blk_cell BK545.out 1).trans rfl
              have hcz40_2 : wr.cell? ⟨gb545, 2, none⟩ = some (.int .i64 a0_2) := (blk_cell BK545.out 2).trans rfl
              have hcz40_3 : wr.cell? ⟨gb545, 3, none⟩ = some (.int .i64 a0_3) := (blk_cell BK545.out 3).trans rfl
              have hcz40_4 : wr.cell? ⟨gb545, 4, none⟩ = some (.slice A0_4 l0_4.length c0_4) := (blk_cell BK545.out 4).trans rfl
              have hcz40_5 : wr.cell? ⟨gb545, 5, none⟩ = some (.slice A0_5 l0_5.length c0_5) := (blk_cell BK545.out 5).trans rfl
              have hfz40_0 := blk_frozen BK545.out 0
              have hfz40_1 := blk_frozen BK545.out 1
              have hfz40_2 := blk_frozen BK545.out 2
              have hfz40_3 := blk_frozen BK545.out 3
              have hfz40_4 := blk_frozen BK545.out 4
              have hfz40_5 := blk_frozen BK545.out 5
              have p548 : 0 ≤ (x25_2 : Int) := of_decide_eq_true (by first | (with_reducible assumption) | assumption)
              have q548 : x25_2 < (l0_1.length : Int) := of_decide_eq_true (by first | (with_reducible assumption) | assumption)
              obtain ⟨ad548, e548, hx548_0⟩ := Kd.at_int HR0_1.out x25_2 p548 q548
              cases e548
              replace hx548_0 := (HB.out.cell (World.block_lt_of_cell? w _ hx548_0)).trans hx548_0
              replace p548 := eq_true p548
              replace q548 := eq_true q548
              go_wp2
              go_ret
              exact ⟨by first | rfl | (simp [errW_none, errW_some] <;> rfl) | (simp [*, errW_none, errW_some] <;> rfl), by repeat (first | (with_reducible first | exact HB.out | apply below_alloc | apply pw_below_drewN | apply below_drew1 | refine below_set ?_ GE545.out) | exact HB.out)⟩
           ·rw [if_neg c33] at H
            have c33b0 : ((rd l0_0 x25_2) == 2) = false := beq_eq_false_iff_ne.mpr c33
            have c33b1 : ((rd l0_0 x25_2) != 2) = true := bne_iff_ne.mpr c33
            by_cases c41 : (rd l0_0 x25_2) = 3
            ·rw [if_pos c41] at H
             have c41b0 : ((rd l0_0 x25_2) == 3) = true := beq_iff_eq.mpr c41
             have c41b1 : ((rd l0_0 x25_2) != 3) = false := bne_eq_false_iff_eq.mpr c41
             clear c41
             by_cases c42 : ((rd l0_1 x25_2) = 2)
             ·rw [if_pos c42] at H
              have c42b0 : ((rd l0_1 x25_2) == 2) = true := beq_iff_eq.mpr c42
              have c42b1 : ((rd l0_1 x25_2) != 2) = false := bne_eq_false_iff_eq.mpr c42
              clear c42
              have H' := Aside0.mk H
              clear H
              have p547 : 0 ≤ (x25_2 : Int) := of_decide_eq_true (by first | (with_reducible assumption) | assumption)
              have q547 : x25_2 < (l0_0.length : Int) := of_decide_eq_true (by first | (with_reducible assumption) | assumption)
              obtain ⟨ad547, e547, hx547_0⟩ := Kd.at_int HR0_0.out x25_2 p547 q547
              cases e547
              replace hx547_0 := (HB.out.cell (World.block_lt_of_cell? w _ hx547_0)).trans hx547_0
              replace p547 := eq_true p547
              replace q547 := eq_true q547
              have hcz43_0 : wr.cell? ⟨gb545, 0, none⟩ = some (.slice (some ad547) l0_0.length c0_0) := (blk_cell BK545.out 0).trans rfl
              have hcz43_1 : wr.cell? ⟨gb545, 1, none⟩ = some (.slice A0_1 l0_1.length c0_1) := (blk_cell BK545.out 1).trans rfl
              have hcz43_2 : wr.cell? ⟨gb545, 2, none⟩ = some (.int .i64 a0_2) := (blk_cell BK545.out 2).trans rfl
              have hcz43_3 : wr.cell? ⟨gb545, 3, none⟩ = some (.int .i64 a0_3) := (blk_cell BK545.out 3).trans rfl
              have hcz43_4 : wr.cell? ⟨gb545, 4, none⟩ = some (.slice A0_4 l0_4.length c0_4) := (blk_cell BK545.out 4).trans rfl
              have hcz43_5 : wr.cell? ⟨gb545, 5, none⟩ = some (.slice A0_5 l0_5.length c0_5) := (blk_cell BK545.out 5).trans rfl
              have hfz43_0 := blk_frozen BK545.out 0
              have hfz43_1 := blk_frozen BK545.out 1
              have hfz43_2 := blk_frozen BK545.out 2
              have hfz43_3 := blk_frozen BK545.out 3
              have hfz43_4 := blk_frozen BK545.out 4
              have hfz43_5 := blk_frozen BK545.out 5
              have p548 : 0 ≤ (x25_2 : Int) := of_decide_eq_true (by first | (with_reducible assumption) | assumption)
              have q548 : x25_2 < (l0_1.length : Int) := of_decide_eq_true (by first | (with_reducible assumption) | assumption)
              obtain ⟨ad548, e548, hx548_0⟩ := Kd.at_int HR0_1.out x25_2 p548 q548
              cases e548
              replace hx548_0 := (HB.out.cell (World.block_lt_of_cell? w _ hx548_0)).trans hx548_0
              replace p548 := eq_true p548
              replace q548 := eq_true q548
              go_wp2
              go_roundg k2
              case measure => have := HJ1.out; have := HK2.out; omega
              case rel => exact ⟨(wrap64 (x25_2 + 1)), (by first | rfl | (simp; done) | (simp [*]; done)), H', ⟨by have := HJ1.out; have := HK2.out; omega⟩, ⟨by (with_reducible repeat (first | refine blk_drewN ?_ _ | refine blk_drew ?_ | refine blk_alloc ?_ _)); exact BK545.out⟩, ⟨by repeat (first | (with_reducible first | exact HB.out | apply below_alloc | apply pw_below_drewN | apply below_drew1 | refine below_set ?_ GE545.out) | exact HB.out)⟩⟩
             ·rw [if_neg c42] at H
              have c42b0 : ((rd l0_1 x25_2) == 2) = false := beq_eq_false_iff_ne.mpr c42
              have c42b1 : ((rd l0_1 x25_2) != 2) = true := bne_iff_ne.mpr c42
              obtain rfl := Option.some.inj H
              have p547 : 0 ≤ (x25_2 : Int) := of_decide_eq_true (by first | (with_reducible assumption) | assumption)
              have q547 : x25_2 < (l0_0.length : Int) := of_decide_eq_true (by first | (with_reducible assumption) | assumption)
              obtain ⟨ad547, e547, hx547_0⟩ := Kd.at_int HR0_0.out x25_2 p547 q547
              cases e547
              replace hx547_0 := (HB.out.cell (World.block_lt_of_cell? w _ hx547_0)).trans hx547_0
              replace p547 := eq_true p547
              replace q547 := eq_true q547
              have hcz44_0 : wr.cell? ⟨gb545, 0, none⟩ = some (.slice (some ad547) l0_0.length c0_0) := (blk_cell BK545.out 0).trans rfl
              have hcz44_1 : wr.cell? ⟨gb545, 1, none⟩ = some (.slice A0_1 l0_1.length c0_1) := (blk_cell BK545.out 1).trans rfl
              have hcz44_2 : wr.cell? ⟨gb545, 2, none⟩ = some (.int .i64 a0_2) := (blk_cell BK545.out 2).trans rfl
              have hcz44_3 : wr.cell? ⟨gb545, 3, none⟩ = some (.int .i64 a0_3) := (blk_cell BK545.out 3).trans rfl
              have hcz44_4 : wr.cell? ⟨gb545, 4, none⟩ = some (.slice A0_4 l0_4.length c0_4) := (blk_cell BK545.out 4).trans rfl
              have hcz44_5 : wr.cell? ⟨gb545, 5, none⟩ = some (.slice A0_5 l0_5.length c0_5) := (blk_cell BK545.out 5).trans rfl
              have hfz44_0 := blk_frozen BK545.out 0
              have hfz44_1 := blk_frozen BK545.out 1
              have hfz44_2 := blk_frozen BK545.out 2
              have hfz44_3 := blk_frozen BK545.out 3
              have hfz44_4 := blk_frozen BK545.out 4
              have hfz44_5 := blk_frozen BK545.out 5
              have p548 : 0 ≤ (x25_2 : Int) := of_decide_eq_true (by first | (with_reducible assumption) | assumption)
              have q548 : x25_2 < (l0_1.length : Int) := of_decide_eq_true (by first | (with_reducible assumption) | assumption)
              obtain ⟨ad548, e548, hx548_0⟩ := Kd.at_int HR0_1.out x25_2 p548 q548
              cases e548
              replace hx548_0 := (HB.out.cell (World.block_lt_of_cell? w _ hx548_0)).trans hx548_0
              replace p548 := eq_true p548
              replace q548 := eq_true q548
              go_wp2
              go_ret
              exact ⟨by first | rfl | (simp [errW_none, errW_some] <;> rfl) | (simp [*, errW_none, errW_some] <;> rfl), by repeat (first | (with_reducible first | exact HB.out | apply below_alloc | apply pw_below_drewN | apply below_drew1 | refine below_set ?_ GE545.out) | exact HB.out)⟩
            ·rw [if_neg c41] at H
             have c41b0 : ((rd l0_0 x25_2) == 3) = false := beq_eq_false_iff_ne.mpr c41
             have c41b1 : ((rd l0_0 x25_2) != 3) = true := bne_iff_ne.mpr c41
             obtain rfl := Option.some.inj H
             have p547 : 0 ≤ (x25_2 : Int) := of_decide_eq_true (by first | (with_reducible assumption) | assumption)
             have q547 : x25_2 < (l0_0.length : Int) := of_decide_eq_true (by first | (with_reducible assumption) | assumption)
             obtain ⟨ad547, e547, hx547_0⟩ := Kd.at_int HR0_0.out x25_2 p547 q547
             cases e547
             replace hx547_0 := (HB.out.cell (World.block_lt_of_cell? w _ hx547_0)).trans hx547_0
             replace p547 := eq_true p547
             replace q547 := eq_true q547
             have hcz45_0 : wr.cell? ⟨gb545, 0, none⟩ = some (.slice (some ad547) l0_0.length c0_0) := (blk_cell BK545.out 0).trans rfl
             have hcz45_1 : wr.cell? ⟨gb545, 1, none⟩ = some (.slice A0_1 l0_1.length c0_1) := (blk_cell BK545.out 1).trans rfl
             have hcz45_2 : wr.cell? ⟨gb545, 2, none⟩ = some (.int .i64 a0_2) := (blk_cell BK545.out 2).trans rfl
             have hcz45_3 : wr.cell? ⟨gb545, 3, none⟩ = some (.int .i64 a0_3) := (blk_cell BK545.out 3).trans rfl
             have hcz45_4 : wr.cell? ⟨gb545, 4, none⟩ = some (.slice A0_4 l0_4.length c0_4) := (blk_cell BK545.out 4).trans rfl
             have hcz45_5 : wr.cell? ⟨gb545, 5, none⟩ = some (.slice A0_5 l0_5.length c0_5) := (blk_cell BK545.out 5).trans rfl
             have hfz45_0 := blk_frozen BK545.out 0
             have hfz45_1 := blk_frozen BK545.out 1
             have hfz45_2 := blk_frozen BK545.out 2
             have hfz45_3 := blk_frozen BK545.out 3
             have hfz45_4 := blk_frozen BK545.out 4
             have hfz45_5 := blk_frozen BK545.out 5
             have p548 : 0 ≤ (x25_2 : Int) := of_decide_eq_true (by first | (with_reducible assumption) | assumption)
             have q548 : x25_2 < (l0_1.length : Int) := of_decide_eq_true (by first | (with_reducible assumption) | assumption)
             obtain ⟨ad548, e548, hx548_0⟩ := Kd.at_int HR0_1.out x25_2 p548 q548
             cases e548
             replace hx548_0 := (HB.out.cell (World.block_lt_of_cell? w _ hx548_0)).trans hx548_0
             replace p548 := eq_true p548
             replace q548 := eq_true q548
             go_wp2
             go_ret
             exact ⟨by first | rfl | (simp [errW_none, errW_some] <;> rfl) | (simp [*, errW_none, errW_some] <;> rfl), by repeat (first | (with_reducible first | exact HB.out | apply below_alloc | apply pw_below_drewN | apply below_drew1 | refine below_set ?_ GE545.out) | exact HB.out)⟩
         ·rw [if_neg c16] at H
          exact absurd H (by simp)
        ·rw [if_neg c15] at H
         exact absurd H (by simp)
       ·rw [if_neg c14] at H
        exact absurd H (by simp)
      ·rw [if_neg c13] at H
       have c13b0 : decide (x25_2 < (l0_0.length : Int)) = false := decide_eq_false c13
       clear c13
       obtain rfl := Option.some.inj H
       go_wp2
       go_ret
       exact ⟨by first | rfl | (simp [errW_none, errW_some] <;> rfl) | (simp [*, errW_none, errW_some] <;> rfl), by repeat (first | (with_reducible first | exact HB.out | apply below_alloc | apply pw_below_drewN | apply below_drew1 | refine below_set ?_ GE545.out) | exact HB.out)⟩

end Go.Proofs.Ytjmgbdepmbbepaa.Pa

namespace Go.Proofs.Ytjmgbdepmbbepaa.Pa
open Go.RowKit Go.Proofs.YtjmgbdepmbbepaaW.PrintWords Go.Proofs.YtjmgbdepmbbepaaW.PrintLast Go.Proofs.YtjmgbdepmbbepaaW.PrintMore
attribute [local go_sem] max2_int min2_int max_two min_two max_three min_three max_four min_four
set_option linter.unusedVariables false
set_option linter.unusedSimpArgs false

def spec_l1In.f (a0 : Int) (a1 : Int) (a2 : Int) : Option (Bool) := if a0 ≥ a1 then (some (decide (a0 ≤ a2))) else (some false)
set_option maxHeartbeats 8000000 in
set_option maxRecDepth 100000 in
theorem spec_l1In.calls (a0 : Int) (a1 : Int) (a2 : Int) (r : Bool) (w : World) (h : spec_l1In.f a0 a1 a2 = some r) :
 Calls Try.prog 39 #[.int .i64 a0, .int .i64 a1, .int .i64 a2] w fun e w' => e = .returned (.bool r) ∧ Drawn0 w w' := by
 have H : (if a0 ≥ a1 then (some (decide (a0 ≤ a2))) else (some false)) = some r := h
 clear h
 by_cases c4 : a0 ≥ a1
 ·rw [if_pos c4] at H
  have c4b0 : decide (a1 ≤ a0) = true := decide_eq_true c4
  clear c4
  obtain rfl := Option.some.inj H
  go_enter Try.func39, Try.ntmps39
  go_wp2
  go_ret
  exact ⟨by first | rfl | (simp; done) | (simp [*]; done), by repeat (first | exact Drawn0.refl _ | apply Drawn0.step)⟩
 ·rw [if_neg c4] at H
  have c4b0 : decide (a1 ≤ a0) = false := decide_eq_false c4
  clear c4
  obtain rfl := Option.some.inj H
  go_enter Try.func39, Try.ntmps39
  go_wp2
  go_ret
  exact ⟨by first | rfl | (simp; done) | (simp [*]; done), by repeat (first | exact Drawn0.refl _ | apply Drawn0.step)⟩

end Go.Proofs.Ytjmgbdepmbbepaa.Pa

