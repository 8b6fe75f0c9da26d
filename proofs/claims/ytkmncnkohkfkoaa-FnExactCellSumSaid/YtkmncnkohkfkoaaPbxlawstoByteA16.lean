/- A part of a proof that laws of the given program hold for every input: no condition. -/
import Derived.Test.YtkmncnkohkfkoaaPbx0
namespace Go.Proofs.Ytkmncnkohkfkoaa.Pb
open Go.RowKit Go.Proofs.YtkmncnkohkfkoaaW.PrintWords Go.Proofs.YtkmncnkohkfkoaaW.PrintLast Go.Proofs.YtkmncnkohkfkoaaW.PrintMore
attribute [local go_sem] max2_int min2_int max_two min_two max_three min_three max_four min_four   -- for this text's walks alone
set_option linter.unusedVariables false
set_option linter.unusedSimpArgs false

/-! ### laws_toByteA16: function 16 -/
def laws_toByteA16.l0 : Nat → Int → Int → Int → Int → Int → Int → Int → Int → Int → Int → Int → Int → Int → Int → Int → Int → Int → Int → Int → Int → Int → Int → Int → Int → Int → Int → Int → Int → Int → Int → Int → Int → Int → Option (Int × Int × Int × Int × Int × Int × Int × Int × Int × Int × Int × Int × Int × Int × Int × Int)
  | 0, _, _, _, _, _, _, _, _, _, _, _, _, _, _, _, _, _, _, _, _, _, _, _, _, _, _, _, _, _, _, _, _, _ => none
  | k + 1, x4, x103000, x103001, x103002, x103003, x103004, x103005, x103006, x103007, x103008, x103009, x103010, x103011, x103012, x103013, x103014, x103015, x105000, x105001, x105002, x105003, x105004, x105005, x105006, x105007, x105008, x105009, x105010, x105011, x105012, x105013, x105014, x105015 => if x4 < 16 then (if x4 = 0 then (laws_toByteA16.l0 k 1 x103000 x103001 x103002 x103003 x103004 x103005 x103006 x103007 x103008 x103009 x103010 x103011 x103012 x103013 x103014 x103015 x103000 x105001 x105002 x105003 x105004 x105005 x105006 x105007 x105008 x105009 x105010 x105011 x105012 x105013 x105014 x105015) else (if x4 = 1 then (laws_toByteA16.l0 k 2 x103000 x103001 x103002 x103003 x103004 x103005 x103006 x103007 x103008 x103009 x103010 x103011 x103012 x103013 x103014 x103015 x105000 x103001 x105002 x105003 x105004 x105005 x105006 x105007 x105008 x105009 x105010 x105011 x105012 x105013 x105014 x105015) else (if x4 = 2 then (laws_toByteA16.l0 k 3 x103000 x103001 x103002 x103003 x103004 x103005 x103006 x103007 x103008 x103009 x103010 x103011 x103012 x103013 x103014 x103015 x105000 x105001 x103002 x105003 x105004 x105005 x105006 x105007 x105008 x105009 x105010 x105011 x105012 x105013 x105014 x105015) else (if x4 = 3 then (laws_toByteA16.l0 k 4 x103000 x103001 x103002 x103003 x103004 x103005 x103006 x103007 x103008 x103009 x103010 x103011 x103012 x103013 x103014 x103015 x105000 x105001 x105002 x103003 x105004 x105005 x105006 x105007 x105008 x105009 x105010 x105011 x105012 x105013 x105014 x105015) else (if x4 = 4 then (laws_toByteA16.l0 k 5 x103000 x103001 x103002 x103003 x103004 x103005 x103006 x103007 x103008 x103009 x103010 x103011 x103012 x103013 x103014 x103015 x105000 x105001 x105002 x105003 x103004 x105005 x105006 x105007 x105008 x105009 x105010 x105011 x105012 x105013 x105014 x105015) else (if x4 = 5 then (laws_toByteA16.l0 k 6 x103000 x103001 x103002 x103003 x103004 x103005 x103006 x103007 x103008 x103009 x103010 x103011 x103012 x103013 x103014 x103015 x105000 x105001 x105002 x105003 x105004 x103005 x105006 x105007 x105008 x105009 x105010 x105011 x105012 x105013 x105014 x105015) else (if x4 = 6 then (laws_toByteA16.l0 k 7 x103000 x103001 x103002 x103003 x103004 x103005 x103006 x103007 x103008 x103009 x103010 x103011 x103012 x103013 x103014 x103015 x105000 x105001 x105002 x105003 x105004 x105005 x103006 x105007 x105008 x105009 x105010 x105011 x105012 x105013 x105014 x105015) else (if x4 = 7 then (laws_toByteA16.l0 k 8 x103000 x103001 x103002 x103003 x103004 x103005 x103006 x103007 x103008 x103009 x103010 x103011 x103012 x103013 x103014 x103015 x105000 x105001 x105002 x105003 x105004 x105005 x105006 x103007 x105008 x105009 x105010 x105011 x105012 x105013 x105014 x105015) else (if x4 = 8 then (laws_toByteA16.l0 k 9 x103000 x103001 x103002 x103003 x103004 x103005 x103006 x103007 x103008 x103009 x103010 x103011 x103012 x103013 x103014 x103015 x105000 x105001 x105002 x105003 x105004 x105005 x105006 x105007 x103008 x105009 x105010 x105011 x105012 x105013 x105014 x105015) else (if x4 = 9 then (laws_toByteA16.l0 k 10 x103000 x103001 x103002 x103003 x103004 x103005 x103006 x103007 x103008 x103009 x103010 x103011 x103012 x103013 x103014 x103015 x105000 x105001 x105002 x105003 x105004 x105005 x105006 x105007 x105008 x103009 x105010 x105011 x105012 x105013 x105014 x105015) else (if x4 = 10 then (laws_toByteA16.l0 k 11 x103000 x103001 x103002 x103003 x103004 x103005 x103006 x103007 x103008 x103009 x103010 x103011 x103012 x103013 x103014 x103015 x105000 x105001 x105002 x105003 x105004 x105005 x105006 x105007 x105008 x105009 x103010 x105011 x105012 x105013 x105014 x105015) else (if x4 = 11 then (laws_toByteA16.l0 k 12 x103000 x103001 x103002 x103003 x103004 x103005 x103006 x103007 x103008 x103009 x103010 x103011 x103012 x103013 x103014 x103015 x105000 x105001 x105002 x105003 x105004 x105005 x105006 x105007 x105008 x105009 x105010 x103011 x105012 x105013 x105014 x105015) else (if x4 = 12 then (laws_toByteA16.l0 k 13 x103000 x103001 x103002 x103003 x103004 x103005 x103006 x103007 x103008 x103009 x103010 x103011 x103012 x103013 x103014 x103015 x105000 x105001 x105002 x105003 x105004 x105005 x105006 x105007 x105008 x105009 x105010 x105011 x103012 x105013 x105014 x105015) else (if x4 = 13 then (laws_toByteA16.l0 k 14 x103000 x103001 x103002 x103003 x103004 x103005 x103006 x103007 x103008 x103009 x103010 x103011 x103012 x103013 x103014 x103015 x105000 x105001 x105002 x105003 x105004 x105005 x105006 x105007 x105008 x105009 x105010 x105011 x105012 x103013 x105014 x105015) else (if x4 = 14 then (laws_toByteA16.l0 k 15 x103000 x103001 x103002 x103003 x103004 x103005 x103006 x103007 x103008 x103009 x103010 x103011 x103012 x103013 x103014 x103015 x105000 x105001 x105002 x105003 x105004 x105005 x105006 x105007 x105008 x105009 x105010 x105011 x105012 x105013 x103014 x105015) else (if x4 = 15 then (laws_toByteA16.l0 k 16 x103000 x103001 x103002 x103003 x103004 x103005 x103006 x103007 x103008 x103009 x103010 x103011 x103012 x103013 x103014 x103015 x105000 x105001 x105002 x105003 x105004 x105005 x105006 x105007 x105008 x105009 x105010 x105011 x105012 x105013 x105014 x103015) else (none))))))))))))))))) else (some (x105000, x105001, x105002, x105003, x105004, x105005, x105006, x105007, x105008, x105009, x105010, x105011, x105012, x105013, x105014, x105015))
def laws_toByteA16.f (k : Nat) (a0_0 : Int) (a0_1 : Int) (a0_2 : Int) (a0_3 : Int) (a0_4 : Int) (a0_5 : Int) (a0_6 : Int) (a0_7 : Int) (a0_8 : Int) (a0_9 : Int) (a0_10 : Int) (a0_11 : Int) (a0_12 : Int) (a0_13 : Int) (a0_14 : Int) (a0_15 : Int) : Option (Int × Int × Int × Int × Int × Int × Int × Int × Int × Int × Int × Int × Int × Int × Int × Int) := laws_toByteA16.l0 k 0 a0_0 a0_1 a0_2 a0_3 a0_4 a0_5 a0_6 a0_7 a0_8 a0_9 a0_10 a0_11 a0_12 a0_13 a0_14 a0_15 0 0 0 0 0 0 0 0 0 0 0 0 0 0 0 0
theorem laws_toByteA16.mono_l : ∀ k, (∀ y0 y1 y2 y3 y4 y5 y6 y7 y8 y9 y10 y11 y12 y13 y14 y15 y16 y17 y18 y19 y20 y21 y22 y23 y24 y25 y26 y27 y28 y29 y30 y31 y32, LeO (laws_toByteA16.l0 k y0 y1 y2 y3 y4 y5 y6 y7 y8 y9 y10 y11 y12 y13 y14 y15 y16 y17 y18 y19 y20 y21 y22 y23 y24 y25 y26 y27 y28 y29 y30 y31 y32) (laws_toByteA16.l0 (k + 1) y0 y1 y2 y3 y4 y5 y6 y7 y8 y9 y10 y11 y12 y13 y14 y15 y16 y17 y18 y19 y20 y21 y22 y23 y24 y25 y26 y27 y28 y29 y30 y31 y32))
  | 0 => fun _ _ _ _ _ _ _ _ _ _ _ _ _ _ _ _ _ _ _ _ _ _ _ _ _ _ _ _ _ _ _ _ _ r h => by simp [laws_toByteA16.l0] at h
  | k + 1 => by
    have ih0 := laws_toByteA16.mono_l k
    · intro y0 y1 y2 y3 y4 y5 y6 y7 y8 y9 y10 y11 y12 y13 y14 y15 y16 y17 y18 y19 y20 y21 y22 y23 y24 y25 y26 y27 y28 y29 y30 y31 y32
      unfold laws_toByteA16.l0
      repeat' first
      | (with_reducible exact ih0 _ _ _ _ _ _ _ _ _ _ _ _ _ _ _ _ _ _ _ _ _ _ _ _ _ _ _ _ _ _ _ _ _)
      | (with_reducible exact LeO.refl _)
      | (with_reducible exact LeO.none _)
      | (with_reducible refine LeO.ite ?_ ?_)
      | (with_reducible refine LeO.bind ?_ (fun _ => ?_))
      | exact ih0 _ _ _ _ _ _ _ _ _ _ _ _ _ _ _ _ _ _ _ _ _ _ _ _ _ _ _ _ _ _ _ _ _
      | exact LeO.none _
      | refine LeO.ite ?_ ?_
      | refine LeO.bind ?_ (fun _ => ?_)
theorem laws_toByteA16.mono : ∀ a0 a1 a2 a3 a4 a5 a6 a7 a8 a9 a10 a11 a12 a13 a14 a15 k, LeO (laws_toByteA16.f k a0 a1 a2 a3 a4 a5 a6 a7 a8 a9 a10 a11 a12 a13 a14 a15) (laws_toByteA16.f (k + 1) a0 a1 a2 a3 a4 a5 a6 a7 a8 a9 a10 a11 a12 a13 a14 a15) := by
  intro a0 a1 a2 a3 a4 a5 a6 a7 a8 a9 a10 a11 a12 a13 a14 a15 k
  have ih0 := laws_toByteA16.mono_l k
  unfold laws_toByteA16.f
  repeat' first
      | (with_reducible exact ih0 _ _ _ _ _ _ _ _ _ _ _ _ _ _ _ _ _ _ _ _ _ _ _ _ _ _ _ _ _ _ _ _ _)
      | (with_reducible exact LeO.refl _)
      | (with_reducible exact LeO.none _)
      | (with_reducible refine LeO.ite ?_ ?_)
      | (with_reducible refine LeO.bind ?_ (fun _ => ?_))
      | exact ih0 _ _ _ _ _ _ _ _ _ _ _ _ _ _ _ _ _ _ _ _ _ _ _ _ _ _ _ _ _ _ _ _ _
      | exact LeO.none _
      | refine LeO.ite ?_ ?_
      | refine LeO.bind ?_ (fun _ => ?_)
set_option maxHeartbeats 8000000 in
set_option maxRecDepth 100000 in
theorem laws_toByteA16.calls (k : Nat) (a0_0 : Int) (a0_1 : Int) (a0_2 : Int) (a0_3 : Int) (a0_4 : Int) (a0_5 : Int) (a0_6 : Int) (a0_7 : Int) (a0_8 : Int) (a0_9 : Int) (a0_10 : Int) (a0_11 : Int) (a0_12 : Int) (a0_13 : Int) (a0_14 : Int) (a0_15 : Int) (r1 : Int) (r2 : Int) (r3 : Int) (r4 : Int) (r5 : Int) (r6 : Int) (r7 : Int) (r8 : Int) (r9 : Int) (r10 : Int) (r11 : Int) (r12 : Int) (r13 : Int) (r14 : Int) (r15 : Int) (r16 : Int) (w : World) (h : laws_toByteA16.f k a0_0 a0_1 a0_2 a0_3 a0_4 a0_5 a0_6 a0_7 a0_8 a0_9 a0_10 a0_11 a0_12 a0_13 a0_14 a0_15 = some (r1, r2, r3, r4, r5, r6, r7, r8, r9, r10, r11, r12, r13, r14, r15, r16)) :
    Calls Try.prog 16 #[.agg #[.int .u8 a0_0, .int .u8 a0_1, .int .u8 a0_2, .int .u8 a0_3, .int .u8 a0_4, .int .u8 a0_5, .int .u8 a0_6, .int .u8 a0_7, .int .u8 a0_8, .int .u8 a0_9, .int .u8 a0_10, .int .u8 a0_11, .int .u8 a0_12, .int .u8 a0_13, .int .u8 a0_14, .int .u8 a0_15]] w fun e w' => e = .returned (.agg #[.int .u8 r1, .int .u8 r2, .int .u8 r3, .int .u8 r4, .int .u8 r5, .int .u8 r6, .int .u8 r7, .int .u8 r8, .int .u8 r9, .int .u8 r10, .int .u8 r11, .int .u8 r12, .int .u8 r13, .int .u8 r14, .int .u8 r15, .int .u8 r16]) ∧ Below w.heap.size w w' := by
  have hu23 := Try.underlying23
  have HB := Aside0.mk (Below.refl w.heap.size w)
  have H : (laws_toByteA16.l0 k 0 a0_0 a0_1 a0_2 a0_3 a0_4 a0_5 a0_6 a0_7 a0_8 a0_9 a0_10 a0_11 a0_12 a0_13 a0_14 a0_15 0 0 0 0 0 0 0 0 0 0 0 0 0 0 0 0) = some (r1, r2, r3, r4, r5, r6, r7, r8, r9, r10, r11, r12, r13, r14, r15, r16) := h
  clear h
  have H' := Aside0.mk H
  clear H
  go_enter Try.func16, Try.ntmps16
  go_wp2_with (first | ((with_reducible refine gate_dst (N := 1) rfl ?_); refine box_event ?hg (N := 1) ?hd (cs := #[.int .u8 a0_0, .int .u8 a0_1, .int .u8 a0_2, .int .u8 a0_3, .int .u8 a0_4, .int .u8 a0_5, .int .u8 a0_6, .int .u8 a0_7, .int .u8 a0_8, .int .u8 a0_9, .int .u8 a0_10, .int .u8 a0_11, .int .u8 a0_12, .int .u8 a0_13, .int .u8 a0_14, .int .u8 a0_15]) (t := 23) ?hr ?_; (case hd => rfl); (case hg => rfl); (case hr => first | (go_simp; done) | (go_simp; rfl)); intro gb102 hg w2 hbox hb; have n0_ := Aside0.mk (below_step (by repeat (first | (with_reducible first | exact HB.out | apply below_alloc | apply pw_below_drewN | apply below_drew1) | exact HB.out)) hb); have n1_ := Aside0.mk (hbox); have n2_ := Aside0.mk ((by rw [hg]; exact (below_size (by repeat (first | (with_reducible first | exact HB.out | apply below_alloc | apply pw_below_drewN | apply below_drew1) | exact HB.out))) : w.heap.size ≤ gb102)); have n3_ := Aside0.mk ((by rw [hg]; exact (below_size (by repeat (first | (with_reducible first | exact HB.out | apply below_alloc | apply pw_below_drewN | apply below_drew1) | exact HB.out))) : w.heap.size ≤ gb102)); clear HB; have HB := n0_; have BK102 := n1_; have GW102 := n2_; have GE102 := n3_; clear n0_ n1_ n2_ n3_; clear hb hbox hg) | ((with_reducible refine gate_dst (N := 2) rfl ?_); refine box_event ?hg (N := 2) ?hd (cs := #[.int .u8 0, .int .u8 0, .int .u8 0, .int .u8 0, .int .u8 0, .int .u8 0, .int .u8 0, .int .u8 0, .int .u8 0, .int .u8 0, .int .u8 0, .int .u8 0, .int .u8 0, .int .u8 0, .int .u8 0, .int .u8 0]) (t := 23) ?hr ?_; (case hd => rfl); (case hg => rfl); (case hr => first | (go_simp; done) | (go_simp; rfl)); intro gb103 hg w3 hbox hb; have n0_ := Aside0.mk (blk_below (g := gb102) (o := .cells #[.int .u8 a0_0, .int .u8 a0_1, .int .u8 a0_2, .int .u8 a0_3, .int .u8 a0_4, .int .u8 a0_5, .int .u8 a0_6, .int .u8 a0_7, .int .u8 a0_8, .int .u8 a0_9, .int .u8 a0_10, .int .u8 a0_11, .int .u8 a0_12, .int .u8 a0_13, .int .u8 a0_14, .int .u8 a0_15] 23 (0, 0)) (by (with_reducible repeat (first | refine blk_drewN ?_ _ | refine blk_drew ?_ | refine blk_alloc ?_ _)); exact BK102.out) hb); have n1_ := Aside0.mk (below_step (by repeat (first | (with_reducible first | exact HB.out | apply below_alloc | apply pw_below_drewN | apply below_drew1 | refine below_set ?_ GE102.out) | exact HB.out)) hb); have n2_ := Aside0.mk (hbox); have n3_ := Aside0.mk ((by rw [hg]; exact (below_size (by repeat (first | (with_reducible first | exact HB.out | apply below_alloc | apply pw_below_drewN | apply below_drew1 | refine below_set ?_ GE102.out) | exact HB.out))) : w.heap.size ≤ gb103)); have n4_ := Aside0.mk ((by rw [hg]; exact (below_size (by repeat (first | (with_reducible first | exact HB.out | apply below_alloc | apply pw_below_drewN | apply below_drew1 | refine below_set ?_ GE102.out) | exact HB.out))) : w.heap.size ≤ gb103)); have n5_ := Aside0.mk ((by rw [hg]; exact Nat.ne_of_lt (blk_lt (g := gb102) (o := .cells #[.int .u8 a0_0, .int .u8 a0_1, .int .u8 a0_2, .int .u8 a0_3, .int .u8 a0_4, .int .u8 a0_5, .int .u8 a0_6, .int .u8 a0_7, .int .u8 a0_8, .int .u8 a0_9, .int .u8 a0_10, .int .u8 a0_11, .int .u8 a0_12, .int .u8 a0_13, .int .u8 a0_14, .int .u8 a0_15] 23 (0, 0)) (by (with_reducible repeat (first | refine blk_drewN ?_ _ | refine blk_drew ?_ | refine blk_alloc ?_ _)); exact BK102.out)) : gb102 ≠ gb103)); have n6_ := Aside0.mk ((by rw [hg]; exact Nat.ne_of_gt (blk_lt (g := gb102) (o := .cells #[.int .u8 a0_0, .int .u8 a0_1, .int .u8 a0_2, .int .u8 a0_3, .int .u8 a0_4, .int .u8 a0_5, .int .u8 a0_6, .int .u8 a0_7, .int .u8 a0_8, .int .u8 a0_9, .int .u8 a0_10, .int .u8 a0_11, .int .u8 a0_12, .int .u8 a0_13, .int .u8 a0_14, .int .u8 a0_15] 23 (0, 0)) (by (with_reducible repeat (first | refine blk_drewN ?_ _ | refine blk_drew ?_ | refine blk_alloc ?_ _)); exact BK102.out)) : gb103 ≠ gb102)); clear BK102; clear HB; have BK102 := n0_; have HB := n1_; have BK103 := n2_; have GW103 := n3_; have GE103 := n4_; have NB102_103 := n5_; have NB103_102 := n6_; clear n0_ n1_ n2_ n3_ n4_ n5_ n6_; clear hb hbox hg) | ((with_reducible refine gate_dst (N := 3) rfl ?_); refine box_event ?hg (N := 3) ?hd (cs := #[.int .u8 0, .int .u8 0, .int .u8 0, .int .u8 0, .int .u8 0, .int .u8 0, .int .u8 0, .int .u8 0, .int .u8 0, .int .u8 0, .int .u8 0, .int .u8 0, .int .u8 0, .int .u8 0, .int .u8 0, .int .u8 0]) (t := 23) ?hr ?_; (case hd => rfl); (case hg => rfl); (case hr => first | (go_simp; done) | (go_simp; rfl)); intro gb104 hg w4 hbox hb; have n0_ := Aside0.mk (blk_below (g := gb102) (o := .cells #[.int .u8 a0_0, .int .u8 a0_1, .int .u8 a0_2, .int .u8 a0_3, .int .u8 a0_4, .int .u8 a0_5, .int .u8 a0_6, .int .u8 a0_7, .int .u8 a0_8, .int .u8 a0_9, .int .u8 a0_10, .int .u8 a0_11, .int .u8 a0_12, .int .u8 a0_13, .int .u8 a0_14, .int .u8 a0_15] 23 (0, 0)) (by (with_reducible repeat (first | refine blk_drewN ?_ _ | refine blk_drew ?_ | refine blk_alloc ?_ _)); exact BK102.out) hb); have n1_ := Aside0.mk (blk_below (g := gb103) (o := .cells #[.int .u8 0, .int .u8 0, .int .u8 0, .int .u8 0, .int .u8 0, .int .u8 0, .int .u8 0, .int .u8 0, .int .u8 0, .int .u8 0, .int .u8 0, .int .u8 0, .int .u8 0, .int .u8 0, .int .u8 0, .int .u8 0] 23 (0, 0)) (by (with_reducible repeat (first | refine blk_drewN ?_ _ | refine blk_drew ?_ | refine blk_alloc ?_ _)); exact BK103.out) hb); have n2_ := Aside0.mk (below_step (by repeat (first | (with_reducible first | exact HB.out | apply below_alloc | apply pw_below_drewN | apply below_drew1 | refine below_set ?_ GE102.out | refine below_set ?_ GE103.out) | exact HB.out)) hb); have n3_ := Aside0.mk (hbox); have n4_ := Aside0.mk ((by rw [hg]; exact (below_size (by repeat (first | (with_reducible first | exact HB.out | apply below_alloc | apply pw_below_drewN | apply below_drew1 | refine below_set ?_ GE102.out | refine below_set ?_ GE103.out) | exact HB.out))) : w.heap.size ≤ gb104)); have n5_ := Aside0.mk ((by rw [hg]; exact (below_size (by repeat (first | (with_reducible first | exact HB.out | apply below_alloc | apply pw_below_drewN | apply below_drew1 | refine below_set ?_ GE102.out | refine below_set ?_ GE103.out) | exact HB.out))) : w.heap.size ≤ gb104)); have n6_ := Aside0.mk ((by rw [hg]; exact Nat.ne_of_lt (blk_lt (g := gb102) (o := .cells #[.int .u8 a0_0, .int .u8 a0_1, .int .u8 a0_2, .int .u8 a0_3, .int .u8 a0_4, .int .u8 a0_5, .int .u8 a0_6, .int .u8 a0_7, .int .u8 a0_8, .int .u8 a0_9, .int .u8 a0_10, .int .u8 a0_11, .int .u8 a0_12, .int .u8 a0_13, .int .u8 a0_14, .int .u8 a0_15] 23 (0, 0)) (by (with_reducible repeat (first | refine blk_drewN ?_ _ | refine blk_drew ?_ | refine blk_alloc ?_ _)); exact BK102.out)) : gb102 ≠ gb104)); have n7_ := Aside0.mk ((by rw [hg]; exact Nat.ne_of_gt (blk_lt (g := gb102) (o := .cells #[.int .u8 a0_0, .int .u8 a0_1, .int .u8 a0_2, .int .u8 a0_3, .int .u8 a0_4, .int .u8 a0_5, .int .u8 a0_6, .int .u8 a0_7, .int .u8 a0_8, .int .u8 a0_9, .int .u8 a0_10, .int .u8 a0_11, .int .u8 a0_12, .int .u8 a0_13, .int .u8 a0_14, .int .u8 a0_15] 23 (0, 0)) (by (with_reducible repeat (first | refine blk_drewN ?_ _ | refine blk_drew ?_ | refine blk_alloc ?_ _)); exact BK102.out)) : gb104 ≠ gb102)); have n8_ := Aside0.mk ((by rw [hg]; exact Nat.ne_of_lt (blk_lt (g := gb103) (o := .cells #[.int .u8 0, .int .u8 0, .int .u8 0, .int .u8 0, .int .u8 0, .int .u8 0, .int .u8 0, .int .u8 0, .int .u8 0, .int .u8 0, .int .u8 0, .int .u8 0, .int .u8 0, .int .u8 0, .int .u8 0, .int .u8 0] 23 (0, 0)) (by (with_reducible repeat (first | refine blk_drewN ?_ _ | refine blk_drew ?_ | refine blk_alloc ?_ _)); exact BK103.out)) : gb103 ≠ gb104)); have n9_ := Aside0.mk ((by rw [hg]; exact Nat.ne_of_gt (blk_lt (g := gb103) (o := .cells #[.int .u8 0, .int .u8 0, .int .u8 0, .int .u8 0, .int .u8 0, .int .u8 0, .int .u8 0, .int .u8 0, .int .u8 0, .int .u8 0, .int .u8 0, .int .u8 0, .int .u8 0, .int .u8 0, .int .u8 0, .int .u8 0] 23 (0, 0)) (by (with_reducible repeat (first | refine blk_drewN ?_ _ | refine blk_drew ?_ | refine blk_alloc ?_ _)); exact BK103.out)) : gb104 ≠ gb103)); clear BK102; clear BK103; clear HB; have BK102 := n0_; have BK103 := n1_; have HB := n2_; have BK104 := n3_; have GW104 := n4_; have GE104 := n5_; have NB102_104 := n6_; have NB104_102 := n7_; have NB103_104 := n8_; have NB104_103 := n9_; clear n0_ n1_ n2_ n3_ n4_ n5_ n6_ n7_ n8_ n9_; clear hb hbox hg))
  go_loopg [4] k (fun kq v4 w' => ∃ (x4_1 : Int) (x105000_1 : Int) (x105001_1 : Int) (x105002_1 : Int) (x105003_1 : Int) (x105004_1 : Int) (x105005_1 : Int) (x105006_1 : Int) (x105007_1 : Int) (x105008_1 : Int) (x105009_1 : Int) (x105010_1 : Int) (x105011_1 : Int) (x105012_1 : Int) (x105013_1 : Int) (x105014_1 : Int) (x105015_1 : Int), v4 = .int .i64 x4_1 ∧ Aside0 (laws_toByteA16.l0 kq x4_1 a0_0 a0_1 a0_2 a0_3 a0_4 a0_5 a0_6 a0_7 a0_8 a0_9 a0_10 a0_11 a0_12 a0_13 a0_14 a0_15 x105000_1 x105001_1 x105002_1 x105003_1 x105004_1 x105005_1 x105006_1 x105007_1 x105008_1 x105009_1 x105010_1 x105011_1 x105012_1 x105013_1 x105014_1 x105015_1 = some (r1, r2, r3, r4, r5, r6, r7, r8, r9, r10, r11, r12, r13, r14, r15, r16)) ∧ Aside0 (kq ≤ k) ∧ Aside0 (w'.heap[gb102]? = some (.cells #[.int .u8 a0_0, .int .u8 a0_1, .int .u8 a0_2, .int .u8 a0_3, .int .u8 a0_4, .int .u8 a0_5, .int .u8 a0_6, .int .u8 a0_7, .int .u8 a0_8, .int .u8 a0_9, .int .u8 a0_10, .int .u8 a0_11, .int .u8 a0_12, .int .u8 a0_13, .int .u8 a0_14, .int .u8 a0_15] 23 (0, 0))) ∧ Aside0 (w'.heap[gb103]? = some (.cells #[.int .u8 0, .int .u8 0, .int .u8 0, .int .u8 0, .int .u8 0, .int .u8 0, .int .u8 0, .int .u8 0, .int .u8 0, .int .u8 0, .int .u8 0, .int .u8 0, .int .u8 0, .int .u8 0, .int .u8 0, .int .u8 0] 23 (0, 0))) ∧ Aside0 (w'.heap[gb104]? = some (.cells #[.int .u8 x105000_1, .int .u8 x105001_1, .int .u8 x105002_1, .int .u8 x105003_1, .int .u8 x105004_1, .int .u8 x105005_1, .int .u8 x105006_1, .int .u8 x105007_1, .int .u8 x105008_1, .int .u8 x105009_1, .int .u8 x105010_1, .int .u8 x105011_1, .int .u8 x105012_1, .int .u8 x105013_1, .int .u8 x105014_1, .int .u8 x105015_1] 23 (0, 0))) ∧ Aside0 (Below w.heap.size w w'))
  case atStart => exact ⟨(0), (0), (0), (0), (0), (0), (0), (0), (0), (0), (0), (0), (0), (0), (0), (0), (0), (by first | rfl | (simp; done) | (simp [*]; done)), H', ⟨Nat.le_refl _⟩, ⟨by (with_reducible repeat (first | refine blk_drewN ?_ _ | refine blk_drew ?_ | refine blk_alloc ?_ _)); exact BK102.out⟩, ⟨by (with_reducible repeat (first | refine blk_drewN ?_ _ | refine blk_drew ?_ | refine blk_alloc ?_ _)); exact BK103.out⟩, ⟨by (with_reducible repeat (first | refine blk_drewN ?_ _ | refine blk_drew ?_ | refine blk_alloc ?_ _)); exact BK104.out⟩, ⟨by repeat (first | (with_reducible first | exact HB.out | apply below_alloc | apply pw_below_drewN | apply below_drew1 | refine below_set ?_ GE102.out | refine below_set ?_ GE103.out | refine below_set ?_ GE104.out) | exact HB.out)⟩⟩
  case round =>
    clear H'
    try clear c1
    try clear p2
    obtain ⟨x4_1, x105000_1, x105001_1, x105002_1, x105003_1, x105004_1, x105005_1, x105006_1, x105007_1, x105008_1, x105009_1, x105010_1, x105011_1, x105012_1, x105013_1, x105014_1, x105015_1, rfl, HA, HK1, BK102, BK103, BK104, HB⟩ := hrel
    cases gk with
    | zero => exact absurd HA.out (by simp [laws_toByteA16.l0])
    | succ k1 =>
      have H := HA.out
      clear HA
      simp only [laws_toByteA16.l0] at H
      by_cases c5 : x4_1 < 16
      · rw [if_pos c5] at H
        have c5b0 : decide (x4_1 < 16) = true := decide_eq_true c5
        clear c5
        by_cases c6 : x4_1 = 0
        · rw [if_pos c6] at H
          subst c6
          replace H : (laws_toByteA16.l0 k1 1 a0_0 a0_1 a0_2 a0_3 a0_4 a0_5 a0_6 a0_7 a0_8 a0_9 a0_10 a0_11 a0_12 a0_13 a0_14 a0_15 a0_0 x105001_1 x105002_1 x105003_1 x105004_1 x105005_1 x105006_1 x105007_1 x105008_1 x105009_1 x105010_1 x105011_1 x105012_1 x105013_1 x105014_1 x105015_1) = some (r1, r2, r3, r4, r5, r6, r7, r8, r9, r10, r11, r12, r13, r14, r15, r16) := H
          have H' := Aside0.mk H
          clear H
          have hnb7 := NB102_103.out
          have hnc7 := NB103_102.out
          have hnb8 := NB102_104.out
          have hnc8 := NB104_102.out
          have hcz9_0 : wr.cell? ⟨gb102, 0, none⟩ = some (.int .u8 a0_0) := (blk_cell BK102.out 0).trans rfl
          have hcz9_1 : wr.cell? ⟨gb102, 1, none⟩ = some (.int .u8 a0_1) := (blk_cell BK102.out 1).trans rfl
          have hcz9_2 : wr.cell? ⟨gb102, 2, none⟩ = some (.int .u8 a0_2) := (blk_cell BK102.out 2).trans rfl
          have hcz9_3 : wr.cell? ⟨gb102, 3, none⟩ = some (.int .u8 a0_3) := (blk_cell BK102.out 3).trans rfl
          have hcz9_4 : wr.cell? ⟨gb102, 4, none⟩ = some (.int .u8 a0_4) := (blk_cell BK102.out 4).trans rfl
          have hcz9_5 : wr.cell? ⟨gb102, 5, none⟩ = some (.int .u8 a0_5) := (blk_cell BK102.out 5).trans rfl
          have hcz9_6 : wr.cell? ⟨gb102, 6, none⟩ = some (.int .u8 a0_6) := (blk_cell BK102.out 6).trans rfl
          have hcz9_7 : wr.cell? ⟨gb102, 7, none⟩ = some (.int .u8 a0_7) := (blk_cell BK102.out 7).trans rfl
          have hcz9_8 : wr.cell? ⟨gb102, 8, none⟩ = some (.int .u8 a0_8) := (blk_cell BK102.out 8).trans rfl
          have hcz9_9 : wr.cell? ⟨gb102, 9, none⟩ = some (.int .u8 a0_9) := (blk_cell BK102.out 9).trans rfl
          have hcz9_10 : wr.cell? ⟨gb102, 10, none⟩ = some (.int .u8 a0_10) := (blk_cell BK102.out 10).trans rfl
          have hcz9_11 : wr.cell? ⟨gb102, 11, none⟩ = some (.int .u8 a0_11) := (blk_cell BK102.out 11).trans rfl
          have hcz9_12 : wr.cell? ⟨gb102, 12, none⟩ = some (.int .u8 a0_12) := (blk_cell BK102.out 12).trans rfl
          have hcz9_13 : wr.cell? ⟨gb102, 13, none⟩ = some (.int .u8 a0_13) := (blk_cell BK102.out 13).trans rfl
          have hcz9_14 : wr.cell? ⟨gb102, 14, none⟩ = some (.int .u8 a0_14) := (blk_cell BK102.out 14).trans rfl
          have hcz9_15 : wr.cell? ⟨gb102, 15, none⟩ = some (.int .u8 a0_15) := (blk_cell BK102.out 15).trans rfl
          have hfz9_0 := blk_frozen BK102.out 0
          have hfz9_1 := blk_frozen BK102.out 1
          have hfz9_2 := blk_frozen BK102.out 2
          have hfz9_3 := blk_frozen BK102.out 3
          have hfz9_4 := blk_frozen BK102.out 4
          have hfz9_5 := blk_frozen BK102.out 5
          have hfz9_6 := blk_frozen BK102.out 6
          have hfz9_7 := blk_frozen BK102.out 7
          have hfz9_8 := blk_frozen BK102.out 8
          have hfz9_9 := blk_frozen BK102.out 9
          have hfz9_10 := blk_frozen BK102.out 10
          have hfz9_11 := blk_frozen BK102.out 11
          have hfz9_12 := blk_frozen BK102.out 12
          have hfz9_13 := blk_frozen BK102.out 13
          have hfz9_14 := blk_frozen BK102.out 14
          have hfz9_15 := blk_frozen BK102.out 15
          have hnb10 := NB104_103.out
          have hnc10 := NB103_104.out
          have hcz11_0 : wr.cell? ⟨gb104, 0, none⟩ = some (.int .u8 x105000_1) := (blk_cell BK104.out 0).trans rfl
          have hcz11_1 : wr.cell? ⟨gb104, 1, none⟩ = some (.int .u8 x105001_1) := (blk_cell BK104.out 1).trans rfl
          have hcz11_2 : wr.cell? ⟨gb104, 2, none⟩ = some (.int .u8 x105002_1) := (blk_cell BK104.out 2).trans rfl
          have hcz11_3 : wr.cell? ⟨gb104, 3, none⟩ = some (.int .u8 x105003_1) := (blk_cell BK104.out 3).trans rfl
          have hcz11_4 : wr.cell? ⟨gb104, 4, none⟩ = some (.int .u8 x105004_1) := (blk_cell BK104.out 4).trans rfl
          have hcz11_5 : wr.cell? ⟨gb104, 5, none⟩ = some (.int .u8 x105005_1) := (blk_cell BK104.out 5).trans rfl
          have hcz11_6 : wr.cell? ⟨gb104, 6, none⟩ = some (.int .u8 x105006_1) := (blk_cell BK104.out 6).trans rfl
          have hcz11_7 : wr.cell? ⟨gb104, 7, none⟩ = some (.int .u8 x105007_1) := (blk_cell BK104.out 7).trans rfl
          have hcz11_8 : wr.cell? ⟨gb104, 8, none⟩ = some (.int .u8 x105008_1) := (blk_cell BK104.out 8).trans rfl
          have hcz11_9 : wr.cell? ⟨gb104, 9, none⟩ = some (.int .u8 x105009_1) := (blk_cell BK104.out 9).trans rfl
          have hcz11_10 : wr.cell? ⟨gb104, 10, none⟩ = some (.int .u8 x105010_1) := (blk_cell BK104.out 10).trans rfl
          have hcz11_11 : wr.cell? ⟨gb104, 11, none⟩ = some (.int .u8 x105011_1) := (blk_cell BK104.out 11).trans rfl
          have hcz11_12 : wr.cell? ⟨gb104, 12, none⟩ = some (.int .u8 x105012_1) := (blk_cell BK104.out 12).trans rfl
          have hcz11_13 : wr.cell? ⟨gb104, 13, none⟩ = some (.int .u8 x105013_1) := (blk_cell BK104.out 13).trans rfl
          have hcz11_14 : wr.cell? ⟨gb104, 14, none⟩ = some (.int .u8 x105014_1) := (blk_cell BK104.out 14).trans rfl
          have hcz11_15 : wr.cell? ⟨gb104, 15, none⟩ = some (.int .u8 x105015_1) := (blk_cell BK104.out 15).trans rfl
          have hfz11_0 := blk_frozen BK104.out 0
          have hfz11_1 := blk_frozen BK104.out 1
          have hfz11_2 := blk_frozen BK104.out 2
          have hfz11_3 := blk_frozen BK104.out 3
          have hfz11_4 := blk_frozen BK104.out 4
          have hfz11_5 := blk_frozen BK104.out 5
          have hfz11_6 := blk_frozen BK104.out 6
          have hfz11_7 := blk_frozen BK104.out 7
          have hfz11_8 := blk_frozen BK104.out 8
          have hfz11_9 := blk_frozen BK104.out 9
          have hfz11_10 := blk_frozen BK104.out 10
          have hfz11_11 := blk_frozen BK104.out 11
          have hfz11_12 := blk_frozen BK104.out 12
          have hfz11_13 := blk_frozen BK104.out 13
          have hfz11_14 := blk_frozen BK104.out 14
          have hfz11_15 := blk_frozen BK104.out 15
          go_wp2
          go_roundg k1
          case measure => have := HK1.out; omega
          case rel => exact ⟨(1), (a0_0), (x105001_1), (x105002_1), (x105003_1), (x105004_1), (x105005_1), (x105006_1), (x105007_1), (x105008_1), (x105009_1), (x105010_1), (x105011_1), (x105012_1), (x105013_1), (x105014_1), (x105015_1), (by first | rfl | (simp; done) | (simp [*]; done)), H', ⟨by have := HK1.out; omega⟩, ⟨by (with_reducible repeat (first | refine blk_drewN ?_ _ | refine blk_drew ?_ | refine blk_alloc ?_ _)); refine blk_far ?_ NB102_104.out _; (with_reducible repeat (first | refine blk_drewN ?_ _ | refine blk_drew ?_ | refine blk_alloc ?_ _)); exact BK102.out⟩, ⟨by (with_reducible repeat (first | refine blk_drewN ?_ _ | refine blk_drew ?_ | refine blk_alloc ?_ _)); refine blk_far ?_ NB103_104.out _; (with_reducible repeat (first | refine blk_drewN ?_ _ | refine blk_drew ?_ | refine blk_alloc ?_ _)); exact BK103.out⟩, ⟨by (with_reducible repeat (first | refine blk_drewN ?_ _ | refine blk_drew ?_ | refine blk_alloc ?_ _)); refine blk_put (cs := #[.int .u8 x105000_1, .int .u8 x105001_1, .int .u8 x105002_1, .int .u8 x105003_1, .int .u8 x105004_1, .int .u8 x105005_1, .int .u8 x105006_1, .int .u8 x105007_1, .int .u8 x105008_1, .int .u8 x105009_1, .int .u8 x105010_1, .int .u8 x105011_1, .int .u8 x105012_1, .int .u8 x105013_1, .int .u8 x105014_1, .int .u8 x105015_1]) ?_ 0 _ rfl; (with_reducible repeat (first | refine blk_drewN ?_ _ | refine blk_drew ?_ | refine blk_alloc ?_ _)); exact BK104.out⟩, ⟨by repeat (first | (with_reducible first | exact HB.out | apply below_alloc | apply pw_below_drewN | apply below_drew1 | refine below_set ?_ GE102.out | refine below_set ?_ GE103.out | refine below_set ?_ GE104.out) | exact HB.out)⟩⟩
        rw [if_neg c6] at H
        by_cases c12 : x4_1 = 1
        · rw [if_pos c12] at H
          subst c12
          replace H : (laws_toByteA16.l0 k1 2 a0_0 a0_1 a0_2 a0_3 a0_4 a0_5 a0_6 a0_7 a0_8 a0_9 a0_10 a0_11 a0_12 a0_13 a0_14 a0_15 x105000_1 a0_1 x105002_1 x105003_1 x105004_1 x105005_1 x105006_1 x105007_1 x105008_1 x105009_1 x105010_1 x105011_1 x105012_1 x105013_1 x105014_1 x105015_1) = some (r1, r2, r3, r4, r5, r6, r7, r8, r9, r10, r11, r12, r13, r14, r15, r16) := H
          have H' := Aside0.mk H
          clear H
          have hnb13 := NB102_103.out
          have hnc13 := NB103_102.out
          have hnb14 := NB102_104.out
          have hnc14 := NB104_102.out
          have hcz15_0 : wr.cell? ⟨gb102, 0, none⟩ = some (.int .u8 a0_0) := (blk_cell BK102.out 0).trans rfl
          have hcz15_1 : wr.cell? ⟨gb102, 1, none⟩ = some (.int .u8 a0_1) := (blk_cell BK102.out 1).trans rfl
          have hcz15_2 : wr.cell? ⟨gb102, 2, none⟩ = some (.int .u8 a0_2) := (blk_cell BK102.out 2).trans rfl
          have hcz15_3 : wr.cell? ⟨gb102, 3, none⟩ = some (.int .u8 a0_3) := (blk_cell BK102.out 3).trans rfl
          have hcz15_4 : wr.cell? ⟨gb102, 4, none⟩ = some (.int .u8 a0_4) := (blk_cell BK102.out 4).trans rfl
          have hcz15_5 : wr.cell? ⟨gb102, 5, none⟩ = some (.int .u8 a0_5) := (blk_cell BK102.out 5).trans rfl
          have hcz15_6 : wr.cell? ⟨gb102, 6, none⟩ = some (.int .u8 a0_6) := (blk_cell BK102.out 6).trans rfl
          have hcz15_7 : wr.cell? ⟨gb102, 7, none⟩ = some (.int .u8 a0_7) := (blk_cell BK102.out 7).trans rfl
          have hcz15_8 : wr.cell? ⟨gb102, 8, none⟩ = some (.int .u8 a0_8) := (blk_cell BK102.out 8).trans rfl
          have hcz15_9 : wr.cell? ⟨gb102, 9, none⟩ = some (.int .u8 a0_9) := (blk_cell BK102.out 9).trans rfl
          have hcz15_10 : wr.cell? ⟨gb102, 10, none⟩ = some (.int .u8 a0_10) := (blk_cell BK102.out 10).trans rfl
          have hcz15_11 : wr.cell? ⟨gb102, 11, none⟩ = some (.int .u8 a0_11) := (blk_cell BK102.out 11).trans rfl
          have hcz15_12 : wr.cell? ⟨gb102, 12, none⟩ = some (.int .u8 a0_12) := (blk_cell BK102.out 12).trans rfl
          have hcz15_13 : wr.cell? ⟨gb102, 13, none⟩ = some (.int .u8 a0_13) := (blk_cell BK102.out 13).trans rfl
          have hcz15_14 : wr.cell? ⟨gb102, 14, none⟩ = some (.int .u8 a0_14) := (blk_cell BK102.out 14).trans rfl
          have hcz15_15 : wr.cell? ⟨gb102, 15, none⟩ = some (.int .u8 a0_15) := (blk_cell BK102.out 15).trans rfl
          have hfz15_0 := blk_frozen BK102.out 0
          have hfz15_1 := blk_frozen BK102.out 1
          have hfz15_2 := blk_frozen BK102.out 2
          have hfz15_3 := blk_frozen BK102.out 3
          have hfz15_4 := blk_frozen BK102.out 4
          have hfz15_5 := blk_frozen BK102.out 5
          have hfz15_6 := blk_frozen BK102.out 6
          have hfz15_7 := blk_frozen BK102.out 7
          have hfz15_8 := blk_frozen BK102.out 8
          have hfz15_9 := blk_frozen BK102.out 9
          have hfz15_10 := blk_frozen BK102.out 10
          have hfz15_11 := blk_frozen BK102.out 11
          have hfz15_12 := blk_frozen BK102.out 12
          have hfz15_13 := blk_frozen BK102.out 13
          have hfz15_14 := blk_frozen BK102.out 14
          have hfz15_15 := blk_frozen BK102.out 15
          have hnb16 := NB104_103.out
          have hnc16 := NB103_104.out
          have hcz17_0 : wr.cell? ⟨gb104, 0, none⟩ = some (.int .u8 x105000_1) := (blk_cell BK104.out 0).trans rfl
          have hcz17_1 : wr.cell? ⟨gb104, 1, none⟩ = some (.int .u8 x105001_1) := (blk_cell BK104.out 1).trans rfl
          have hcz17_2 : wr.cell? ⟨gb104, 2, none⟩ = some (.int .u8 x105002_1) := (blk_cell BK104.out 2).trans rfl
          have hcz17_3 : wr.cell? ⟨gb104, 3, none⟩ = some (.int .u8 x105003_1) := (blk_cell BK104.out 3).trans rfl
          have hcz17_4 : wr.cell? ⟨gb104, 4, none⟩ = some (.int .u8 x105004_1) := (blk_cell BK104.out 4).trans rfl
          have hcz17_5 : wr.cell? ⟨gb104, 5, none⟩ = some (.int .u8 x105005_1) := (blk_cell BK104.out 5).trans rfl
          have hcz17_6 : wr.cell? ⟨gb104, 6, none⟩ = some (.int .u8 x105006_1) := (blk_cell BK104.out 6).trans rfl
          have hcz17_7 : wr.cell? ⟨gb104, 7, none⟩ = some (.int .u8 x105007_1) := (blk_cell BK104.out 7).trans rfl
          have hcz17_8 : wr.cell? ⟨gb104, 8, none⟩ = some (.int .u8 x105008_1) := (blk_cell BK104.out 8).trans rfl
          have hcz17_9 : wr.cell? ⟨gb104, 9, none⟩ = some (.int .u8 x105009_1) := (blk_cell BK104.out 9).trans rfl
          have hcz17_10 : wr.cell? ⟨gb104, 10, none⟩ = some (.int .u8 x105010_1) := (blk_cell BK104.out 10).trans rfl
          have hcz17_11 : wr.cell? ⟨gb104, 11, none⟩ = some (.int .u8 x105011_1) := (blk_cell BK104.out 11).trans rfl
          have hcz17_12 : wr.cell? ⟨gb104, 12, none⟩ = some (.int .u8 x105012_1) := (blk_cell BK104.out 12).trans rfl
          have hcz17_13 : wr.cell? ⟨gb104, 13, none⟩ = some (.int .u8 x105013_1) := (blk_cell BK104.out 13).trans rfl
          have hcz17_14 : wr.cell? ⟨gb104, 14, none⟩ = some (.int .u8 x105014_1) := (blk_cell BK104.out 14).trans rfl
          have hcz17_15 : wr.cell? ⟨gb104, 15, none⟩ = some (.int .u8 x105015_1) := (blk_cell BK104.out 15).trans rfl
          have hfz17_0 := blk_frozen BK104.out 0
          have hfz17_1 := blk_frozen BK104.out 1
          have hfz17_2 := blk_frozen BK104.out 2
          have hfz17_3 := blk_frozen BK104.out 3
          have hfz17_4 := blk_frozen BK104.out 4
          have hfz17_5 := blk_frozen BK104.out 5
          have hfz17_6 := blk_frozen BK104.out 6
          have hfz17_7 := blk_frozen BK104.out 7
          have hfz17_8 := blk_frozen BK104.out 8
          have hfz17_9 := blk_frozen BK104.out 9
          have hfz17_10 := blk_frozen BK104.out 10
          have hfz17_11 := blk_frozen BK104.out 11
          have hfz17_12 := blk_frozen BK104.out 12
          have hfz17_13 := blk_frozen BK104.out 13
          have hfz17_14 := blk_frozen BK104.out 14
          have hfz17_15 := blk_frozen BK104.out 15
          go_wp2
          go_roundg k1
          case measure => have := HK1.out; omega
          case rel => exact ⟨(2), (x105000_1), (a0_1), (x105002_1), (x105003_1), (x105004_1), (x105005_1), (x105006_1), (x105007_1), (x105008_1), (x105009_1), (x105010_1), (x105011_1), (x105012_1), (x105013_1), (x105014_1), (x105015_1), (by first | rfl | (simp; done) | (simp [*]; done)), H', ⟨by have := HK1.out; omega⟩, ⟨by (with_reducible repeat (first | refine blk_drewN ?_ _ | refine blk_drew ?_ | refine blk_alloc ?_ _)); refine blk_far ?_ NB102_104.out _; (with_reducible repeat (first | refine blk_drewN ?_ _ | refine blk_drew ?_ | refine blk_alloc ?_ _)); exact BK102.out⟩, ⟨by (with_reducible repeat (first | refine blk_drewN ?_ _ | refine blk_drew ?_ | refine blk_alloc ?_ _)); refine blk_far ?_ NB103_104.out _; (with_reducible repeat (first | refine blk_drewN ?_ _ | refine blk_drew ?_ | refine blk_alloc ?_ _)); exact BK103.out⟩, ⟨by (with_reducible repeat (first | refine blk_drewN ?_ _ | refine blk_drew ?_ | refine blk_alloc ?_ _)); refine blk_put (cs := #[.int .u8 x105000_1, .int .u8 x105001_1, .int .u8 x105002_1, .int .u8 x105003_1, .int .u8 x105004_1, .int .u8 x105005_1, .int .u8 x105006_1, .int .u8 x105007_1, .int .u8 x105008_1, .int .u8 x105009_1, .int .u8 x105010_1, .int .u8 x105011_1, .int .u8 x105012_1, .int .u8 x105013_1, .int .u8 x105014_1, .int .u8 x105015_1]) ?_ 1 _ rfl; (with_reducible repeat (first | refine blk_drewN ?_ _ | refine blk_drew ?_ | refine blk_alloc ?_ _)); exact BK104.out⟩, ⟨by repeat (first | (with_reducible first | exact HB.out | apply below_alloc | apply pw_below_drewN | apply below_drew1 | refine below_set ?_ GE102.out | refine below_set ?_ GE103.out | refine below_set ?_ GE104.out) | exact HB.out)⟩⟩
        rw [if_neg c12] at H
        by_cases c18 : x4_1 = 2
        · rw [if_pos c18] at H
          subst c18
          replace H : (laws_toByteA16.l0 k1 3 a0_0 a0_1 a0_2 a0_3 a0_4 a0_5 a0_6 a0_7 a0_8 a0_9 a0_10 a0_11 a0_12 a0_13 a0_14 a0_15 x105000_1 x105001_1 a0_2 x105003_1 x105004_1 x105005_1 x105006_1 x105007_1 x105008_1 x105009_1 x105010_1 x105011_1 x105012_1 x105013_1 x105014_1 x105015_1) = some (r1, r2, r3, r4, r5, r6, r7, r8, r9, r10, r11, r12, r13, r14, r15, r16) := H
          have H' := Aside0.mk H
          clear H
          have hnb19 := NB102_103.out
          have hnc19 := NB103_102.out
          have hnb20 := NB102_104.out
          have hnc20 := NB104_102.out
          have hcz21_0 : wr.cell? ⟨gb102, 0, none⟩ = some (.int .u8 a0_0) := (blk_cell BK102.out 0).trans rfl
          have hcz21_1 : wr.cell? ⟨gb102, 1, none⟩ = some (.int .u8 a0_1) := (blk_cell BK102.out 1).trans rfl
          have hcz21_2 : wr.cell? ⟨gb102, 2, none⟩ = some (.int .u8 a0_2) := (blk_cell BK102.out 2).trans rfl
          have hcz21_3 : wr.cell? ⟨gb102, 3, none⟩ = some (.int .u8 a0_3) := (blk_cell BK102.out 3).trans rfl
          have hcz21_4 : wr.cell? ⟨gb102, 4, none⟩ = some (.int .u8 a0_4) := (blk_cell BK102.out 4).trans rfl
          have hcz21_5 : wr.cell? ⟨gb102, 5, none⟩ = some (.int .u8 a0_5) := (blk_cell BK102.out 5).trans rfl
          have hcz21_6 : wr.cell? ⟨gb102, 6, none⟩ = some (.int .u8 a0_6) := (blk_cell BK102.out 6).trans rfl
          have hcz21_7 : wr.cell? ⟨gb102, 7, none⟩ = some (.int .u8 a0_7) := (blk_cell BK102.out 7).trans rfl
          have hcz21_8 : wr.cell? ⟨gb102, 8, none⟩ = some (.int .u8 a0_8) := (blk_cell BK102.out 8).trans rfl
          have hcz21_9 : wr.cell? ⟨gb102, 9, none⟩ = some (.int .u8 a0_9) := (blk_cell BK102.out 9).trans rfl
          have hcz21_10 : wr.cell? ⟨gb102, 10, none⟩ = some (.int .u8 a0_10) := (blk_cell BK102.out 10).trans rfl
          have hcz21_11 : wr.cell? ⟨gb102, 11, none⟩ = some (.int .u8 a0_11) := (blk_cell BK102.out 11).trans rfl
          have hcz21_12 : wr.cell? ⟨gb102, 12, none⟩ = some (.int .u8 a0_12) := (blk_cell BK102.out 12).trans rfl
          have hcz21_13 : wr.cell? ⟨gb102, 13, none⟩ = some (.int .u8 a0_13) := (blk_cell BK102.out 13).trans rfl
          have hcz21_14 : wr.cell? ⟨gb102, 14, none⟩ = some (.int .u8 a0_14) := (blk_cell BK102.out 14).trans rfl
          have hcz21_15 : wr.cell? ⟨gb102, 15, none⟩ = some (.int .u8 a0_15) := (blk_cell BK102.out 15).trans rfl
          have hfz21_0 := blk_frozen BK102.out 0
          have hfz21_1 := blk_frozen BK102.out 1
          have hfz21_2 := blk_frozen BK102.out 2
          have hfz21_3 := blk_frozen BK102.out 3
          have hfz21_4 := blk_frozen BK102.out 4
          have hfz21_5 := blk_frozen BK102.out 5
          have hfz21_6 := blk_frozen BK102.out 6
          have hfz21_7 := blk_frozen BK102.out 7
          have hfz21_8 := blk_frozen BK102.out 8
          have hfz21_9 := blk_frozen BK102.out 9
          have hfz21_10 := blk_frozen BK102.out 10
          have hfz21_11 := blk_frozen BK102.out 11
          have hfz21_12 := blk_frozen BK102.out 12
          have hfz21_13 := blk_frozen BK102.out 13
          have hfz21_14 := blk_frozen BK102.out 14
          have hfz21_15 := blk_frozen BK102.out 15
          have hnb22 := NB104_103.out
          have hnc22 := NB103_104.out
          have hcz23_0 : wr.cell? ⟨gb104, 0, none⟩ = some (.int .u8 x105000_1) := (blk_cell BK104.out 0).trans rfl
          have hcz23_1 : wr.cell? ⟨gb104, 1, none⟩ = some (.int .u8 x105001_1) := (blk_cell BK104.out 1).trans rfl
          have hcz23_2 : wr.cell? ⟨gb104, 2, none⟩ = some (.int .u8 x105002_1) := (blk_cell BK104.out 2).trans rfl
          have hcz23_3 : wr.cell? ⟨gb104, 3, none⟩ = some (.int .u8 x105003_1) := (blk_cell BK104.out 3).trans rfl
          have hcz23_4 : wr.cell? ⟨gb104, 4, none⟩ = some (.int .u8 x105004_1) := (blk_cell BK104.out 4).trans rfl
          have hcz23_5 : wr.cell? ⟨gb104, 5, none⟩ = some (.int .u8 x105005_1) := (blk_cell BK104.out 5).trans rfl
          have hcz23_6 : wr.cell? ⟨gb104, 6, none⟩ = some (.int .u8 x105006_1) := (blk_cell BK104.out 6).trans rfl
          have hcz23_7 : wr.cell? ⟨gb104, 7, none⟩ = some (.int .u8 x105007_1) := (blk_cell BK104.out 7).trans rfl
          have hcz23_8 : wr.cell? ⟨gb104, 8, none⟩ = some (.int .u8 x105008_1) := (blk_cell BK104.out 8).trans rfl
          have hcz23_9 : wr.cell? ⟨gb104, 9, none⟩ = some (.int .u8 x105009_1) := (blk_cell BK104.out 9).trans rfl
          have hcz23_10 : wr.cell? ⟨gb104, 10, none⟩ = some (.int .u8 x105010_1) := (blk_cell BK104.out 10).trans rfl
          have hcz23_11 : wr.cell? ⟨gb104, 11, none⟩ = some (.int .u8 x105011_1) := (blk_cell BK104.out 11).trans rfl
          have hcz23_12 : wr.cell? ⟨gb104, 12, none⟩ = some (.int .u8 x105012_1) := (blk_cell BK104.out 12).trans rfl
          have hcz23_13 : wr.cell? ⟨gb104, 13, none⟩ = some (.int .u8 x105013_1) := (blk_cell BK104.out 13).trans rfl
          have hcz23_14 : wr.cell? ⟨gb104, 14, none⟩ = some (.int .u8 x105014_1) := (blk_cell BK104.out 14).trans rfl
          have hcz23_15 : wr.cell? ⟨gb104, 15, none⟩ = some (.int .u8 x105015_1) := (blk_cell BK104.out 15).trans rfl
          have hfz23_0 := blk_frozen BK104.out 0
          have hfz23_1 := blk_frozen BK104.out 1
          have hfz23_2 := blk_frozen BK104.out 2
          have hfz23_3 := blk_frozen BK104.out 3
          have hfz23_4 := blk_frozen BK104.out 4
          have hfz23_5 := blk_frozen BK104.out 5
          have hfz23_6 := blk_frozen BK104.out 6
          have hfz23_7 := blk_frozen BK104.out 7
          have hfz23_8 := blk_frozen BK104.out 8
          have hfz23_9 := blk_frozen BK104.out 9
          have hfz23_10 := blk_frozen BK104.out 10
          have hfz23_11 := blk_frozen BK104.out 11
          have hfz23_12 := blk_frozen BK104.out 12
          have hfz23_13 := blk_frozen BK104.out 13
          have hfz23_14 := blk_frozen BK104.out 14
          have hfz23_15 := blk_frozen BK104.out 15
          go_wp2
          go_roundg k1
          case measure => have := HK1.out; omega
          case rel => exact ⟨(3), (x105000_1), (x105001_1), (a0_2), (x105003_1), (x105004_1), (x105005_1), (x105006_1), (x105007_1), (x105008_1), (x105009_1), (x105010_1), (x105011_1), (x105012_1), (x105013_1), (x105014_1), (x105015_1), (by first | rfl | (simp; done) | (simp [*]; done)), H', ⟨by have := HK1.out; omega⟩, ⟨by (with_reducible repeat (first | refine blk_drewN ?_ _ | refine blk_drew ?_ | refine blk_alloc ?_ _)); refine blk_far ?_ NB102_104.out _; (with_reducible repeat (first | refine blk_drewN ?_ _ | refine blk_drew ?_ | refine blk_alloc ?_ _)); exact BK102.out⟩, ⟨by (with_reducible repeat (first | refine blk_drewN ?_ _ | refine blk_drew ?_ | refine blk_alloc ?_ _)); refine blk_far ?_ NB103_104.out _; (with_reducible repeat (first | refine blk_drewN ?_ _ | refine blk_drew ?_ | refine blk_alloc ?_ _)); exact BK103.out⟩, ⟨by (with_reducible repeat (first | refine blk_drewN ?_ _ | refine blk_drew ?_ | refine blk_alloc ?_ _)); refine blk_put (cs := #[.int .u8 x105000_1, .int .u8 x105001_1, .int .u8 x105002_1, .int .u8 x105003_1, .int .u8 x105004_1, .int .u8 x105005_1, .int .u8 x105006_1, .int .u8 x105007_1, .int .u8 x105008_1, .int .u8 x105009_1, .int .u8 x105010_1, .int .u8 x105011_1, .int .u8 x105012_1, .int .u8 x105013_1, .int .u8 x105014_1, .int .u8 x105015_1]) ?_ 2 _ rfl; (with_reducible repeat (first | refine blk_drewN ?_ _ | refine blk_drew ?_ | refine blk_alloc ?_ _)); exact BK104.out⟩, ⟨by repeat (first | (with_reducible first | exact HB.out | apply below_alloc | apply pw_below_drewN | apply below_drew1 | refine below_set ?_ GE102.out | refine below_set ?_ GE103.out | refine below_set ?_ GE104.out) | exact HB.out)⟩⟩
        rw [if_neg c18] at H
        by_cases c24 : x4_1 = 3
        · rw [if_pos c24] at H
          subst c24
          replace H : (laws_toByteA16.l0 k1 4 a0_0 a0_1 a0_2 a0_3 a0_4 a0_5 a0_6 a0_7 a0_8 a0_9 a0_10 a0_11 a0_12 a0_13 a0_14 a0_15 x105000_1 x105001_1 x105002_1 a0_3 x105004_1 x105005_1 x105006_1 x105007_1 x105008_1 x105009_1 x105010_1 x105011_1 x105012_1 x105013_1 x105014_1 x105015_1) = some (r1, r2, r3, r4, r5, r6, r7, r8, r9, r10, r11, r12, r13, r14, r15, r16) := H
          have H' := Aside0.mk H
          clear H
          have hnb25 := NB102_103.out
          have hnc25 := NB103_102.out
          have hnb26 := NB102_104.out
          have hnc26 := NB104_102.out
          have hcz27_0 : wr.cell? ⟨gb102, 0, none⟩ = some (.int .u8 a0_0) := (blk_cell BK102.out 0).trans rfl
          have hcz27_1 : wr.cell? ⟨gb102, 1, none⟩ = some (.int .u8 a0_1) := (blk_cell BK102.out 1).trans rfl
          have hcz27_2 : wr.cell? ⟨gb102, 2, none⟩ = some (.int .u8 a0_2) := (blk_cell BK102.out 2).trans rfl
          have hcz27_3 : wr.cell? ⟨gb102, 3, none⟩ = some (.int .u8 a0_3) := (blk_cell BK102.out 3).trans rfl
          have hcz27_4 : wr.cell? ⟨gb102, 4, none⟩ = some (.int .u8 a0_4) := (blk_cell BK102.out 4).trans rfl
          have hcz27_5 : wr.cell? ⟨gb102, 5, none⟩ = some (.int .u8 a0_5) := (blk_cell BK102.out 5).trans rfl
          have hcz27_6 : wr.cell? ⟨gb102, 6, none⟩ = some (.int .u8 a0_6) := (blk_cell BK102.out 6).trans rfl
          have hcz27_7 : wr.cell? ⟨gb102, 7, none⟩ = some (.int .u8 a0_7) := (blk_cell BK102.out 7).trans rfl
          have hcz27_8 : wr.cell? ⟨gb102, 8, none⟩ = some (.int .u8 a0_8) := (blk_cell BK102.out 8).trans rfl
          have hcz27_9 : wr.cell? ⟨gb102, 9, none⟩ = some (.int .u8 a0_9) := (blk_cell BK102.out 9).trans rfl
          have hcz27_10 : wr.cell? ⟨gb102, 10, none⟩ = some (.int .u8 a0_10) := (blk_cell BK102.out 10).trans rfl
          have hcz27_11 : wr.cell? ⟨gb102, 11, none⟩ = some (.int .u8 a0_11) := (blk_cell BK102.out 11).trans rfl
          have hcz27_12 : wr.cell? ⟨gb102, 12, none⟩ = some (.int .u8 a0_12) := (blk_cell BK102.out 12).trans rfl
          have hcz27_13 : wr.cell? ⟨gb102, 13, none⟩ = some (.int .u8 a0_13) := (blk_cell BK102.out 13).trans rfl
          have hcz27_14 : wr.cell? ⟨gb102, 14, none⟩ = some (.int .u8 a0_14) := (blk_cell BK102.out 14).trans rfl
          have hcz27_15 : wr.cell? ⟨gb102, 15, none⟩ = some (.int .u8 a0_15) := (blk_cell BK102.out 15).trans rfl
          have hfz27_0 := blk_frozen BK102.out 0
          have hfz27_1 := blk_frozen BK102.out 1
          have hfz27_2 := blk_frozen BK102.out 2
          have hfz27_3 := blk_frozen BK102.out 3
          have hfz27_4 := blk_frozen BK102.out 4
          have hfz27_5 := blk_frozen BK102.out 5
          have hfz27_6 := blk_frozen BK102.out 6
          have hfz27_7 := blk_frozen BK102.out 7
          have hfz27_8 := blk_frozen BK102.out 8
          have hfz27_9 := blk_frozen BK102.out 9
          have hfz27_10 := blk_frozen BK102.out 10
          have hfz27_11 := blk_frozen BK102.out 11
          have hfz27_12 := blk_frozen BK102.out 12
          have hfz27_13 := blk_frozen BK102.out 13
          have hfz27_14 := blk_frozen BK102.out 14
          have hfz27_15 := blk_frozen BK102.out 15
          have hnb28 := NB104_103.out
          have hnc28 := NB103_104.out
          have hcz29_0 : wr.cell? ⟨gb104, 0, none⟩ = some (.int .u8 x105000_1) := (blk_cell BK104.out 0).trans rfl
          have hcz29_1 : wr.cell? ⟨gb104, 1, none⟩ = some (.int .u8 x105001_1) := (blk_cell BK104.out 1).trans rfl
          have hcz29_2 : wr.cell? ⟨gb104, 2, none⟩ = some (.int .u8 x105002_1) := (blk_cell BK104.out 2).trans rfl
          have hcz29_3 : wr.cell? ⟨gb104, 3, none⟩ = some (.int .u8 x105003_1) := (blk_cell BK104.out 3).trans rfl
          have hcz29_4 : wr.cell? ⟨gb104, 4, none⟩ = some (.int .u8 x105004_1) := (blk_cell BK104.out 4).trans rfl
          have hcz29_5 : wr.cell? ⟨gb104, 5, none⟩ = some (.int .u8 x105005_1) := (blk_cell BK104.out 5).trans rfl
          have hcz29_6 : wr.cell? ⟨gb104, 6, none⟩ = some (.int .u8 x105006_1) := (blk_cell BK104.out 6).trans rfl
          have hcz29_7 : wr.cell? ⟨gb104, 7, none⟩ = some (.int .u8 x105007_1) := (blk_cell BK104.out 7).trans rfl
          have hcz29_8 : wr.cell? ⟨gb104, 8, none⟩ = some (.int .u8 x105008_1) := (blk_cell BK104.out 8).trans rfl
          have hcz29_9 : wr.cell? ⟨gb104, 9, none⟩ = some (.int .u8 x105009_1) := (blk_cell BK104.out 9).trans rfl
          have hcz29_10 : wr.cell? ⟨gb104, 10, none⟩ = some (.int .u8 x105010_1) := (blk_cell BK104.out 10).trans rfl
          have hcz29_11 : wr.cell? ⟨gb104, 11, none⟩ = some (.int .u8 x105011_1) := (blk_cell BK104.out 11).trans rfl
          have hcz29_12 : wr.cell? ⟨gb104, 12, none⟩ = some (.int .u8 x105012_1) := (blk_cell BK104.out 12).trans rfl
          have hcz29_13 : wr.cell? ⟨gb104, 13, none⟩ = some (.int .u8 x105013_1) := (blk_cell BK104.out 13).trans rfl
          have hcz29_14 : wr.cell? ⟨gb104, 14, none⟩ = some (.int .u8 x105014_1) := (blk_cell BK104.out 14).trans rfl
          have hcz29_15 : wr.cell? ⟨gb104, 15, none⟩ = some (.int .u8 x105015_1) := (blk_cell BK104.out 15).trans rfl
          have hfz29_0 := blk_frozen BK104.out 0
          have hfz29_1 := blk_frozen BK104.out 1
          have hfz29_2 := blk_frozen BK104.out 2
          have hfz29_3 := blk_frozen BK104.out 3
          have hfz29_4 := blk_frozen BK104.out 4
          have hfz29_5 := blk_frozen BK104.out 5
          have hfz29_6 := blk_frozen BK104.out 6
          have hfz29_7 := blk_frozen BK104.out 7
          have hfz29_8 := blk_frozen BK104.out 8
          have hfz29_9 := blk_frozen BK104.out 9
          have hfz29_10 := blk_frozen BK104.out 10
          have hfz29_11 := blk_frozen BK104.out 11
          have hfz29_12 := blk_frozen BK104.out 12
          have hfz29_13 := blk_frozen BK104.out 13
          have hfz29_14 := blk_frozen BK104.out 14
          have hfz29_15 := blk_frozen BK104.out 15
          go_wp2
          go_roundg k1
          case measure => have := HK1.out; omega
          case rel => exact ⟨(4), (x105000_1), (x105001_1), (x105002_1), (a0_3), (x105004_1), (x105005_1), (x105006_1), (x105007_1), (x105008_1), (x105009_1), (x105010_1), (x105011_1), (x105012_1), (x105013_1), (x105014_1), (x105015_1), (by first | rfl | (simp; done) | (simp [*]; done)), H', ⟨by have := HK1.out; omega⟩, ⟨by (with_reducible repeat (first | refine blk_drewN ?_ _ | refine blk_drew ?_ | refine blk_alloc ?_ _)); refine blk_far ?_ NB102_104.out _; (with_reducible repeat (first | refine blk_drewN ?_ _ | refine blk_drew ?_ | refine blk_alloc ?_ _)); exact BK102.out⟩, ⟨by (with_reducible repeat (first | refine blk_drewN ?_ _ | refine blk_drew ?_ | refine blk_alloc ?_ _)); refine blk_far ?_ NB103_104.out _; (with_reducible repeat (first | refine blk_drewN ?_ _ | refine blk_drew ?_ | refine blk_alloc ?_ _)); exact BK103.out⟩, ⟨by (with_reducible repeat (first | refine blk_drewN ?_ _ | refine blk_drew ?_ | refine blk_alloc ?_ _)); refine blk_put (cs := #[.int .u8 x105000_1, .int .u8 x105001_1, .int .u8 x105002_1, .int .u8 x105003_1, .int .u8 x105004_1, .int .u8 x105005_1, .int .u8 x105006_1, .int .u8 x105007_1, .int .u8 x105008_1, .int .u8 x105009_1, .int .u8 x105010_1, .int .u8 x105011_1, .int .u8 x105012_1, .int .u8 x105013_1, .int .u8 x105014_1, .int .u8 x105015_1]) ?_ 3 _ rfl; (with_reducible repeat (first | refine blk_drewN ?_ _ | refine blk_drew ?_ | refine blk_alloc ?_ _)); exact BK104.out⟩, ⟨by repeat (first | (with_reducible first | exact HB.out | apply below_alloc | apply pw_below_drewN | apply below_drew1 | refine below_set ?_ GE102.out | refine below_set ?_ GE103.out | refine below_set ?_ GE104.out) | exact HB.out)⟩⟩
        rw [if_neg c24] at H
        by_cases c30 : x4_1 = 4
        · rw [if_pos c30] at H
          subst c30
          replace H : (laws_toByteA16.l0 k1 5 a0_0 a0_1 a0_2 a0_3 a0_4 a0_5 a0_6 a0_7 a0_8 a0_9 a0_10 a0_11 a0_12 a0_13 a0_14 a0_15 x105000_1 x105001_1 x105002_1 x105003_1 a0_4 x105005_1 x105006_1 x105007_1 x105008_1 x105009_1 x105010_1 x105011_1 x105012_1 x105013_1 x105014_1 x105015_1) = some (r1, r2, r3, r4, r5, r6, r7, r8, r9, r10, r11, r12, r13, r14, r15, r16) := H
          have H' := Aside0.mk H
          clear H
          have hnb31 := NB102_103.out
          have hnc31 := NB103_102.out
          have hnb32 := NB102_104.out
          have hnc32 := NB104_102.out
          have hcz33_0 : wr.cell? ⟨gb102, 0, none⟩ = some (.int .u8 a0_0) := (blk_cell BK102.out 0).trans rfl
          have hcz33_1 : wr.cell? ⟨gb102, 1, none⟩ = some (.int .u8 a0_1) := (blk_cell BK102.out 1).trans rfl
          have hcz33_2 : wr.cell? ⟨gb102, 2, none⟩ = some (.int .u8 a0_2) := (blk_cell BK102.out 2).trans rfl
          have hcz33_3 : wr.cell? ⟨gb102, 3, none⟩ = some (.int .u8 a0_3) := (blk_cell BK102.out 3).trans rfl
          have hcz33_4 : wr.cell? ⟨gb102, 4, none⟩ = some (.int .u8 a0_4) := (blk_cell BK102.out 4).trans rfl
          have hcz33_5 : wr.cell? ⟨gb102, 5, none⟩ = some (.int .u8 a0_5) := (blk_cell BK102.out 5).trans rfl
          have hcz33_6 : wr.cell? ⟨gb102, 6, none⟩ = some (.int .u8 a0_6) := (blk_cell BK102.out 6).trans rfl
          have hcz33_7 : wr.cell? ⟨gb102, 7, none⟩ = some (.int .u8 a0_7) := (blk_cell BK102.out 7).trans rfl
          have hcz33_8 : wr.cell? ⟨gb102, 8, none⟩ = some (.int .u8 a0_8) := (blk_cell BK102.out 8).trans rfl
          have hcz33_9 : wr.cell? ⟨gb102, 9, none⟩ = some (.int .u8 a0_9) := (blk_cell BK102.out 9).trans rfl
          have hcz33_10 : wr.cell? ⟨gb102, 10, none⟩ = some (.int .u8 a0_10) := (blk_cell BK102.out 10).trans rfl
          have hcz33_11 : wr.cell? ⟨gb102, 11, none⟩ = some (.int .u8 a0_11) := (blk_cell BK102.out 11).trans rfl
          have hcz33_12 : wr.cell? ⟨gb102, 12, none⟩ = some (.int .u8 a0_12) := (blk_cell BK102.out 12).trans rfl
          have hcz33_13 : wr.cell? ⟨gb102, 13, none⟩ = some (.int .u8 a0_13) := (blk_cell BK102.out 13).trans rfl
          have hcz33_14 : wr.cell? ⟨gb102, 14, none⟩ = some (.int .u8 a0_14) := (blk_cell BK102.out 14).trans rfl
          have hcz33_15 : wr.cell? ⟨gb102, 15, none⟩ = some (.int .u8 a0_15) := (blk_cell BK102.out 15).trans rfl
          have hfz33_0 := blk_frozen BK102.out 0
          have hfz33_1 := blk_frozen BK102.out 1
          have hfz33_2 := blk_frozen BK102.out 2
          have hfz33_3 := blk_frozen BK102.out 3
          have hfz33_4 := blk_frozen BK102.out 4
          have hfz33_5 := blk_frozen BK102.out 5
          have hfz33_6 := blk_frozen BK102.out 6
          have hfz33_7 := blk_frozen BK102.out 7
          have hfz33_8 := blk_frozen BK102.out 8
          have hfz33_9 := blk_frozen BK102.out 9
          have hfz33_10 := blk_frozen BK102.out 10
          have hfz33_11 := blk_frozen BK102.out 11
          have hfz33_12 := blk_frozen BK102.out 12
          have hfz33_13 := blk_frozen BK102.out 13
          have hfz33_14 := blk_frozen BK102.out 14
          have hfz33_15 := blk_frozen BK102.out 15
          have hnb34 := NB104_103.out
          have hnc34 := NB103_104.out
          have hcz35_0 : wr.cell? ⟨gb104, 0, none⟩ = some (.int .u8 x105000_1) := (blk_cell BK104.out 0).trans rfl
          have hcz35_1 : wr.cell? ⟨gb104, 1, none⟩ = some (.int .u8 x105001_1) := (blk_cell BK104.out 1).trans rfl
          have hcz35_2 : wr.cell? ⟨gb104, 2, none⟩ = some (.int .u8 x105002_1) := (blk_cell BK104.out 2).trans rfl
          have hcz35_3 : wr.cell? ⟨gb104, 3, none⟩ = some (.int .u8 x105003_1) := (blk_cell BK104.out 3).trans rfl
          have hcz35_4 : wr.cell? ⟨gb104, 4, none⟩ = some (.int .u8 x105004_1) := (blk_cell BK104.out 4).trans rfl
          have hcz35_5 : wr.cell? ⟨gb104, 5, none⟩ = some (.int .u8 x105005_1) := (blk_cell BK104.out 5).trans rfl
          have hcz35_6 : wr.cell? ⟨gb104, 6, none⟩ = some (.int .u8 x105006_1) := (blk_cell BK104.out 6).trans rfl
          have hcz35_7 : wr.cell? ⟨gb104, 7, none⟩ = some (.int .u8 x105007_1) := (blk_cell BK104.out 7).trans rfl
          have hcz35_8 : wr.cell? ⟨gb104, 8, none⟩ = some (.int .u8 x105008_1) := (blk_cell BK104.out 8).trans rfl
          have hcz35_9 : wr.cell? ⟨gb104, 9, none⟩ = some (.int .u8 x105009_1) := (blk_cell BK104.out 9).trans rfl
          have hcz35_10 : wr.cell? ⟨gb104, 10, none⟩ = some (.int .u8 x105010_1) := (blk_cell BK104.out 10).trans rfl
          have hcz35_11 : wr.cell? ⟨gb104, 11, none⟩ = some (.int .u8 x105011_1) := (blk_cell BK104.out 11).trans rfl
          have hcz35_12 : wr.cell? ⟨gb104, 12, none⟩ = some (.int .u8 x105012_1) := (blk_cell BK104.out 12).trans rfl
          have hcz35_13 : wr.cell? ⟨gb104, 13, none⟩ = some (.int .u8 x105013_1) := (blk_cell BK104.out 13).trans rfl
          have hcz35_14 : wr.cell? ⟨gb104, 14, none⟩ = some (.int .u8 x105014_1) := (blk_cell BK104.out 14).trans rfl
          have hcz35_15 : wr.cell? ⟨gb104, 15, none⟩ = some (.int .u8 x105015_1) := (blk_cell BK104.out 15).trans rfl
          have hfz35_0 := blk_frozen BK104.out 0
          have hfz35_1 := blk_frozen BK104.out 1
          have hfz35_2 := blk_frozen BK104.out 2
          have hfz35_3 := blk_frozen BK104.out 3
          have hfz35_4 := blk_frozen BK104.out 4
          have hfz35_5 := blk_frozen BK104.out 5
          have hfz35_6 := blk_frozen BK104.out 6
          have hfz35_7 := blk_frozen BK104.out 7
          have hfz35_8 := blk_frozen BK104.out 8
          have hfz35_9 := blk_frozen BK104.out 9
          have hfz35_10 := blk_frozen BK104.out 10
          have hfz35_11 := blk_frozen BK104.out 11
          have hfz35_12 := blk_frozen BK104.out 12
          have hfz35_13 := blk_frozen BK104.out 13
          have hfz35_14 := blk_frozen BK104.out 14
          have hfz35_15 := blk_frozen BK104.out 15
          go_wp2
          go_roundg k1
          case measure => have := HK1.out; omega
          case rel => exact ⟨(5), (x105000_1), (x105001_1), (x105002_1), (x105003_1), (a0_4), (x105005_1), (x105006_1), (x105007_1), (x105008_1), (x105009_1), (x105010_1), (x105011_1), (x105012_1), (x105013_1), (x105014_1), (x105015_1), (by first | rfl | (simp; done) | (simp [*]; done)), H', ⟨by have := HK1.out; omega⟩, ⟨by (with_reducible repeat (first | refine blk_drewN ?_ _ | refine blk_drew ?_ | refine blk_alloc ?_ _)); refine blk_far ?_ NB102_104.out _; (with_reducible repeat (first | refine blk_drewN ?_ _ | refine blk_drew ?_ | refine blk_alloc ?_ _)); exact BK102.out⟩, ⟨by (with_reducible repeat (first | refine blk_drewN ?_ _ | refine blk_drew ?_ | refine blk_alloc ?_ _)); refine blk_far ?_ NB103_104.out _; (with_reducible repeat (first | refine blk_drewN ?_ _ | refine blk_drew ?_ | refine blk_alloc ?_ _)); exact BK103.out⟩, ⟨by (with_reducible repeat (first | refine blk_drewN ?_ _ | refine blk_drew ?_ | refine blk_alloc ?_ _)); refine blk_put (cs := #[.int .u8 x105000_1, .int .u8 x105001_1, .int .u8 x105002_1, .int .u8 x105003_1, .int .u8 x105004_1, .int .u8 x105005_1, .int .u8 x105006_1, .int .u8 x105007_1, .int .u8 x105008_1, .int .u8 x105009_1, .int .u8 x105010_1, .int .u8 x105011_1, .int .u8 x105012_1, .int .u8 x105013_1, .int .u8 x105014_1, .int .u8 x105015_1]) ?_ 4 _ rfl; (with_reducible repeat (first | refine blk_drewN ?_ _ | refine blk_drew ?_ | refine blk_alloc ?_ _)); exact BK104.out⟩, ⟨by repeat (first | (with_reducible first | exact HB.out | apply below_alloc | apply pw_below_drewN | apply below_drew1 | refine below_set ?_ GE102.out | refine below_set ?_ GE103.out | refine below_set ?_ GE104.out) | exact HB.out)⟩⟩
        rw [if_neg c30] at H
        by_cases c36 : x4_1 = 5
        · rw [if_pos c36] at H
          subst c36
          replace H : (laws_toByteA16.l0 k1 6 a0_0 a0_1 a0_2 a0_3 a0_4 a0_5 a0_6 a0_7 a0_8 a0_9 a0_10 a0_11 a0_12 a0_13 a0_14 a0_15 x105000_1 x105001_1 x105002_1 x105003_1 x105004_1 a0_5 x105006_1 x105007_1 x105008_1 x105009_1 x105010_1 x105011_1 x105012_1 x105013_1 x105014_1 x105015_1) = some (r1, r2, r3, r4, r5, r6, r7, r8, r9, r10, r11, r12, r13, r14, r15, r16) := H
          have H' := Aside0.mk H
          clear H
          have hnb37 := NB102_103.out
          have hnc37 := NB103_102.out
          have hnb38 := NB102_104.out
          have hnc38 := NB104_102.out
          have hcz39_0 : wr.cell? ⟨gb102, 0, none⟩ = some (.int .u8 a0_0) := (blk_cell BK102.out 0).trans rfl
          have hcz39_1 : wr.cell? ⟨gb102, 1, none⟩ = some (.int .u8 a0_1) := (blk_cell BK102.out 1).trans rfl
          have hcz39_2 : wr.cell? ⟨gb102, 2, none⟩ = some (.int .u8 a0_2) := (blk_cell BK102.out 2).trans rfl
          have hcz39_3 : wr.cell? ⟨gb102, 3, none⟩ = some (.int .u8 a0_3) := (blk_cell BK102.out 3).trans rfl
          have hcz39_4 : wr.cell? ⟨gb102, 4, none⟩ = some (.int .u8 a0_4) := (blk_cell BK102.out 4).trans rfl
          have hcz39_5 : wr.cell? ⟨gb102, 5, none⟩ = some (.int .u8 a0_5) := (blk_cell BK102.out 5).trans rfl
          have hcz39_6 : wr.cell? ⟨gb102, 6, none⟩ = some (.int .u8 a0_6) := (blk_cell BK102.out 6).trans rfl
          have hcz39_7 : wr.cell? ⟨gb102, 7, none⟩ = some (.int .u8 a0_7) := (blk_cell BK102.out 7).trans rfl
          have hcz39_8 : wr.cell? ⟨gb102, 8, none⟩ = some (.int .u8 a0_8) := (blk_cell BK102.out 8).trans rfl
          have hcz39_9 : wr.cell? ⟨gb102, 9, none⟩ = some (.int .u8 a0_9) := (blk_cell BK102.out 9).trans rfl
          have hcz39_10 : wr.cell? ⟨gb102, 10, none⟩ = some (.int .u8 a0_10) := (blk_cell BK102.out 10).trans rfl
          have hcz39_11 : wr.cell? ⟨gb102, 11, none⟩ = some (.int .u8 a0_11) := (blk_cell BK102.out 11).trans rfl
          have hcz39_12 : wr.cell? ⟨gb102, 12, none⟩ = some (.int .u8 a0_12) := (blk_cell BK102.out 12).trans rfl
          have hcz39_13 : wr.cell? ⟨gb102, 13, none⟩ = some (.int .u8 a0_13) := (blk_cell BK102.out 13).trans rfl
          have hcz39_14 : wr.cell? ⟨gb102, 14, none⟩ = some (.int .u8 a0_14) := (blk_cell BK102.out 14).trans rfl
          have hcz39_15 : wr.cell? ⟨gb102, 15, none⟩ = some (.int .u8 a0_15) := (blk_cell BK102.out 15).trans rfl
          have hfz39_0 := blk_frozen BK102.out 0
          have hfz39_1 := blk_frozen BK102.out 1
          have hfz39_2 := blk_frozen BK102.out 2
          have hfz39_3 := blk_frozen BK102.out 3
          have hfz39_4 := blk_frozen BK102.out 4
          have hfz39_5 := blk_frozen BK102.out 5
          have hfz39_6 := blk_frozen BK102.out 6
          have hfz39_7 := blk_frozen BK102.out 7
          have hfz39_8 := blk_frozen BK102.out 8
          have hfz39_9 := blk_frozen BK102.out 9
          have hfz39_10 := blk_frozen BK102.out 10
          have hfz39_11 := blk_frozen BK102.out 11
          have hfz39_12 := blk_frozen BK102.out 12
          have hfz39_13 := blk_frozen BK102.out 13
          have hfz39_14 := blk_frozen BK102.out 14
          have hfz39_15 := blk_frozen BK102.out 15
          have hnb40 := NB104_103.out
          have hnc40 := NB103_104.out
          have hcz41_0 : wr.cell? ⟨gb104, 0, none⟩ = some (.int .u8 x105000_1) := (blk_cell BK104.out 0).trans rfl
          have hcz41_1 : wr.cell? ⟨gb104, 1, none⟩ = some (.int .u8 x105001_1) := (blk_cell BK104.out 1).trans rfl
          have hcz41_2 : wr.cell? ⟨gb104, 2, none⟩ = some (.int .u8 x105002_1) := (blk_cell BK104.out 2).trans rfl
          have hcz41_3 : wr.cell? ⟨gb104, 3, none⟩ = some (.int .u8 x105003_1) := (blk_cell BK104.out 3).trans rfl
          have hcz41_4 : wr.cell? ⟨gb104, 4, none⟩ = some (.int .u8 x105004_1) := (blk_cell BK104.out 4).trans rfl
          have hcz41_5 : wr.cell? ⟨gb104, 5, none⟩ = some (.int .u8 x105005_1) := (blk_cell BK104.out 5).trans rfl
          have hcz41_6 : wr.cell? ⟨gb104, 6, none⟩ = some (.int .u8 x105006_1) := (blk_cell BK104.out 6).trans rfl
          have hcz41_7 : wr.cell? ⟨gb104, 7, none⟩ = some (.int .u8 x105007_1) := (blk_cell BK104.out 7).trans rfl
          have hcz41_8 : wr.cell? ⟨gb104, 8, none⟩ = some (.int .u8 x105008_1) := (blk_cell BK104.out 8).trans rfl
          have hcz41_9 : wr.cell? ⟨gb104, 9, none⟩ = some (.int .u8 x105009_1) := (blk_cell BK104.out 9).trans rfl
          have hcz41_10 : wr.cell? ⟨gb104, 10, none⟩ = some (.int .u8 x105010_1) := (blk_cell BK104.out 10).trans rfl
          have hcz41_11 : wr.cell? ⟨gb104, 11, none⟩ = some (.int .u8 x105011_1) := (blk_cell BK104.out 11).trans rfl
          have hcz41_12 : wr.cell? ⟨gb104, 12, none⟩ = some (.int .u8 x105012_1) := (blk_cell BK104.out 12).trans rfl
          have hcz41_13 : wr.cell? ⟨gb104, 13, none⟩ = some (.int .u8 x105013_1) := (blk_cell BK104.out 13).trans rfl
          have hcz41_14 : wr.cell? ⟨gb104, 14, none⟩ = some (.int .u8 x105014_1) := (blk_cell BK104.out 14).trans rfl
          have hcz41_15 : wr.cell? ⟨gb104, 15, none⟩ = some (.int .u8 x105015_1) := (blk_cell BK104.out 15).trans rfl
          have hfz41_0 := blk_frozen BK104.out 0
          have hfz41_1 := blk_frozen BK104.out 1
          have hfz41_2 := blk_frozen BK104.out 2
          have hfz41_3 := blk_frozen BK104.out 3
          have hfz41_4 := blk_frozen BK104.out 4
          have hfz41_5 := blk_frozen BK104.out 5
          have hfz41_6 := blk_frozen BK104.out 6
          have hfz41_7 := blk_frozen BK104.out 7
          have hfz41_8 := blk_frozen BK104.out 8
          have hfz41_9 := blk_frozen BK104.out 9
          have hfz41_10 := blk_frozen BK104.out 10
          have hfz41_11 := blk_frozen BK104.out 11
          have hfz41_12 := blk_frozen BK104.out 12
          have hfz41_13 := blk_frozen BK104.out 13
          have hfz41_14 := blk_frozen BK104.out 14
          have hfz41_15 := blk_frozen BK104.out 15
          go_wp2
          go_roundg k1
          case measure => have := HK1.out; omega
          case rel => exact ⟨(6), (x105000_1), (x105001_1), (x105002_1), (x105003_1), (x105004_1), (a0_5), (x105006_1), (x105007_1), (x105008_1), (x105009_1), (x105010_1), (x105011_1), (x105012_1), (x105013_1), (x105014_1), (x105015_1), (by first | rfl | (simp; done) | (simp [*]; done)), H', ⟨by have := HK1.out; omega⟩, ⟨by (with_reducible repeat (first | refine blk_drewN ?_ _ | refine blk_drew ?_ | refine blk_alloc ?_ _)); refine blk_far ?_ NB102_104.out _; (with_reducible repeat (first | refine blk_drewN ?_ _ | refine blk_drew ?_ | refine blk_alloc ?_ _)); exact BK102.out⟩, ⟨by (with_reducible repeat (first | refine blk_drewN ?_ _ | refine blk_drew ?_ | refine blk_alloc ?_ _)); refine blk_far ?_ NB103_104.out _; (with_reducible repeat (first | refine blk_drewN ?_ _ | refine blk_drew ?_ | refine blk_alloc ?_ _)); exact BK103.out⟩, ⟨by (with_reducible repeat (first | refine blk_drewN ?_ _ | refine blk_drew ?_ | refine blk_alloc ?_ _)); refine blk_put (cs := #[.int .u8 x105000_1, .int .u8 x105001_1, .int .u8 x105002_1, .int .u8 x105003_1, .int .u8 x105004_1, .int .u8 x105005_1, .int .u8 x105006_1, .int .u8 x105007_1, .int .u8 x105008_1, .int .u8 x105009_1, .int .u8 x105010_1, .int .u8 x105011_1, .int .u8 x105012_1, .int .u8 x105013_1, .int .u8 x105014_1, .int .u8 x105015_1]) ?_ 5 _ rfl; (with_reducible repeat (first | refine blk_drewN ?_ _ | refine blk_drew ?_ | refine blk_alloc ?_ _)); exact BK104.out⟩, ⟨by repeat (first | (with_reducible first | exact HB.out | apply below_alloc | apply pw_below_drewN | apply below_drew1 | refine below_set ?_ GE102.out | refine below_set ?_ GE103.out | refine below_set ?_ GE104.out) | exact HB.out)⟩⟩
        rw [if_neg c36] at H
        by_cases c42 : x4_1 = 6
        · rw [if_pos c42] at H
          subst c42
          replace H : (laws_toByteA16.l0 k1 7 a0_0 a0_1 a0_2 a0_3 a0_4 a0_5 a0_6 a0_7 a0_8 a0_9 a0_10 a0_11 a0_12 a0_13 a0_14 a0_15 x105000_1 x105001_1 x105002_1 x105003_1 x105004_1 x105005_1 a0_6 x105007_1 x105008_1 x105009_1 x105010_1 x105011_1 x105012_1 x105013_1 x105014_1 x105015_1) = some (r1, r2, r3, r4, r5, r6, r7, r8, r9, r10, r11, r12, r13, r14, r15, r16) := H
          have H' := Aside0.mk H
          clear H
          have hnb43 := NB102_103.out
          have hnc43 := NB103_102.out
          have hnb44 := NB102_104.out
          have hnc44 := NB104_102.out
          have hcz45_0 : wr.cell? ⟨gb102, 0, none⟩ = some (.int .u8 a0_0) := (blk_cell BK102.out 0).trans rfl
          have hcz45_1 : wr.cell? ⟨gb102, 1, none⟩ = some (.int .u8 a0_1) := (blk_cell BK102.out 1).trans rfl
          have hcz45_2 : wr.cell? ⟨gb102, 2, none⟩ = some (.int .u8 a0_2) := (blk_cell BK102.out 2).trans rfl
          have hcz45_3 : wr.cell? ⟨gb102, 3, none⟩ = some (.int .u8 a0_3) := (blk_cell BK102.out 3).trans rfl
          have hcz45_4 : wr.cell? ⟨gb102, 4, none⟩ = some (.int .u8 a0_4) := (blk_cell BK102.out 4).trans rfl
          have hcz45_5 : wr.cell? ⟨gb102, 5, none⟩ = some (.int .u8 a0_5) := (blk_cell BK102.out 5).trans rfl
          have hcz45_6 : wr.cell? ⟨gb102, 6, none⟩ = some (.int .u8 a0_6) := (blk_cell BK102.out 6).trans rfl
          have hcz45_7 : wr.cell? ⟨gb102, 7, none⟩ = some (.int .u8 a0_7) := (blk_cell BK102.out 7).trans rfl
          have hcz45_8 : wr.cell? ⟨gb102, 8, none⟩ = some (.int .u8 a0_8) := (blk_cell BK102.out 8).trans rfl
          have hcz45_9 : wr.cell? ⟨gb102, 9, none⟩ = some (.int .u8 a0_9) := (blk_cell BK102.out 9).trans rfl
          have hcz45_10 : wr.cell? ⟨gb102, 10, none⟩ = some (.int .u8 a0_10) := (blk_cell BK102.out 10).trans rfl
          have hcz45_11 : wr.cell? ⟨gb102, 11, none⟩ = some (.int .u8 a0_11) := (blk_cell BK102.out 11).trans rfl
          have hcz45_12 : wr.cell? ⟨gb102, 12, none⟩ = some (.int .u8 a0_12) := (blk_cell BK102.out 12).trans rfl
          have hcz45_13 : wr.cell? ⟨gb102, 13, none⟩ = some (.int .u8 a0_13) := (blk_cell BK102.out 13).trans rfl
          have hcz45_14 : wr.cell? ⟨gb102, 14, none⟩ = some (.int .u8 a0_14) := (blk_cell BK102.out 14).trans rfl
          have hcz45_15 : wr.cell? ⟨gb102, 15, none⟩ = some (.int .u8 a0_15) := (blk_cell BK102.out 15).trans rfl
          have hfz45_0 := blk_frozen BK102.out 0
          have hfz45_1 := blk_frozen BK102.out 1
          have hfz45_2 := blk_frozen BK102.out 2
          have hfz45_3 := blk_frozen BK102.out 3
          have hfz45_4 := blk_frozen BK102.out 4
          have hfz45_5 := blk_frozen BK102.out 5
          have hfz45_6 := blk_frozen BK102.out 6
          have hfz45_7 := blk_frozen BK102.out 7
          have hfz45_8 := blk_frozen BK102.out 8
          have hfz45_9 := blk_frozen BK102.out 9
          have hfz45_10 := blk_frozen BK102.out 10
          have hfz45_11 := blk_frozen BK102.out 11
          have hfz45_12 := blk_frozen BK102.out 12
          have hfz45_13 := blk_frozen BK102.out 13
          have hfz45_14 := blk_frozen BK102.out 14
          have hfz45_15 := blk_frozen BK102.out 15
          have hnb46 := NB104_103.out
          have hnc46 := NB103_104.out
          have hcz47_0 : wr.cell? ⟨gb104, 0, none⟩ = some (.int .u8 x105000_1) := (blk_cell BK104.out 0).trans rfl
          have hcz47_1 : wr.cell? ⟨gb104, 1, none⟩ = some (.int .u8 x105001_1) := (blk_cell BK104.out 1).trans rfl
          have hcz47_2 : wr.cell? ⟨gb104, 2, none⟩ = some (.int .u8 x105002_1) := (blk_cell BK104.out 2).trans rfl
          have hcz47_3 : wr.cell? ⟨gb104, 3, none⟩ = some (.int .u8 x105003_1) := (blk_cell BK104.out 3).trans rfl
          have hcz47_4 : wr.cell? ⟨gb104, 4, none⟩ = some (.int .u8 x105004_1) := (blk_cell BK104.out 4).trans rfl
          have hcz47_5 : wr.cell? ⟨gb104, 5, none⟩ = some (.int .u8 x105005_1) := (blk_cell BK104.out 5).trans rfl
          have hcz47_6 : wr.cell? ⟨gb104, 6, none⟩ = some (.int .u8 x105006_1) := (blk_cell BK104.out 6).trans rfl
          have hcz47_7 : wr.cell? ⟨gb104, 7, none⟩ = some (.int .u8 x105007_1) := (blk_cell BK104.out 7).trans rfl
          have hcz47_8 : wr.cell? ⟨gb104, 8, none⟩ = some (.int .u8 x105008_1) := (blk_cell BK104.out 8).trans rfl
          have hcz47_9 : wr.cell? ⟨gb104, 9, none⟩ = some (.int .u8 x105009_1) := (blk_cell BK104.out 9).trans rfl
          have hcz47_10 : wr.cell? ⟨gb104, 10, none⟩ = some (.int .u8 x105010_1) := (blk_cell BK104.out 10).trans rfl
          have hcz47_11 : wr.cell? ⟨gb104, 11, none⟩ = some (.int .u8 x105011_1) := (blk_cell BK104.out 11).trans rfl
          have hcz47_12 : wr.cell? ⟨gb104, 12, none⟩ = some (.int .u8 x105012_1) := (blk_cell BK104.out 12).trans rfl
          have hcz47_13 : wr.cell? ⟨gb104, 13, none⟩ = some (.int .u8 x105013_1) := (blk_cell BK104.out 13).trans rfl
          have hcz47_14 : wr.cell? ⟨gb104, 14, none⟩ = some (.int .u8 x105014_1) := (blk_cell BK104.out 14).trans rfl
          have hcz47_15 : wr.cell? ⟨gb104, 15, none⟩ = some (.int .u8 x105015_1) := (blk_cell BK104.out 15).trans rfl
          have hfz47_0 := blk_frozen BK104.out 0
          have hfz47_1 := blk_frozen BK104.out 1
          have hfz47_2 := blk_frozen BK104.out 2
          have hfz47_3 := blk_frozen BK104.out 3
          have hfz47_4 := blk_frozen BK104.out 4
          have hfz47_5 := blk_frozen BK104.out 5
          have hfz47_6 := blk_frozen BK104.out 6
          have hfz47_7 := blk_frozen BK104.out 7
          have hfz47_8 := blk_frozen BK104.out 8
          have hfz47_9 := blk_frozen BK104.out 9
          have hfz47_10 := blk_frozen BK104.out 10
          have hfz47_11 := blk_frozen BK104.out 11
          have hfz47_12 := blk_frozen BK104.out 12
          have hfz47_13 := blk_frozen BK104.out 13
          have hfz47_14 := blk_frozen BK104.out 14
          have hfz47_15 := blk_frozen BK104.out 15
          go_wp2
          go_roundg k1
          case measure => have := HK1.out; omega
          case rel => exact ⟨(7), (x105000_1), (x105001_1), (x105002_1), (x105003_1), (x105004_1), (x105005_1), (a0_6), (x105007_1), (x105008_1), (x105009_1), (x105010_1), (x105011_1), (x105012_1), (x105013_1), (x105014_1), (x105015_1), (by first | rfl | (simp; done) | (simp [*]; done)), H', ⟨by have := HK1.out; omega⟩, ⟨by (with_reducible repeat (first | refine blk_drewN ?_ _ | refine blk_drew ?_ | refine blk_alloc ?_ _)); refine blk_far ?_ NB102_104.out _; (with_reducible repeat (first | refine blk_drewN ?_ _ | refine blk_drew ?_ | refine blk_alloc ?_ _)); exact BK102.out⟩, ⟨by (with_reducible repeat (first | refine blk_drewN ?_ _ | refine blk_drew ?_ | refine blk_alloc ?_ _)); refine blk_far ?_ NB103_104.out _; (with_reducible repeat (first | refine blk_drewN ?_ _ | refine blk_drew ?_ | refine blk_alloc ?_ _)); exact BK103.out⟩, ⟨by (with_reducible repeat (first | refine blk_drewN ?_ _ | refine blk_drew ?_ | refine blk_alloc ?_ _)); refine blk_put (cs := #[.int .u8 x105000_1, .int .u8 x105001_1, .int .u8 x105002_1, .int .u8 x105003_1, .int .u8 x105004_1, .int .u8 x105005_1, .int .u8 x105006_1, .int .u8 x105007_1, .int .u8 x105008_1, .int .u8 x105009_1, .int .u8 x105010_1, .int .u8 x105011_1, .int .u8 x105012_1, .int .u8 x105013_1, .int .u8 x105014_1, .int .u8 x105015_1]) ?_ 6 _ rfl; (with_reducible repeat (first | refine blk_drewN ?_ _ | refine blk_drew ?_ | refine blk_alloc ?_ _)); exact BK104.out⟩, ⟨by repeat (first | (with_reducible first | exact HB.out | apply below_alloc | apply pw_below_drewN | apply below_drew1 | refine below_set ?_ GE102.out | refine below_set ?_ GE103.out | refine below_set ?_ GE104.out) | exact HB.out)⟩⟩
        rw [if_neg c42] at H
        by_cases c48 : x4_1 = 7
        · rw [if_pos c48] at H
          subst c48
          replace H : (laws_toByteA16.l0 k1 8 a0_0 a0_1 a0_2 a0_3 a0_4 a0_5 a0_6 a0_7 a0_8 a0_9 a0_10 a0_11 a0_12 a0_13 a0_14 a0_15 x105000_1 x105001_1 x105002_1 x105003_1 x105004_1 x105005_1 x105006_1 a0_7 x105008_1 x105009_1 x105010_1 x105011_1 x105012_1 x105013_1 x105014_1 x105015_1) = some (r1, r2, r3, r4, r5, r6, r7, r8, r9, r10, r11, r12, r13, r14, r15, r16) := H
          have H' := Aside0.mk H
          clear H
          have hnb49 := NB102_103.out
          have hnc49 := NB103_102.out
          have hnb50 := NB102_104.out
          have hnc50 := NB104_102.out
          have hcz51_0 : wr.cell? ⟨gb102, 0, none⟩ = some (.int .u8 a0_0) := (blk_cell BK102.out 0).trans rfl
          have hcz51_1 : wr.cell? ⟨gb102, 1, none⟩ = some (.int .u8 a0_1) := (blk_cell BK102.out 1).trans rfl
          have hcz51_2 : wr.cell? ⟨gb102, 2, none⟩ = some (.int .u8 a0_2) := (blk_cell BK102.out 2).trans rfl
          have hcz51_3 : wr.cell? ⟨gb102, 3, none⟩ = some (.int .u8 a0_3) := (blk_cell BK102.out 3).trans rfl
          have hcz51_4 : wr.cell? ⟨gb102, 4, none⟩ = some (.int .u8 a0_4) := (blk_cell BK102.out 4).trans rfl
          have hcz51_5 : wr.cell? ⟨gb102, 5, none⟩ = some (.int .u8 a0_5) := (blk_cell BK102.out 5).trans rfl
          have hcz51_6 : wr.cell? ⟨gb102, 6, none⟩ = some (.int .u8 a0_6) := (blk_cell BK102.out 6).trans rfl
          have hcz51_7 : wr.cell? ⟨gb102, 7, none⟩ = some (.int .u8 a0_7) := (blk_cell BK102.out 7).trans rfl
          have hcz51_8 : wr.cell? ⟨gb102, 8, none⟩ = some (.int .u8 a0_8) := (blk_cell BK102.out 8).trans rfl
          have hcz51_9 : wr.cell? ⟨gb102, 9, none⟩ = some (.int .u8 a0_9) := (blk_cell BK102.out 9).trans rfl
          have hcz51_10 : wr.cell? ⟨gb102, 10, none⟩ = some (.int .u8 a0_10) := (blk_cell BK102.out 10).trans rfl
          have hcz51_11 : wr.cell? ⟨gb102, 11, none⟩ = some (.int .u8 a0_11) := (blk_cell BK102.out 11).trans rfl
          have hcz51_12 : wr.cell? ⟨gb102, 12, none⟩ = some (.int .u8 a0_12) := (blk_cell BK102.out 12).trans rfl
          have hcz51_13 : wr.cell? ⟨gb102, 13, none⟩ = some (.int .u8 a0_13) := (blk_cell BK102.out 13).trans rfl
          have hcz51_14 : wr.cell? ⟨gb102, 14, none⟩ = some (.int .u8 a0_14) := (blk_cell BK102.out 14).trans rfl
          have hcz51_15 : wr.cell? ⟨gb102, 15, none⟩ = some (.int .u8 a0_15) := (blk_cell BK102.out 15).trans rfl
          have hfz51_0 := blk_frozen BK102.out 0
          have hfz51_1 := blk_frozen BK102.out 1
          have hfz51_2 := blk_frozen BK102.out 2
          have hfz51_3 := blk_frozen BK102.out 3
          have hfz51_4 := blk_frozen BK102.out 4
          have hfz51_5 := blk_frozen BK102.out 5
          have hfz51_6 := blk_frozen BK102.out 6
          have hfz51_7 := blk_frozen BK102.out 7
          have hfz51_8 := blk_frozen BK102.out 8
          have hfz51_9 := blk_frozen BK102.out 9
          have hfz51_10 := blk_frozen BK102.out 10
          have hfz51_11 := blk_frozen BK102.out 11
          have hfz51_12 := blk_frozen BK102.out 12
          have hfz51_13 := blk_frozen BK102.out 13
          have hfz51_14 := blk_frozen BK102.out 14
          have hfz51_15 := blk_frozen BK102.out 15
          have hnb52 := NB104_103.out
          have hnc52 := NB103_104.out
          have hcz53_0 : wr.cell? ⟨gb104, 0, none⟩ = some (.int .u8 x105000_1) := (blk_cell BK104.out 0).trans rfl
          have hcz53_1 : wr.cell? ⟨gb104, 1, none⟩ = some (.int .u8 x105001_1) := (blk_cell BK104.out 1).trans rfl
          have hcz53_2 : wr.cell? ⟨gb104, 2, none⟩ = some (.int .u8 x105002_1) := (blk_cell BK104.out 2).trans rfl
          have hcz53_3 : wr.cell? ⟨gb104, 3, none⟩ = some (.int .u8 x105003_1) := (blk_cell BK104.out 3).trans rfl
          have hcz53_4 : wr.cell? ⟨gb104, 4, none⟩ = some (.int .u8 x105004_1) := (blk_cell BK104.out 4).trans rfl
          have hcz53_5 : wr.cell? ⟨gb104, 5, none⟩ = some (.int .u8 x105005_1) := (blk_cell BK104.out 5).trans rfl
          have hcz53_6 : wr.cell? ⟨gb104, 6, none⟩ = some (.int .u8 x105006_1) := (blk_cell BK104.out 6).trans rfl
          have hcz53_7 : wr.cell? ⟨gb104, 7, none⟩ = some (.int .u8 x105007_1) := (blk_cell BK104.out 7).trans rfl
          have hcz53_8 : wr.cell? ⟨gb104, 8, none⟩ = some (.int .u8 x105008_1) := (blk_cell BK104.out 8).trans rfl
          have hcz53_9 : wr.cell? ⟨gb104, 9, none⟩ = some (.int .u8 x105009_1) := (blk_cell BK104.out 9).trans rfl
          have hcz53_10 : wr.cell? ⟨gb104, 10, none⟩ = some (.int .u8 x105010_1) := (blk_cell BK104.out 10).trans rfl
          have hcz53_11 : wr.cell? ⟨gb104, 11, none⟩ = some (.int .u8 x105011_1) := (blk_cell BK104.out 11).trans rfl
          have hcz53_12 : wr.cell? ⟨gb104, 12, none⟩ = some (.int .u8 x105012_1) := (blk_cell BK104.out 12).trans rfl
          have hcz53_13 : wr.cell? ⟨gb104, 13, none⟩ = some (.int .u8 x105013_1) := (blk_cell BK104.out 13).trans rfl
          have hcz53_14 : wr.cell? ⟨gb104, 14, none⟩ = some (.int .u8 x105014_1) := (blk_cell BK104.out 14).trans rfl
          have hcz53_15 : wr.cell? ⟨gb104, 15, none⟩ = some (.int .u8 x105015_1) := (blk_cell BK104.out 15).trans rfl
          have hfz53_0 := blk_frozen BK104.out 0
          have hfz53_1 := blk_frozen BK104.out 1
          have hfz53_2 := blk_frozen BK104.out 2
          have hfz53_3 := blk_frozen BK104.out 3
          have hfz53_4 := blk_frozen BK104.out 4
          have hfz53_5 := blk_frozen BK104.out 5
          have hfz53_6 := blk_frozen BK104.out 6
          have hfz53_7 := blk_frozen BK104.out 7
          have hfz53_8 := blk_frozen BK104.out 8
          have hfz53_9 := blk_frozen BK104.out 9
          have hfz53_10 := blk_frozen BK104.out 10
          have hfz53_11 := blk_frozen BK104.out 11
          have hfz53_12 := blk_frozen BK104.out 12
          have hfz53_13 := blk_frozen BK104.out 13
          have hfz53_14 := blk_frozen BK104.out 14
          have hfz53_15 := blk_frozen BK104.out 15
          go_wp2
          go_roundg k1
          case measure => have := HK1.out; omega
          case rel => exact ⟨(8), (x105000_1), (x105001_1), (x105002_1), (x105003_1), (x105004_1), (x105005_1), (x105006_1), (a0_7), (x105008_1), (x105009_1), (x105010_1), (x105011_1), (x105012_1), (x105013_1), (x105014_1), (x105015_1), (by first | rfl | (simp; done) | (simp [*]; done)), H', ⟨by have := HK1.out; omega⟩, ⟨by (with_reducible repeat (first | refine blk_drewN ?_ _ | refine blk_drew ?_ | refine blk_alloc ?_ _)); refine blk_far ?_ NB102_104.out _; (with_reducible repeat (first | refine blk_drewN ?_ _ | refine blk_drew ?_ | refine blk_alloc ?_ _)); exact BK102.out⟩, ⟨by (with_reducible repeat (first | refine blk_drewN ?_ _ | refine blk_drew ?_ | refine blk_alloc ?_ _)); refine blk_far ?_ NB103_104.out _; (with_reducible repeat (first | refine blk_drewN ?_ _ | refine blk_drew ?_ | refine blk_alloc ?_ _)); exact BK103.out⟩, ⟨by (with_reducible repeat (first | refine blk_drewN ?_ _ | refine blk_drew ?_ | refine blk_alloc ?_ _)); refine blk_put (cs := #[.int .u8 x105000_1, .int .u8 x105001_1, .int .u8 x105002_1, .int .u8 x105003_1, .int .u8 x105004_1, .int .u8 x105005_1, .int .u8 x105006_1, .int .u8 x105007_1, .int .u8 x105008_1, .int .u8 x105009_1, .int .u8 x105010_1, .int .u8 x105011_1, .int .u8 x105012_1, .int .u8 x105013_1, .int .u8 x105014_1, .int .u8 x105015_1]) ?_ 7 _ rfl; (with_reducible repeat (first | refine blk_drewN ?_ _ | refine blk_drew ?_ | refine blk_alloc ?_ _)); exact BK104.out⟩, ⟨by repeat (first | (with_reducible first | exact HB.out | apply below_alloc | apply pw_below_drewN | apply below_drew1 | refine below_set ?_ GE102.out | refine below_set ?_ GE103.out | refine below_set ?_ GE104.out) | exact HB.out)⟩⟩
        rw [if_neg c48] at H
        by_cases c54 : x4_1 = 8
        · rw [if_pos c54] at H
          subst c54
          replace H : (laws_toByteA16.l0 k1 9 a0_0 a0_1 a0_2 a0_3 a0_4 a0_5 a0_6 a0_7 a0_8 a0_9 a0_10 a0_11 a0_12 a0_13 a0_14 a0_15 x105000_1 x105001_1 x105002_1 x105003_1 x105004_1 x105005_1 x105006_1 x105007_1 a0_8 x105009_1 x105010_1 x105011_1 x105012_1 x105013_1 x105014_1 x105015_1) = some (r1, r2, r3, r4, r5, r6, r7, r8, r9, r10, r11, r12, r13, r14, r15, r16) := H
          have H' := Aside0.mk H
          clear H
          have hnb55 := NB102_103.out
          have hnc55 := NB103_102.out
          have hnb56 := NB102_104.out
          have hnc56 := NB104_102.out
          have hcz57_0 : wr.cell? ⟨gb102, 0, none⟩ = some (.int .u8 a0_0) := (blk_cell BK102.out 0).trans rfl
          have hcz57_1 : wr.cell? ⟨gb102, 1, none⟩ = some (.int .u8 a0_1) := (blk_cell BK102.out 1).trans rfl
          have hcz57_2 : wr.cell? ⟨gb102, 2, none⟩ = some (.int .u8 a0_2) := (blk_cell BK102.out 2).trans rfl
          have hcz57_3 : wr.cell? ⟨gb102, 3, none⟩ = some (.int .u8 a0_3) := (blk_cell BK102.out 3).trans rfl
          have hcz57_4 : wr.cell? ⟨gb102, 4, none⟩ = some (.int .u8 a0_4) := (blk_cell BK102.out 4).trans rfl
          have hcz57_5 : wr.cell? ⟨gb102, 5, none⟩ = some (.int .u8 a0_5) := (blk_cell BK102.out 5).trans rfl
          have hcz57_6 : wr.cell? ⟨gb102, 6, none⟩ = some (.int .u8 a0_6) := (blk_cell BK102.out 6).trans rfl
          have hcz57_7 : wr.cell? ⟨gb102, 7, none⟩ = some (.int .u8 a0_7) := (blk_cell BK102.out 7).trans rfl
          have hcz57_8 : wr.cell? ⟨gb102, 8, none⟩ = some (.int .u8 a0_8) := (blk_cell BK102.out 8).trans rfl
          have hcz57_9 : wr.cell? ⟨gb102, 9, none⟩ = some (.int .u8 a0_9) := (blk_cell BK102.out 9).trans rfl
          have hcz57_10 : wr.cell? ⟨gb102, 10, none⟩ = some (.int .u8 a0_10) := (blk_cell BK102.out 10).trans rfl
          have hcz57_11 : wr.cell? ⟨gb102, 11, none⟩ = some (.int .u8 a0_11) := (blk_cell BK102.out 11).trans rfl
          have hcz57_12 : wr.cell? ⟨gb102, 12, none⟩ = some (.int .u8 a0_12) := (blk_cell BK102.out 12).trans rfl
          have hcz57_13 : wr.cell? ⟨gb102, 13, none⟩ = some (.int .u8 a0_13) := (blk_cell BK102.out 13).trans rfl
          have hcz57_14 : wr.cell? ⟨gb102, 14, none⟩ = some (.int .u8 a0_14) := (blk_cell BK102.out 14).trans rfl
          have hcz57_15 : wr.cell? ⟨gb102, 15, none⟩ = some (.int .u8 a0_15) := (blk_cell BK102.out 15).trans rfl
          have hfz57_0 := blk_frozen BK102.out 0
          have hfz57_1 := blk_frozen BK102.out 1
          have hfz57_2 := blk_frozen BK102.out 2
          have hfz57_3 := blk_frozen BK102.out 3
          have hfz57_4 := blk_frozen BK102.out 4
          have hfz57_5 := blk_frozen BK102.out 5
          have hfz57_6 := blk_frozen BK102.out 6
          have hfz57_7 := blk_frozen BK102.out 7
          have hfz57_8 := blk_frozen BK102.out 8
          have hfz57_9 := blk_frozen BK102.out 9
          have hfz57_10 := blk_frozen BK102.out 10
          have hfz57_11 := blk_frozen BK102.out 11
          have hfz57_12 := blk_frozen BK102.out 12
          have hfz57_13 := blk_frozen BK102.out 13
          have hfz57_14 := blk_frozen BK102.out 14
          have hfz57_15 := blk_frozen BK102.out 15
          have hnb58 := NB104_103.out
          have hnc58 := NB103_104.out
          have hcz59_0 : wr.cell? ⟨gb104, 0, none⟩ = some (.int .u8 x105000_1) := (blk_cell BK104.out 0).trans rfl
          have hcz59_1 : wr.cell? ⟨gb104, 1, none⟩ = some (.int .u8 x105001_1) := (blk_cell BK104.out 1).trans rfl
          have hcz59_2 : wr.cell? ⟨gb104, 2, none⟩ = some (.int .u8 x105002_1) := (blk_cell BK104.out 2).trans rfl
          have hcz59_3 : wr.cell? ⟨gb104, 3, none⟩ = some (.int .u8 x105003_1) := (blk_cell BK104.out 3).trans rfl
          have hcz59_4 : wr.cell? ⟨gb104, 4, none⟩ = some (.int .u8 x105004_1) := (blk_cell BK104.out 4).trans rfl
          have hcz59_5 : wr.cell? ⟨gb104, 5, none⟩ = some (.int .u8 x105005_1) := (blk_cell BK104.out 5).trans rfl
          have hcz59_6 : wr.cell? ⟨gb104, 6, none⟩ = some (.int .u8 x105006_1) := (blk_cell BK104.out 6).trans rfl
          have hcz59_7 : wr.cell? ⟨gb104, 7, none⟩ = some (.int .u8 x105007_1) := (blk_cell BK104.out 7).trans rfl
          have hcz59_8 : wr.cell? ⟨gb104, 8, none⟩ = some (.int .u8 x105008_1) := (blk_cell BK104.out 8).trans rfl
          have hcz59_9 : wr.cell? ⟨gb104, 9, none⟩ = some (.int .u8 x105009_1) := (blk_cell BK104.out 9).trans rfl
          have hcz59_10 : wr.cell? ⟨gb104, 10, none⟩ = some (.int .u8 x105010_1) := (blk_cell BK104.out 10).trans rfl
          have hcz59_11 : wr.cell? ⟨gb104, 11, none⟩ = some (.int .u8 x105011_1) := (blk_cell BK104.out 11).trans rfl
          have hcz59_12 : wr.cell? ⟨gb104, 12, none⟩ = some (.int .u8 x105012_1) := (blk_cell BK104.out 12).trans rfl
          have hcz59_13 : wr.cell? ⟨gb104, 13, none⟩ = some (.int .u8 x105013_1) := (blk_cell BK104.out 13).trans rfl
          have hcz59_14 : wr.cell? ⟨gb104, 14, none⟩ = some (.int .u8 x105014_1) := (blk_cell BK104.out 14).trans rfl
          have hcz59_15 : wr.cell? ⟨gb104, 15, none⟩ = some (.int .u8 x105015_1) := (blk_cell BK104.out 15).trans rfl
          have hfz59_0 := blk_frozen BK104.out 0
          have hfz59_1 := blk_frozen BK104.out 1
          have hfz59_2 := blk_frozen BK104.out 2
          have hfz59_3 := blk_frozen BK104.out 3
          have hfz59_4 := blk_frozen BK104.out 4
          have hfz59_5 := blk_frozen BK104.out 5
          have hfz59_6 := blk_frozen BK104.out 6
          have hfz59_7 := blk_frozen BK104.out 7
          have hfz59_8 := blk_frozen BK104.out 8
          have hfz59_9 := blk_frozen BK104.out 9
          have hfz59_10 := blk_frozen BK104.out 10
          have hfz59_11 := blk_frozen BK104.out 11
          have hfz59_12 := blk_frozen BK104.out 12
          have hfz59_13 := blk_frozen BK104.out 13
          have hfz59_14 := blk_frozen BK104.out 14
          have hfz59_15 := blk_frozen BK104.out 15
          go_wp2
          go_roundg k1
          case measure => have := HK1.out; omega
          case rel => exact ⟨(9), (x105000_1), (x105001_1), (x105002_1), (x105003_1), (x105004_1), (x105005_1), (x105006_1), (x105007_1), (a0_8), (x105009_1), (x105010_1), (x105011_1), (x105012_1), (x105013_1), (x105014_1), (x105015_1), (by first | rfl | (simp; done) | (simp [*]; done)), H', ⟨by have := HK1.out; omega⟩, ⟨by (with_reducible repeat (first | refine blk_drewN ?_ _ | refine blk_drew ?_ | refine blk_alloc ?_ _)); refine blk_far ?_ NB102_104.out _; (with_reducible repeat (first | refine blk_drewN ?_ _ | refine blk_drew ?_ | refine blk_alloc ?_ _)); exact BK102.out⟩, ⟨by (with_reducible repeat (first | refine blk_drewN ?_ _ | refine blk_drew ?_ | refine blk_alloc ?_ _)); refine blk_far ?_ NB103_104.out _; (with_reducible repeat (first | refine blk_drewN ?_ _ | refine blk_drew ?_ | refine blk_alloc ?_ _)); exact BK103.out⟩, ⟨by (with_reducible repeat (first | refine blk_drewN ?_ _ | refine blk_drew ?_ | refine blk_alloc ?_ _)); refine blk_put (cs := #[.int .u8 x105000_1, .int .u8 x105001_1, .int .u8 x105002_1, .int .u8 x105003_1, .int .u8 x105004_1, .int .u8 x105005_1, .int .u8 x105006_1, .int .u8 x105007_1, .int .u8 x105008_1, .int .u8 x105009_1, .int .u8 x105010_1, .int .u8 x105011_1, .int .u8 x105012_1, .int .u8 x105013_1, .int .u8 x105014_1, .int .u8 x105015_1]) ?_ 8 _ rfl; (with_reducible repeat (first | refine blk_drewN ?_ _ | refine blk_drew ?_ | refine blk_alloc ?_ _)); exact BK104.out⟩, ⟨by repeat (first | (with_reducible first | exact HB.out | apply below_alloc | apply pw_below_drewN | apply below_drew1 | refine below_set ?_ GE102.out | refine below_set ?_ GE103.out | refine below_set ?_ GE104.out) | exact HB.out)⟩⟩
        rw [if_neg c54] at H
        by_cases c60 : x4_1 = 9
        · rw [if_pos c60] at H
          subst c60
          replace H : (laws_toByteA16.l0 k1 10 a0_0 a0_1 a0_2 a0_3 a0_4 a0_5 a0_6 a0_7 a0_8 a0_9 a0_10 a0_11 a0_12 a0_13 a0_14 a0_15 x105000_1 x105001_1 x105002_1 x105003_1 x105004_1 x105005_1 x105006_1 x105007_1 x105008_1 a0_9 x105010_1 x105011_1 x105012_1 x105013_1 x105014_1 x105015_1) = some (r1, r2, r3, r4, r5, r6, r7, r8, r9, r10, r11, r12, r13, r14, r15, r16) := H
          have H' := Aside0.mk H
          clear H
          have hnb61 := NB102_103.out
          have hnc61 := NB103_102.out
          have hnb62 := NB102_104.out
          have hnc62 := NB104_102.out
          have hcz63_0 : wr.cell? ⟨gb102, 0, none⟩ = some (.int .u8 a0_0) := (blk_cell BK102.out 0).trans rfl
          have hcz63_1 : wr.cell? ⟨gb102, 1, none⟩ = some (.int .u8 a0_1) := (blk_cell BK102.out 1).trans rfl
          have hcz63_2 : wr.cell? ⟨gb102, 2, none⟩ = some (.int .u8 a0_2) := (blk_cell BK102.out 2).trans rfl
          have hcz63_3 : wr.cell? ⟨gb102, 3, none⟩ = some (.int .u8 a0_3) := (blk_cell BK102.out 3).trans rfl
          have hcz63_4 : wr.cell? ⟨gb102, 4, none⟩ = some (.int .u8 a0_4) := (blk_cell BK102.out 4).trans rfl
          have hcz63_5 : wr.cell? ⟨gb102, 5, none⟩ = some (.int .u8 a0_5) := (blk_cell BK102.out 5).trans rfl
          have hcz63_6 : wr.cell? ⟨gb102, 6, none⟩ = some (.int .u8 a0_6) := (blk_cell BK102.out 6).trans rfl
          have hcz63_7 : wr.cell? ⟨gb102, 7, none⟩ = some (.int .u8 a0_7) := (blk_cell BK102.out 7).trans rfl
          have hcz63_8 : wr.cell? ⟨gb102, 8, none⟩ = some (.int .u8 a0_8) := (blk_cell BK102.out 8).trans rfl
          have hcz63_9 : wr.cell? ⟨gb102, 9, none⟩ = some (.int .u8 a0_9) := (blk_cell BK102.out 9).trans rfl
          have hcz63_10 : wr.cell? ⟨gb102, 10, none⟩ = some (.int .u8 a0_10) := (blk_cell BK102.out 10).trans rfl
          have hcz63_11 : wr.cell? ⟨gb102, 11, none⟩ = some (.int .u8 a0_11) := (blk_cell BK102.out 11).trans rfl
          have hcz63_12 : wr.cell? ⟨gb102, 12, none⟩ = some (.int .u8 a0_12) := (blk_cell BK102.out 12).trans rfl
          have hcz63_13 : wr.cell? ⟨gb102, 13, none⟩ = some (.int .u8 a0_13) := (blk_cell BK102.out 13).trans rfl
          have hcz63_14 : wr.cell? ⟨gb102, 14, none⟩ = some (.int .u8 a0_14) := (blk_cell BK102.out 14).trans rfl
          have hcz63_15 : wr.cell? ⟨gb102, 15, none⟩ = some (.int .u8 a0_15) := (blk_cell BK102.out 15).trans rfl
          have hfz63_0 := blk_frozen BK102.out 0
          have hfz63_1 := blk_frozen BK102.out 1
          have hfz63_2 := blk_frozen BK102.out 2
          have hfz63_3 := blk_frozen BK102.out 3
          have hfz63_4 := blk_frozen BK102.out 4
          have hfz63_5 := blk_frozen BK102.out 5
          have hfz63_6 := blk_frozen BK102.out 6
          have hfz63_7 := blk_frozen BK102.out 7
          have hfz63_8 := blk_frozen BK102.out 8
          have hfz63_9 := blk_frozen BK102.out 9
          have hfz63_10 := blk_frozen BK102.out 10
          have hfz63_11 := blk_frozen BK102.out 11
          have hfz63_12 := blk_frozen BK102.out 12
          have hfz63_13 := blk_frozen BK102.out 13
          have hfz63_14 := blk_frozen BK102.out 14
          have hfz63_15 := blk_frozen BK102.out 15
          have hnb64 := NB104_103.out
          have hnc64 := NB103_104.out
          have hcz65_0 : wr.cell? ⟨gb104, 0, none⟩ = some (.int .u8 x105000_1) := (blk_cell BK104.out 0).trans rfl
          have hcz65_1 : wr.cell? ⟨gb104, 1, none⟩ = some (.int .u8 x105001_1) := (blk_cell BK104.out 1).trans rfl
          have hcz65_2 : wr.cell? ⟨gb104, 2, none⟩ = some (.int .u8 x105002_1) := (blk_cell BK104.out 2).trans rfl
          have hcz65_3 : wr.cell? ⟨gb104, 3, none⟩ = some (.int .u8 x105003_1) := (blk_cell BK104.out 3).trans rfl
          have hcz65_4 : wr.cell? ⟨gb104, 4, none⟩ = some (.int .u8 x105004_1) := (blk_cell BK104.out 4).trans rfl
          have hcz65_5 : wr.cell? ⟨gb104, 5, none⟩ = some (.int .u8 x105005_1) := (blk_cell BK104.out 5).trans rfl
          have hcz65_6 : wr.cell? ⟨gb104, 6, none⟩ = some (.int .u8 x105006_1) := (blk_cell BK104.out 6).trans rfl
          have hcz65_7 : wr.cell? ⟨gb104, 7, none⟩ = some (.int .u8 x105007_1) := (blk_cell BK104.out 7).trans rfl
          have hcz65_8 : wr.cell? ⟨gb104, 8, none⟩ = some (.int .u8 x105008_1) := (blk_cell BK104.out 8).trans rfl
          have hcz65_9 : wr.cell? ⟨gb104, 9, none⟩ = some (.int .u8 x105009_1) := (blk_cell BK104.out 9).trans rfl
          have hcz65_10 : wr.cell? ⟨gb104, 10, none⟩ = some (.int .u8 x105010_1) := (blk_cell BK104.out 10).trans rfl
          have hcz65_11 : wr.cell? ⟨gb104, 11, none⟩ = some (.int .u8 x105011_1) := (blk_cell BK104.out 11).trans rfl
          have hcz65_12 : wr.cell? ⟨gb104, 12, none⟩ = some (.int .u8 x105012_1) := (blk_cell BK104.out 12).trans rfl
          have hcz65_13 : wr.cell? ⟨gb104, 13, none⟩ = some (.int .u8 x105013_1) := (blk_cell BK104.out 13).trans rfl
          have hcz65_14 : wr.cell? ⟨gb104, 14, none⟩ = some (.int .u8 x105014_1) := (blk_cell BK104.out 14).trans rfl
          have hcz65_15 : wr.cell? ⟨gb104, 15, none⟩ = some (.int .u8 x105015_1) := (blk_cell BK104.out 15).trans rfl
          have hfz65_0 := blk_frozen BK104.out 0
          have hfz65_1 := blk_frozen BK104.out 1
          have hfz65_2 := blk_frozen BK104.out 2
          have hfz65_3 := blk_frozen BK104.out 3
          have hfz65_4 := blk_frozen BK104.out 4
          have hfz65_5 := blk_frozen BK104.out 5
          have hfz65_6 := blk_frozen BK104.out 6
          have hfz65_7 := blk_frozen BK104.out 7
          have hfz65_8 := blk_frozen BK104.out 8
          have hfz65_9 := blk_frozen BK104.out 9
          have hfz65_10 := blk_frozen BK104.out 10
          have hfz65_11 := blk_frozen BK104.out 11
          have hfz65_12 := blk_frozen BK104.out 12
          have hfz65_13 := blk_frozen BK104.out 13
          have hfz65_14 := blk_frozen BK104.out 14
          have hfz65_15 := blk_frozen BK104.out 15
          go_wp2
          go_roundg k1
          case measure => have := HK1.out; omega
          case rel => exact ⟨(10), (x105000_1), (x105001_1), (x105002_1), (x105003_1), (x105004_1), (x105005_1), (x105006_1), (x105007_1), (x105008_1), (a0_9), (x105010_1), (x105011_1), (x105012_1), (x105013_1), (x105014_1), (x105015_1), (by first | rfl | (simp; done) | (simp [*]; done)), H', ⟨by have := HK1.out; omega⟩, ⟨by (with_reducible repeat (first | refine blk_drewN ?_ _ | refine blk_drew ?_ | refine blk_alloc ?_ _)); refine blk_far ?_ NB102_104.out _; (with_reducible repeat (first | refine blk_drewN ?_ _ | refine blk_drew ?_ | refine blk_alloc ?_ _)); exact BK102.out⟩, ⟨by (with_reducible repeat (first | refine blk_drewN ?_ _ | refine blk_drew ?_ | refine blk_alloc ?_ _)); refine blk_far ?_ NB103_104.out _; (with_reducible repeat (first | refine blk_drewN ?_ _ | refine blk_drew ?_ | refine blk_alloc ?_ _)); exact BK103.out⟩, ⟨by (with_reducible repeat (first | refine blk_drewN ?_ _ | refine blk_drew ?_ | refine blk_alloc ?_ _)); refine blk_put (cs := #[.int .u8 x105000_1, .int .u8 x105001_1, .int .u8 x105002_1, .int .u8 x105003_1, .int .u8 x105004_1, .int .u8 x105005_1, .int .u8 x105006_1, .int .u8 x105007_1, .int .u8 x105008_1, .int .u8 x105009_1, .int .u8 x105010_1, .int .u8 x105011_1, .int .u8 x105012_1, .int .u8 x105013_1, .int .u8 x105014_1, .int .u8 x105015_1]) ?_ 9 _ rfl; (with_reducible repeat (first | refine blk_drewN ?_ _ | refine blk_drew ?_ | refine blk_alloc ?_ _)); exact BK104.out⟩, ⟨by repeat (first | (with_reducible first | exact HB.out | apply below_alloc | apply pw_below_drewN | apply below_drew1 | refine below_set ?_ GE102.out | refine below_set ?_ GE103.out | refine below_set ?_ GE104.out) | exact HB.out)⟩⟩
        rw [if_neg c60] at H
        by_cases c66 : x4_1 = 10
        · rw [if_pos c66] at H
          subst c66
          replace H : (laws_toByteA16.l0 k1 11 a0_0 a0_1 a0_2 a0_3 a0_4 a0_5 a0_6 a0_7 a0_8 a0_9 a0_10 a0_11 a0_12 a0_13 a0_14 a0_15 x105000_1 x105001_1 x105002_1 x105003_1 x105004_1 x105005_1 x105006_1 x105007_1 x105008_1 x105009_1 a0_10 x105011_1 x105012_1 x105013_1 x105014_1 x105015_1) = some (r1, r2, r3, r4, r5, r6, r7, r8, r9, r10, r11, r12, r13, r14, r15, r16) := H
          have H' := Aside0.mk H
          clear H
          have hnb67 := NB102_103.out
          have hnc67 := NB103_102.out
          have hnb68 := NB102_104.out
          have hnc68 := NB104_102.out
          have hcz69_0 : wr.cell? ⟨gb102, 0, none⟩ = some (.int .u8 a0_0) := (blk_cell BK102.out 0).trans rfl
          have hcz69_1 : wr.cell? ⟨gb102, 1, none⟩ = some (.int .u8 a0_1) := (blk_cell BK102.out 1).trans rfl
          have hcz69_2 : wr.cell? ⟨gb102, 2, none⟩ = some (.int .u8 a0_2) := (blk_cell BK102.out 2).trans rfl
          have hcz69_3 : wr.cell? ⟨gb102, 3, none⟩ = some (.int .u8 a0_3) := (blk_cell BK102.out 3).trans rfl
          have hcz69_4 : wr.cell? ⟨gb102, 4, none⟩ = some (.int .u8 a0_4) := (blk_cell BK102.out 4).trans rfl
          have hcz69_5 : wr.cell? ⟨gb102, 5, none⟩ = some (.int .u8 a0_5) := (blk_cell BK102.out 5).trans rfl
          have hcz69_6 : wr.cell? ⟨gb102, 6, none⟩ = some (.int .u8 a0_6) := (blk_cell BK102.out 6).trans rfl
          have hcz69_7 : wr.cell? ⟨gb102, 7, none⟩ = some (.int .u8 a0_7) := (blk_cell BK102.out 7).trans rfl
          have hcz69_8 : wr.cell? ⟨gb102, 8, none⟩ = some (.int .u8 a0_8) := (blk_cell BK102.out 8).trans rfl
          have hcz69_9 : wr.cell? ⟨gb102, 9, none⟩ = some (.int .u8 a0_9) := (blk_cell BK102.out 9).trans rfl
          have hcz69_10 : wr.cell? ⟨gb102, 10, none⟩ = some (.int .u8 a0_10) := (blk_cell BK102.out 10).trans rfl
          have hcz69_11 : wr.cell? ⟨gb102, 11, none⟩ = some (.int .u8 a0_11) := (blk_cell BK102.out 11).trans rfl
          have hcz69_12 : wr.cell? ⟨gb102, 12, none⟩ = some (.int .u8 a0_12) := (blk_cell BK102.out 12).trans rfl
          have hcz69_13 : wr.cell? ⟨gb102, 13, none⟩ = some (.int .u8 a0_13) := (blk_cell BK102.out 13).trans rfl
          have hcz69_14 : wr.cell? ⟨gb102, 14, none⟩ = some (.int .u8 a0_14) := (blk_cell BK102.out 14).trans rfl
          have hcz69_15 : wr.cell? ⟨gb102, 15, none⟩ = some (.int .u8 a0_15) := (blk_cell BK102.out 15).trans rfl
          have hfz69_0 := blk_frozen BK102.out 0
          have hfz69_1 := blk_frozen BK102.out 1
          have hfz69_2 := blk_frozen BK102.out 2
          have hfz69_3 := blk_frozen BK102.out 3
          have hfz69_4 := blk_frozen BK102.out 4
          have hfz69_5 := blk_frozen BK102.out 5
          have hfz69_6 := blk_frozen BK102.out 6
          have hfz69_7 := blk_frozen BK102.out 7
          have hfz69_8 := blk_frozen BK102.out 8
          have hfz69_9 := blk_frozen BK102.out 9
          have hfz69_10 := blk_frozen BK102.out 10
          have hfz69_11 := blk_frozen BK102.out 11
          have hfz69_12 := blk_frozen BK102.out 12
          have hfz69_13 := blk_frozen BK102.out 13
          have hfz69_14 := blk_frozen BK102.out 14
          have hfz69_15 := blk_frozen BK102.out 15
          have hnb70 := NB104_103.out
          have hnc70 := NB103_104.out
          have hcz71_0 : wr.cell? ⟨gb104, 0, none⟩ = some (.int .u8 x105000_1) := (blk_cell BK104.out 0).trans rfl
          have hcz71_1 : wr.cell? ⟨gb104, 1, none⟩ = some (.int .u8 x105001_1) := (blk_cell BK104.out 1).trans rfl
          have hcz71_2 : wr.cell? ⟨gb104, 2, none⟩ = some (.int .u8 x105002_1) := (blk_cell BK104.out 2).trans rfl
          have hcz71_3 : wr.cell? ⟨gb104, 3, none⟩ = some (.int .u8 x105003_1) := (blk_cell BK104.out 3).trans rfl
          have hcz71_4 : wr.cell? ⟨gb104, 4, none⟩ = some (.int .u8 x105004_1) := (blk_cell BK104.out 4).trans rfl
          have hcz71_5 : wr.cell? ⟨gb104, 5, none⟩ = some (.int .u8 x105005_1) := (blk_cell BK104.out 5).trans rfl
          have hcz71_6 : wr.cell? ⟨gb104, 6, none⟩ = some (.int .u8 x105006_1) := (blk_cell BK104.out 6).trans rfl
          have hcz71_7 : wr.cell? ⟨gb104, 7, none⟩ = some (.int .u8 x105007_1) := (blk_cell BK104.out 7).trans rfl
          have hcz71_8 : wr.cell? ⟨gb104, 8, none⟩ = some (.int .u8 x105008_1) := (blk_cell BK104.out 8).trans rfl
          have hcz71_9 : wr.cell? ⟨gb104, 9, none⟩ = some (.int .u8 x105009_1) := (blk_cell BK104.out 9).trans rfl
          have hcz71_10 : wr.cell? ⟨gb104, 10, none⟩ = some (.int .u8 x105010_1) := (blk_cell BK104.out 10).trans rfl
          have hcz71_11 : wr.cell? ⟨gb104, 11, none⟩ = some (.int .u8 x105011_1) := (blk_cell BK104.out 11).trans rfl
          have hcz71_12 : wr.cell? ⟨gb104, 12, none⟩ = some (.int .u8 x105012_1) := (blk_cell BK104.out 12).trans rfl
          have hcz71_13 : wr.cell? ⟨gb104, 13, none⟩ = some (.int .u8 x105013_1) := (blk_cell BK104.out 13).trans rfl
          have hcz71_14 : wr.cell? ⟨gb104, 14, none⟩ = some (.int .u8 x105014_1) := (blk_cell BK104.out 14).trans rfl
          have hcz71_15 : wr.cell? ⟨gb104, 15, none⟩ = some (.int .u8 x105015_1) := (blk_cell BK104.out 15).trans rfl
          have hfz71_0 := blk_frozen BK104.out 0
          have hfz71_1 := blk_frozen BK104.out 1
          have hfz71_2 := blk_frozen BK104.out 2
          have hfz71_3 := blk_frozen BK104.out 3
          have hfz71_4 := blk_frozen BK104.out 4
          have hfz71_5 := blk_frozen BK104.out 5
          have hfz71_6 := blk_frozen BK104.out 6
          have hfz71_7 := blk_frozen BK104.out 7
          have hfz71_8 := blk_frozen BK104.out 8
          have hfz71_9 := blk_frozen BK104.out 9
          have hfz71_10 := blk_frozen BK104.out 10
          have hfz71_11 := blk_frozen BK104.out 11
          have hfz71_12 := blk_frozen BK104.out 12
          have hfz71_13 := blk_frozen BK104.out 13
          have hfz71_14 := blk_frozen BK104.out 14
          have hfz71_15 := blk_frozen BK104.out 15
          go_wp2
          go_roundg k1
          case measure => have := HK1.out; omega
          case rel => exact ⟨(11), (x105000_1), (x105001_1), (x105002_1), (x105003_1), (x105004_1), (x105005_1), (x105006_1), (x105007_1), (x105008_1), (x105009_1), (a0_10), (x105011_1), (x105012_1), (x105013_1), (x105014_1), (x105015_1), (by first | rfl | (simp; done) | (simp [*]; done)), H', ⟨by have := HK1.out; omega⟩, ⟨by (with_reducible repeat (first | refine blk_drewN ?_ _ | refine blk_drew ?_ | refine blk_alloc ?_ _)); refine blk_far ?_ NB102_104.out _; (with_reducible repeat (first | refine blk_drewN ?_ _ | refine blk_drew ?_ | refine blk_alloc ?_ _)); exact BK102.out⟩, ⟨by (with_reducible repeat (first | refine blk_drewN ?_ _ | refine blk_drew ?_ | refine blk_alloc ?_ _)); refine blk_far ?_ NB103_104.out _; (with_reducible repeat (first | refine blk_drewN ?_ _ | refine blk_drew ?_ | refine blk_alloc ?_ _)); exact BK103.out⟩, ⟨by (with_reducible repeat (first | refine blk_drewN ?_ _ | refine blk_drew ?_ | refine blk_alloc ?_ _)); refine blk_put (cs := #[.int .u8 x105000_1, .int .u8 x105001_1, .int .u8 x105002_1, .int .u8 x105003_1, .int .u8 x105004_1, .int .u8 x105005_1, .int .u8 x105006_1, .int .u8 x105007_1, .int .u8 x105008_1, .int .u8 x105009_1, .int .u8 x105010_1, .int .u8 x105011_1, .int .u8 x105012_1, .int .u8 x105013_1, .int .u8 x105014_1, .int .u8 x105015_1]) ?_ 10 _ rfl; (with_reducible repeat (first | refine blk_drewN ?_ _ | refine blk_drew ?_ | refine blk_alloc ?_ _)); exact BK104.out⟩, ⟨by repeat (first | (with_reducible first | exact HB.out | apply below_alloc | apply pw_below_drewN | apply below_drew1 | refine below_set ?_ GE102.out | refine below_set ?_ GE103.out | refine below_set ?_ GE104.out) | exact HB.out)⟩⟩
        rw [if_neg c66] at H
        by_cases c72 : x4_1 = 11
        · rw [if_pos c72] at H
          subst c72
          replace H : (laws_toByteA16.l0 k1 12 a0_0 a0_1 a0_2 a0_3 a0_4 a0_5 a0_6 a0_7 a0_8 a0_9 a0_10 a0_11 a0_12 a0_13 a0_14 a0_15 x105000_1 x105001_1 x105002_1 x105003_1 x105004_1 x105005_1 x105006_1 x105007_1 x105008_1 x105009_1 x105010_1 a0_11 x105012_1 x105013_1 x105014_1 x105015_1) = some (r1, r2, r3, r4, r5, r6, r7, r8, r9, r10, r11, r12, r13, r14, r15, r16) := H
          have H' := Aside0.mk H
          clear H
          have hnb73 := NB102_103.out
          have hnc73 := NB103_102.out
          have hnb74 := NB102_104.out
          have hnc74 := NB104_102.out
          have hcz75_0 : wr.cell? ⟨gb102, 0, none⟩ = some (.int .u8 a0_0) := (blk_cell BK102.out 0).trans rfl
          have hcz75_1 : wr.cell? ⟨gb102, 1, none⟩ = some (.int .u8 a0_1) := (blk_cell BK102.out 1).trans rfl
          have hcz75_2 : wr.cell? ⟨gb102, 2, none⟩ = some (.int .u8 a0_2) := (blk_cell BK102.out 2).trans rfl
          have hcz75_3 : wr.cell? ⟨gb102, 3, none⟩ = some (.int .u8 a0_3) := (blk_cell BK102.out 3).trans rfl
          have hcz75_4 : wr.cell? ⟨gb102, 4, none⟩ = some (.int .u8 a0_4) := (blk_cell BK102.out 4).trans rfl
          have hcz75_5 : wr.cell? ⟨gb102, 5, none⟩ = some (.int .u8 a0_5) := (blk_cell BK102.out 5).trans rfl
          have hcz75_6 : wr.cell? ⟨gb102, 6, none⟩ = some (.int .u8 a0_6) := (blk_cell BK102.out 6).trans rfl
          have hcz75_7 : wr.cell? ⟨gb102, 7, none⟩ = some (.int .u8 a0_7) := (blk_cell BK102.out 7).trans rfl
          have hcz75_8 : wr.cell? ⟨gb102, 8, none⟩ = some (.int .u8 a0_8) := (blk_cell BK102.out 8).trans rfl
          have hcz75_9 : wr.cell? ⟨gb102, 9, none⟩ = some (.int .u8 a0_9) := (blk_cell BK102.out 9).trans rfl
          have hcz75_10 : wr.cell? ⟨gb102, 10, none⟩ = some (.int .u8 a0_10) := (blk_cell BK102.out 10).trans rfl
          have hcz75_11 : wr.cell? ⟨gb102, 11, none⟩ = some (.int .u8 a0_11) := (blk_cell BK102.out 11).trans rfl
          have hcz75_12 : wr.cell? ⟨gb102, 12, none⟩ = some (.int .u8 a0_12) := (blk_cell BK102.out 12).trans rfl
          have hcz75_13 : wr.cell? ⟨gb102, 13, none⟩ = some (.int .u8 a0_13) := (blk_cell BK102.out 13).trans rfl
          have hcz75_14 : wr.cell? ⟨gb102, 14, none⟩ = some (.int .u8 a0_14) := (blk_cell BK102.out 14).trans rfl
          have hcz75_15 : wr.cell? ⟨gb102, 15, none⟩ = some (.int .u8 a0_15) := (blk_cell BK102.out 15).trans rfl
          have hfz75_0 := blk_frozen BK102.out 0
          have hfz75_1 := blk_frozen BK102.out 1
          have hfz75_2 := blk_frozen BK102.out 2
          have hfz75_3 := blk_frozen BK102.out 3
          have hfz75_4 := blk_frozen BK102.out 4
          have hfz75_5 := blk_frozen BK102.out 5
          have hfz75_6 := blk_frozen BK102.out 6
          have hfz75_7 := blk_frozen BK102.out 7
          have hfz75_8 := blk_frozen BK102.out 8
          have hfz75_9 := blk_frozen BK102.out 9
          have hfz75_10 := blk_frozen BK102.out 10
          have hfz75_11 := blk_frozen BK102.out 11
          have hfz75_12 := blk_frozen BK102.out 12
          have hfz75_13 := blk_frozen BK102.out 13
          have hfz75_14 := blk_frozen BK102.out 14
          have hfz75_15 := blk_frozen BK102.out 15
          have hnb76 := NB104_103.out
          have hnc76 := NB103_104.out
          have hcz77_0 : wr.cell? ⟨gb104, 0, none⟩ = some (.int .u8 x105000_1) := (blk_cell BK104.out 0).trans rfl
          have hcz77_1 : wr.cell? ⟨gb104, 1, none⟩ = some (.int .u8 x105001_1) := (blk_cell BK104.out 1).trans rfl
          have hcz77_2 : wr.cell? ⟨gb104, 2, none⟩ = some (.int .u8 x105002_1) := (blk_cell BK104.out 2).trans rfl
          have hcz77_3 : wr.cell? ⟨gb104, 3, none⟩ = some (.int .u8 x105003_1) := (blk_cell BK104.out 3).trans rfl
          have hcz77_4 : wr.cell? ⟨gb104, 4, none⟩ = some (.int .u8 x105004_1) := (blk_cell BK104.out 4).trans rfl
          have hcz77_5 : wr.cell? ⟨gb104, 5, none⟩ = some (.int .u8 x105005_1) := (blk_cell BK104.out 5).trans rfl
          have hcz77_6 : wr.cell? ⟨gb104, 6, none⟩ = some (.int .u8 x105006_1) := (blk_cell BK104.out 6).trans rfl
          have hcz77_7 : wr.cell? ⟨gb104, 7, none⟩ = some (.int .u8 x105007_1) := (blk_cell BK104.out 7).trans rfl
          have hcz77_8 : wr.cell? ⟨gb104, 8, none⟩ = some (.int .u8 x105008_1) := (blk_cell BK104.out 8).trans rfl
          have hcz77_9 : wr.cell? ⟨gb104, 9, none⟩ = some (.int .u8 x105009_1) := (blk_cell BK104.out 9).trans rfl
          have hcz77_10 : wr.cell? ⟨gb104, 10, none⟩ = some (.int .u8 x105010_1) := (blk_cell BK104.out 10).trans rfl
          have hcz77_11 : wr.cell? ⟨gb104, 11, none⟩ = some (.int .u8 x105011_1) := (blk_cell BK104.out 11).trans rfl
          have hcz77_12 : wr.cell? ⟨gb104, 12, none⟩ = some (.int .u8 x105012_1) := (blk_cell BK104.out 12).trans rfl
          have hcz77_13 : wr.cell? ⟨gb104, 13, none⟩ = some (.int .u8 x105013_1) := (blk_cell BK104.out 13).trans rfl
          have hcz77_14 : wr.cell? ⟨gb104, 14, none⟩ = some (.int .u8 x105014_1) := (blk_cell BK104.out 14).trans rfl
          have hcz77_15 : wr.cell? ⟨gb104, 15, none⟩ = some (.int .u8 x105015_1) := (blk_cell BK104.out 15).trans rfl
          have hfz77_0 := blk_frozen BK104.out 0
          have hfz77_1 := blk_frozen BK104.out 1
          have hfz77_2 := blk_frozen BK104.out 2
          have hfz77_3 := blk_frozen BK104.out 3
          have hfz77_4 := blk_frozen BK104.out 4
          have hfz77_5 := blk_frozen BK104.out 5
          have hfz77_6 := blk_frozen BK104.out 6
          have hfz77_7 := blk_frozen BK104.out 7
          have hfz77_8 := blk_frozen BK104.out 8
          have hfz77_9 := blk_frozen BK104.out 9
          have hfz77_10 := blk_frozen BK104.out 10
          have hfz77_11 := blk_frozen BK104.out 11
          have hfz77_12 := blk_frozen BK104.out 12
          have hfz77_13 := blk_frozen BK104.out 13
          have hfz77_14 := blk_frozen BK104.out 14
          have hfz77_15 := blk_frozen BK104.out 15
          go_wp2
          go_roundg k1
          case measure => have := HK1.out; omega
          case rel => exact ⟨(12), (x105000_1), (x105001_1), (x105002_1), (x105003_1), (x105004_1), (x105005_1), (x105006_1), (x105007_1), (x105008_1), (x105009_1), (x105010_1), (a0_11), (x105012_1), (x105013_1), (x105014_1), (x105015_1), (by first | rfl | (simp; done) | (simp [*]; done)), H', ⟨by have := HK1.out; omega⟩, ⟨by (with_reducible repeat (first | refine blk_drewN ?_ _ | refine blk_drew ?_ | refine blk_alloc ?_ _)); refine blk_far ?_ NB102_104.out _; (with_reducible repeat (first | refine blk_drewN ?_ _ | refine blk_drew ?_ | refine blk_alloc ?_ _)); exact BK102.out⟩, ⟨by (with_reducible repeat (first | refine blk_drewN ?_ _ | refine blk_drew ?_ | refine blk_alloc ?_ _)); refine blk_far ?_ NB103_104.out _; (with_reducible repeat (first | refine blk_drewN ?_ _ | refine blk_drew ?_ | refine blk_alloc ?_ _)); exact BK103.out⟩, ⟨by (with_reducible repeat (first | refine blk_drewN ?_ _ | refine blk_drew ?_ | refine blk_alloc ?_ _)); refine blk_put (cs := #[.int .u8 x105000_1, .int .u8 x105001_1, .int .u8 x105002_1, .int .u8 x105003_1, .int .u8 x105004_1, .int .u8 x105005_1, .int .u8 x105006_1, .int .u8 x105007_1, .int .u8 x105008_1, .int .u8 x105009_1, .int .u8 x105010_1, .int .u8 x105011_1, .int .u8 x105012_1, .int .u8 x105013_1, .int .u8 x105014_1, .int .u8 x105015_1]) ?_ 11 _ rfl; (with_reducible repeat (first | refine blk_drewN ?_ _ | refine blk_drew ?_ | refine blk_alloc ?_ _)); exact BK104.out⟩, ⟨by repeat (first | (with_reducible first | exact HB.out | apply below_alloc | apply pw_below_drewN | apply below_drew1 | refine below_set ?_ GE102.out | refine below_set ?_ GE103.out | refine below_set ?_ GE104.out) | exact HB.out)⟩⟩
        rw [if_neg c72] at H
        by_cases c78 : x4_1 = 12
        · rw [if_pos c78] at H
          subst c78
          replace H : (laws_toByteA16.l0 k1 13 a0_0 a0_1 a0_2 a0_3 a0_4 a0_5 a0_6 a0_7 a0_8 a0_9 a0_10 a0_11 a0_12 a0_13 a0_14 a0_15 x105000_1 x105001_1 x105002_1 x105003_1 x105004_1 x105005_1 x105006_1 x105007_1 x105008_1 x105009_1 x105010_1 x105011_1 a0_12 x105013_1 x105014_1 x105015_1) = some (r1, r2, r3, r4, r5, r6, r7, r8, r9, r10, r11, r12, r13, r14, r15, r16) := H
          have H' := Aside0.mk H
          clear H
          have hnb79 := NB102_103.out
          have hnc79 := NB103_102.out
          have hnb80 := NB102_104.out
          have hnc80 := NB104_102.out
          have hcz81_0 : wr.cell? ⟨gb102, 0, none⟩ = some (.int .u8 a0_0) := (blk_cell BK102.out 0).trans rfl
          have hcz81_1 : wr.cell? ⟨gb102, 1, none⟩ = some (.int .u8 a0_1) := (blk_cell BK102.out 1).trans rfl
          have hcz81_2 : wr.cell? ⟨gb102, 2, none⟩ = some (.int .u8 a0_2) := (blk_cell BK102.out 2).trans rfl
          have hcz81_3 : wr.cell? ⟨gb102, 3, none⟩ = some (.int .u8 a0_3) := (blk_cell BK102.out 3).trans rfl
          have hcz81_4 : wr.cell? ⟨gb102, 4, none⟩ = some (.int .u8 a0_4) := (blk_cell BK102.out 4).trans rfl
          have hcz81_5 : wr.cell? ⟨gb102, 5, none⟩ = some (.int .u8 a0_5) := (blk_cell BK102.out 5).trans rfl
          have hcz81_6 : wr.cell? ⟨gb102, 6, none⟩ = some (.int .u8 a0_6) := (blk_cell BK102.out 6).trans rfl
          have hcz81_7 : wr.cell? ⟨gb102, 7, none⟩ = some (.int .u8 a0_7) := (blk_cell BK102.out 7).trans rfl
          have hcz81_8 : wr.cell? ⟨gb102, 8, none⟩ = some (.int .u8 a0_8) := (blk_cell BK102.out 8).trans rfl
          have hcz81_9 : wr.cell? ⟨gb102, 9, none⟩ = some (.int .u8 a0_9) := (blk_cell BK102.out 9).trans rfl
          have hcz81_10 : wr.cell? ⟨gb102, 10, none⟩ = some (.int .u8 a0_10) := (blk_cell BK102.out 10).trans rfl
          have hcz81_11 : wr.cell? ⟨gb102, 11, none⟩ = some (.int .u8 a0_11) := (blk_cell BK102.out 11).trans rfl
          have hcz81_12 : wr.cell? ⟨gb102, 12, none⟩ = some (.int .u8 a0_12) := (blk_cell BK102.out 12).trans rfl
          have hcz81_13 : wr.cell? ⟨gb102, 13, none⟩ = some (.int .u8 a0_13) := (blk_cell BK102.out 13).trans rfl
          have hcz81_14 : wr.cell? ⟨gb102, 14, none⟩ = some (.int .u8 a0_14) := (blk_cell BK102.out 14).trans rfl
          have hcz81_15 : wr.cell? ⟨gb102, 15, none⟩ = some (.int .u8 a0_15) := (blk_cell BK102.out 15).trans rfl
          have hfz81_0 := blk_frozen BK102.out 0
          have hfz81_1 := blk_frozen BK102.out 1
          have hfz81_2 := blk_frozen BK102.out 2
          have hfz81_3 := blk_frozen BK102.out 3
          have hfz81_4 := blk_frozen BK102.out 4
          have hfz81_5 := blk_frozen BK102.out 5
          have hfz81_6 := blk_frozen BK102.out 6
          have hfz81_7 := blk_frozen BK102.out 7
          have hfz81_8 := blk_frozen BK102.out 8
          have hfz81_9 := blk_frozen BK102.out 9
          have hfz81_10 := blk_frozen BK102.out 10
          have hfz81_11 := blk_frozen BK102.out 11
          have hfz81_12 := blk_frozen BK102.out 12
          have hfz81_13 := blk_frozen BK102.out 13
          have hfz81_14 := blk_frozen BK102.out 14
          have hfz81_15 := blk_frozen BK102.out 15
          have hnb82 := NB104_103.out
          have hnc82 := NB103_104.out
          have hcz83_0 : wr.cell? ⟨gb104, 0, none⟩ = some (.int .u8 x105000_1) := (blk_cell BK104.out 0).trans rfl
          have hcz83_1 : wr.cell? ⟨gb104, 1, none⟩ = some (.int .u8 x105001_1) := (blk_cell BK104.out 1).trans rfl
          have hcz83_2 : wr.cell? ⟨gb104, 2, none⟩ = some (.int .u8 x105002_1) := (blk_cell BK104.out 2).trans rfl
          have hcz83_3 : wr.cell? ⟨gb104, 3, none⟩ = some (.int .u8 x105003_1) := (blk_cell BK104.out 3).trans rfl
          have hcz83_4 : wr.cell? ⟨gb104, 4, none⟩ = some (.int .u8 x105004_1) := (blk_cell BK104.out 4).trans rfl
          have hcz83_5 : wr.cell? ⟨gb104, 5, none⟩ = some (.int .u8 x105005_1) := (blk_cell BK104.out 5).trans rfl
          have hcz83_6 : wr.cell? ⟨gb104, 6, none⟩ = some (.int .u8 x105006_1) := (blk_cell BK104.out 6).trans rfl
          have hcz83_7 : wr.cell? ⟨gb104, 7, none⟩ = some (.int .u8 x105007_1) := (blk_cell BK104.out 7).trans rfl
          have hcz83_8 : wr.cell? ⟨gb104, 8, none⟩ = some (.int .u8 x105008_1) := (blk_cell BK104.out 8).trans rfl
          have hcz83_9 : wr.cell? ⟨gb104, 9, none⟩ = some (.int .u8 x105009_1) := (blk_cell BK104.out 9).trans rfl
          have hcz83_10 : wr.cell? ⟨gb104, 10, none⟩ = some (.int .u8 x105010_1) := (blk_cell BK104.out 10).trans rfl
          have hcz83_11 : wr.cell? ⟨gb104, 11, none⟩ = some (.int .u8 x105011_1) := (blk_cell BK104.out 11).trans rfl
          have hcz83_12 : wr.cell? ⟨gb104, 12, none⟩ = some (.int .u8 x105012_1) := (blk_cell BK104.out 12).trans rfl
          have hcz83_13 : wr.cell? ⟨gb104, 13, none⟩ = some (.int .u8 x105013_1) := (blk_cell BK104.out 13).trans rfl
          have hcz83_14 : wr.cell? ⟨gb104, 14, none⟩ = some (.int .u8 x105014_1) := (blk_cell BK104.out 14).trans rfl
          have hcz83_15 : wr.cell? ⟨gb104, 15, none⟩ = some (.int .u8 x105015_1) := (blk_cell BK104.out 15).trans rfl
          have hfz83_0 := blk_frozen BK104.out 0
          have hfz83_1 := blk_frozen BK104.out 1
          have hfz83_2 := blk_frozen BK104.out 2
          have hfz83_3 := blk_frozen BK104.out 3
          have hfz83_4 := blk_frozen BK104.out 4
          have hfz83_5 := blk_frozen BK104.out 5
          have hfz83_6 := blk_frozen BK104.out 6
          have hfz83_7 := blk_frozen BK104.out 7
          have hfz83_8 := blk_frozen BK104.out 8
          have hfz83_9 := blk_frozen BK104.out 9
          have hfz83_10 := blk_frozen BK104.out 10
          have hfz83_11 := blk_frozen BK104.out 11
          have hfz83_12 := blk_frozen BK104.out 12
          have hfz83_13 := blk_frozen BK104.out 13
          have hfz83_14 := blk_frozen BK104.out 14
          have hfz83_15 := blk_frozen BK104.out 15
          go_wp2
          go_roundg k1
          case measure => have := HK1.out; omega
          case rel => exact ⟨(13), (x105000_1), (x105001_1), (x105002_1), (x105003_1), (x105004_1), (x105005_1), (x105006_1), (x105007_1), (x105008_1), (x105009_1), (x105010_1), (x105011_1), (a0_12), (x105013_1), (x105014_1), (x105015_1), (by first | rfl | (simp; done) | (simp [*]; done)), H', ⟨by have := HK1.out; omega⟩, ⟨by (with_reducible repeat (first | refine blk_drewN ?_ _ | refine blk_drew ?_ | refine blk_alloc ?_ _)); refine blk_far ?_ NB102_104.out _; (with_reducible repeat (first | refine blk_drewN ?_ _ | refine blk_drew ?_ | refine blk_alloc ?_ _)); exact BK102.out⟩, ⟨by (with_reducible repeat (first | refine blk_drewN ?_ _ | refine blk_drew ?_ | refine blk_alloc ?_ _)); refine blk_far ?_ NB103_104.out _; (with_reducible repeat (first | refine blk_drewN ?_ _ | refine blk_drew ?_ | refine blk_alloc ?_ _)); exact BK103.out⟩, ⟨by (with_reducible repeat (first | refine blk_drewN ?_ _ | refine blk_drew ?_ | refine blk_alloc ?_ _)); refine blk_put (cs := #[.int .u8 x105000_1, .int .u8 x105001_1, .int .u8 x105002_1, .int .u8 x105003_1, .int .u8 x105004_1, .int .u8 x105005_1, .int .u8 x105006_1, .int .u8 x105007_1, .int .u8 x105008_1, .int .u8 x105009_1, .int .u8 x105010_1, .int .u8 x105011_1, .int .u8 x105012_1, .int .u8 x105013_1, .int .u8 x105014_1, .int .u8 x105015_1]) ?_ 12 _ rfl; (with_reducible repeat (first | refine blk_drewN ?_ _ | refine blk_drew ?_ | refine blk_alloc ?_ _)); exact BK104.out⟩, ⟨by repeat (first | (with_reducible first | exact HB.out | apply below_alloc | apply pw_below_drewN | apply below_drew1 | refine below_set ?_ GE102.out | refine below_set ?_ GE103.out | refine below_set ?_ GE104.out) | exact HB.out)⟩⟩
        rw [if_neg c78] at H
        by_cases c84 : x4_1 = 13
        · rw [if_pos c84] at H
          subst c84
          replace H : (laws_toByteA16.l0 k1 14 a0_0 a0_1 a0_2 a0_3 a0_4 a0_5 a0_6 a0_7 a0_8 a0_9 a0_10 a0_11 a0_12 a0_13 a0_14 a0_15 x105000_1 x105001_1 x105002_1 x105003_1 x105004_1 x105005_1 x105006_1 x105007_1 x105008_1 x105009_1 x105010_1 x105011_1 x105012_1 a0_13 x105014_1 x105015_1) = some (r1, r2, r3, r4, r5, r6, r7, r8, r9, r10, r11, r12, r13, r14, r15, r16) := H
          have H' := Aside0.mk H
          clear H
          have hnb85 := NB102_103.out
          have hnc85 := NB103_102.out
          have hnb86 := NB102_104.out
          have hnc86 := NB104_102.out
          have hcz87_0 : wr.cell? ⟨gb102, 0, none⟩ = some (.int .u8 a0_0) := (blk_cell BK102.out 0).trans rfl
          have hcz87_1 : wr.cell? ⟨gb102, 1, none⟩ = some (.int .u8 a0_1) := (blk_cell BK102.out 1).trans rfl
          have hcz87_2 : wr.cell? ⟨gb102, 2, none⟩ = some (.int .u8 a0_2) := (blk_cell BK102.out 2).trans rfl
          have hcz87_3 : wr.cell? ⟨gb102, 3, none⟩ = some (.int .u8 a0_3) := (blk_cell BK102.out 3).trans rfl
          have hcz87_4 : wr.cell? ⟨gb102, 4, none⟩ = some (.int .u8 a0_4) := (blk_cell BK102.out 4).trans rfl
          have hcz87_5 : wr.cell? ⟨gb102, 5, none⟩ = some (.int .u8 a0_5) := (blk_cell BK102.out 5).trans rfl
          have hcz87_6 : wr.cell? ⟨gb102, 6, none⟩ = some (.int .u8 a0_6) := (blk_cell BK102.out 6).trans rfl
          have hcz87_7 : wr.cell? ⟨gb102, 7, none⟩ = some (.int .u8 a0_7) := (blk_cell BK102.out 7).trans rfl
          have hcz87_8 : wr.cell? ⟨gb102, 8, none⟩ = some (.int .u8 a0_8) := (blk_cell BK102.out 8).trans rfl
          have hcz87_9 : wr.cell? ⟨gb102, 9, none⟩ = some (.int .u8 a0_9) := (blk_cell BK102.out 9).trans rfl
          have hcz87_10 : wr.cell? ⟨gb102, 10, none⟩ = some (.int .u8 a0_10) := (blk_cell BK102.out 10).trans rfl
          have hcz87_11 : wr.cell? ⟨gb102, 11, none⟩ = some (.int .u8 a0_11) := (blk_cell BK102.out 11).trans rfl
          have hcz87_12 : wr.cell? ⟨gb102, 12, none⟩ = some (.int .u8 a0_12) := (blk_cell BK102.out 12).trans rfl
          have hcz87_13 : wr.cell? ⟨gb102, 13, none⟩ = some (.int .u8 a0_13) := (blk_cell BK102.out 13).trans rfl
          have hcz87_14 : wr.cell? ⟨gb102, 14, none⟩ = some (.int .u8 a0_14) := (blk_cell BK102.out 14).trans rfl
          have hcz87_15 : wr.cell? ⟨gb102, 15, none⟩ = some (.int .u8 a0_15) := (blk_cell BK102.out 15).trans rfl
          have hfz87_0 := blk_frozen BK102.out 0
          have hfz87_1 := blk_frozen BK102.out 1
          have hfz87_2 := blk_frozen BK102.out 2
          have hfz87_3 := blk_frozen BK102.out 3
          have hfz87_4 := blk_frozen BK102.out 4
          have hfz87_5 := blk_frozen BK102.out 5
          have hfz87_6 := blk_frozen BK102.out 6
          have hfz87_7 := blk_frozen BK102.out 7
          have hfz87_8 := blk_frozen BK102.out 8
          have hfz87_9 := blk_frozen BK102.out 9
          have hfz87_10 := blk_frozen BK102.out 10
          have hfz87_11 := blk_frozen BK102.out 11
          have hfz87_12 := blk_frozen BK102.out 12
          have hfz87_13 := blk_frozen BK102.out 13
          have hfz87_14 := blk_frozen BK102.out 14
          have hfz87_15 := blk_frozen BK102.out 15
          have hnb88 := NB104_103.out
          have hnc88 := NB103_104.out
          have hcz89_0 : wr.cell? ⟨gb104, 0, none⟩ = some (.int .u8 x105000_1) := (blk_cell BK104.out 0).trans rfl
          have hcz89_1 : wr.cell? ⟨gb104, 1, none⟩ = some (.int .u8 x105001_1) := (blk_cell BK104.out 1).trans rfl
          have hcz89_2 : wr.cell? ⟨gb104, 2, none⟩ = some (.int .u8 x105002_1) := (blk_cell BK104.out 2).trans rfl
          have hcz89_3 : wr.cell? ⟨gb104, 3, none⟩ = some (.int .u8 x105003_1) := (blk_cell BK104.out 3).trans rfl
          have hcz89_4 : wr.cell? ⟨gb104, 4, none⟩ = some (.int .u8 x105004_1) := (blk_cell BK104.out 4).trans rfl
          have hcz89_5 : wr.cell? ⟨gb104, 5, none⟩ = some (.int .u8 x105005_1) := (blk_cell BK104.out 5).trans rfl
          have hcz89_6 : wr.cell? ⟨gb104, 6, none⟩ = some (.int .u8 x105006_1) := (blk_cell BK104.out 6).trans rfl
          have hcz89_7 : wr.cell? ⟨gb104, 7, none⟩ = some (.int .u8 x105007_1) := (blk_cell BK104.out 7).trans rfl
          have hcz89_8 : wr.cell? ⟨gb104, 8, none⟩ = some (.int .u8 x105008_1) := (blk_cell BK104.out 8).trans rfl
          have hcz89_9 : wr.cell? ⟨gb104, 9, none⟩ = some (.int .u8 x105009_1) := (blk_cell BK104.out 9).trans rfl
          have hcz89_10 : wr.cell? ⟨gb104, 10, none⟩ = some (.int .u8 x105010_1) := (blk_cell BK104.out 10).trans rfl
          have hcz89_11 : wr.cell? ⟨gb104, 11, none⟩ = some (.int .u8 x105011_1) := (blk_cell BK104.out 11).trans rfl
          have hcz89_12 : wr.cell? ⟨gb104, 12, none⟩ = some (.int .u8 x105012_1) := (blk_cell BK104.out 12).trans rfl
          have hcz89_13 : wr.cell? ⟨gb104, 13, none⟩ = some (.int .u8 x105013_1) := (blk_cell BK104.out 13).trans rfl
          have hcz89_14 : wr.cell? ⟨gb104, 14, none⟩ = some (.int .u8 x105014_1) := (blk_cell BK104.out 14).trans rfl
          have hcz89_15 : wr.cell? ⟨gb104, 15, none⟩ = some (.int .u8 x105015_1) := (blk_cell BK104.out 15).trans rfl
          have hfz89_0 := blk_frozen BK104.out 0
          have hfz89_1 := blk_frozen BK104.out 1
          have hfz89_2 := blk_frozen BK104.out 2
          have hfz89_3 := blk_frozen BK104.out 3
          have hfz89_4 := blk_frozen BK104.out 4
          have hfz89_5 := blk_frozen BK104.out 5
          have hfz89_6 := blk_frozen BK104.out 6
          have hfz89_7 := blk_frozen BK104.out 7
          have hfz89_8 := blk_frozen BK104.out 8
          have hfz89_9 := blk_frozen BK104.out 9
          have hfz89_10 := blk_frozen BK104.out 10
          have hfz89_11 := blk_frozen BK104.out 11
          have hfz89_12 := blk_frozen BK104.out 12
          have hfz89_13 := blk_frozen BK104.out 13
          have hfz89_14 := blk_frozen BK104.out 14
          have hfz89_15 := blk_frozen BK104.out 15
          go_wp2
          go_roundg k1
          case measure => have := HK1.out; omega
          case rel => exact ⟨(14), (x105000_1), (x105001_1), (x105002_1), (x105003_1), (x105004_1), (x105005_1), (x105006_1), (x105007_1), (x105008_1), (x105009_1), (x105010_1), (x105011_1), (x105012_1), (a0_13), (x105014_1), (x105015_1), (by first | rfl | (simp; done) | (simp [*]; done)), H', ⟨by have := HK1.out; omega⟩, ⟨by (with_reducible repeat (first | refine blk_drewN ?_ _ | refine blk_drew ?_ | refine blk_alloc ?_ _)); refine blk_far ?_ NB102_104.out _; (with_reducible repeat (first | refine blk_drewN ?_ _ | refine blk_drew ?_ | refine blk_alloc ?_ _)); exact BK102.out⟩, ⟨by (with_reducible repeat (first | refine blk_drewN ?_ _ | refine blk_drew ?_ | refine blk_alloc ?_ _)); refine blk_far ?_ NB103_104.out _; (with_reducible repeat (first | refine blk_drewN ?_ _ | refine blk_drew ?_ | refine blk_alloc ?_ _)); exact BK103.out⟩, ⟨by (with_reducible repeat (first | refine blk_drewN ?_ _ | refine blk_drew ?_ | refine blk_alloc ?_ _)); refine blk_put (cs := #[.int .u8 x105000_1, .int .u8 x105001_1, .int .u8 x105002_1, .int .u8 x105003_1, .int .u8 x105004_1, .int .u8 x105005_1, .int .u8 x105006_1, .int .u8 x105007_1, .int .u8 x105008_1, .int .u8 x105009_1, .int .u8 x105010_1, .int .u8 x105011_1, .int .u8 x105012_1, .int .u8 x105013_1, .int .u8 x105014_1, .int .u8 x105015_1]) ?_ 13 _ rfl; (with_reducible repeat (first | refine blk_drewN ?_ _ | refine blk_drew ?_ | refine blk_alloc ?_ _)); exact BK104.out⟩, ⟨by repeat (first | (with_reducible first | exact HB.out | apply below_alloc | apply pw_below_drewN | apply below_drew1 | refine below_set ?_ GE102.out | refine below_set ?_ GE103.out | refine below_set ?_ GE104.out) | exact HB.out)⟩⟩
        rw [if_neg c84] at H
        by_cases c90 : x4_1 = 14
        · rw [if_pos c90] at H
          subst c90
          replace H : (laws_toByteA16.l0 k1 15 a0_0 a0_1 a0_2 a0_3 a0_4 a0_5 a0_6 a0_7 a0_8 a0_9 a0_10 a0_11 a0_12 a0_13 a0_14 a0_15 x105000_1 x105001_1 x105002_1 x105003_1 x105004_1 x105005_1 x105006_1 x105007_1 x105008_1 x105009_1 x105010_1 x105011_1 x105012_1 x105013_1 a0_14 x105015_1) = some (r1, r2, r3, r4, r5, r6, r7, r8, r9, r10, r11, r12, r13, r14, r15, r16) := H
          have H' := Aside0.mk H
          clear H
          have hnb91 := NB102_103.out
          have hnc91 := NB103_102.out
          have hnb92 := NB102_104.out
          have hnc92 := NB104_102.out
          have hcz93_0 : wr.cell? ⟨gb102, 0, none⟩ = some (.int .u8 a0_0) := (blk_cell BK102.out 0).trans rfl
          have hcz93_1 : wr.cell? ⟨gb102, 1, none⟩ = some (.int .u8 a0_1) := (blk_cell BK102.out 1).trans rfl
          have hcz93_2 : wr.cell? ⟨gb102, 2, none⟩ = some (.int .u8 a0_2) := (blk_cell BK102.out 2).trans rfl
          have hcz93_3 : wr.cell? ⟨gb102, 3, none⟩ = some (.int .u8 a0_3) := (blk_cell BK102.out 3).trans rfl
          have hcz93_4 : wr.cell? ⟨gb102, 4, none⟩ = some (.int .u8 a0_4) := (blk_cell BK102.out 4).trans rfl
          have hcz93_5 : wr.cell? ⟨gb102, 5, none⟩ = some (.int .u8 a0_5) := (blk_cell BK102.out 5).trans rfl
          have hcz93_6 : wr.cell? ⟨gb102, 6, none⟩ = some (.int .u8 a0_6) := (blk_cell BK102.out 6).trans rfl
          have hcz93_7 : wr.cell? ⟨gb102, 7, none⟩ = some (.int .u8 a0_7) := (blk_cell BK102.out 7).trans rfl
          have hcz93_8 : wr.cell? ⟨gb102, 8, none⟩ = some (.int .u8 a0_8) := (blk_cell BK102.out 8).trans rfl
          have hcz93_9 : wr.cell? ⟨gb102, 9, none⟩ = some (.int .u8 a0_9) := (blk_cell BK102.out 9).trans rfl
          have hcz93_10 : wr.cell? ⟨gb102, 10, none⟩ = some (.int .u8 a0_10) := (blk_cell BK102.out 10).trans rfl
          have hcz93_11 : wr.cell? ⟨gb102, 11, none⟩ = some (.int .u8 a0_11) := (blk_cell BK102.out 11).trans rfl
          have hcz93_12 : wr.cell? ⟨gb102, 12, none⟩ = some (.int .u8 a0_12) := (blk_cell BK102.out 12).trans rfl
          have hcz93_13 : wr.cell? ⟨gb102, 13, none⟩ = some (.int .u8 a0_13) := (blk_cell BK102.out 13).trans rfl
          have hcz93_14 : wr.cell? ⟨gb102, 14, none⟩ = some (.int .u8 a0_14) := (blk_cell BK102.out 14).trans rfl
          have hcz93_15 : wr.cell? ⟨gb102, 15, none⟩ = some (.int .u8 a0_15) := (blk_cell BK102.out 15).trans rfl
          have hfz93_0 := blk_frozen BK102.out 0
          have hfz93_1 := blk_frozen BK102.out 1
          have hfz93_2 := blk_frozen BK102.out 2
          have hfz93_3 := blk_frozen BK102.out 3
          have hfz93_4 := blk_frozen BK102.out 4
          have hfz93_5 := blk_frozen BK102.out 5
          have hfz93_6 := blk_frozen BK102.out 6
          have hfz93_7 := blk_frozen BK102.out 7
          have hfz93_8 := blk_frozen BK102.out 8
          have hfz93_9 := blk_frozen BK102.out 9
          have hfz93_10 := blk_frozen BK102.out 10
          have hfz93_11 := blk_frozen BK102.out 11
          have hfz93_12 := blk_frozen BK102.out 12
          have hfz93_13 := blk_frozen BK102.out 13
          have hfz93_14 := blk_frozen BK102.out 14
          have hfz93_15 := blk_frozen BK102.out 15
          have hnb94 := NB104_103.out
          have hnc94 := NB103_104.out
          have hcz95_0 : wr.cell? ⟨gb104, 0, none⟩ = some (.int .u8 x105000_1) := (blk_cell BK104.out 0).trans rfl
          have hcz95_1 : wr.cell? ⟨gb104, 1, none⟩ = some (.int .u8 x105001_1) := (blk_cell BK104.out 1).trans rfl
          have hcz95_2 : wr.cell? ⟨gb104, 2, none⟩ = some (.int .u8 x105002_1) := (blk_cell BK104.out 2).trans rfl
          have hcz95_3 : wr.cell? ⟨gb104, 3, none⟩ = some (.int .u8 x105003_1) := (blk_cell BK104.out 3).trans rfl
          have hcz95_4 : wr.cell? ⟨gb104, 4, none⟩ = some (.int .u8 x105004_1) := (blk_cell BK104.out 4).trans rfl
          have hcz95_5 : wr.cell? ⟨gb104, 5, none⟩ = some (.int .u8 x105005_1) := (blk_cell BK104.out 5).trans rfl
          have hcz95_6 : wr.cell? ⟨gb104, 6, none⟩ = some (.int .u8 x105006_1) := (blk_cell BK104.out 6).trans rfl
          have hcz95_7 : wr.cell? ⟨gb104, 7, none⟩ = some (.int .u8 x105007_1) := (blk_cell BK104.out 7).trans rfl
          have hcz95_8 : wr.cell? ⟨gb104, 8, none⟩ = some (.int .u8 x105008_1) := (blk_cell BK104.out 8).trans rfl
          have hcz95_9 : wr.cell? ⟨gb104, 9, none⟩ = some (.int .u8 x105009_1) := (blk_cell BK104.out 9).trans rfl
          have hcz95_10 : wr.cell? ⟨gb104, 10, none⟩ = some (.int .u8 x105010_1) := (blk_cell BK104.out 10).trans rfl
          have hcz95_11 : wr.cell? ⟨gb104, 11, none⟩ = some (.int .u8 x105011_1) := (blk_cell BK104.out 11).trans rfl
          have hcz95_12 : wr.cell? ⟨gb104, 12, none⟩ = some (.int .u8 x105012_1) := (blk_cell BK104.out 12).trans rfl
          have hcz95_13 : wr.cell? ⟨gb104, 13, none⟩ = some (.int .u8 x105013_1) := (blk_cell BK104.out 13).trans rfl
          have hcz95_14 : wr.cell? ⟨gb104, 14, none⟩ = some (.int .u8 x105014_1) := (blk_cell BK104.out 14).trans rfl
          have hcz95_15 : wr.cell? ⟨gb104, 15, none⟩ = some (.int .u8 x105015_1) := (blk_cell BK104.out 15).trans rfl
          have hfz95_0 := blk_frozen BK104.out 0
          have hfz95_1 := blk_frozen BK104.out 1
          have hfz95_2 := blk_frozen BK104.out 2
          have hfz95_3 := blk_frozen BK104.out 3
          have hfz95_4 := blk_frozen BK104.out 4
          have hfz95_5 := blk_frozen BK104.out 5
          have hfz95_6 := blk_frozen BK104.out 6
          have hfz95_7 := blk_frozen BK104.out 7
          have hfz95_8 := blk_frozen BK104.out 8
          have hfz95_9 := blk_frozen BK104.out 9
          have hfz95_10 := blk_frozen BK104.out 10
          have hfz95_11 := blk_frozen BK104.out 11
          have hfz95_12 := blk_frozen BK104.out 12
          have hfz95_13 := blk_frozen BK104.out 13
          have hfz95_14 := blk_frozen BK104.out 14
          have hfz95_15 := blk_frozen BK104.out 15
          go_wp2
          go_roundg k1
          case measure => have := HK1.out; omega
          case rel => exact ⟨(15), (x105000_1), (x105001_1), (x105002_1), (x105003_1), (x105004_1), (x105005_1), (x105006_1), (x105007_1), (x105008_1), (x105009_1), (x105010_1), (x105011_1), (x105012_1), (x105013_1), (a0_14), (x105015_1), (by first | rfl | (simp; done) | (simp [*]; done)), H', ⟨by have := HK1.out; omega⟩, ⟨by (with_reducible repeat (first | refine blk_drewN ?_ _ | refine blk_drew ?_ | refine blk_alloc ?_ _)); refine blk_far ?_ NB102_104.out _; (with_reducible repeat (first | refine blk_drewN ?_ _ | refine blk_drew ?_ | refine blk_alloc ?_ _)); exact BK102.out⟩, ⟨by (with_reducible repeat (first | refine blk_drewN ?_ _ | refine blk_drew ?_ | refine blk_alloc ?_ _)); refine blk_far ?_ NB103_104.out _; (with_reducible repeat (first | refine blk_drewN ?_ _ | refine blk_drew ?_ | refine blk_alloc ?_ _)); exact BK103.out⟩, ⟨by (with_reducible repeat (first | refine blk_drewN ?_ _ | refine blk_drew ?_ | refine blk_alloc ?_ _)); refine blk_put (cs := #[.int .u8 x105000_1, .int .u8 x105001_1, .int .u8 x105002_1, .int .u8 x105003_1, .int .u8 x105004_1, .int .u8 x105005_1, .int .u8 x105006_1, .int .u8 x105007_1, .int .u8 x105008_1, .int .u8 x105009_1, .int .u8 x105010_1, .int .u8 x105011_1, .int .u8 x105012_1, .int .u8 x105013_1, .int .u8 x105014_1, .int .u8 x105015_1]) ?_ 14 _ rfl; (with_reducible repeat (first | refine blk_drewN ?_ _ | refine blk_drew ?_ | refine blk_alloc ?_ _)); exact BK104.out⟩, ⟨by repeat (first | (with_reducible first | exact HB.out | apply below_alloc | apply pw_below_drewN | apply below_drew1 | refine below_set ?_ GE102.out | refine below_set ?_ GE103.out | refine below_set ?_ GE104.out) | exact HB.out)⟩⟩
        rw [if_neg c90] at H
        by_cases c96 : x4_1 = 15
        · rw [if_pos c96] at H
          subst c96
          replace H : (laws_toByteA16.l0 k1 16 a0_0 a0_1 a0_2 a0_3 a0_4 a0_5 a0_6 a0_7 a0_8 a0_9 a0_10 a0_11 a0_12 a0_13 a0_14 a0_15 x105000_1 x105001_1 x105002_1 x105003_1 x105004_1 x105005_1 x105006_1 x105007_1 x105008_1 x105009_1 x105010_1 x105011_1 x105012_1 x105013_1 x105014_1 a0_15) = some (r1, r2, r3, r4, r5, r6, r7, r8, r9, r10, r11, r12, r13, r14, r15, r16) := H
          have H' := Aside0.mk H
          clear H
          have hnb97 := NB102_103.out
          have hnc97 := NB103_102.out
          have hnb98 := NB102_104.out
          have hnc98 := NB104_102.out
          have hcz99_0 : wr.cell? ⟨gb102, 0, none⟩ = some (.int .u8 a0_0) := (blk_cell BK102.out 0).trans rfl
          have hcz99_1 : wr.cell? ⟨gb102, 1, none⟩ = some (.int .u8 a0_1) := (blk_cell BK102.out 1).trans rfl
          have hcz99_2 : wr.cell? ⟨gb102, 2, none⟩ = some (.int .u8 a0_2) := (blk_cell BK102.out 2).trans rfl
          have hcz99_3 : wr.cell? ⟨gb102, 3, none⟩ = some (.int .u8 a0_3) := (blk_cell BK102.out 3).trans rfl
          have hcz99_4 : wr.cell? ⟨gb102, 4, none⟩ = some (.int .u8 a0_4) := (blk_cell BK102.out 4).trans rfl
          have hcz99_5 : wr.cell? ⟨gb102, 5, none⟩ = some (.int .u8 a0_5) := (blk_cell BK102.out 5).trans rfl
          have hcz99_6 : wr.cell? ⟨gb102, 6, none⟩ = some (.int .u8 a0_6) := (blk_cell BK102.out 6).trans rfl
          have hcz99_7 : wr.cell? ⟨gb102, 7, none⟩ = some (.int .u8 a0_7) := (blk_cell BK102.out 7).trans rfl
          have hcz99_8 : wr.cell? ⟨gb102, 8, none⟩ = some (.int .u8 a0_8) := (blk_cell BK102.out 8).trans rfl
          have hcz99_9 : wr.cell? ⟨gb102, 9, none⟩ = some (.int .u8 a0_9) := (blk_cell BK102.out 9).trans rfl
          have hcz99_10 : wr.cell? ⟨gb102, 10, none⟩ = some (.int .u8 a0_10) := (blk_cell BK102.out 10).trans rfl
          have hcz99_11 : wr.cell? ⟨gb102, 11, none⟩ = some (.int .u8 a0_11) := (blk_cell BK102.out 11).trans rfl
          have hcz99_12 : wr.cell? ⟨gb102, 12, none⟩ = some (.int .u8 a0_12) := (blk_cell BK102.out 12).trans rfl
          have hcz99_13 : wr.cell? ⟨gb102, 13, none⟩ = some (.int .u8 a0_13) := (blk_cell BK102.out 13).trans rfl
          have hcz99_14 : wr.cell? ⟨gb102, 14, none⟩ = some (.int .u8 a0_14) := (blk_cell BK102.out 14).trans rfl
          have hcz99_15 : wr.cell? ⟨gb102, 15, none⟩ = some (.int .u8 a0_15) := (blk_cell BK102.out 15).trans rfl
          have hfz99_0 := blk_frozen BK102.out 0
          have hfz99_1 := blk_frozen BK102.out 1
          have hfz99_2 := blk_frozen BK102.out 2
          have hfz99_3 := blk_frozen BK102.out 3
          have hfz99_4 := blk_frozen BK102.out 4
          have hfz99_5 := blk_frozen BK102.out 5
          have hfz99_6 := blk_frozen BK102.out 6
          have hfz99_7 := blk_frozen BK102.out 7
          have hfz99_8 := blk_frozen BK102.out 8
          have hfz99_9 := blk_frozen BK102.out 9
          have hfz99_10 := blk_frozen BK102.out 10
          have hfz99_11 := blk_frozen BK102.out 11
          have hfz99_12 := blk_frozen BK102.out 12
          have hfz99_13 := blk_frozen BK102.out 13
          have hfz99_14 := blk_frozen BK102.out 14
          have hfz99_15 := blk_frozen BK102.out 15
          have hnb100 := NB104_103.out
          have hnc100 := NB103_104.out
          have hcz101_0 : wr.cell? ⟨gb104, 0, none⟩ = some (.int .u8 x105000_1) := (blk_cell BK104.out 0).trans rfl
          have hcz101_1 : wr.cell? ⟨gb104, 1, none⟩ = some (.int .u8 x105001_1) := (blk_cell BK104.out 1).trans rfl
          have hcz101_2 : wr.cell? ⟨gb104, 2, none⟩ = some (.int .u8 x105002_1) := (blk_cell BK104.out 2).trans rfl
          have hcz101_3 : wr.cell? ⟨gb104, 3, none⟩ = some (.int .u8 x105003_1) := (blk_cell BK104.out 3).trans rfl
          have hcz101_4 : wr.cell? ⟨gb104, 4, none⟩ = some (.int .u8 x105004_1) := (blk_cell BK104.out 4).trans rfl
          have hcz101_5 : wr.cell? ⟨gb104, 5, none⟩ = some (.int .u8 x105005_1) := (blk_cell BK104.out 5).trans rfl
          have hcz101_6 : wr.cell? ⟨gb104, 6, none⟩ = some (.int .u8 x105006_1) := (blk_cell BK104.out 6).trans rfl
          have hcz101_7 : wr.cell? ⟨gb104, 7, none⟩ = some (.int .u8 x105007_1) := (blk_cell BK104.out 7).trans rfl
          have hcz101_8 : wr.cell? ⟨gb104, 8, none⟩ = some (.int .u8 x105008_1) := (blk_cell BK104.out 8).trans rfl
          have hcz101_9 : wr.cell? ⟨gb104, 9, none⟩ = some (.int .u8 x105009_1) := (blk_cell BK104.out 9).trans rfl
          have hcz101_10 : wr.cell? ⟨gb104, 10, none⟩ = some (.int .u8 x105010_1) := (blk_cell BK104.out 10).trans rfl
          have hcz101_11 : wr.cell? ⟨gb104, 11, none⟩ = some (.int .u8 x105011_1) := (blk_cell BK104.out 11).trans rfl
          have hcz101_12 : wr.cell? ⟨gb104, 12, none⟩ = some (.int .u8 x105012_1) := (blk_cell BK104.out 12).trans rfl
          have hcz101_13 : wr.cell? ⟨gb104, 13, none⟩ = some (.int .u8 x105013_1) := (blk_cell BK104.out 13).trans rfl
          have hcz101_14 : wr.cell? ⟨gb104, 14, none⟩ = some (.int .u8 x105014_1) := (blk_cell BK104.out 14).trans rfl
          have hcz101_15 : wr.cell? ⟨gb104, 15, none⟩ = some (.int .u8 x105015_1) := (blk_cell BK104.out 15).trans rfl
          have hfz101_0 := blk_frozen BK104.out 0
          have hfz101_1 := blk_frozen BK104.out 1
          have hfz101_2 := blk_frozen BK104.out 2
          have hfz101_3 := blk_frozen BK104.out 3
          have hfz101_4 := blk_frozen BK104.out 4
          have hfz101_5 := blk_frozen BK104.out 5
          have hfz101_6 := blk_frozen BK104.out 6
          have hfz101_7 := blk_frozen BK104.out 7
          have hfz101_8 := blk_frozen BK104.out 8
          have hfz101_9 := blk_frozen BK104.out 9
          have hfz101_10 := blk_frozen BK104.out 10
          have hfz101_11 := blk_frozen BK104.out 11
          have hfz101_12 := blk_frozen BK104.out 12
          have hfz101_13 := blk_frozen BK104.out 13
          have hfz101_14 := blk_frozen BK104.out 14
          have hfz101_15 := blk_frozen BK104.out 15
          go_wp2
          go_roundg k1
          case measure => have := HK1.out; omega
          case rel => exact ⟨(16), (x105000_1), (x105001_1), (x105002_1), (x105003_1), (x105004_1), (x105005_1), (x105006_1), (x105007_1), (x105008_1), (x105009_1), (x105010_1), (x105011_1), (x105012_1), (x105013_1), (x105014_1), (a0_15), (by first | rfl | (simp; done) | (simp [*]; done)), H', ⟨by have := HK1.out; omega⟩, ⟨by (with_reducible repeat (first | refine blk_drewN ?_ _ | refine blk_drew ?_ | refine blk_alloc ?_ _)); refine blk_far ?_ NB102_104.out _; (with_reducible repeat (first | refine blk_drewN ?_ _ | refine blk_drew ?_ | refine blk_alloc ?_ _)); exact BK102.out⟩, ⟨by (with_reducible repeat (first | refine blk_drewN ?_ _ | refine blk_drew ?_ | refine blk_alloc ?_ _)); refine blk_far ?_ NB103_104.out _; (with_reducible repeat (first | refine blk_drewN ?_ _ | refine blk_drew ?_ | refine blk_alloc ?_ _)); exact BK103.out⟩, ⟨by (with_reducible repeat (first | refine blk_drewN ?_ _ | refine blk_drew ?_ | refine blk_alloc ?_ _)); refine blk_put (cs := #[.int .u8 x105000_1, .int .u8 x105001_1, .int .u8 x105002_1, .int .u8 x105003_1, .int .u8 x105004_1, .int .u8 x105005_1, .int .u8 x105006_1, .int .u8 x105007_1, .int .u8 x105008_1, .int .u8 x105009_1, .int .u8 x105010_1, .int .u8 x105011_1, .int .u8 x105012_1, .int .u8 x105013_1, .int .u8 x105014_1, .int .u8 x105015_1]) ?_ 15 _ rfl; (with_reducible repeat (first | refine blk_drewN ?_ _ | refine blk_drew ?_ | refine blk_alloc ?_ _)); exact BK104.out⟩, ⟨by repeat (first | (with_reducible first | exact HB.out | apply below_alloc | apply pw_below_drewN | apply below_drew1 | refine below_set ?_ GE102.out | refine below_set ?_ GE103.out | refine below_set ?_ GE104.out) | exact HB.out)⟩⟩
        rw [if_neg c96] at H
        exact absurd H (by simp)
      · rw [if_neg c5] at H
        have c5b0 : decide (x4_1 < 16) = false := decide_eq_false c5
        clear c5
        simp only [Option.some.injEq, Prod.mk.injEq] at H
        obtain ⟨rfl, rfl, rfl, rfl, rfl, rfl, rfl, rfl, rfl, rfl, rfl, rfl, rfl, rfl, rfl, rfl⟩ := H
        have hnb102 := NB104_102.out
        have hnc102 := NB102_104.out
        have hnb103 := NB104_103.out
        have hnc103 := NB103_104.out
        have hcz104_0 : wr.cell? ⟨gb104, 0, none⟩ = some (.int .u8 x105000_1) := (blk_cell BK104.out 0).trans rfl
        have hcz104_1 : wr.cell? ⟨gb104, 1, none⟩ = some (.int .u8 x105001_1) := (blk_cell BK104.out 1).trans rfl
        have hcz104_2 : wr.cell? ⟨gb104, 2, none⟩ = some (.int .u8 x105002_1) := (blk_cell BK104.out 2).trans rfl
        have hcz104_3 : wr.cell? ⟨gb104, 3, none⟩ = some (.int .u8 x105003_1) := (blk_cell BK104.out 3).trans rfl
        have hcz104_4 : wr.cell? ⟨gb104, 4, none⟩ = some (.int .u8 x105004_1) := (blk_cell BK104.out 4).trans rfl
        have hcz104_5 : wr.cell? ⟨gb104, 5, none⟩ = some (.int .u8 x105005_1) := (blk_cell BK104.out 5).trans rfl
        have hcz104_6 : wr.cell? ⟨gb104, 6, none⟩ = some (.int .u8 x105006_1) := (blk_cell BK104.out 6).trans rfl
        have hcz104_7 : wr.cell? ⟨gb104, 7, none⟩ = some (.int .u8 x105007_1) := (blk_cell BK104.out 7).trans rfl
        have hcz104_8 : wr.cell? ⟨gb104, 8, none⟩ = some (.int .u8 x105008_1) := (blk_cell BK104.out 8).trans rfl
        have hcz104_9 : wr.cell? ⟨gb104, 9, none⟩ = some (.int .u8 x105009_1) := (blk_cell BK104.out 9).trans rfl
        have hcz104_10 : wr.cell? ⟨gb104, 10, none⟩ = some (.int .u8 x105010_1) := (blk_cell BK104.out 10).trans rfl
        have hcz104_11 : wr.cell? ⟨gb104, 11, none⟩ = some (.int .u8 x105011_1) := (blk_cell BK104.out 11).trans rfl
        have hcz104_12 : wr.cell? ⟨gb104, 12, none⟩ = some (.int .u8 x105012_1) := (blk_cell BK104.out 12).trans rfl
        have hcz104_13 : wr.cell? ⟨gb104, 13, none⟩ = some (.int .u8 x105013_1) := (blk_cell BK104.out 13).trans rfl
        have hcz104_14 : wr.cell? ⟨gb104, 14, none⟩ = some (.int .u8 x105014_1) := (blk_cell BK104.out 14).trans rfl
        have hcz104_15 : wr.cell? ⟨gb104, 15, none⟩ = some (.int .u8 x105015_1) := (blk_cell BK104.out 15).trans rfl
        have hfz104_0 := blk_frozen BK104.out 0
        have hfz104_1 := blk_frozen BK104.out 1
        have hfz104_2 := blk_frozen BK104.out 2
        have hfz104_3 := blk_frozen BK104.out 3
        have hfz104_4 := blk_frozen BK104.out 4
        have hfz104_5 := blk_frozen BK104.out 5
        have hfz104_6 := blk_frozen BK104.out 6
        have hfz104_7 := blk_frozen BK104.out 7
        have hfz104_8 := blk_frozen BK104.out 8
        have hfz104_9 := blk_frozen BK104.out 9
        have hfz104_10 := blk_frozen BK104.out 10
        have hfz104_11 := blk_frozen BK104.out 11
        have hfz104_12 := blk_frozen BK104.out 12
        have hfz104_13 := blk_frozen BK104.out 13
        have hfz104_14 := blk_frozen BK104.out 14
        have hfz104_15 := blk_frozen BK104.out 15
        have hnb105 := NB103_102.out
        have hnc105 := NB102_103.out
        have hcz106_0 : wr.cell? ⟨gb103, 0, none⟩ = some (.int .u8 0) := (blk_cell BK103.out 0).trans rfl
        have hcz106_1 : wr.cell? ⟨gb103, 1, none⟩ = some (.int .u8 0) := (blk_cell BK103.out 1).trans rfl
        have hcz106_2 : wr.cell? ⟨gb103, 2, none⟩ = some (.int .u8 0) := (blk_cell BK103.out 2).trans rfl
        have hcz106_3 : wr.cell? ⟨gb103, 3, none⟩ = some (.int .u8 0) := (blk_cell BK103.out 3).trans rfl
        have hcz106_4 : wr.cell? ⟨gb103, 4, none⟩ = some (.int .u8 0) := (blk_cell BK103.out 4).trans rfl
        have hcz106_5 : wr.cell? ⟨gb103, 5, none⟩ = some (.int .u8 0) := (blk_cell BK103.out 5).trans rfl
        have hcz106_6 : wr.cell? ⟨gb103, 6, none⟩ = some (.int .u8 0) := (blk_cell BK103.out 6).trans rfl
        have hcz106_7 : wr.cell? ⟨gb103, 7, none⟩ = some (.int .u8 0) := (blk_cell BK103.out 7).trans rfl
        have hcz106_8 : wr.cell? ⟨gb103, 8, none⟩ = some (.int .u8 0) := (blk_cell BK103.out 8).trans rfl
        have hcz106_9 : wr.cell? ⟨gb103, 9, none⟩ = some (.int .u8 0) := (blk_cell BK103.out 9).trans rfl
        have hcz106_10 : wr.cell? ⟨gb103, 10, none⟩ = some (.int .u8 0) := (blk_cell BK103.out 10).trans rfl
        have hcz106_11 : wr.cell? ⟨gb103, 11, none⟩ = some (.int .u8 0) := (blk_cell BK103.out 11).trans rfl
        have hcz106_12 : wr.cell? ⟨gb103, 12, none⟩ = some (.int .u8 0) := (blk_cell BK103.out 12).trans rfl
        have hcz106_13 : wr.cell? ⟨gb103, 13, none⟩ = some (.int .u8 0) := (blk_cell BK103.out 13).trans rfl
        have hcz106_14 : wr.cell? ⟨gb103, 14, none⟩ = some (.int .u8 0) := (blk_cell BK103.out 14).trans rfl
        have hcz106_15 : wr.cell? ⟨gb103, 15, none⟩ = some (.int .u8 0) := (blk_cell BK103.out 15).trans rfl
        have hfz106_0 := blk_frozen BK103.out 0
        have hfz106_1 := blk_frozen BK103.out 1
        have hfz106_2 := blk_frozen BK103.out 2
        have hfz106_3 := blk_frozen BK103.out 3
        have hfz106_4 := blk_frozen BK103.out 4
        have hfz106_5 := blk_frozen BK103.out 5
        have hfz106_6 := blk_frozen BK103.out 6
        have hfz106_7 := blk_frozen BK103.out 7
        have hfz106_8 := blk_frozen BK103.out 8
        have hfz106_9 := blk_frozen BK103.out 9
        have hfz106_10 := blk_frozen BK103.out 10
        have hfz106_11 := blk_frozen BK103.out 11
        have hfz106_12 := blk_frozen BK103.out 12
        have hfz106_13 := blk_frozen BK103.out 13
        have hfz106_14 := blk_frozen BK103.out 14
        have hfz106_15 := blk_frozen BK103.out 15
        go_wp2
        refine bodyPost_ret (results_cell_row rfl _ _ gb103 23 #[.int .u8 x105000_1, .int .u8 x105001_1, .int .u8 x105002_1, .int .u8 x105003_1, .int .u8 x105004_1, .int .u8 x105005_1, .int .u8 x105006_1, .int .u8 x105007_1, .int .u8 x105008_1, .int .u8 x105009_1, .int .u8 x105010_1, .int .u8 x105011_1, .int .u8 x105012_1, .int .u8 x105013_1, .int .u8 x105014_1, .int .u8 x105015_1] (0, 0) _ rfl (by (with_reducible repeat (first | refine blk_drewN ?_ _ | refine blk_drew ?_ | refine blk_alloc ?_ _)); refine blk_put (cs := #[.int .u8 x105000_1, .int .u8 x105001_1, .int .u8 x105002_1, .int .u8 x105003_1, .int .u8 x105004_1, .int .u8 x105005_1, .int .u8 x105006_1, .int .u8 x105007_1, .int .u8 x105008_1, .int .u8 x105009_1, .int .u8 x105010_1, .int .u8 x105011_1, .int .u8 x105012_1, .int .u8 x105013_1, .int .u8 x105014_1, .int .u8 0]) ?_ 15 _ rfl; (with_reducible repeat (first | refine blk_drewN ?_ _ | refine blk_drew ?_ | refine blk_alloc ?_ _)); refine blk_put (cs := #[.int .u8 x105000_1, .int .u8 x105001_1, .int .u8 x105002_1, .int .u8 x105003_1, .int .u8 x105004_1, .int .u8 x105005_1, .int .u8 x105006_1, .int .u8 x105007_1, .int .u8 x105008_1, .int .u8 x105009_1, .int .u8 x105010_1, .int .u8 x105011_1, .int .u8 x105012_1, .int .u8 x105013_1, .int .u8 0, .int .u8 0]) ?_ 14 _ rfl; (with_reducible repeat (first | refine blk_drewN ?_ _ | refine blk_drew ?_ | refine blk_alloc ?_ _)); refine blk_put (cs := #[.int .u8 x105000_1, .int .u8 x105001_1, .int .u8 x105002_1, .int .u8 x105003_1, .int .u8 x105004_1, .int .u8 x105005_1, .int .u8 x105006_1, .int .u8 x105007_1, .int .u8 x105008_1, .int .u8 x105009_1, .int .u8 x105010_1, .int .u8 x105011_1, .int .u8 x105012_1, .int .u8 0, .int .u8 0, .int .u8 0]) ?_ 13 _ rfl; (with_reducible repeat (first | refine blk_drewN ?_ _ | refine blk_drew ?_ | refine blk_alloc ?_ _)); refine blk_put (cs := #[.int .u8 x105000_1, .int .u8 x105001_1, .int .u8 x105002_1, .int .u8 x105003_1, .int .u8 x105004_1, .int .u8 x105005_1, .int .u8 x105006_1, .int .u8 x105007_1, .int .u8 x105008_1, .int .u8 x105009_1, .int .u8 x105010_1, .int .u8 x105011_1, .int .u8 0, .int .u8 0, .int .u8 0, .int .u8 0]) ?_ 12 _ rfl; (with_reducible repeat (first | refine blk_drewN ?_ _ | refine blk_drew ?_ | refine blk_alloc ?_ _)); refine blk_put (cs := #[.int .u8 x105000_1, .int .u8 x105001_1, .int .u8 x105002_1, .int .u8 x105003_1, .int .u8 x105004_1, .int .u8 x105005_1, .int .u8 x105006_1, .int .u8 x105007_1, .int .u8 x105008_1, .int .u8 x105009_1, .int .u8 x105010_1, .int .u8 0, .int .u8 0, .int .u8 0, .int .u8 0, .int .u8 0]) ?_ 11 _ rfl; (with_reducible repeat (first | refine blk_drewN ?_ _ | refine blk_drew ?_ | refine blk_alloc ?_ _)); refine blk_put (cs := #[.int .u8 x105000_1, .int .u8 x105001_1, .int .u8 x105002_1, .int .u8 x105003_1, .int .u8 x105004_1, .int .u8 x105005_1, .int .u8 x105006_1, .int .u8 x105007_1, .int .u8 x105008_1, .int .u8 x105009_1, .int .u8 0, .int .u8 0, .int .u8 0, .int .u8 0, .int .u8 0, .int .u8 0]) ?_ 10 _ rfl; (with_reducible repeat (first | refine blk_drewN ?_ _ | refine blk_drew ?_ | refine blk_alloc ?_ _)); refine blk_put (cs := #[.int .u8 x105000_1, .int .u8 x105001_1, .int .u8 x105002_1, .int .u8 x105003_1, .int .u8 x105004_1, .int .u8 x105005_1, .int .u8 x105006_1, .int .u8 x105007_1, .int .u8 x105008_1, .int .u8 0, .int .u8 0, .int .u8 0, .int .u8 0, .int .u8 0, .int .u8 0, .int .u8 0]) ?_ 9 _ rfl; (with_reducible repeat (first | refine blk_drewN ?_ _ | refine blk_drew ?_ | refine blk_alloc ?_ _)); refine blk_put (cs := #[.int .u8 x105000_1, .int .u8 x105001_1, .int .u8 x105002_1, .int .u8 x105003_1, .int .u8 x105004_1, .int .u8 x105005_1, .int .u8 x105006_1, .int .u8 x105007_1, .int .u8 0, .int .u8 0, .int .u8 0, .int .u8 0, .int .u8 0, .int .u8 0, .int .u8 0, .int .u8 0]) ?_ 8 _ rfl; (with_reducible repeat (first | refine blk_drewN ?_ _ | refine blk_drew ?_ | refine blk_alloc ?_ _)); refine blk_put (cs := #[.int .u8 x105000_1, .int .u8 x105001_1, .int .u8 x105002_1, .int .u8 x105003_1, .int .u8 x105004_1, .int .u8 x105005_1, .int .u8 x105006_1, .int .u8 0, .int .u8 0, .int .u8 0, .int .u8 0, .int .u8 0, .int .u8 0, .int .u8 0, .int .u8 0, .int .u8 0]) ?_ 7 _ rfl; (with_reducible repeat (first | refine blk_drewN ?_ _ | refine blk_drew ?_ | refine blk_alloc ?_ _)); refine blk_put (cs := #[.int .u8 x105000_1, .int .u8 x105001_1, .int .u8 x105002_1, .int .u8 x105003_1, .int .u8 x105004_1, .int .u8 x105005_1, .int .u8 0, .int .u8 0, .int .u8 0, .int .u8 0, .int .u8 0, .int .u8 0, .int .u8 0, .int .u8 0, .int .u8 0, .int .u8 0]) ?_ 6 _ rfl; (with_reducible repeat (first | refine blk_drewN ?_ _ | refine blk_drew ?_ | refine blk_alloc ?_ _)); refine blk_put (cs := #[.int .u8 x105000_1, .int .u8 x105001_1, .int .u8 x105002_1, .int .u8 x105003_1, .int .u8 x105004_1, .int .u8 0, .int .u8 0, .int .u8 0, .int .u8 0, .int .u8 0, .int .u8 0, .int .u8 0, .int .u8 0, .int .u8 0, .int .u8 0, .int .u8 0]) ?_ 5 _ rfl; (with_reducible repeat (first | refine blk_drewN ?_ _ | refine blk_drew ?_ | refine blk_alloc ?_ _)); refine blk_put (cs := #[.int .u8 x105000_1, .int .u8 x105001_1, .int .u8 x105002_1, .int .u8 x105003_1, .int .u8 0, .int .u8 0, .int .u8 0, .int .u8 0, .int .u8 0, .int .u8 0, .int .u8 0, .int .u8 0, .int .u8 0, .int .u8 0, .int .u8 0, .int .u8 0]) ?_ 4 _ rfl; (with_reducible repeat (first | refine blk_drewN ?_ _ | refine blk_drew ?_ | refine blk_alloc ?_ _)); refine blk_put (cs := #[.int .u8 x105000_1, .int .u8 x105001_1, .int .u8 x105002_1, .int .u8 0, .int .u8 0, .int .u8 0, .int .u8 0, .int .u8 0, .int .u8 0, .int .u8 0, .int .u8 0, .int .u8 0, .int .u8 0, .int .u8 0, .int .u8 0, .int .u8 0]) ?_ 3 _ rfl; (with_reducible repeat (first | refine blk_drewN ?_ _ | refine blk_drew ?_ | refine blk_alloc ?_ _)); refine blk_put (cs := #[.int .u8 x105000_1, .int .u8 x105001_1, .int .u8 0, .int .u8 0, .int .u8 0, .int .u8 0, .int .u8 0, .int .u8 0, .int .u8 0, .int .u8 0, .int .u8 0, .int .u8 0, .int .u8 0, .int .u8 0, .int .u8 0, .int .u8 0]) ?_ 2 _ rfl; (with_reducible repeat (first | refine blk_drewN ?_ _ | refine blk_drew ?_ | refine blk_alloc ?_ _)); refine blk_put (cs := #[.int .u8 x105000_1, .int .u8 0, .int .u8 0, .int .u8 0, .int .u8 0, .int .u8 0, .int .u8 0, .int .u8 0, .int .u8 0, .int .u8 0, .int .u8 0, .int .u8 0, .int .u8 0, .int .u8 0, .int .u8 0, .int .u8 0]) ?_ 1 _ rfl; (with_reducible repeat (first | refine blk_drewN ?_ _ | refine blk_drew ?_ | refine blk_alloc ?_ _)); refine blk_put (cs := #[.int .u8 0, .int .u8 0, .int .u8 0, .int .u8 0, .int .u8 0, .int .u8 0, .int .u8 0, .int .u8 0, .int .u8 0, .int .u8 0, .int .u8 0, .int .u8 0, .int .u8 0, .int .u8 0, .int .u8 0, .int .u8 0]) ?_ 0 _ rfl; (with_reducible repeat (first | refine blk_drewN ?_ _ | refine blk_drew ?_ | refine blk_alloc ?_ _)); exact BK103.out) Try.underlying23 rfl (by kernel_rfl)) rfl ?_
        exact ⟨by first | rfl | (simp [errW_none, errW_some] <;> rfl) | (simp [*, errW_none, errW_some] <;> rfl), by repeat (first | (with_reducible first | exact HB.out | apply below_alloc | apply pw_below_drewN | apply below_drew1 | refine below_set ?_ GE102.out | refine below_set ?_ GE103.out | refine below_set ?_ GE104.out) | exact HB.out)⟩

end Go.Proofs.Ytkmncnkohkfkoaa.Pb
