import Derived.Test.YtjmgbdepmbbepaaQFnExactNewTrunkM12
import Derived.Test.YtjmgbdepmbbepaaRows
import Derived.WalkKit
import Derived.ProofKit
import Derived.OpenShut
import Derived.ShutString
import Derived.ChangeOld
import Derived.Below
import Derived.SizedLaws
/- Trunks: what the laws' own functions come to: no condition. -/
namespace Go.Proofs.Ytjmgbdepmbbepaa.Pure
open Go.RowKit Go.Proofs.Ytjmgbdepmbbepaa.Pa Go.Proofs.Ytjmgbdepmbbepaa.Kit Go.Proofs.YtjmgbdepmbbepaaW.PrintWords Go.Proofs.YtjmgbdepmbbepaaW.PrintLast Go.Proofs.YtjmgbdepmbbepaaW.PrintMore

def note (x : S90) : S61 := ⟨x.f0, x.f1⟩
theorem toNoteS_ev (l : List S90) (hl : l.length ≤ 17592186044416) : Ev (fun k => laws_toNoteS.f k l) (l.map note) := by
  unfold laws_toNoteS.f
  refine ev_pos (by omega) (ev_pos (by omega) ?_)
  have hz : ((l.length : Int)).toNat = l.length := by omega
  rw [hz]
  refine map_loop (fun out i k => laws_toNoteS.l0 k l out i) z90 z61 note l ?_ ?_
  · intro out ho
    exact Ev.step (fun _ => rfl) (ev_neg (by omega) (ev_some _))
  · intro i out hi ho h
    refine Ev.step (fun _ => rfl) (ev_pos (by omega) (ev_pos (by omega) (ev_bindc rfl (ev_pos (by omega) ?_))))
    rw [wrap_next i l.length hi (by omega)]
    exact h
theorem toNoteSA2_ev (l m : List S90) (hl : l.length ≤ 17592186044416) (hm : m.length ≤ 17592186044416) : Ev (fun k => laws_toNoteSA2.f k l m) (l.map note, m.map note) := by
  unfold laws_toNoteSA2.f
  exact Ev.step (fun _ => rfl) (ev_pos (by omega) (ev_pos rfl (Ev.bind (toNoteS_ev l hl) (Ev.step (fun _ => rfl) (ev_pos (by omega) (ev_neg (by omega) (ev_pos rfl (Ev.bind (toNoteS_ev m hm) (Ev.step (fun _ => rfl) (ev_neg (by omega) (ev_some _)))))))))))
theorem toIntSA2_ev (l m : List Int) (hl : l.length ≤ 35184372088832) (hm : m.length ≤ 35184372088832) : Ev (fun k => laws_toIntSA2.f k l m) (l, m) := by
  unfold laws_toIntSA2.f
  exact Ev.step (fun _ => rfl) (ev_pos (by omega) (ev_pos rfl (Ev.bind (toIntS_ev l hl) (Ev.step (fun _ => rfl) (ev_pos (by omega) (ev_neg (by omega) (ev_pos rfl (Ev.bind (toIntS_ev m hm) (Ev.step (fun _ => rfl) (ev_neg (by omega) (ev_some _)))))))))))
theorem toIntA2_ev (a b : Int) : Ev (fun k => laws_toIntA2.f k a b) (a, b) := by
  unfold laws_toIntA2.f
  exact Ev.step (fun _ => rfl) (ev_pos (by omega) (ev_pos rfl (Ev.step (fun _ => rfl) (ev_pos (by omega) (ev_neg (by omega) (ev_pos rfl (Ev.step (fun _ => rfl) (ev_neg (by omega) (ev_some _)))))))))
theorem toTrunk_ev (l m : List Int) (a b : Int) (u v : List S90) (hl : l.length ≤ 17592186044416) (hm : m.length ≤ 17592186044416) (hu : u.length ≤ 17592186044416) (hv : v.length ≤ 17592186044416) : Ev (fun k => laws_toTrunk.f k l m a b u v) (l, m, a, b, u.map note, v.map note) := by
  unfold laws_toTrunk.f
  exact Ev.bind (toIntSA2_ev l m (by omega) (by omega)) (Ev.bind (toIntA2_ev a b) (Ev.bind (toNoteSA2_ev u v hu hv) (ev_some _)))
theorem eqNoteS_ev (l : List S61) (hl : l.length ≤ 9223372036854775807) : Ev (fun k => laws_eqNoteS.f k l l) true := by
  unfold laws_eqNoteS.f
  refine ev_pos rfl ?_
  refine ev_upto l.length (fun i k => laws_eqNoteS.l0 k l l (i : Int)) true ?_ ?_ 0 (by omega)
  · exact Ev.step (fun _ => rfl) (ev_neg (by omega) (ev_some _))
  · intro i hi h
    refine Ev.step (fun _ => rfl) (ev_pos (by omega) (ev_pos (by omega) (ev_pos (by omega) (ev_bindc (a := true) (by simp [laws_eqNote.f]) (ev_pos rfl ?_)))))
    rw [wrap_next i l.length hi hl]; exact h
theorem eqNoteSA2_ev (l m : List S61) (hl : l.length ≤ 9223372036854775807) (hm : m.length ≤ 9223372036854775807) : Ev (fun k => laws_eqNoteSA2.f k l m l m) true := by
  unfold laws_eqNoteSA2.f
  exact Ev.step (fun _ => rfl) (ev_pos (by omega) (ev_pos rfl (Ev.bind (eqNoteS_ev l hl) (ev_pos rfl (Ev.step (fun _ => rfl) (ev_pos (by omega) (ev_neg (by omega) (ev_pos rfl (Ev.bind (eqNoteS_ev m hm) (ev_pos rfl (Ev.step (fun _ => rfl) (ev_neg (by omega) (ev_some _)))))))))))))
theorem eqIntSA2_ev (l m : List Int) (hl : l.length ≤ 9223372036854775807) (hm : m.length ≤ 9223372036854775807) : Ev (fun k => laws_eqIntSA2.f k l m l m) true := by
  unfold laws_eqIntSA2.f
  exact Ev.step (fun _ => rfl) (ev_pos (by omega) (ev_pos rfl (Ev.bind (eqIntS_ev l hl) (ev_pos rfl (Ev.step (fun _ => rfl) (ev_pos (by omega) (ev_neg (by omega) (ev_pos rfl (Ev.bind (eqIntS_ev m hm) (ev_pos rfl (Ev.step (fun _ => rfl) (ev_neg (by omega) (ev_some _)))))))))))))
theorem eqIntA2_ev (a b : Int) : Ev (fun k => laws_eqIntA2.f k a b a b) true := by
  unfold laws_eqIntA2.f
  exact Ev.step (fun _ => rfl) (ev_pos (by omega) (ev_pos rfl (ev_pos rfl (Ev.step (fun _ => rfl) (ev_pos (by omega) (ev_neg (by omega) (ev_pos rfl (ev_pos rfl (Ev.step (fun _ => rfl) (ev_neg (by omega) (ev_some _)))))))))))
theorem eqTrunk_ev (l m : List Int) (a b : Int) (u v : List S61) (hl : l.length ≤ 9223372036854775807) (hm : m.length ≤ 9223372036854775807) (hu : u.length ≤ 9223372036854775807) (hv : v.length ≤ 9223372036854775807) : Ev (fun k => laws_eqTrunk.f k l m a b u v l m a b u v) true := by
  unfold laws_eqTrunk.f
  exact Ev.bind (eqIntSA2_ev l m hl hm) (ev_pos rfl (Ev.bind (eqIntA2_ev a b) (ev_pos rfl (Ev.bind (eqNoteSA2_ev u v hu hv) (ev_pos rfl (ev_some _))))))

/-- The marks of notes from k on. -/
def marksN (k : Nat) (n : Nat) : List S61 := (List.range n).map fun i => ⟨((k + 2 * i : Nat) : Int), ((k + 2 * i + 1 : Nat) : Int)⟩
theorem marksN_len (k n : Nat) : (marksN k n).length = n := by simp [marksN]
theorem marksN_at (k n i : Nat) (h : i < n) : (marksN k n).getD ((i : Int)).toNat z61 = ⟨((k + 2 * i : Nat) : Int), ((k + 2 * i + 1 : Nat) : Int)⟩ := by
  rw [getD_at _ _ i (by rw [marksN_len]; exact h)]
  simp [marksN]
theorem set2 (l : List S61) (i : Nat) (hi : i < l.length) (a b : Int) : (l.set i (⟨a, (rd_T61 l (i : Int)).f1⟩ : S61)).set i (⟨(rd_T61 (l.set i (⟨a, (rd_T61 l (i : Int)).f1⟩ : S61)) (i : Int)).f0, b⟩ : S61) = l.set i ⟨a, b⟩ := by
  have e : rd_T61 (l.set i (⟨a, (rd_T61 l (i : Int)).f1⟩ : S61)) (i : Int) = ⟨a, (rd_T61 l (i : Int)).f1⟩ := by
    unfold rd_T61
    rw [getD_at _ _ i (by rw [List.length_set]; exact hi)]
    simp
  rw [e, List.set_set]
theorem markNoteS_ev (l : List S61) (k0 : Nat) (hl : k0 + 2 * l.length ≤ 9223372036854775807) : Ev (fun k => laws_markNoteS.f k l (k0 : Int)) (((k0 + 2 * l.length : Nat) : Int), marksN k0 l.length) := by
  unfold laws_markNoteS.f
  have h := ev_upto l.length (fun i k => laws_markNoteS.l0 k ((marksN k0 l.length).take i ++ l.drop i) ((k0 + 2 * i : Nat) : Int) (i : Int)) (((k0 + 2 * l.length : Nat) : Int), marksN k0 l.length) ?_ ?_ 0 (by omega)
  · simpa using h
  · refine Ev.step (fun _ => rfl) (ev_neg ?_ (ev_const ?_))
    · rw [fill_length _ _ _ (by rw [marksN_len]; omega) (marksN_len _ _), marksN_len]; omega
    · rw [List.drop_eq_nil_of_le (Nat.le_refl _), List.append_nil, List.take_of_length_le (by rw [marksN_len]; omega)]
  · intro i hi h
    have hlen : ((marksN k0 l.length).take i ++ l.drop i).length = l.length := by rw [fill_length _ _ _ (by rw [marksN_len]; omega) (marksN_len _ _), marksN_len]
    refine Ev.step (fun _ => rfl) (ev_pos (by omega) (ev_pos (by omega) (ev_bindc rfl ?_)))
    have e := fill_set (marksN k0 l.length) l z61 i (by rw [marksN_len]; exact hi) hi
    rw [marksN_at _ _ _ hi] at e
    rw [wrap_next i l.length hi (by omega), wrap_next (k0 + 2 * i) (k0 + 2 * l.length) (by omega) (by omega), wrap_next (k0 + 2 * i + 1) (k0 + 2 * l.length) (by omega) (by omega), Int.toNat_natCast, set2 _ _ (by omega), e]
    exact h
theorem heldNoteS_ev (n : Nat) (k0 : Nat) (hl : k0 + 2 * n ≤ 9223372036854775807) : Ev (fun k => laws_heldNoteS.f k (marksN k0 n) (k0 : Int)) ((k0 + 2 * n : Nat) : Int) := by
  unfold laws_heldNoteS.f
  refine ev_upto n (fun i k => laws_heldNoteS.l0 k (marksN k0 n) ((k0 + 2 * i : Nat) : Int) (i : Int)) _ ?_ ?_ 0 (by omega)
  · exact Ev.step (fun _ => rfl) (ev_neg (by rw [marksN_len]; omega) (ev_some _))
  · intro i hi h
    have e : rd_T61 (marksN k0 n) (i : Int) = _ := marksN_at k0 n i hi
    refine Ev.step (fun _ => rfl) (ev_pos (by rw [marksN_len]; omega) (ev_pos (by omega) (ev_pos (by rw [e]) (ev_pos ?_ ?_))))
    · rw [e, wrap_next (k0 + 2 * i) (k0 + 2 * n) (by omega) (by omega)]
    · rw [wrap_next i n hi (by omega), wrap_next (k0 + 2 * i) (k0 + 2 * n) (by omega) (by omega), wrap_next (k0 + 2 * i + 1) (k0 + 2 * n) (by omega) (by omega)]
      exact h
theorem markIntSA2_ev (l m : List Int) (k0 : Nat) (hl : k0 + l.length + m.length ≤ 9223372036854775807) : Ev (fun k => laws_markIntSA2.f k l m (k0 : Int)) (((k0 + l.length + m.length : Nat) : Int), marksI k0 l.length, marksI (k0 + l.length) m.length) := by
  unfold laws_markIntSA2.f
  exact Ev.step (fun _ => rfl) (ev_pos (by omega) (ev_pos rfl (Ev.bind (markIntS_ev l k0 (by omega)) (Ev.step (fun _ => rfl) (ev_pos (by omega) (ev_neg (by omega) (ev_pos rfl (Ev.bind (markIntS_ev m (k0 + l.length) (by omega)) (Ev.step (fun _ => rfl) (ev_neg (by omega) (ev_some _)))))))))))
theorem heldIntSA2_ev (n m : Nat) (k0 : Nat) (hl : k0 + n + m ≤ 9223372036854775807) : Ev (fun k => laws_heldIntSA2.f k (marksI k0 n) (marksI (k0 + n) m) (k0 : Int)) ((k0 + n + m : Nat) : Int) := by
  unfold laws_heldIntSA2.f
  exact Ev.step (fun _ => rfl) (ev_pos (by omega) (ev_pos rfl (Ev.bind (heldIntS_ev n k0 (by omega)) (ev_neg (by omega) (Ev.step (fun _ => rfl) (ev_pos (by omega) (ev_neg (by omega) (ev_pos rfl (Ev.bind (heldIntS_ev m (k0 + n) (by omega)) (ev_neg (by omega) (Ev.step (fun _ => rfl) (ev_neg (by omega) (ev_some _)))))))))))))
theorem markNoteSA2_ev (l m : List S61) (k0 : Nat) (hl : k0 + 2 * l.length + 2 * m.length ≤ 9223372036854775807) : Ev (fun k => laws_markNoteSA2.f k l m (k0 : Int)) (((k0 + 2 * l.length + 2 * m.length : Nat) : Int), marksN k0 l.length, marksN (k0 + 2 * l.length) m.length) := by
  unfold laws_markNoteSA2.f
  exact Ev.step (fun _ => rfl) (ev_pos (by omega) (ev_pos rfl (Ev.bind (markNoteS_ev l k0 (by omega)) (Ev.step (fun _ => rfl) (ev_pos (by omega) (ev_neg (by omega) (ev_pos rfl (Ev.bind (markNoteS_ev m (k0 + 2 * l.length) (by omega)) (Ev.step (fun _ => rfl) (ev_neg (by omega) (ev_some _)))))))))))
theorem heldNoteSA2_ev (n m : Nat) (k0 : Nat) (hl : k0 + 2 * n + 2 * m ≤ 9223372036854775807) : Ev (fun k => laws_heldNoteSA2.f k (marksN k0 n) (marksN (k0 + 2 * n) m) (k0 : Int)) ((k0 + 2 * n + 2 * m : Nat) : Int) := by
  unfold laws_heldNoteSA2.f
  exact Ev.step (fun _ => rfl) (ev_pos (by omega) (ev_pos rfl (Ev.bind (heldNoteS_ev n k0 (by omega)) (ev_neg (by omega) (Ev.step (fun _ => rfl) (ev_pos (by omega) (ev_neg (by omega) (ev_pos rfl (Ev.bind (heldNoteS_ev m (k0 + 2 * n) (by omega)) (ev_neg (by omega) (Ev.step (fun _ => rfl) (ev_neg (by omega) (ev_some _)))))))))))))
theorem markTrunk_ev (l m : List Int) (a b : Int) (u v : List S61) (hl : l.length ≤ 17592186044416) (hm : m.length ≤ 17592186044416) (hu : u.length ≤ 17592186044416) (hv : v.length ≤ 17592186044416) :
    Ev (fun k => laws_markTrunk.f k l m a b u v 1) (((1 + l.length + m.length + 2 * u.length + 2 * v.length : Nat) : Int), marksI 1 l.length, marksI (1 + l.length) m.length, marksN (1 + l.length + m.length) u.length, marksN (1 + l.length + m.length + 2 * u.length) v.length) := by
  unfold laws_markTrunk.f
  exact Ev.bind (markIntSA2_ev l m 1 (by omega)) (Ev.bind (markNoteSA2_ev u v _ (by omega)) (ev_some _))
theorem heldTrunk_ev (n m : Nat) (a b : Int) (u v : Nat) (hl : n ≤ 17592186044416) (hm : m ≤ 17592186044416) (hu : u ≤ 17592186044416) (hv : v ≤ 17592186044416) :
    Ev (fun k => laws_heldTrunk.f k (marksI 1 n) (marksI (1 + n) m) a b (marksN (1 + n + m) u) (marksN (1 + n + m + 2 * u) v) 1) ((1 + n + m + 2 * u + 2 * v : Nat) : Int) := by
  unfold laws_heldTrunk.f
  exact Ev.bind (heldIntSA2_ev n m 1 (by omega)) (ev_neg (by omega) (Ev.bind (heldNoteSA2_ev u v _ (by omega)) (ev_neg (by omega) (ev_some _))))

end Go.Proofs.Ytjmgbdepmbbepaa.Pure

/- The program's NewTrunk returns what the reference's returns, for all arguments: no condition. -/
namespace Go.Proofs.Ytjmgbdepmbbepaa.Pure
open Go.RowKit Go.Proofs.Ytjmgbdepmbbepaa.Pa Go.Proofs.Ytjmgbdepmbbepaa.Kit Go.Proofs.YtjmgbdepmbbepaaW.PrintWords Go.Proofs.YtjmgbdepmbbepaaW.PrintLast

def newTrunk (x : Int) : List Int × List Int × Int × Int × List S61 × List S61 := if 1 ≤ x ∧ x ≤ 24 then (List.replicate x.toNat 0, List.replicate x.toNat 0, 0, 0, [], []) else ([], [], 0, 0, [], [])
theorem specNewTrunk_eq (x : Int) : spec_NewTrunk.f x = some (newTrunk x) := by
  unfold spec_NewTrunk.f spec_l1In.f newTrunk
  by_cases h1 : 1 ≤ x <;> by_cases h2 : x ≤ 24
  · have h3 : 0 ≤ x := by omega
    have h4 : x.toNat ≤ 35184372088832 := by omega
    simp [h1, h2, h3, h4]
  all_goals simp [h1, h2]
theorem implNewTrunk_ev (x : Int) : Ev (fun k => impl_NewTrunk.f k x) (newTrunk x) := by
  unfold impl_NewTrunk.f impl_in.f newTrunk
  by_cases h1 : 1 ≤ x
  · by_cases h2 : x ≤ 24
    · have h4 : x.toNat ≤ 35184372088832 := by omega
      simp only [ge_iff_le, h1, if_true, h2, decide_true, Option.bind_some, and_self]
      exact Ev.step (fun _ => rfl) (ev_pos (by omega) (ev_pos (by omega) (ev_pos h4 (ev_bindc rfl (ev_pos rfl (Ev.step (fun _ => rfl) (ev_pos (by omega) (ev_pos (by omega) (ev_pos h4 (ev_bindc rfl (ev_neg (by omega) (ev_pos rfl (Ev.step (fun _ => rfl) (ev_neg (by omega) (ev_some _)))))))))))))))
    · simpa [h1, h2] using ev_some _
  · simpa [h1] using ev_some _
theorem newTrunk_len (x : Int) : (newTrunk x).1.length ≤ 24 ∧ (newTrunk x).2.1.length ≤ 24 ∧ (newTrunk x).2.2.2.2.1.length ≤ 24 ∧ (newTrunk x).2.2.2.2.2.length ≤ 24 := by
  unfold newTrunk
  split <;> simp <;> omega
theorem FnExactNewTrunk : laws_FnExactNewTrunk.Pure := by
  intro x _
  obtain ⟨h1, h2, h3, h4⟩ := newTrunk_len x
  refine Ev.rounds (g := fun k => laws_FnExactNewTrunk.f k x) ?_
  unfold laws_FnExactNewTrunk.f
  have he := eqTrunk_ev (newTrunk x).1 (newTrunk x).2.1 (newTrunk x).2.2.1 (newTrunk x).2.2.2.1 (newTrunk x).2.2.2.2.1 (newTrunk x).2.2.2.2.2 (by omega) (by omega) (by omega) (by omega)
  have hm := markTrunk_ev (newTrunk x).1 (newTrunk x).2.1 (newTrunk x).2.2.1 (newTrunk x).2.2.2.1 (newTrunk x).2.2.2.2.1 (newTrunk x).2.2.2.2.2 (by omega) (by omega) (by omega) (by omega)
  have hh := heldTrunk_ev (newTrunk x).1.length (newTrunk x).2.1.length (newTrunk x).2.2.1 (newTrunk x).2.2.2.1 (newTrunk x).2.2.2.2.1.length (newTrunk x).2.2.2.2.2.length (by omega) (by omega) (by omega) (by omega)
  exact ev_bindc (specNewTrunk_eq x) (Ev.bind (implNewTrunk_ev x) (Ev.bind he (ev_pos rfl (Ev.step (fun _ => rfl) (Ev.bind hm (Ev.bind hh (ev_neg (by omega) (Ev.step (fun _ => rfl) (ev_pos rfl (Ev.step (fun _ => rfl) (Ev.bind (implNewTrunk_ev x) (Ev.bind he (ev_pos rfl (Ev.step (fun _ => rfl) (Ev.bind hh (ev_neg (by omega) (ev_pos rfl (ev_some _))))))))))))))))))

end Go.Proofs.Ytjmgbdepmbbepaa.Pure

/- A part of a proof that laws of the given program hold for every input: no condition. -/
namespace Go.Proofs.Ytjmgbdepmbbepaa.fnExactNewTrunk
open Go.ChangeShapes Go.WideShapes Go.ChangeAt Go.RowKit
open Go.ChangeMaps (open_string shut_string)
set_option linter.unusedVariables false
theorem own : ownKnob Try.prog.godebug = none := by kernel_rfl
set_option maxRecDepth 100000 in
theorem lifted (os : Os) (started : os.Started) (H : Type) (enc : TypeId × Value → H) :
    ReturnsInHanded {} Try.checked os 4 .any (Rows.fnExactNewTrunkSpec.pre6 enc Try.prog Try.f4 Rows.fnExactNewTrunkRow.domain false) (Rows.fnExactNewTrunkSpec.post enc Try.prog Try.f4 false true false false) := by
  refine returnsInHanded_of_change_sized (C := Try.checked) own started (by kernel_rfl) Try.func4
    (ChangeSpec.witness6 (enc := enc) (C := Try.checked) false ⟨#[], #[.int .i64 0], []⟩ 8 (by kernel_rfl) (by kernel_rfl) (by kernel_rfl) (by kernel_rfl)) ?_
  intro W base args ds gs before hval0 hW hcnd hsz0 _
  have hsz : (DataW.weightsEach Try.prog (Try.f4.params.toList ++ Rows.fnExactNewTrunkSpec.plain.varTypes Try.prog) (ds ++ gs)).all (· ≤ reachBytes) = true := hsz0
  have hval : ∀ (j : Nat) t v, Try.f4.params[j]? = some t → args[j]? = some v → Value.okWide Try.prog W .any base t v := hval0
  have hW' := hW
  obtain ⟨p, q, hA0, hV, rfl, hfz, hnd⟩ := hW
  have hA : DataW.TrodAll enc Try.prog W 0 (fun _ => true) true Try.f4.params.toList args.toList ds p := hA0
  rw [Try.params4] at hA hval hsz
  obtain ⟨v0, vs0, d0, ds0, p0, q0, hargs, rfl, rfl, h0, r0⟩ := trodAll_cons hA
  obtain ⟨rfl, rfl, rfl⟩ := trodAll_nil r0
  obtain rfl : args = #[v0] := by cases args; simp_all
  obtain ⟨rfl, rfl⟩ := trodVars_none hV
  obtain ⟨a0, rfl, rfl, rfl, w0⟩ := open_int Try.underlying3 (hval 0 3 v0 rfl rfl) h0
  clear hA0 hval0 hsz0 hsz
  refine (Pa.laws_FnExactNewTrunk.walk Pure.FnExactNewTrunk a0 W w0).mono fun e W' ⟨he, bel⟩ => ?_
  subst he
  exact ⟨_, rfl, _, _, _, [], _, [], hW', trodAll_mk1 (shut_bool Try.underlying4 _), (trodAll_cons_mk (shut_int Try.underlying3 w0) trodAll_mk0), rfl, bel.frame _, fun h => by cases h⟩
theorem over : Rows.fnExactNewTrunkRow.holds Try.pinned (OpenSpec.ofChange Rows.fnExactNewTrunkSpec) :=
  OpenClaim.holds_of_wide 4 Try.f4 rfl rfl rfl rfl rfl rfl rfl ⟨rfl, rfl, rfl, rfl, rfl⟩ rfl rfl rfl rfl rfl (by kernel_rfl) Try.func4 (by kernel_rfl)
    (of_decide_eq_true (by kernel_rfl)) (by unfold Func.isWrapper; first | (rw [if_pos (by decide +kernel)]; kernel_rfl) | (rw [if_neg (by decide +kernel)]; exact ⟨rfl, rfl⟩))
    (fun os started H enc _ => lifted os started H enc)
theorem proved : Rows.FnExactNewTrunkSaid := over
#print axioms proved
end Go.Proofs.Ytjmgbdepmbbepaa.fnExactNewTrunk
namespace Go.Proofs.Ytjmgbdepmbbepaa
/-- The row, under a short name, for the claim. -/
theorem fnExactNewTrunk_holds : Rows.FnExactNewTrunkSaid := fnExactNewTrunk.proved
end Go.Proofs.Ytjmgbdepmbbepaa
