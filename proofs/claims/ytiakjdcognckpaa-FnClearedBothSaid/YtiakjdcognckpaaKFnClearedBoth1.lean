/- A part of a proof that a law of the given program holds for every input: no condition. -/
import Derived.Test.YtiakjdcognckpaaProg
import Derived.KernelRfl
import Derived.Test.YtiakjdcognckpaaKFnClearedBoth0

set_option linter.unusedSimpArgs false
set_option linter.unusedVariables false
/-! Code: what is to be shown of it is enough; loops. -/
namespace Go.Proofs.YtiakjdcognckpaaE
open Go Go.RowKit
set_option linter.unusedSimpArgs false
set_option linter.unusedVariables false

section
variable {E : Env}

theorem vops_ok (hE : E.good) (all : List Oper) {Q : Exit → Act → World → Prop} : ∀ (l : List Oper) (xs : List LO) (s : S) (K : S → Prop), lowOps E.P E.τ E.n all l = some xs → vops E.Γ xs s K →
    (∀ s a w, EvSt E s a w → K s → Q .normal a w) → ∀ a w, EvSt E s a w → wpList E.P all.toArray Q l a w
  | [], xs, s, K, hl, h, hK, a, w, hs => by
    simp [lowOps] at hl
    subst hl
    exact hK s a w hs h
  | o :: r, xs, s, K, hl, h, hK, a, w, hs => by
    simp only [lowOps] at hl
    split at hl
    · rename_i x xs' hx hxs
      cases hl
      simp only [vops] at h
      obtain ⟨hxd, hxio, hdn, hcs⟩ := gd_cases hs hx h
      unfold wpList
      rcases hcs with ⟨hw, s', hs', h'⟩ | ⟨hw, s', hs', h'⟩
      · rw [if_pos hw]
        obtain ⟨hn, ρ, hpin, hok⟩ := hs'
        refine .inl (step_ok hE hn hok hxio h' fun av v s2 w' ρ' hsub hK' hd' hfr hhp hn' _ => ?_)
        rw [hxd] at hK'
        exact vops_ok hE all r xs' _ K hxs hK' hK _ _ (put_st (pin_sub hE hpin hsub) hn' hfr hhp hdn hd')
      · rw [if_neg (by rw [hw]; simp)]
        obtain ⟨hn, ρ, hpin, hok⟩ := hs'
        rw [hxd] at h'
        exact vops_ok hE all r xs' _ K hxs h' hK _ _ (put_st hpin hn hok.fr hok.hp hdn (.v undef))
    · cases hl

theorem wp_get {P : Program} {o : Oper} {a : Act} {w : World} {next : Act → World → Prop} (h : o.wp P a w next (fun _ _ _ => False)) : ∃ a' w', next a' w' := by
  unfold Oper.wp at h
  generalize (execOp a.eval o).run P w = r at h
  cases r with
  | ok n w' =>
    cases n <;> simp only [Oper.upon] at h <;> try (exact h.elim)
    · exact ⟨_, _, h⟩
    · exact ⟨_, _, h⟩
    · obtain ⟨e, w2, fr, hR, _⟩ := h []
      cases e with
      | returned v => exact ⟨_, _, hR⟩
      | panicked c => exact hR.elim
      | outgrown => obtain ⟨_, _, hq⟩ := hR; exact hq.elim
    · exact ⟨_, _, h⟩
    · obtain ⟨v, w2, hR, _⟩ := h default []
      exact ⟨_, _, hR⟩
  | halt x w' => cases x <;> simp only [Oper.upon] at h

/-- What is so behind all of the operations in their own order is so of some state. -/
theorem vops_get (hE : E.good) (all : List Oper) : ∀ (l : List Oper) (xs : List LO) (s : S) (K : S → Prop), lowOps E.P E.τ E.n all l = some xs → vops E.Γ xs s K → ∀ a w, EvSt E s a w → ∃ sl, K sl
  | [], xs, s, K, hl, h, a, w, hs => by
    simp [lowOps] at hl
    subst hl
    exact ⟨s, h⟩
  | o :: r, xs, s, K, hl, h, a, w, hs => by
    simp only [lowOps] at hl
    split at hl
    · rename_i x xs' hx hxs
      cases hl
      simp only [vops] at h
      obtain ⟨hxd, hxio, hdn, hcs⟩ := gd_cases hs hx h
      rcases hcs with ⟨hw, s', hs', h'⟩ | ⟨hw, s', hs', h'⟩
      · obtain ⟨hn, ρ, hpin, hok⟩ := hs'
        obtain ⟨a', w', s2, hs2, hK2⟩ := wp_get (step_ok hE hn hok hxio h' (next := fun a' w' => ∃ s2, EvSt E s2 a' w' ∧ vops E.Γ xs' s2 K) (Q := fun _ _ _ => False) fun av v s2 w' ρ' hsub hK' hd' hfr hhp hn' _ =>
          ⟨_, put_st (pin_sub hE hpin hsub) hn' hfr hhp hdn hd', by rw [hxd] at hK'; exact hK'⟩)
        exact vops_get hE all r xs' s2 K hxs hK2 a' w' hs2
      · obtain ⟨hn, ρ, hpin, hok⟩ := hs'
        rw [hxd] at h'
        exact vops_get hE all r xs' _ K hxs h' _ _ (put_st hpin hn hok.fr hok.hp hdn (.v undef))
    · cases hl

theorem low_inv {P : Program} {τ : List (Nat × Ty)} {n : Nat} {code : Code} {ic : IC} (h : lowC P τ n code = some ic) : match ic with
    | .ops xs => ∃ id l, code = .region id ⟨l⟩ false ∧ lowOps P τ n l l = some xs
    | .draw xs t => ∃ id l, code = .region id ⟨l⟩ true ∧ lowD P τ n l = some (.draw xs t)
    | .skip => code = .skip
    | .seq x y => ∃ a b, code = .seq a b ∧ lowC P τ n a = some x ∧ lowC P τ n b = some y
    | .cond c x y => ∃ a b, code = .cond c a b ∧ lowC P τ n a = some x ∧ lowC P τ n b = some y
    | .block id x => ∃ a, code = .block id a ∧ lowC P τ n a = some x
    | .loop x => ∃ a, code = .loop a ∧ lowC P τ n a = some x
    | .exit id => code = .exit id
    | .ret => code = .ret
    | .hold _ => False := by
  unfold lowC at h
  split at h
  · cases h; rfl
  · split at h
    · rename_i hx; cases h; exact ⟨_, _, rfl, hx⟩
    · cases h
  · have h' := h
    unfold lowD at h
    split at h
    · cases h
    · dsimp only at h
      split at h
      · cases h; exact ⟨_, _, rfl, h'⟩
      · cases h
  · split at h
    · rename_i h1 h2; cases h; exact ⟨_, _, rfl, h1, h2⟩
    · cases h
  · split at h
    · rename_i h1 h2; cases h; exact ⟨_, _, rfl, h1, h2⟩
    · cases h
  · split at h
    · rename_i h1; cases h; exact ⟨_, rfl, h1⟩
    · cases h
  · split at h
    · rename_i h1; cases h; exact ⟨_, rfl, h1⟩
    · cases h
  · cases h; rfl
  · cases h; rfl
  · cases h

/-- Every frame and world that is of the one state is of the other. -/
def Weak (E : Env) (s s' : S) : Prop := ∀ a w, EvSt E s a w → EvSt E s' a w

theorem SubS.weak {s s' : S} (h : SubS E.pins s s') : Weak E s s' := fun a w hs => by
  obtain ⟨hn, ρ, hpin, hok⟩ := hs
  obtain ⟨h1, ρ', h2, h3⟩ := h.st hok
  exact ⟨h1.trans hn, ρ', fun i hi => (h2 i hi).trans (hpin i hi), h3⟩

theorem conc_normal {Q : Ex → S → Prop} {s : S} {a : Act} {w : World} (hs : EvSt E s a w) (h : Q .normal s) : conc E Q .normal a w := ⟨s, hs, h⟩

theorem vc_ok (hE : E.good) : ∀ (ic : IC) (s : S) (Q : Ex → S → Prop), vc E ic s Q → OkI E ic s Q := by
  intro ic
  induction ic with
  | ops l =>
    intro s Q h code hl a w hs
    obtain ⟨id, l', rfl, hlo⟩ := low_inv hl
    exact wp_region_lit (vops_ok hE l' l' _ s (Q .normal) hlo h (fun s a w hs hk => ⟨s, hs, hk⟩) a w hs)
  | draw xs t =>
    intro s Q h code hl a w hs
    obtain ⟨id, l, rfl, hlo⟩ := low_inv hl
    unfold lowD at hlo
    split at hlo
    · cases hlo
    · rename_i xs' hxs
      dsimp only at hlo
      split at hlo
      · rename_i hc
        obtain ⟨hsel, hchk, hdep, hmix⟩ := hc
        cases hlo
        generalize buildD l xs (ancs [] l) (l.length + 1) (List.replicate l.length false) = td at hchk hdep h
        have base : ∀ (K : S → Prop), (∀ s a w, EvSt E s a w → K s → conc E Q .normal a w) → vdt E.Γ (fillT xs td) s K → (Code.region id l.toArray true).wp E.P (conc E Q) a w := fun K hK hv => by
          refine wp_region_any hmix (wpAny_of_M (M := mildAt xs) _ _ _ _ ?_)
          have hsz : l.toArray.size = l.length := by simp
          rw [hsz]
          have := (vdt_ok hE hxs hsel (Q := conc E Q) (fun c a w h => h) hK td true _ s a { w with drawn := w.drawn + 1 } l.length hchk hdep hv ?_).1 rfl
          · simpa using this
          · obtain ⟨hn, ρ, hpin, hok⟩ := hs
            exact ⟨hn, ρ, hpin, hok.fr, hok.hp.below (Below.drew (Below.refl _ _))⟩
        simp only [vc, drawQ] at h
        split at h
        · exact base _ (fun s a w hs hk => ⟨s, hs, hk⟩) h
        · obtain ⟨sl, h1, h2⟩ := vops_get hE l l xs s _ hxs h a w hs
          exact base _ (fun s a w hs hk => ⟨tidy sl, hk.weak a w hs, h1⟩) h2
      · cases hlo
  | skip =>
    intro s Q h code hl a w hs
    have e : code = .skip := low_inv hl
    subst e
    exact wp_skip ⟨s, hs, h⟩
  | seq x y ihx ihy =>
    intro s Q h code hl a w hs
    obtain ⟨c1, c2, rfl, h1, h2⟩ := low_inv hl
    refine wp_seq (wp_mono (ihx s _ h c1 h1 a w hs) ?_)
    intro e a' w' hq
    cases e with
    | normal => obtain ⟨s', hs', hk⟩ := hq; exact ihy s' Q hk c2 h2 a' w' hs'
    | exit i => exact hq
    | ret => exact hq
    | _ => exact hq.elim
  | cond c x y ihx ihy =>
    intro s Q h code hl a w hs
    obtain ⟨c1, c2, rfl, h1, h2⟩ := low_inv hl
    simp only [vc] at h
    split at h
    · rename_i t ht
      obtain ⟨hn, ρ, hpin, hok⟩ := hs
      refine wp_cond_split (ev_v hok ht) (fun e => ?_) (fun e => ?_)
      · exact ihx s Q (h.1 e) c1 h1 a w ⟨hn, ρ, hpin, hok⟩
      · exact ihy s Q (h.2 e) c2 h2 a w ⟨hn, ρ, hpin, hok⟩
    · exact h.elim
  | block id x ihx =>
    intro s Q h code hl a w hs
    obtain ⟨c1, rfl, h1⟩ := low_inv hl
    refine wp_block (wp_mono (ihx s _ h c1 h1 a w hs) ?_)
    intro e a' w' hq
    cases e with
    | normal => exact hq
    | exit i =>
      obtain ⟨s', hs', hk⟩ := hq
      simp only [Exit.inBlock]
      split
      · rename_i e; subst e; simp at hk; exact ⟨s', hs', hk⟩
      · rename_i e; simp [e] at hk; exact ⟨s', hs', hk⟩
    | ret => exact hq
    | _ => exact hq.elim
  | loop x _ => intro s Q h; exact h
  | hold x _ => intro s Q h code hl; exact h code hl
  | exit id =>
    intro s Q h code hl a w hs
    have e : code = .exit id := low_inv hl
    subst e
    exact wp_exit ⟨s, hs, h⟩
  | ret =>
    intro s Q h code hl a w hs
    have e : code = .ret := low_inv hl
    subst e
    exact wp_ret ⟨s, hs, h⟩

/-- A loop whose rounds go down. -/
theorem wp_loop_rel {P : Program} {c : Code} {Q : Exit → Act → World → Prop} (I : Nat → Act → World → Prop) (round : ∀ n a w, I n a w → c.wp P (Exit.then (fun a' w' => ∃ m, m < n ∧ I m a' w') Q) a w) :
    ∀ n a w, I n a w → (Code.loop c).wp P Q a w := by
  have key : ∀ n a w, I n a w → ∀ (b : Frame) (k : List Item) (cs : List Frame), ∃ e a' w', Q e a' w' ∧ Arrives P (lone (b.at a (.code c :: .inLoop c :: k)) cs w) b k cs e a' w' := by
    intro n
    induction n using Nat.strongRecOn with
    | _ n ih =>
      intro a w hI b k cs
      obtain ⟨e, a₁, w₁, hq, harr⟩ := round n a w hI b (.inLoop c :: k) cs
      cases e with
      | normal =>
        obtain ⟨m, hlt, hI₁⟩ := hq
        obtain ⟨e₂, a₂, w₂, hq₂, harr₂⟩ := ih m hlt a₁ w₁ hI₁ b k cs
        exact ⟨e₂, a₂, w₂, hq₂, .of_steps (Steps.trans harr (.one step_inLoop)) harr₂⟩
      | exit id => exact ⟨_, a₁, w₁, hq, .pass (x := .inLoop c) rfl (fun _ _ => .inl (by simp)) harr⟩
      | goto l => exact ⟨_, a₁, w₁, hq, .pass (x := .inLoop c) rfl (fun _ _ => .inl (by simp)) harr⟩
      | ret => exact ⟨_, a₁, w₁, hq, .pass (x := .inLoop c) rfl (fun _ _ => .inl (by simp)) harr⟩
      | panic ch => exact ⟨_, a₁, w₁, hq, .pass (x := .inLoop c) rfl (fun _ _ => .inl (by simp)) harr⟩
      | outgrown => exact ⟨_, a₁, w₁, hq, .pass (x := .inLoop c) rfl (fun _ _ => .inl (by simp)) harr⟩
  intro n a w hI b k cs
  obtain ⟨e, a', w', hq, harr⟩ := key n a w hI b k cs
  exact ⟨e, a', w', hq, .of_steps (.one step_loop) harr⟩

theorem OkI.weak {ic : IC} {s s' : S} {Q : Ex → S → Prop} (h : Weak E s s') (k : OkI E ic s' Q) : OkI E ic s Q := fun code hl a w hs => k code hl a w (h a w hs)
theorem OkI.hold {ic : IC} {s : S} {Q : Ex → S → Prop} (k : OkI E ic s Q) : OkI E (.hold ic) s Q := fun code hl a w hs => k code hl a w hs

theorem loop_ok (hE : E.good) {ic : IC} {s : S} {Q : Ex → S → Prop} {ι : Type} (Inv : ι → S) (I : ι → Prop) (μ : ι → Nat) (h0 : ∃ i, I i ∧ Weak E s (Inv i))
    (h : ∀ i, I i → vc E ic (Inv i) fun e s' => match e with
      | .normal => ∃ j, (I j ∧ μ j < μ i) ∧ Weak E s' (Inv j)
      | .exit k => Q (.exit k) s'
      | .ret => Q .ret s') : OkI E (.loop ic) s Q := by
  intro code hl a w hs
  obtain ⟨c1, rfl, h1⟩ := low_inv hl
  obtain ⟨i, hi, hw⟩ := h0
  refine wp_loop_rel (fun n a w => ∃ i, I i ∧ μ i = n ∧ EvSt E (Inv i) a w) ?_ (μ i) a w ⟨i, hi, rfl, hw a w hs⟩
  rintro n a w ⟨i, hi, rfl, hst⟩
  refine wp_mono (vc_ok hE ic (Inv i) _ (h i hi) c1 h1 a w hst) ?_
  intro e a' w' hq
  cases e with
  | normal =>
    obtain ⟨s', hs', j, ⟨hj, hlt⟩, hwk⟩ := hq
    exact ⟨μ j, hlt, j, hj, rfl, hwk a' w' hs'⟩
  | exit i => exact hq
  | ret => exact hq
  | _ => exact hq.elim

/-- A loop of at most so many rounds. -/
def loopL (E : Env) (ic : IC) : List Unit → S → (Ex → S → Prop) → Prop
  | [], _, _ => False
  | _ :: r, s, Q => vc E ic s fun e s' => match e with
    | .normal => loopL E ic r s' Q
    | .exit k => Q (.exit k) s'
    | .ret => Q .ret s'

theorem loop_unroll (hE : E.good) {ic : IC} {s : S} {Q : Ex → S → Prop} (l : List Unit) (h : loopL E ic l s Q) : OkI E (.loop ic) s Q := by
  intro code hl a w hs
  obtain ⟨c1, rfl, h1⟩ := low_inv hl
  refine wp_loop_rel (fun n a w => ∃ (l : List Unit) (s : S), l.length = n ∧ EvSt E s a w ∧ loopL E ic l s Q) ?_ l.length a w ⟨l, s, rfl, hs, h⟩
  rintro n a w ⟨l, s, rfl, hst, h⟩
  cases l with
  | nil => exact h.elim
  | cons u r =>
    refine wp_mono (vc_ok hE ic s _ h c1 h1 a w hst) ?_
    intro e a' w' hq
    cases e with
    | normal =>
      obtain ⟨s', hs', hk⟩ := hq
      exact ⟨r.length, by simp, r, s', rfl, hs', hk⟩
    | exit i => exact hq
    | ret => exact hq
    | _ => exact hq.elim
end
end Go.Proofs.YtiakjdcognckpaaE

/-! Functions: a specification is proved by the body's code. -/
namespace Go.Proofs.YtiakjdcognckpaaE
open Go Go.RowKit
set_option linter.unusedSimpArgs false
set_option linter.unusedVariables false

inductive RV where
  | tmp (t : Nat)
  | cell (t n : Nat) (ag : Bool)

def lowR (P : Program) : List ResultVar → Option (List RV)
  | [] => some []
  | .tmp t :: r => match lowR P r with
    | some l => some (.tmp t :: l)
    | none => none
  | .cell a t :: r => match cellsAt P t, lowR P r with
    | some (n, ag), some l => some (.cell a n ag :: l)
    | _, _ => none

def retL : List RV → S → (List AVal → Prop) → Prop
  | [], s, K => K []
  | .tmp t :: r, s, K => retL r s fun l => K (s.ev (.tmp t) :: l)
  | .cell t n ag :: r, s, K => loadP s.L n ag (s.ev (.tmp t)) fun av => retL r s fun l => K (av :: l)
def retK (rv : List RV) (s : S) (K : AVal → Prop) : Prop := retL rv s fun l => match l with
  | [x] => K x
  | l => K (.tup l)

def uniT (θ : Th) : List AVal → List AVal → (Th → Prop) → Prop
  | [], [], K => K θ
  | a :: r, a' :: r', K => uni θ a a' fun θ => uniT θ r r' K
  | _, _, _ => False
def uniR (θ : Th) (av av' : AVal) (K : Th → Prop) : Prop :=
  match av' with
  | .tup cs' => match av with
    | .tup cs => uniT θ cs cs' K
    | _ => False
  | av' => uni θ av av' K
/-- The result and the heap tell at least this. -/
def ResU (p : Nat) (s : S) (r r0 : AVal) (L0 : Hp) (nx0 : Nat) : Prop := uniR (idT p) r r0 fun θ => uniH θ s.L (boxesOf L0) fun θ => uniH θ s.L (rowsOf L0) fun θ => nodupB (tgts θ) = true ∧ keysLt nx0 θ = true
def FinK (p : Nat) (s : S) (r : AVal) (K : AVal → Hp → Nat → Prop) : Prop := ∃ r0 L0 nx0, ResU p s r r0 L0 nx0 ∧ K r0 L0 nx0
def retQ (p : Nat) (rv : List RV) (K : AVal → Hp → Nat → Prop) : Ex → S → Prop := fun e s => match e with
  | .normal => retK rv s fun r => FinK p s r K
  | .ret => retK rv s fun r => FinK p s r K
  | .exit _ => False

def params (k : Nat) : List AVal → List (Nat × AVal)
  | [] => []
  | x :: r => (k, x) :: params (k + 1) r

section
variable {W : World} {C : CR} {ρ : Nm} {P : Program}

theorem uniT_ok : ∀ {cs cs' : List AVal} {θ : Th} {K : Th → Prop}, uniT θ cs cs' K → ∃ θ', ExtT θ θ' ∧ K θ' ∧ ∀ vs, DenL W C ρ cs vs → DenL W C (rhoT ρ θ') cs' vs
  | [], [], θ, K, h => ⟨θ, .refl _, h, fun vs hd => by have := hd.nil_inv; subst this; exact .nil⟩
  | a :: r, a' :: r', θ, K, h => by
    obtain ⟨θ1, h1, h2, h3⟩ := uni_ok (W := W) (C := C) (ρ := ρ) h
    obtain ⟨θ2, h4, h5, h6⟩ := uniT_ok h2
    refine ⟨θ2, h1.trans h4, h5, fun vs hd => ?_⟩
    obtain ⟨v, vs', rfl, hd1, hd2⟩ := hd.cons_inv
    exact DenL.cons ((h3 v hd1).mono h4.sub) (h6 vs' hd2)
  | [], _ :: _, θ, K, h => h.elim
  | _ :: _, [], θ, K, h => h.elim
theorem uniR_ok {θ : Th} {av av' : AVal} {K : Th → Prop} (h : uniR θ av av' K) : ∃ θ', ExtT θ θ' ∧ K θ' ∧ ∀ v, Den W C ρ av v → Den W C (rhoT ρ θ') av' v := by
  unfold uniR at h
  split at h
  · split at h
    · obtain ⟨θ', h1, h2, h3⟩ := uniT_ok (W := W) (C := C) (ρ := ρ) h
      refine ⟨θ', h1, h2, fun v hd => ?_⟩
      cases hd with
      | tup vs h4 h5 => have := h3 vs ⟨h4, h5⟩; exact .tup vs this.1 this.2
    · exact h.elim
  · exact uni_ok h

theorem ResU.ok {p : Nat} {s : S} {r r0 : AVal} {L0 : Hp} {nx0 nx : Nat} {w : World} {v : Value} (hp : HpOk W C ρ nx w s.L) (hd : Den W C ρ r v) (h : ResU p s r r0 L0 nx0) :
    ∃ ρ', (∀ i, i < p → ρ' i = ρ i) ∧ Den W C ρ' r0 v ∧ HpOk W C ρ' nx0 w L0 := by
  obtain ⟨θ1, h1, h2, h3⟩ := uniR_ok (W := W) (C := C) (ρ := ρ) h
  obtain ⟨θ2', h4', h2', h7a⟩ := uniH_ok hp h2
  obtain ⟨θ2, h4b, ⟨h5, h6⟩, h7b⟩ := uniH_ok hp h2'
  have h4 := h4'.trans h4b
  have h7 : ∀ m' o', lk L0 m' = some o' → ObjOk W C (rhoT ρ θ2) w m' o' ∧ ((∃ m x o, lk θ2 m' = some (some (m, x)) ∧ lk s.L m = some o) ∨ lk θ2 m' = some none) := fun m' o' hl => by
    rcases lk_split hl with hl | hl
    · obtain ⟨h8, h9⟩ := h7a m' o' hl
      exact ⟨h8.mono h4b.sub, h9.imp (fun ⟨m, x, o, h10, h11⟩ => ⟨m, x, o, h4b _ _ h10, h11⟩) (fun h => h4b _ _ h)⟩
    · exact h7b m' o' hl
  refine ⟨rhoT ρ θ2, fun i hi => by simp [rhoT, h4 _ _ (h1 _ _ (idT_get p i hi)), shf_zero'], (h3 v hd).mono h4.sub, ?_⟩
  have key : ∀ m o, lk L0 m = some o → ∀ b x, rhoT ρ θ2 m = some (some (b, x)) → ∃ m1 p1 o1 x1, lk θ2 m = some (some (m1, p1)) ∧ lk s.L m1 = some o1 ∧ ρ m1 = some (some (b, x1)) := fun m o hm b x hx => by
    rcases (h7 m o hm).2 with ⟨m1, p1, o1, h8, h9⟩ | h8
    · obtain ⟨x1, h⟩ := rho_blk h8 hx
      exact ⟨m1, p1, o1, x1, h8, h9, h⟩
    · simp [rhoT, h8] at hx
  refine ⟨fun m o hm => (h7 m o hm).1, fun m o m' o' b x b' x' hm hm' hne hx hx' => ?_, fun m o b x hm hx => ?_, fun m hm => ?_, hp.os, hp.tape, hp.output, hp.size, hp.old⟩
  · obtain ⟨m1, p1, o1, x1, h8, h9, h10⟩ := key m o hm b x hx
    obtain ⟨m2, p2, o2, x2, h11, h12, h13⟩ := key m' o' hm' b' x' hx'
    refine hp.apart m1 o1 m2 o2 b x1 b' x2 h9 h12 (fun e => hne ?_) h10 h13
    subst e
    exact tgts_inj h5 h8 h11
  · obtain ⟨m1, p1, o1, x1, h8, h9, h10⟩ := key m o hm b x hx
    exact hp.own m1 o1 b x1 h9 h10
  · simp [rhoT, keysLt_none h6 hm]

def resOne (tmps : Array Value) (x : ResultVar) : Sem Value := match x with
  | .tmp t => pure (tmps.getD t undef)
  | .cell a t => do loadVar t (← asAddr (tmps.getD a undef))

theorem retL_ok {s : S} {a : Act} {w : World} (hs : StOk W C ρ s a w) : ∀ (rs : List ResultVar) (rv : List RV) (K : List AVal → Prop), lowR P rs = some rv → retL rv s K →
    ∃ l vs, K l ∧ DenL W C ρ l vs ∧ (rs.mapM (resOne a.tmps)).run P w = .ok vs w
  | [], rv, K, hl, h => by
    simp [lowR] at hl; subst hl
    exact ⟨[], [], h, .nil, by simp⟩
  | .tmp t :: r, rv, K, hl, h => by
    simp only [lowR] at hl
    split at hl
    · rename_i l hl2
      cases hl
      obtain ⟨l, vs, hK, hd, hr⟩ := retL_ok hs r _ _ hl2 h
      refine ⟨_, _, hK, DenL.cons (hs.fr.ev (.tmp t)) hd, ?_⟩
      simp only [List.mapM_cons, Sem.run_bind, resOne, Sem.run_pure, Result.andThen_ok, hr]
      rfl
    · cases hl
  | .cell p t :: r, rv, K, hl, h => by
    simp only [lowR] at hl
    split at hl
    · rename_i n ag l hc hl2
      cases hl
      simp only [retL] at h
      obtain ⟨ad, cs, hv, h1, h2⟩ := loadP_ok hs (hs.fr.ev (.tmp p)) h
      obtain ⟨av, v, hk, hd1, hr1⟩ := load_cells hc h1 h2
      obtain ⟨l, vs, hK, hd, hr⟩ := retL_ok hs r _ _ hl2 hk
      refine ⟨_, _, hK, DenL.cons hd1 hd, ?_⟩
      have hv' : a.tmps.getD p undef = .pointer (some ad) := hv
      simp only [List.mapM_cons, Sem.run_bind, resOne, hv', asAddr, Sem.run_pure, Result.andThen_ok, hr1 w (Below.refl _ _), hr]
    · cases hl

theorem results_ok {s : S} {a : Act} {w : World} (hs : StOk W C ρ s a w) {fn : Func} {rv : List RV} {K : AVal → Prop} (hl : lowR P fn.results.toList = some rv) (h : retK rv s K) :
    ∃ r v, K r ∧ Den W C ρ r v ∧ (results fn a.tmps).run P w = .ok v w := by
  obtain ⟨l, vs, hK, hd, hr⟩ := retL_ok hs _ _ _ hl h
  have hrun : ∀ v, (if h : (⟨vs⟩ : Array Value).size = 1 then (⟨vs⟩ : Array Value)[0] else .tuple ⟨vs⟩) = v → (results fn a.tmps).run P w = .ok v w := by
    intro v hv
    have e : results fn a.tmps = (do let vs ← fn.results.mapM (resOne a.tmps); pure (if h : vs.size = 1 then vs[0] else .tuple vs)) := rfl
    rw [e, Array.mapM_eq_mapM_toList]
    simp only [Sem.run_bind, Sem.run_map, hr, Result.andThen_ok, Sem.run_pure]
    rw [← hv]
  match l, hK, hd with
  | [x], hK, hd =>
    obtain ⟨v, vs', rfl, h1, h2⟩ := hd.cons_inv
    have := h2.nil_inv
    subst this
    exact ⟨x, v, hK, h1, hrun v rfl⟩
  | [], hK, hd =>
    have := hd.nil_inv
    subst this
    exact ⟨.tup [], _, hK, .tup [] rfl (fun k av u h => by simp at h), hrun _ rfl⟩
  | x :: y :: r, hK, hd =>
    refine ⟨.tup (x :: y :: r), _, hK, .tup vs hd.1 hd.2, hrun (.tuple ⟨vs⟩) ?_⟩
    have := hd.1
    rw [dif_neg (by simp [this])]

theorem lk_params : ∀ (l : List AVal) (k d : Nat), lk (params k l) d = if k ≤ d then l[d - k]? else none
  | [], k, d => by simp [params, lk]
  | x :: r, k, d => by
    simp only [params, lk]
    by_cases h : k = d
    · subst h; simp
    · rw [if_neg h, lk_params r]
      by_cases hk : k ≤ d
      · rw [if_pos hk, if_pos (by omega)]
        have : d - k = (d - (k + 1)) + 1 := by omega
        rw [this]; simp
      · rw [if_neg hk, if_neg (by omega)]

def allV (P : Program) : List (Nat × Spec) → Prop
  | [] => True
  | (f, sp) :: r => (callable P f = true ∧ Valid P f sp) ∧ allV P r
theorem good_of {P : Program} : ∀ {l : List (Nat × Spec)}, allV P l → ∀ f sp, lk l f = some sp → callable P f = true ∧ Valid P f sp
  | [], _, f, sp, h => by simp [lk] at h
  | (g, s) :: r, hv, f, sp, h => by
    simp only [lk] at h
    split at h
    · rename_i e; subst e; cases h; exact hv.1
    · exact good_of hv.2 f sp h

/-- A function does what is said of it, if its code does. -/
theorem valid_of {f : Nat} {fn : Func} {code : Code} {ic : IC} {rv : List RV} {τ : List (Nat × Ty)} {Γ : Nat → Option Spec} {sp : Spec} (hf : P.funcs[f]? = some fn) (hb : fn.body = some code)
    (hl : lowC P τ fn.ntmps code = some (erase ic)) (hr : lowR P fn.results.toList = some rv) (hΓ : ∀ f sp, Γ f = some sp → callable P f = true ∧ Valid P f sp)
(h : ∀ (E : Env) (args : List AVal) (objs : List AObj) (K : AVal → Hp → Nat → Prop), sp.f args objs K → E.good → E.Γ = Γ → E.pins = objs.length →
      args.length ≤ fn.ntmps ∧ vc E ic ⟨params 0 args, num 0 objs, objs.length, fn.ntmps⟩ (retQ objs.length rv K)) : Valid P f sp := by
  intro W C ρ args vals objs K hd hp hK
  have hE : (⟨P, τ, Γ, fn.ntmps, W, C, objs.length, ρ⟩ : Env).good := ⟨fun i hi => by
    have ho : lk (num 0 objs) i = some objs[i] := by rw [lk_num]; simp
    have := hp.obj i _ ho
    generalize objs[i] = o at this
    cases o with
    | box cs => obtain ⟨b, T, vs, h1, _⟩ := this; exact ⟨_, h1⟩
    | row t xs =>
      rcases this with ⟨h1, _⟩ | ⟨b, o, c, T, vs, h1, _⟩
      · exact ⟨_, h1⟩
      · exact ⟨_, h1⟩, hΓ⟩
  obtain ⟨hlen, hvc⟩ := h _ args objs K hK hE rfl rfl
  refine calls_of_wp hf hb ?_
  refine wp_mono (vc_ok hE ic _ _ hvc code hl _ W ⟨rfl, ρ, fun _ _ => rfl, ⟨⟨fun d av hl => ?_, ?_, rfl⟩, hp⟩⟩) ?_
  · rw [lk_params] at hl
    simp only [Nat.zero_le, if_true, Nat.sub_zero] at hl
    obtain ⟨u, h1, h2⟩ := hd.at hl
    refine ⟨u, ?_, h2⟩
    have hlt := (List.getElem?_eq_some_iff.1 h1).1
    show ((⟨vals⟩ : Array Value) ++ _)[d]? = some u
    rw [Array.getElem?_append_left (by simpa using hlt)]
    simpa using h1
  · have := hd.1
    simp
    omega
  · intro e a w' hq
    have fin : ∀ s, EvSt ⟨P, τ, Γ, fn.ntmps, W, C, objs.length, ρ⟩ s a w' → (retK rv s fun r => FinK objs.length s r K) → a.defers = [] ∧ ∃ v, (results fn a.tmps).run P w' = .ok v w' ∧
        ∃ r v' L' nx' ρ', Ending.returned v = .returned v' ∧ Den W C ρ' r v' ∧ HpOk W C ρ' nx' w' L' ∧ (∀ i, i < objs.length → ρ' i = ρ i) ∧ K r L' nx' := by
      rintro s ⟨hn, ρ', hpin, hs⟩ hk
      obtain ⟨r, v, ⟨r0, L0, nx0, hu, hK'⟩, hd', hrun⟩ := results_ok hs hr hk
      obtain ⟨ρ2, h0, h1, h2⟩ := hu.ok hs.hp hd'
      exact ⟨hs.fr.defers, v, hrun, r0, v, L0, nx0, ρ2, rfl, h1, h2, fun i hi => (h0 i hi).trans (hpin i hi), hK'⟩
    cases e with
    | normal => obtain ⟨s, hs, hk⟩ := hq; exact fin s hs hk
    | ret => obtain ⟨s, hs, hk⟩ := hq; exact fin s hs hk
    | exit i => obtain ⟨s, hs, hk⟩ := hq; exact hk.elim
    | _ => exact hq.elim
end
end Go.Proofs.YtiakjdcognckpaaE

/-! The walk's rewriting rules. -/
namespace Go.Proofs.YtiakjdcognckpaaE
open Go Go.RowKit
/-! What is to be shown of code, under names that the kernel does not look into. -/
inductive VopsI (Γ : Nat → Option Spec) (l : List LO) (s : S) (K : S → Prop) : Prop
  | mk (h : vops Γ l s K)
inductive VdtI (Γ : Nat → Option Spec) (t : DT) (s : S) (K : S → Prop) : Prop
  | mk (h : vdt Γ t s K)
inductive VcI (E : Env) (c : IC) (s : S) (Q : Ex → S → Prop) : Prop
  | mk (h : vc E c s Q)
inductive LoopI (E : Env) (c : IC) (l : List Unit) (s : S) (Q : Ex → S → Prop) : Prop
  | mk (h : loopL E c l s Q)
theorem vopsI : @VopsI = @vops := by funext Γ l s K; exact propext ⟨fun h => h.1, .mk⟩
theorem vdtI : @VdtI = @vdt := by funext Γ l s K; exact propext ⟨fun h => h.1, .mk⟩
theorem vcI : @VcI = @vc := by funext Γ l s K; exact propext ⟨fun h => h.1, .mk⟩
theorem loopLI : @LoopI = @loopL := by funext E c l s K; exact propext ⟨fun h => h.1, .mk⟩
theorem vops_nil {Γ : Nat → Option Spec} {s : S} {K : S → Prop} : VopsI Γ [] s K = K s := by rw [vopsI]; rfl
theorem vops_cons {Γ : Nat → Option Spec} {o : LO} {r : List LO} {s : S} {K : S → Prop} : VopsI Γ (o :: r) s K = gdK s o.g (fun s => stepM false Γ s o.io fun av s' => VopsI Γ r (s'.put o.d av) K) (fun s => VopsI Γ r (s.put o.d (.v (.tuple #[]))) K) := by rw [vopsI]; rfl
theorem vdt_done {Γ : Nat → Option Spec} {s : S} {K : S → Prop} : VdtI Γ .done s K = K s := by rw [vdtI]; rfl
theorem vdt_stop {Γ : Nat → Option Spec} {s : S} {K : S → Prop} : VdtI Γ .stop s K = True := by rw [vdtI]; rfl
theorem vdt_held {Γ : Nat → Option Spec} {o : LO} {t : DT} {s : S} {K : S → Prop} : VdtI Γ (.held o t) s K = gdK s o.g (fun s => vst s o.io fun av => VdtI Γ t (s.put o.d av) K) (fun s => VdtI Γ t (s.put o.d (.v (.tuple #[]))) K) := by rw [vdtI]; rfl
theorem vdt_alt {Γ : Nat → Option Spec} {o : LO} {t r : DT} {s : S} {K : S → Prop} : VdtI Γ (.alt o t r) s K = (gdK s o.g (fun s => stepM true Γ s o.io fun av s' => VdtI Γ t (s'.put o.d av) K) (fun s => VdtI Γ t (s.put o.d (.v (.tuple #[]))) K) ∧ VdtI Γ r s K) := by rw [vdtI]; rfl
theorem drawQ_t {Γ : Nat → Option Spec} {p : Nat} {l : List LO} {t : DT} {s : S} {K : S → Prop} : drawQ true Γ p l t s K = VdtI Γ t s K := by rw [vdtI]; rfl
theorem drawQ_f {Γ : Nat → Option Spec} {p : Nat} {l : List LO} {t : DT} {s : S} {K : S → Prop} : drawQ false Γ p l t s K = VopsI Γ l s fun sl => K (tidy sl) ∧ VdtI Γ t s fun s' => SubS p s' (tidy sl) := by rw [vdtI, vopsI]; rfl
section
variable {E : Env} {s : S} {Q : Ex → S → Prop}
theorem vc_ops {l : List LO} : VcI E (.ops l) s Q = VopsI E.Γ l s (Q .normal) := by rw [vcI, vopsI]; rfl
theorem vc_draw {l : List LO} {t : DT} : VcI E (.draw l t) s Q = drawQ (linD t) E.Γ E.pins l t s (Q .normal) := by rw [vcI]; rfl
theorem vc_skip : VcI E .skip s Q = Q .normal s := by rw [vcI]; rfl
theorem vc_seq {a b : IC} : VcI E (.seq a b) s Q = VcI E a s fun e s' => match e with
    | .normal => VcI E b s' Q
    | .exit i => Q (.exit i) s'
    | .ret => Q .ret s' := by rw [vcI]; rfl
theorem vc_cond {x : Operand} {a b : IC} : VcI E (.cond x a b) s Q = match s.ev x with
    | .v (.bool t) => impK (t = true) (VcI E a s Q) ∧ impK (t = false) (VcI E b s Q)
    | _ => False := by rw [vcI]; rfl
theorem vc_block {id : Nat} {c : IC} : VcI E (.block id c) s Q = VcI E c s fun e s' => match e with
    | .normal => Q .normal s'
    | .exit i => if i = id then Q .normal s' else Q (.exit i) s'
    | .ret => Q .ret s' := by rw [vcI]; rfl
theorem vc_exit {id : Nat} : VcI E (.exit id) s Q = Q (.exit id) s := by rw [vcI]; rfl
theorem vc_ret : VcI E .ret s Q = Q .ret s := by rw [vcI]; rfl
theorem vc_loop {c : IC} : VcI E (.loop c) s Q = OkI E (.loop c) s Q := by rw [vcI]; rfl
theorem vc_hold {c : IC} : VcI E (.hold c) s Q = OkI E c s Q := by rw [vcI]; rfl
theorem loopL_nil {c : IC} : LoopI E c [] s Q = False := by rw [loopLI]; rfl
theorem loopL_cons {c : IC} {u : Unit} {r : List Unit} : LoopI E c (u :: r) s Q = VcI E c s fun e s' => match e with
    | .normal => LoopI E c r s' Q
    | .exit k => Q (.exit k) s'
    | .ret => Q .ret s' := by rw [loopLI, vcI]; rfl
end
theorem validI {P : Program} {f : Nat} {fn : Func} {code : Code} {ic : IC} {rv : List RV} {τ : List (Nat × Ty)} {Γ : Nat → Option Spec} {sp : Spec} (hf : P.funcs[f]? = some fn) (hb : fn.body = some code)
    (hl : lowC P τ fn.ntmps code = some (erase ic)) (hr : lowR P fn.results.toList = some rv) (hΓ : ∀ f sp, Γ f = some sp → callable P f = true ∧ Valid P f sp)
    (h : ∀ (E : Env) (args : List AVal) (objs : List AObj) (K : AVal → Hp → Nat → Prop), sp.f args objs K → E.good → E.Γ = Γ → E.pins = objs.length →
      args.length ≤ fn.ntmps ∧ VcI E ic ⟨params 0 args, num 0 objs, objs.length, fn.ntmps⟩ (retQ objs.length rv K)) : Valid P f sp := by
  rw [vcI] at h; exact valid_of hf hb hl hr hΓ h
theorem loopI {E : Env} (hE : E.good) {ic : IC} {s : S} {Q : Ex → S → Prop} {ι : Type} (Inv : ι → S) (I : ι → Prop) (μ : ι → Nat) (h0 : ∃ i, I i ∧ Weak E s (Inv i))
    (h : ∀ i, I i → VcI E ic (Inv i) fun e s' => match e with
      | .normal => ∃ j, (I j ∧ μ j < μ i) ∧ Weak E s' (Inv j)
      | .exit k => Q (.exit k) s'
      | .ret => Q .ret s') : OkI E (.loop ic) s Q := by
  rw [vcI] at h; exact loop_ok hE Inv I μ h0 h
theorem unrollI {E : Env} (hE : E.good) {ic : IC} {s : S} {Q : Ex → S → Prop} (l : List Unit) (h : LoopI E ic l s Q) : OkI E (.loop ic) s Q := by
  rw [loopLI] at h; exact loop_unroll hE l h
attribute [go_sem] drawQ_t drawQ_f vops_nil vops_cons vdt_done vdt_stop vdt_held vdt_alt vc_ops vc_draw vc_skip vc_seq vc_cond vc_block vc_exit vc_ret vc_loop vc_hold loopL_nil loopL_cons stepM gdK vst wst someK
@[congr] theorem drawQ_cg {b b' : Bool} {Γ : Nat → Option Spec} {p : Nat} {l : List LO} {t : DT} {s s' : S} {K : S → Prop} {b0 : Prop} (h0 : (True ∧ True) = b0) (h : b = b') (h2 : s = s') : drawQ b Γ p l t s K = drawQ b' Γ p l t s' K := by rw [h, h2]
/-! What stands behind an operation is looked at only when it is come to. -/
@[congr] theorem vops_cg {Γ : Nat → Option Spec} {l : List LO} {s s' : S} {K : S → Prop} {b0 : Prop} (h0 : (True ∧ True) = b0) (h : s = s') : VopsI Γ l s K = VopsI Γ l s' K := by rw [h]
@[congr] theorem vdt_cg {Γ : Nat → Option Spec} {t : DT} {s s' : S} {K : S → Prop} {b0 : Prop} (h0 : (True ∧ True) = b0) (h : s = s') : VdtI Γ t s K = VdtI Γ t s' K := by rw [h]
@[congr] theorem vc_cg {E : Env} {c : IC} {s s' : S} {Q : Ex → S → Prop} {b0 : Prop} (h0 : (True ∧ True) = b0) (h : s = s') : VcI E c s Q = VcI E c s' Q := by rw [h]
@[congr] theorem OkI_cg {E : Env} {c : IC} {s s' : S} {Q : Ex → S → Prop} {b0 : Prop} (h0 : (True ∧ True) = b0) (h : s = s') : OkI E c s Q = OkI E c s' Q := by rw [h]
@[congr] theorem loopL_cg {E : Env} {c : IC} {l : List Unit} {s s' : S} {Q : Ex → S → Prop} {b0 : Prop} (h0 : (True ∧ True) = b0) (h : s = s') : LoopI E c l s Q = LoopI E c l s' Q := by rw [h]
@[congr] theorem gdK_cg {s s' : S} {g : Option (Nat × Bool)} {K1 K2 : S → Prop} {b0 : Prop} (h0 : (True ∧ True) = b0) (h : s = s') : gdK s g K1 K2 = gdK s' g K1 K2 := by rw [h]
@[congr] theorem stepM_cg {m : Bool} {Γ : Nat → Option Spec} {s s' : S} {io : IOp} {K : AVal → S → Prop} {b0 : Prop} (h0 : (True ∧ True) = b0) (h : s = s') : stepM m Γ s io K = stepM m Γ s' io K := by rw [h]
@[congr] theorem vst_cg {s s' : S} {io : IOp} {K : AVal → Prop} {b0 : Prop} (h0 : (True ∧ True) = b0) (h : s = s') : vst s io K = vst s' io K := by rw [h]
@[congr] theorem wst_cg {s s' : S} {io : IOp} {K : AVal → S → Prop} {b0 : Prop} (h0 : (True ∧ True) = b0) (h : s = s') : wst s io K = wst s' io K := by rw [h]
@[congr] theorem someK_cg {α : Type} {x x' : Option α} {K : α → Prop} {b0 : Prop} (h0 : (True ∧ True) = b0) (h : x = x') : someK x K = someK x' K := by rw [h]
@[congr] theorem callK_cg {sp : Spec} {s s' : S} {l l' : List AVal} {K : AVal → S → Prop} {b0 : Prop} (h0 : (True ∧ True) = b0) (h : s = s') (h2 : l = l') : callK sp s l K = callK sp s' l' K := by rw [h, h2]
@[congr] theorem impK_cg {p p' q : Prop} {b0 : Prop} (h0 : (True ∧ True) = b0) (h : p = p') : impK p q = impK p' q := by rw [h]
theorem impK_t {q : Prop} : impK True q = q := by simp [impK]
theorem impK_f {q : Prop} : impK False q = True := by simp [impK]
theorem impK_any {p q : Prop} : impK p q = (p → q) := id rfl
attribute [go_sem] impK_t impK_f
attribute [go_sem 100] impK_any
@[congr] theorem specf_cg {sp : Spec} {l l' : List AVal} {o o' : List AObj} {K : AVal → Hp → Nat → Prop} {b0 : Prop} (h0 : (True ∧ True) = b0) (h : l = l') (h2 : o = o') : Spec.f sp l o K = Spec.f sp l' o' K := by rw [h, h2]
@[congr] theorem binV_cg {op : BinOp} {x x' y y' : Value} {K : Value → Prop} {b0 : Prop} (h0 : (True ∧ True) = b0) (h : x = x') (h2 : y = y') : binV op x y K = binV op x' y' K := by rw [h, h2]
@[congr] theorem cellsK_cg {ag : Bool} {n : Nat} {l l' : List AVal} {K : AVal → Prop} {b0 : Prop} (h0 : (True ∧ True) = b0) (h : l = l') : cellsK ag n l K = cellsK ag n l' K := by rw [h]
@[congr] theorem loadP_cg {L L' : Hp} {n : Nat} {ag : Bool} {p p' : AVal} {K : AVal → Prop} {b0 : Prop} (h0 : (True ∧ True) = b0) (h : L = L') (h2 : p = p') : loadP L n ag p K = loadP L' n ag p' K := by rw [h, h2]
@[congr] theorem fillA_cg {s s' : S} {ps : List (Nat × Nat × Operand)} {l l' : List AVal} {K : List AVal → Prop} {b0 : Prop} (h0 : (True ∧ True) = b0) (h : s = s') (h2 : l = l') : fillA s ps l K = fillA s' ps l' K := by rw [h, h2]
@[congr] theorem rowsK_cg {t : Ty} {L L' : Hp} {y y' : AVal} {K : List t.D → Prop} {b0 : Prop} (h0 : (True ∧ True) = b0) (h : L = L') (h2 : y = y') : rowsK t L y K = rowsK t L' y' K := by rw [h, h2]
@[congr] theorem appK_cg {t : Ty} {b : Nat} {sf sf' : Bool} {s s' : S} {x x' : AVal} {ys ys' : List t.D} {K : AVal → S → Prop} {b0 : Prop} (h0 : (True ∧ True) = b0) (h : s = s') (h2 : x = x') (h3 : ys = ys') (h4 : sf = sf') : appK t b sf s x ys K = appK t b sf' s' x' ys' K := by rw [h, h2, h3, h4]
theorem selfB_ss {m z l n m' z' l' n' : Nat} : selfB (.sub m z l n) (.sub m' z' l' n') = decide (m = m') := id rfl
theorem selfB_v {x : Value} {y : AVal} : selfB (.v x) y = false := id rfl
theorem selfB_sv {m z l n : Nat} {x : Value} : selfB (.sub m z l n) (.v x) = false := id rfl
theorem selfB_sr {m z l n : Nat} {t : Ty} {xs : List t.D} : selfB (.sub m z l n) (.rs t xs) = false := id rfl
theorem selK_f {p q : Prop} : selK false p q = q := id rfl
theorem selK_t {p q : Prop} : selK true p q = (p ∨ q) := id rfl
@[congr] theorem selK_cg {sf sf' : Bool} {p q : Prop} {b0 : Prop} (h0 : (True ∧ True) = b0) (h : sf = sf') : selK sf p q = selK sf' p q := by rw [h]
theorem roomK_eq {L : Hp} {m l0 : Nat} {h : Int} : roomK L m l0 h = (match lk L m with | some (.row t xs) => (l0 : Int) + h ≤ (xs.length : Int) | _ => False) := id rfl
attribute [go_sem] selfB_ss selfB_v selfB_sv selfB_sr selK_f selK_t roomK_eq
@[congr] theorem castK_cg {t t' : Ty} {xs xs' : List t'.D} {K : List t.D → Prop} {b0 : Prop} (h0 : (True ∧ True) = b0) (h : xs = xs') : castK t t' xs K = castK t t' xs' K := by rw [h]
@[congr] theorem objsK_cg {L L' : Hp} {l l' : List Nat} {K : List AObj → Prop} {b0 : Prop} (h0 : (True ∧ True) = b0) (h : L = L') (h2 : l = l') : objsK L l K = objsK L' l' K := by rw [h, h2]
@[congr] theorem optI_cg {s s' : S} {x : Option Operand} {d d' : Int} {K : Int → Prop} {b0 : Prop} (h0 : (True ∧ True) = b0) (h : s = s') (h2 : d = d') : optI s x d K = optI s' x d' K := by rw [h, h2]
@[congr] theorem retL_cg {l : List RV} {s s' : S} {K : List AVal → Prop} {b0 : Prop} (h0 : (True ∧ True) = b0) (h : s = s') : retL l s K = retL l s' K := by rw [h]
@[congr] theorem retK_cg {l : List RV} {s s' : S} {K : AVal → Prop} {b0 : Prop} (h0 : (True ∧ True) = b0) (h : s = s') : retK l s K = retK l s' K := by rw [h]
@[congr] theorem uni1_cg {θ θ' : Th} {a a' b b' : AVal} {K : Th → Prop} {b0 : Prop} (h0 : (True ∧ True) = b0) (h : θ = θ') (h2 : a = a') (h3 : b = b') : uni1 θ a b K = uni1 θ' a' b' K := by rw [h, h2, h3]
@[congr] theorem uni_cg {θ θ' : Th} {a a' b b' : AVal} {K : Th → Prop} {b0 : Prop} (h0 : (True ∧ True) = b0) (h : θ = θ') (h2 : a = a') (h3 : b = b') : uni θ a b K = uni θ' a' b' K := by rw [h, h2, h3]
@[congr] theorem uniR_cg {θ θ' : Th} {a a' b b' : AVal} {K : Th → Prop} {b0 : Prop} (h0 : (True ∧ True) = b0) (h : θ = θ') (h2 : a = a') (h3 : b = b') : uniR θ a b K = uniR θ' a' b' K := by rw [h, h2, h3]
@[congr] theorem uniL_cg {θ θ' : Th} {a a' b b' : List AVal} {K : Th → Prop} {b0 : Prop} (h0 : (True ∧ True) = b0) (h : θ = θ') (h2 : a = a') (h3 : b = b') : uniL θ a b K = uniL θ' a' b' K := by rw [h, h2, h3]
@[congr] theorem uniT_cg {θ θ' : Th} {a a' b b' : List AVal} {K : Th → Prop} {b0 : Prop} (h0 : (True ∧ True) = b0) (h : θ = θ') (h2 : a = a') (h3 : b = b') : uniT θ a b K = uniT θ' a' b' K := by rw [h, h2, h3]
@[congr] theorem uniS_cg {θ θ' : Th} {a a' b b' : List (Nat × AVal)} {K : Th → Prop} {b0 : Prop} (h0 : (True ∧ True) = b0) (h : θ = θ') (h2 : a = a') (h3 : b = b') : uniS θ a b K = uniS θ' a' b' K := by rw [h, h2, h3]
@[congr] theorem uniO_cg {θ θ' : Th} {k z : Nat} {a a' b b' : AObj} {K : Th → Prop} {b0 : Prop} (h0 : (True ∧ True) = b0) (h : θ = θ') (h2 : a = a') (h3 : b = b') : uniO θ k z a b K = uniO θ' k z a' b' K := by rw [h, h2, h3]
@[congr] theorem uniH_cg {θ θ' : Th} {a a' b b' : Hp} {K : Th → Prop} {b0 : Prop} (h0 : (True ∧ True) = b0) (h : θ = θ') (h2 : a = a') (h3 : b = b') : uniH θ a b K = uniH θ' a' b' K := by rw [h, h2, h3]
@[congr] theorem atOff_cg {i i' : Int} {f : Nat → Prop} {l l' : List Nat} {j j' : Nat} {b0 : Prop} (h0 : (True ∧ True) = b0) (h : i = i') (h2 : l = l') (h3 : j = j') : atOff i f l j = atOff i' f l' j' := by rw [h, h2, h3]
attribute [go_sem] retQ retK retL binV cellsK loadP cellsOf splice fillA optI rowsK appK decN castK
  callK allP view1 vok1 view vok viewO vokO objsK pos nodupB idT keysLt tgts oneA
/-! The state's changes, each as a step that is written down. -/
theorem put_some {σ : List (Nat × AVal)} {L : Hp} {nx n d : Nat} {av : AVal} : S.put ⟨σ, L, nx, n⟩ (some d) av = ⟨(d, av) :: σ, L, nx, n⟩ := id rfl
theorem put_none {s : S} {av : AVal} : S.put s none av = s := id rfl
theorem add_eq {σ : List (Nat × AVal)} {L : Hp} {nx n : Nat} {o : AObj} : S.add ⟨σ, L, nx, n⟩ o = ⟨σ, (nx, o) :: L, nx + 1, n⟩ := id rfl
theorem hp_eq {σ : List (Nat × AVal)} {L L' : Hp} {nx n : Nat} : S.hp ⟨σ, L, nx, n⟩ L' = ⟨σ, L', nx, n⟩ := id rfl
theorem ev_tmp {σ : List (Nat × AVal)} {L : Hp} {nx n t : Nat} : S.ev ⟨σ, L, nx, n⟩ (.tmp t) = (lk σ t).getD .junk := id rfl
theorem ev_func {s : S} {f : Nat} : S.ev s (.func f) = .fn f [] := id rfl
theorem ev_int {s : S} {k : IntKind} {i : Int} : S.ev s (.const (.int k i)) = .v (.int k i) := id rfl
theorem ev_bool {s : S} {b : Bool} : S.ev s (.const (.bool b)) = .v (.bool b) := id rfl
theorem ev_str {s : S} {b : ByteArray} : S.ev s (.const (.string b)) = .v (.string b) := id rfl
theorem ev_nilf {s : S}  : S.ev s (.const .nilFunc) = .v .nilFunc := id rfl
theorem ev_nili {s : S}  : S.ev s (.const .nilIface) = .v .nilIface := id rfl
theorem ev_nilp {s : S} : S.ev s (.const (.pointer none)) = .v (.pointer none) := id rfl
theorem ev_nils {s : S} : S.ev s (.const (.slice none 0 0)) = .v (.slice none 0 0) := id rfl
theorem ev_agg {s : S} {cs : Array Value} : S.ev s (.const (.agg cs)) = .agg (cs.toList.map .v) := id rfl
theorem params_nil {k : Nat} : params k [] = [] := id rfl
theorem params_cons {k : Nat} {x : AVal} {r : List AVal} : params k (x :: r) = (k, x) :: params (k + 1) r := id rfl
theorem num_nil {k : Nat} : num k [] = [] := id rfl
theorem num_cons {k : Nat} {x : AObj} {r : List AObj} : num k (x :: r) = (k, x) :: num (k + 1) r := id rfl
theorem lk_nil {α : Type _} {k : Nat} : lk ([] : List (Nat × α)) k = none := id rfl
theorem lk_cons {α : Type _} {i k : Nat} {x : α} {r : List (Nat × α)} : lk ((i, x) :: r) k = if i = k then some x else lk r k := id rfl
theorem upd_nil {k : Nat} {o : AObj} : upd [] k o = [] := id rfl
theorem upd_cons {i k : Nat} {x o : AObj} {r : Hp} : upd ((i, x) :: r) k o = if i = k then (i, o) :: r else (i, x) :: upd r k o := id rfl
theorem boxesOf_nil : boxesOf [] = [] := id rfl
theorem boxesOf_box {m : Nat} {cs : List AVal} {r : Hp} : boxesOf ((m, .box cs) :: r) = (m, .box cs) :: boxesOf r := id rfl
theorem boxesOf_row {m : Nat} {t : Ty} {xs : List t.D} {r : Hp} : boxesOf ((m, .row t xs) :: r) = boxesOf r := id rfl
theorem rowsOf_nil : rowsOf [] = [] := id rfl
theorem rowsOf_box {m : Nat} {cs : List AVal} {r : Hp} : rowsOf ((m, .box cs) :: r) = rowsOf r := id rfl
theorem rowsOf_row {m : Nat} {t : Ty} {xs : List t.D} {r : Hp} : rowsOf ((m, .row t xs) :: r) = (m, .row t xs) :: rowsOf r := id rfl
attribute [go_sem] boxesOf_nil boxesOf_box boxesOf_row rowsOf_nil rowsOf_box rowsOf_row
attribute [go_sem] put_some put_none add_eq hp_eq ev_tmp ev_func ev_int ev_bool ev_str ev_nilf ev_nili ev_nilp ev_nils ev_agg params_nil params_cons num_nil num_cons lk_nil lk_cons upd_nil upd_cons
theorem nc0 : ((0 : Nat) : Int) = 0 := id rfl
theorem nc1 : ((1 : Nat) : Int) = 1 := id rfl
theorem nc2 : ((2 : Nat) : Int) = 2 := id rfl
theorem nc3 : ((3 : Nat) : Int) = 3 := id rfl
theorem nc4 : ((4 : Nat) : Int) = 4 := id rfl
theorem nc5 : ((5 : Nat) : Int) = 5 := id rfl
theorem nc6 : ((6 : Nat) : Int) = 6 := id rfl
theorem nc7 : ((7 : Nat) : Int) = 7 := id rfl
theorem nc8 : ((8 : Nat) : Int) = 8 := id rfl
theorem nc9 : ((9 : Nat) : Int) = 9 := id rfl
theorem nc10 : ((10 : Nat) : Int) = 10 := id rfl
theorem nc11 : ((11 : Nat) : Int) = 11 := id rfl
theorem nc12 : ((12 : Nat) : Int) = 12 := id rfl
theorem nc13 : ((13 : Nat) : Int) = 13 := id rfl
theorem nc14 : ((14 : Nat) : Int) = 14 := id rfl
theorem nc15 : ((15 : Nat) : Int) = 15 := id rfl
theorem nc16 : ((16 : Nat) : Int) = 16 := id rfl
theorem offs_1_2 : offs 1 2 = [0, 1] := by decide
theorem offs_1_4 : offs 1 4 = [0, 1, 2, 3] := by decide
theorem offs_1_8 : offs 1 8 = [0, 1, 2, 3, 4, 5, 6, 7] := by decide
theorem offs_1_16 : offs 1 16 = [0, 1, 2, 3, 4, 5, 6, 7, 8, 9, 10, 11, 12, 13, 14, 15] := by decide
theorem offs_2_2 : offs 2 2 = [0, 2] := by decide
theorem offs_2_4 : offs 2 4 = [0, 2, 4, 6] := by decide
theorem offs_2_8 : offs 2 8 = [0, 2, 4, 6, 8, 10, 12, 14] := by decide
theorem offs_2_16 : offs 2 16 = [0, 2, 4, 6, 8, 10, 12, 14, 16, 18, 20, 22, 24, 26, 28, 30] := by decide
theorem offs_3_2 : offs 3 2 = [0, 3] := by decide
theorem offs_3_4 : offs 3 4 = [0, 3, 6, 9] := by decide
theorem offs_3_8 : offs 3 8 = [0, 3, 6, 9, 12, 15, 18, 21] := by decide
theorem offs_3_16 : offs 3 16 = [0, 3, 6, 9, 12, 15, 18, 21, 24, 27, 30, 33, 36, 39, 42, 45] := by decide
theorem offs_4_2 : offs 4 2 = [0, 4] := by decide
theorem offs_4_4 : offs 4 4 = [0, 4, 8, 12] := by decide
theorem offs_4_8 : offs 4 8 = [0, 4, 8, 12, 16, 20, 24, 28] := by decide
theorem offs_4_16 : offs 4 16 = [0, 4, 8, 12, 16, 20, 24, 28, 32, 36, 40, 44, 48, 52, 56, 60] := by decide
theorem atOff_nil {i : Int} {f : Nat → Prop} {j : Nat} : atOff i f [] j = True := id rfl
theorem atOff_cons {i : Int} {f : Nat → Prop} {o : Nat} {r : List Nat} {j : Nat} : atOff i f (o :: r) j = (impK (i = (j : Int)) (f o) ∧ atOff i f r (j + 1)) := id rfl
attribute [go_sem] nc0 nc1 nc2 nc3 nc4 nc5 nc6 nc7 nc8 nc9 nc10 nc11 nc12 nc13 nc14 nc15 nc16 offs_1_2 offs_1_4 offs_1_8 offs_1_16 offs_2_2 offs_2_4 offs_2_8 offs_2_16 offs_3_2 offs_3_4 offs_3_8 offs_3_16 offs_4_2 offs_4_4 offs_4_8 offs_4_16 atOff_nil atOff_cons
/-! The state behind a call. -/
section
variable {kp : Bool} {n : Nat → Nat} {m z j f lo len off nx k : Nat} {x : Value} {cs : List AVal} {o : AObj} {r : Hp} {ms : List Nat} {L : Hp} {t : Ty} {xs : List t.D}
theorem renL_nil : renL kp n [] = [] := id rfl
theorem renL_cons : renL kp n ((m, o) :: r) = (n m, renO kp n o) :: renL kp n r := id rfl
theorem renO_box : renO kp n (.box cs) = .box (cs.map (ren1 kp n)) := id rfl
theorem renO_row : renO kp n (.row t xs) = .row t xs := id rfl
theorem ren1_v : ren1 kp n (.v x) = .v x := id rfl
theorem ren1_ptr : ren1 kp n (.ptr m off) = .ptr (n m) off := id rfl
theorem ren1_elt : ren1 kp n (.elt m z j f) = .elt (n m) z j f := id rfl
theorem ren1_sub : ren1 kp n (.sub m z lo len) = .sub (n m) z lo len := id rfl
theorem ren1_rs : ren1 kp n (.rs t xs) = if kp = true then .rs t xs else .junk := id rfl
theorem ren1_junk : ren1 kp n .junk = .junk := id rfl
theorem ren2_rs : ren2 kp n (.rs t xs) = ren1 kp n (.rs t xs) := id rfl
theorem ren_rs : ren kp n (.rs t xs) = ren1 kp n (.rs t xs) := id rfl
theorem ren2_v : ren2 kp n (.v x) = .v x := id rfl
theorem ren2_ptr : ren2 kp n (.ptr m off) = .ptr (n m) off := id rfl
theorem ren2_elt : ren2 kp n (.elt m z j f) = .elt (n m) z j f := id rfl
theorem ren2_sub : ren2 kp n (.sub m z lo len) = .sub (n m) z lo len := id rfl
theorem ren2_agg : ren2 kp n (.agg cs) = .agg (cs.map (ren1 kp n)) := id rfl
theorem ren_v : ren kp n (.v x) = .v x := id rfl
theorem ren_ptr : ren kp n (.ptr m off) = .ptr (n m) off := id rfl
theorem ren_elt : ren kp n (.elt m z j f) = .elt (n m) z j f := id rfl
theorem ren_sub : ren kp n (.sub m z lo len) = .sub (n m) z lo len := id rfl
theorem ren_agg : ren kp n (.agg cs) = .agg (cs.map (ren1 kp n)) := id rfl
theorem ren_tup : ren kp n (.tup cs) = .tup (cs.map (ren2 kp n)) := id rfl
theorem rn_eq : rn ms nx k = (nth ms k).getD (nx + k) := by unfold rn; split <;> rename_i h <;> rw [h] <;> rfl
theorem nth_nil : nth [] k = none := id rfl
theorem nth_cons : nth (m :: ms) k = if k = 0 then some m else nth ms (k - 1) := id rfl
theorem eraAll_nil : eraAll L [] = L := id rfl
theorem eraAll_cons : eraAll L (m :: ms) = eraAll (era L m) ms := id rfl
theorem era_nil : era [] k = [] := id rfl
theorem era_cons : era ((m, o) :: r) k = if m = k then era r k else (m, o) :: era r k := id rfl
end
attribute [go_sem] ren1_rs ren1_junk ren2_rs ren_rs
attribute [go_sem] renL_nil renL_cons renO_box renO_row ren1_v ren1_ptr ren1_elt ren1_sub ren2_v ren2_ptr ren2_elt ren2_sub ren2_agg ren_v ren_ptr ren_elt ren_sub ren_agg ren_tup rn_eq nth_nil nth_cons eraAll_nil eraAll_cons era_nil era_cons
theorem om_some {α β : Type _} {f : α → β} {x : α} : Option.map f (some x) = some (f x) := id rfl
theorem om_none {α β : Type _} {f : α → β} : Option.map f (none : Option α) = none := id rfl
theorem bo_ff : (false || false) = false := id rfl
theorem bo_tf {b : Bool} : (true || b) = true := id rfl
theorem bo_ft : (false || true) = true := id rfl
theorem dc_true : decide True = true := by simp
theorem dc_false : decide False = false := by simp
theorem ga_0 {α : Type _} {a : α} {l : List α} : (a :: l)[0]? = some a := id rfl
theorem ga_1 {α : Type _} {a b : α} {l : List α} : (a :: b :: l)[1]? = some b := id rfl
theorem ga_2 {α : Type _} {a b c : α} {l : List α} : (a :: b :: c :: l)[2]? = some c := id rfl
theorem ga_3 {α : Type _} {a b c d : α} {l : List α} : (a :: b :: c :: d :: l)[3]? = some d := id rfl
theorem or_ft {p : Prop} : (False ∨ p) = p := by simp
theorem or_tt {p : Prop} : (p ∨ True) = True := by simp
theorem or_pf {p : Prop} : (p ∨ False) = p := by simp
attribute [go_sem] ga_0 ga_1 ga_2 ga_3 or_ft or_tt or_pf
theorem u8s_nil : u8s [] = some [] := id rfl
theorem u8s_cons {n : Int} {r : List AVal} : u8s (.v (.int .u8 n) :: r) = (u8s r).map (n :: ·) := id rfl
attribute [go_sem] u8s_nil u8s_cons
theorem i64s_nil : i64s [] = some [] := id rfl
theorem i64s_cons {n : Int} {r : List AVal} : i64s (.v (.int .i64 n) :: r) = (i64s r).map (n :: ·) := id rfl
attribute [go_sem] i64s_nil i64s_cons
theorem take_len {α : Type _} {xs : List α} : xs.take xs.length = xs := List.take_length
theorem le_self {n : Nat} : (n ≤ n) = True := by simp
section
variable {θ : Th} {K : Th → Prop} {m m' k z z' lo lo' len len' off off' i i' f f' d p : Nat} {x x' : Value} {t t' : Ty} {xs : List t.D} {y : t.D} {cs cs' r r' : List AVal} {a a' av av' : AVal} {σ : List (Nat × AVal)} {L rL : Hp} {o o' : AObj} {s s' : S}
theorem SubS_eq : SubS p s s' = (s'.n = s.n ∧ uniS (idT p) s.σ s'.σ fun θ => uniH θ s.L (boxesOf s'.L) fun θ => uniH θ s.L (rowsOf s'.L) fun θ => nodupB (tgts θ) = true ∧ keysLt s'.nx θ = true) := id rfl
theorem ResU_eq {r0 rr : AVal} {L0 : Hp} {nx0 : Nat} : ResU p s rr r0 L0 nx0 = (uniR (idT p) rr r0 fun θ => uniH θ s.L (boxesOf L0) fun θ => uniH θ s.L (rowsOf L0) fun θ => nodupB (tgts θ) = true ∧ keysLt nx0 θ = true) := id rfl
theorem uniN_eq : uniN θ m' m K = (match lk θ m' with | some x => x = some (m, 0, 0) ∧ K θ | none => K ((m', some (m, 0, 0)) :: θ)) := id rfl
theorem uniK_eq : uniK θ m' m k z K = (if k = 0 then uniN θ m' m K else match lk θ m' with | some x => x = some (m, k, z) ∧ K θ | none => K ((m', some (m, k, z)) :: θ)) := id rfl
theorem uniNil_eq : uniNil θ m' K = (match lk θ m' with | some x => x = none ∧ K θ | none => K ((m', none) :: θ)) := id rfl
theorem uni1_junk : uni1 θ av .junk K = K θ := id rfl
theorem uni1_v : uni1 θ (.v x) (.v x') K = (x = x' ∧ K θ) := id rfl
theorem uni1_sub : uni1 θ (.sub m z lo len) (.sub m' z' lo' len') K = ((z = z' ∧ lo' ≤ lo ∧ len = len') ∧ uniK θ m' m (lo - lo') z K) := id rfl
theorem uni1_nil : uni1 θ (.v (.slice none 0 0)) (.sub m' z' lo' len') K = ((lo' = 0 ∧ len' = 0) ∧ uniNil θ m' K) := id rfl
theorem uni1_ptr : uni1 θ (.ptr m off) (.ptr m' off') K = (off = off' ∧ uniN θ m' m K) := id rfl
theorem uni1_elt : uni1 θ (.elt m z i f) (.elt m' z' i' f') K = ((z = z' ∧ i = i' ∧ f = f') ∧ uniN θ m' m K) := id rfl
theorem uni1_rs : uni1 θ av (.rs t xs) K = (av = .rs t xs ∧ K θ) := id rfl
theorem uni1_re : uni1 θ av (.re t y f) K = (av = .re t y f ∧ K θ) := id rfl
theorem uni1_rp : uni1 θ av (.rp t xs) K = (av = .rp t xs ∧ K θ) := id rfl
theorem uni_rp : uni θ av (.rp t xs) K = uni1 θ av (.rp t xs) K := id rfl
theorem uniL_nil : uniL θ [] [] K = K θ := id rfl
theorem uniL_cons : uniL θ (a :: r) (a' :: r') K = uni1 θ a a' fun θ => uniL θ r r' K := id rfl
theorem uni_agg : uni θ (.agg cs) (.agg cs') K = uniL θ cs cs' K := id rfl
theorem uni_fn : uni θ (.fn f cs) (.fn f' cs') K = (f = f' ∧ uniL θ cs cs' K) := id rfl
theorem uni_junk : uni θ av .junk K = K θ := id rfl
theorem uni_v : uni θ av (.v x') K = uni1 θ av (.v x') K := id rfl
theorem uni_sub : uni θ av (.sub m' z' lo' len') K = uni1 θ av (.sub m' z' lo' len') K := id rfl
theorem uni_ptr : uni θ av (.ptr m' off') K = uni1 θ av (.ptr m' off') K := id rfl
theorem uni_elt : uni θ av (.elt m' z' i' f') K = uni1 θ av (.elt m' z' i' f') K := id rfl
theorem uni_rs : uni θ av (.rs t xs) K = uni1 θ av (.rs t xs) K := id rfl
theorem uni_re : uni θ av (.re t y f) K = uni1 θ av (.re t y f) K := id rfl
theorem uniS_nil : uniS θ σ [] K = K θ := id rfl
theorem uniS_cons {r : List (Nat × AVal)} : uniS θ σ ((d, av') :: r) K = someK (lk σ d) fun av => uni θ av av' fun θ => uniS θ σ r K := by
  cases h : lk σ d <;> simp [uniS, someK, h]
theorem uniO_box : uniO θ k z (.box cs) (.box cs') K = (k = 0 ∧ uniL θ cs cs' K) := id rfl
theorem uniO_row {xs' : List t'.D} : uniO θ k z (.row t xs) (.row t' xs') K = castK t' t xs fun xs => if k = 0 then xs = xs' ∧ K θ else (z = sz t' ∧ k ≤ xs.length ∧ xs.drop k = xs') ∧ K θ := id rfl
theorem uniH_nil : uniH θ L [] K = K θ := id rfl
theorem uniH_cons : uniH θ L ((m', o') :: rL) K = (match lk θ m' with
    | some (some (m, k, z)) => match lk L m with
      | some o => uniO θ k z o o' fun θ => uniH θ L rL K
      | none => False
    | some none => match o' with
      | .row t xs' => xs' = [] ∧ uniH θ L rL K
      | _ => False
    | none => match lk L m' with
      | some o => uniO ((m', some (m', 0, 0)) :: θ) 0 0 o o' fun θ => uniH θ L rL K
      | none => False) := id rfl
theorem uniT_nil : uniT θ [] [] K = K θ := id rfl
theorem uniT_cons : uniT θ (a :: r) (a' :: r') K = uni θ a a' fun θ => uniT θ r r' K := id rfl
theorem uniR_tup : uniR θ (.tup cs) (.tup cs') K = uniT θ cs cs' K := id rfl
theorem uniR_agg : uniR θ av (.agg cs') K = uni θ av (.agg cs') K := id rfl
theorem uniR_fn : uniR θ av (.fn f' cs') K = uni θ av (.fn f' cs') K := id rfl
theorem uniR_v : uniR θ av (.v x') K = uni θ av (.v x') K := id rfl
theorem uniR_junk : uniR θ av .junk K = uni θ av .junk K := id rfl
theorem uniR_sub : uniR θ av (.sub m' z' lo' len') K = uni θ av (.sub m' z' lo' len') K := id rfl
theorem uniR_ptr : uniR θ av (.ptr m' off') K = uni θ av (.ptr m' off') K := id rfl
theorem uniR_elt : uniR θ av (.elt m' z' i' f') K = uni θ av (.elt m' z' i' f') K := id rfl
theorem uniR_rs : uniR θ av (.rs t xs) K = uni θ av (.rs t xs) K := id rfl
theorem uniR_re : uniR θ av (.re t y f) K = uni θ av (.re t y f) K := id rfl
end
attribute [go_sem] uni1_rp uni_rp
attribute [go_sem ↓] uniN_eq uniK_eq uniNil_eq
attribute [go_sem] SubS_eq ResU_eq uni1_junk uni1_v uni1_sub uni1_nil uni1_ptr uni1_elt uni1_rs uni1_re uniL_nil uniL_cons uni_agg uni_fn uni_junk uni_v uni_sub uni_ptr uni_elt uni_rs uni_re uniS_nil uniS_cons uniO_box uniO_row uniH_nil uniH_cons uniT_nil uniT_cons uniR_tup uniR_agg uniR_fn uniR_v uniR_junk uniR_sub uniR_ptr uniR_elt uniR_rs uniR_re
def isV : AVal → Prop
  | .v _ => True
  | _ => False
def vAll : List AVal → Prop
  | [] => True
  | x :: r => isV x ∧ vAll r
theorem isV_v {x : Value} : isV (.v x) = True := by simp [isV]
theorem vAll_nil : vAll [] = True := by simp [vAll]
theorem vAll_cons {x : AVal} {r : List AVal} : vAll (x :: r) = (isV x ∧ vAll r) := id rfl
theorem uniL_same {θ : Th} {K : Th → Prop} : ∀ {cs : List AVal}, vAll cs → uniL θ cs cs K = K θ
  | [], _ => rfl
  | x :: r, h => by
    cases x with
    | v y => simp only [uniL, uni1, true_and]; exact uniL_same h.2
    | _ => exact h.1.elim
theorem uni_same {θ : Th} {cs : List AVal} {K : Th → Prop} (h : vAll cs) : uni θ (.agg cs) (.agg cs) K = K θ := by simp only [uni]; exact uniL_same h
theorem uniO_same {θ : Th} {cs : List AVal} {K : Th → Prop} (h : vAll cs) : uniO θ 0 0 (.box cs) (.box cs) K = K θ := by simp only [uniO, true_and]; exact uniL_same h
attribute [go_sem] isV_v vAll_nil vAll_cons
attribute [go_sem high] uni_same uniO_same
def ifSeen (seen : List Nat) (d : Nat) (a b : List (Nat × AVal)) : List (Nat × AVal) := if seen.contains d = true then a else b
theorem ifSeen_nil {d : Nat} {a b : List (Nat × AVal)} : ifSeen [] d a b = b := by simp [ifSeen]
theorem ifSeen_cons {x d : Nat} {l : List Nat} {a b : List (Nat × AVal)} : ifSeen (x :: l) d a b = if d = x then a else ifSeen l d a b := by
  unfold ifSeen
  by_cases h : d = x
  · simp [h]
  · simp [h]
@[congr] theorem ifSeen_cg {l l' : List Nat} {d d' : Nat} {a b : List (Nat × AVal)} {b0 : Prop} (h0 : (True ∧ True) = b0) (h : l = l') (h2 : d = d') : ifSeen l d a b = ifSeen l' d' a b := by rw [h, h2]
theorem tidy_eq {σ : List (Nat × AVal)} {L : Hp} {nx n : Nat} : tidy ⟨σ, L, nx, n⟩ = ⟨ded [] σ, L, nx, n⟩ := id rfl
theorem ded_nil {seen : List Nat} : ded seen [] = [] := id rfl
theorem ded_junk {seen : List Nat} {d : Nat} {r : List (Nat × AVal)} : ded seen ((d, .junk) :: r) = ifSeen seen d (ded seen r) (ded (d :: seen) r) := id rfl
theorem ded_v {seen : List Nat} {d : Nat} {r : List (Nat × AVal)} {x : Value} : ded seen ((d, .v x) :: r) = ifSeen seen d (ded seen r) ((d, .v x) :: ded (d :: seen) r) := id rfl
theorem ded_ptr {seen : List Nat} {d : Nat} {r : List (Nat × AVal)} {m o : Nat} : ded seen ((d, .ptr m o) :: r) = ifSeen seen d (ded seen r) ((d, .ptr m o) :: ded (d :: seen) r) := id rfl
theorem ded_elt {seen : List Nat} {d : Nat} {r : List (Nat × AVal)} {m s i f : Nat} : ded seen ((d, .elt m s i f) :: r) = ifSeen seen d (ded seen r) ((d, .elt m s i f) :: ded (d :: seen) r) := id rfl
theorem ded_sub {seen : List Nat} {d : Nat} {r : List (Nat × AVal)} {m s l k : Nat} : ded seen ((d, .sub m s l k) :: r) = ifSeen seen d (ded seen r) ((d, .sub m s l k) :: ded (d :: seen) r) := id rfl
theorem ded_rs {seen : List Nat} {d : Nat} {r : List (Nat × AVal)} {t : Ty} {xs : List t.D} : ded seen ((d, .rs t xs) :: r) = ifSeen seen d (ded seen r) ((d, .rs t xs) :: ded (d :: seen) r) := id rfl
theorem ded_re {seen : List Nat} {d : Nat} {r : List (Nat × AVal)} {t : Ty} {x : t.D} {f : Nat} : ded seen ((d, .re t x f) :: r) = ifSeen seen d (ded seen r) ((d, .re t x f) :: ded (d :: seen) r) := id rfl
theorem ded_rp {seen : List Nat} {d : Nat} {r : List (Nat × AVal)} {t : Ty} {xs : List t.D} : ded seen ((d, .rp t xs) :: r) = ifSeen seen d (ded seen r) ((d, .rp t xs) :: ded (d :: seen) r) := id rfl
attribute [go_sem] ded_rp
theorem ded_agg {seen : List Nat} {d : Nat} {r : List (Nat × AVal)} {cs : List AVal} : ded seen ((d, .agg cs) :: r) = ifSeen seen d (ded seen r) ((d, .agg cs) :: ded (d :: seen) r) := id rfl
theorem ded_tup {seen : List Nat} {d : Nat} {r : List (Nat × AVal)} {cs : List AVal} : ded seen ((d, .tup cs) :: r) = ifSeen seen d (ded seen r) (ded (d :: seen) r) := id rfl
theorem ded_fn {seen : List Nat} {d : Nat} {r : List (Nat × AVal)} {f : Nat} {cs : List AVal} : ded seen ((d, .fn f cs) :: r) = ifSeen seen d (ded seen r) ((d, .fn f cs) :: ded (d :: seen) r) := id rfl
attribute [go_sem] tidy_eq ifSeen_nil ifSeen_cons ded_nil ded_junk ded_v ded_ptr ded_elt ded_sub ded_rs ded_re ded_agg ded_tup ded_fn
theorem sub_self' {n : Nat} : n - n = 0 := by simp
attribute [go_sem] sub_self'
theorem tr_or {p : Prop} : (True ∨ p) = True := by simp
attribute [go_sem] take_len le_self tr_or om_some om_none bo_ff bo_tf bo_ft dc_true dc_false
theorem rep_0 {α : Type _} {a : α} : List.replicate 0 a = [] := id rfl
theorem rep_1 {α : Type _} {a : α} : List.replicate 1 a = [a] := id rfl
theorem rep_2 {α : Type _} {a : α} : List.replicate 2 a = [a, a] := id rfl
theorem flat_nil {α : Type _} : ([] : List (List α)).flatten = [] := id rfl
theorem flat_cons {α : Type _} {a : List α} {r : List (List α)} : (a :: r).flatten = a ++ r.flatten := id rfl
attribute [go_sem] rep_0 rep_1 rep_2 flat_nil flat_cons
theorem linD_done : linD .done = true := id rfl
theorem linD_stop : linD .stop = true := id rfl
theorem linD_held {o : LO} {t : DT} : linD (.held o t) = linD t := id rfl
theorem linD_one {o : LO} {t : DT} : linD (.alt o t .stop) = linD t := id rfl
theorem linD_two {o o2 : LO} {t t2 r2 : DT} : linD (.alt o t (.alt o2 t2 r2)) = false := id rfl
attribute [go_sem] linD_done linD_stop linD_held linD_one linD_two
theorem true_imp (p : Prop) : (True → p) = p := by simp
theorem false_imp (p : Prop) : (False → p) = True := by simp
theorem tt_imp (p : Prop) : (true = true → p) = p := by simp
theorem ff_imp (p : Prop) : (false = false → p) = p := by simp
theorem tf_imp (p : Prop) : (true = false → p) = True := by simp
theorem ft_imp (p : Prop) : (false = true → p) = True := by simp
theorem wrap_id {n : Int} (h1 : -9223372036854775808 ≤ n) (h2 : n ≤ 9223372036854775807) : wr .i64 n = n := by rw [wr_eq, IntKind.wrap_i64]; omega
theorem fill_set {α : Type} (xs : List α) (d z : α) (k : Nat) (h : k < xs.length) : (xs.take k ++ List.replicate (xs.length - k) z).set k (xs.getD k d) = xs.take (k + 1) ++ List.replicate (xs.length - (k + 1)) z := by
  apply List.ext_getElem?
  intro i
  simp only [List.getElem?_set, List.getElem?_append, List.length_append, List.length_take, List.length_replicate, List.getElem?_take, List.getElem?_replicate]
  have h1 : min k xs.length = k := by omega
  have h2 : min (k + 1) xs.length = k + 1 := by omega
  rw [h1, h2]
  by_cases e : k = i
  · subst e
    simp [h, List.getD, show k < k + (xs.length - k) by omega]
  · by_cases e2 : i < k
    · simp [e, e2, show i < k + 1 by omega]
    · simp [e, e2, show ¬ i < k + 1 by omega, show i - k < xs.length - k ↔ i - (k + 1) < xs.length - (k + 1) by omega]
theorem fill_len {α : Type} (xs : List α) (z : α) (k : Nat) (h : k ≤ xs.length) : (xs.take k ++ List.replicate (xs.length - k) z).length = xs.length := by simp; omega
theorem cast_succ (k : Nat) : (k : Int) + 1 = ((k + 1 : Nat) : Int) := by omega
attribute [go_sem] wrap_id List.all_cons List.all_nil Bool.and_true Bool.true_and List.contains_nil List.contains_cons true_imp false_imp tt_imp ff_imp tf_imp ft_imp Bool.not_true Bool.not_false and_true true_and and_false false_and Nat.zero_add Nat.add_zero Option.getD_some Option.getD_none
  if_true if_false List.map_cons List.map_nil List.length_cons List.length_nil List.drop_zero List.drop_succ_cons List.take_succ_cons List.take_zero List.take_nil List.drop_nil List.nil_append List.cons_append List.append_nil
  decide_eq_true_eq decide_eq_false_iff_not Bool.not_eq_true' Bool.not_eq_false' Bool.not_eq_eq_eq_not ne_eq not_true_eq_false not_false_eq_true forall_const Int.toNat_natCast List.append_nil
end Go.Proofs.YtiakjdcognckpaaE

/-! The code of a function, in the engine's words. -/
namespace Go.Proofs.YtiakjdcognckpaaE
open Go Go.RowKit
@[reducible] def ic76 : IC := (.seq (.ops [⟨some 4, .mov (.const (.int .i64 0)), none⟩]) (.seq (.ops [⟨some 5, .mov (.tmp 1), none⟩, ⟨some 6, .mov (.tmp 0), none⟩, ⟨some 7, .mov (.tmp 1), none⟩, ⟨some 8, .len (.tmp 7), none⟩, ⟨some 9, .call 62 [(.tmp 6), (.tmp 8)], none⟩, ⟨some 10, .iadr 1 (.tmp 5) (.tmp 9), none⟩, ⟨some 11, .load 1 false (.tmp 10), none⟩, ⟨some 4, .mov (.tmp 11), none⟩]) .ret))
@[reducible] def rv76 : List RV := [.tmp 4]
theorem low76 : lowC Try.prog tau Try.f76.ntmps (Try.f76.body.getD .skip) = some (erase ic76) := by kernel_rfl
theorem res76 : lowR Try.prog Try.f76.results.toList = some rv76 := by kernel_rfl
theorem bod76 : Try.f76.body = some (Try.f76.body.getD .skip) := by kernel_rfl
theorem cal76 : callable Try.prog 76 = true := by kernel_rfl

end Go.Proofs.YtiakjdcognckpaaE

/-! The code of a function, in the engine's words. -/
namespace Go.Proofs.YtiakjdcognckpaaE
open Go Go.RowKit
@[reducible] def ic63 : IC := (.seq (.ops [⟨some 4, .mov (.const (.int .i64 0)), none⟩]) (.seq (.ops [⟨some 6, .mov (.tmp 0), none⟩, ⟨some 7, .len (.tmp 6), none⟩, ⟨some 8, .bin .quo (.tmp 7) (.const (.int .i64 20)), none⟩, ⟨some 9, .bin .add (.const (.int .i64 2)) (.tmp 8), none⟩, ⟨some 5, .mov (.tmp 9), none⟩]) (.seq (.seq (.ops [⟨some 10, .mov (.tmp 5), none⟩, ⟨some 11, .mov (.tmp 1), none⟩, ⟨some 12, .bin .gtr (.tmp 10) (.tmp 11), none⟩]) (.cond (.tmp 12) (.seq (.ops [⟨some 13, .mov (.tmp 1), none⟩, ⟨some 4, .mov (.tmp 13), none⟩]) .ret) .skip)) (.seq (.ops [⟨some 14, .mov (.tmp 5), none⟩, ⟨some 4, .mov (.tmp 14), none⟩]) .ret))))
@[reducible] def rv63 : List RV := [.tmp 4]
theorem low63 : lowC Try.prog tau Try.f63.ntmps (Try.f63.body.getD .skip) = some (erase ic63) := by kernel_rfl
theorem res63 : lowR Try.prog Try.f63.results.toList = some rv63 := by kernel_rfl
theorem bod63 : Try.f63.body = some (Try.f63.body.getD .skip) := by kernel_rfl
theorem cal63 : callable Try.prog 63 = true := by kernel_rfl

end Go.Proofs.YtiakjdcognckpaaE

/-! The code of a function, in the engine's words. -/
namespace Go.Proofs.YtiakjdcognckpaaE
open Go Go.RowKit
@[reducible] def ic61 : IC := (.seq (.ops [⟨some 4, .mov (.const (.slice none 0 0)), none⟩]) (.seq (.ops [⟨some 8, .blds .ev 0 [], none⟩, ⟨some 5, .mov (.tmp 8), none⟩]) (.seq (.seq (.ops [⟨some 6, .mov (.const (.int .i64 0)), none⟩]) (.block 0 (.loop (.seq (.seq (.ops [⟨some 9, .mov (.tmp 6), none⟩, ⟨some 10, .mov (.tmp 1), none⟩, ⟨some 11, .bin .lss (.tmp 9) (.tmp 10), none⟩]) (.cond (.tmp 11) .skip (.exit 0))) (.seq (.block 1 (.seq (.ops [⟨some 14, .mov (.tmp 0), none⟩, ⟨some 15, .blds .int 14 [(0, 1, (.const (.int .i64 1))), (1, 1, (.const (.int .i64 1))), (2, 1, (.const (.int .i64 2))), (3, 1, (.const (.int .i64 2))), (4, 1, (.const (.int .i64 3))), (5, 1, (.const (.int .i64 4))), (6, 1, (.const (.int .i64 4))), (7, 1, (.const (.int .i64 5))), (8, 1, (.const (.int .i64 5))), (9, 1, (.const (.int .i64 5))), (10, 1, (.const (.int .i64 5))), (11, 1, (.const (.int .i64 5))), (12, 1, (.const (.int .i64 6))), (13, 1, (.const (.int .i64 7)))], none⟩, ⟨some 16, .call 76 [(.tmp 14), (.tmp 15)], none⟩, ⟨some 17, .bld [(.int .i64 0), (.int .i64 0)] [(0, 1, (.tmp 16))], none⟩, ⟨some 7, .new [(.int .i64 0), (.int .i64 0)], none⟩, ⟨none, .store 2 (.tmp 7) (.tmp 17), none⟩]) (.seq (.seq (.ops [⟨some 18, .fadr 0 (.tmp 7), none⟩, ⟨some 19, .load 1 false (.tmp 18), none⟩]) (.block 2 (.seq (.seq (.ops [⟨some 21, .bin .eql (.tmp 19) (.const (.int .i64 3)), none⟩, ⟨some 20, .mov (.tmp 21), none⟩]) (.cond (.tmp 20) .skip (.ops [⟨some 22, .bin .eql (.tmp 19) (.const (.int .i64 4)), none⟩, ⟨some 20, .mov (.tmp 22), none⟩]))) (.cond (.tmp 20) (.ops [⟨some 23, .mov (.tmp 0), none⟩, ⟨some 24, .call 62 [(.tmp 23), (.const (.int .i64 2))], none⟩, ⟨some 25, .fadr 1 (.tmp 7), none⟩, ⟨none, .store 1 (.tmp 25) (.tmp 24), none⟩]) (.seq (.seq (.ops [⟨some 27, .bin .eql (.tmp 19) (.const (.int .i64 5)), none⟩, ⟨some 26, .mov (.tmp 27), none⟩]) (.cond (.tmp 26) .skip (.seq (.ops [⟨some 28, .bin .eql (.tmp 19) (.const (.int .i64 6)), none⟩, ⟨some 26, .mov (.tmp 28), none⟩]) (.cond (.tmp 26) .skip (.ops [⟨some 29, .bin .eql (.tmp 19) (.const (.int .i64 7)), none⟩, ⟨some 26, .mov (.tmp 29), none⟩]))))) (.cond (.tmp 26) (.ops [⟨some 30, .mov (.tmp 0), none⟩, ⟨some 31, .call 62 [(.tmp 30), (.const (.int .i64 4))], none⟩, ⟨some 32, .mov (.tmp 0), none⟩, ⟨some 33, .call 62 [(.tmp 32), (.const (.int .i64 2))], none⟩, ⟨some 34, .bin .mul (.tmp 31) (.tmp 33), none⟩, ⟨some 35, .fadr 1 (.tmp 7), none⟩, ⟨none, .store 1 (.tmp 35) (.tmp 34), none⟩]) .skip)))))) (.ops [⟨some 36, .mov (.tmp 5), none⟩, ⟨some 37, .load 2 true (.tmp 7), none⟩, ⟨some 38, .blds .ev 1 [(0, 2, (.tmp 37))], none⟩, ⟨some 39, .app .ev 16 (.tmp 36) (.tmp 38), none⟩, ⟨some 5, .mov (.tmp 39), none⟩])))) (.ops [⟨some 12, .mov (.tmp 6), none⟩, ⟨some 13, .bin .add (.tmp 12) (.const (.int .i64 1)), none⟩, ⟨some 6, .mov (.tmp 13), none⟩])))))) (.seq (.ops [⟨some 40, .mov (.tmp 5), none⟩, ⟨some 4, .mov (.tmp 40), none⟩]) .ret))))
@[reducible] def rv61 : List RV := [.tmp 4]
theorem low61 : lowC Try.prog tau Try.f61.ntmps (Try.f61.body.getD .skip) = some (erase ic61) := by kernel_rfl
theorem res61 : lowR Try.prog Try.f61.results.toList = some rv61 := by kernel_rfl
theorem bod61 : Try.f61.body = some (Try.f61.body.getD .skip) := by kernel_rfl
theorem cal61 : callable Try.prog 61 = true := by kernel_rfl

end Go.Proofs.YtiakjdcognckpaaE

/-! The code of a function, in the engine's words. -/
namespace Go.Proofs.YtiakjdcognckpaaE
open Go Go.RowKit
@[reducible] def ic31 : IC := (.seq (.ops [⟨some 2, .mov (.const (.slice none 0 0)), none⟩]) (.seq (.ops [⟨some 4, .mov (.tmp 0), none⟩, ⟨some 5, .call 60 [(.tmp 4)], none⟩, ⟨some 3, .mov (.tmp 5), none⟩]) (.seq (.ops [⟨some 6, .mov (.tmp 3), none⟩, ⟨some 7, .mov (.tmp 3), none⟩, ⟨some 8, .mov (.tmp 0), none⟩, ⟨some 9, .call 63 [(.tmp 8), (.const (.int .i64 20))], none⟩, ⟨some 10, .bin .mul (.const (.int .i64 6)) (.tmp 9), none⟩, ⟨some 11, .call 62 [(.tmp 7), (.tmp 10)], none⟩, ⟨some 12, .call 61 [(.tmp 6), (.tmp 11)], none⟩, ⟨some 2, .mov (.tmp 12), none⟩]) .ret)))
@[reducible] def rv31 : List RV := [.tmp 2]
theorem low31 : lowC Try.prog tau Try.f31.ntmps (Try.f31.body.getD .skip) = some (erase ic31) := by kernel_rfl
theorem res31 : lowR Try.prog Try.f31.results.toList = some rv31 := by kernel_rfl
theorem bod31 : Try.f31.body = some (Try.f31.body.getD .skip) := by kernel_rfl
theorem cal31 : callable Try.prog 31 = true := by kernel_rfl

end Go.Proofs.YtiakjdcognckpaaE

/-! The code of a function, in the engine's words. -/
namespace Go.Proofs.YtiakjdcognckpaaE
open Go Go.RowKit
@[reducible] def ic30 : IC := (.seq (.ops [⟨some 2, .mov (.const (.bool false)), none⟩]) (.seq (.ops [⟨some 3, .mov (.tmp 0), none⟩, ⟨some 4, .len (.tmp 3), none⟩, ⟨some 5, .bin .gtr (.tmp 4) (.const (.int .i64 1048576)), none⟩, ⟨some 2, .mov (.tmp 5), none⟩]) .ret))
@[reducible] def rv30 : List RV := [.tmp 2]
theorem low30 : lowC Try.prog tau Try.f30.ntmps (Try.f30.body.getD .skip) = some (erase ic30) := by kernel_rfl
theorem res30 : lowR Try.prog Try.f30.results.toList = some rv30 := by kernel_rfl
theorem bod30 : Try.f30.body = some (Try.f30.body.getD .skip) := by kernel_rfl
theorem cal30 : callable Try.prog 30 = true := by kernel_rfl

end Go.Proofs.YtiakjdcognckpaaE

/-! The code of a function, in the engine's words. -/
namespace Go.Proofs.YtiakjdcognckpaaE
open Go Go.RowKit
@[reducible] def ic60 : IC := (.seq (.ops [⟨some 2, .mov (.const (.pointer none)), none⟩]) (.seq (.ops [⟨some 5, .mov (.tmp 0), none⟩, ⟨some 6, .len (.tmp 5), none⟩, ⟨some 7, .bin .add (.const (.int .i64 71933)) (.tmp 6), none⟩, ⟨some 3, .mov (.tmp 7), none⟩]) (.seq (.seq (.ops [⟨some 4, .mov (.const (.int .i64 0)), none⟩]) (.block 0 (.loop (.seq (.seq (.ops [⟨some 8, .mov (.tmp 4), none⟩, ⟨some 9, .mov (.tmp 0), none⟩, ⟨some 10, .len (.tmp 9), none⟩, ⟨some 11, .bin .lss (.tmp 8) (.tmp 10), none⟩, ⟨some 12, .mov (.tmp 11), none⟩, ⟨some 13, .mov (.tmp 4), some (12, true)⟩, ⟨some 14, .bin .lss (.tmp 13) (.const (.int .i64 4000)), some (12, true)⟩, ⟨some 15, .pick (.tmp 12) (.tmp 14) (.const (.bool false)), none⟩]) (.cond (.tmp 15) .skip (.exit 0))) (.seq (.block 1 (.ops [⟨some 18, .mov (.tmp 3), none⟩, ⟨some 19, .bin .mul (.tmp 18) (.const (.int .i64 131)), none⟩, ⟨some 20, .mov (.tmp 0), none⟩, ⟨some 21, .mov (.tmp 4), none⟩, ⟨some 22, .iadr 1 (.tmp 20) (.tmp 21), none⟩, ⟨some 23, .load 1 false (.tmp 22), none⟩, ⟨some 24, .cvi .i64 (.tmp 23), none⟩, ⟨some 25, .bin .add (.tmp 19) (.tmp 24), none⟩, ⟨some 26, .bin .add (.tmp 25) (.const (.int .i64 7)), none⟩, ⟨some 27, .bin .and (.tmp 26) (.const (.int .i64 1073741823)), none⟩, ⟨some 3, .mov (.tmp 27), none⟩])) (.ops [⟨some 16, .mov (.tmp 4), none⟩, ⟨some 17, .bin .add (.tmp 16) (.const (.int .i64 1)), none⟩, ⟨some 4, .mov (.tmp 17), none⟩])))))) (.seq (.ops [⟨some 28, .mov (.tmp 0), none⟩, ⟨some 29, .mov (.tmp 3), none⟩, ⟨some 30, .bld [(.slice none 0 0), (.int .i64 0), (.int .i64 0)] [(0, 1, (.tmp 28)), (2, 1, (.tmp 29))], none⟩, ⟨some 31, .box (.tmp 30), none⟩, ⟨some 2, .mov (.tmp 31), none⟩]) .ret))))
@[reducible] def rv60 : List RV := [.tmp 2]
theorem low60 : lowC Try.prog tau Try.f60.ntmps (Try.f60.body.getD .skip) = some (erase ic60) := by kernel_rfl
theorem res60 : lowR Try.prog Try.f60.results.toList = some rv60 := by kernel_rfl
theorem bod60 : Try.f60.body = some (Try.f60.body.getD .skip) := by kernel_rfl
theorem cal60 : callable Try.prog 60 = true := by kernel_rfl

end Go.Proofs.YtiakjdcognckpaaE

/-! The code of a function, in the engine's words. -/
namespace Go.Proofs.YtiakjdcognckpaaE
open Go Go.RowKit
@[reducible] def ic62 : IC := (.seq (.ops [⟨some 4, .mov (.const (.int .i64 0)), none⟩]) (.seq (.seq (.ops [⟨some 9, .mov (.tmp 1), none⟩, ⟨some 10, .bin .leq (.tmp 9) (.const (.int .i64 0)), none⟩]) (.cond (.tmp 10) (.seq (.ops [⟨some 4, .mov (.const (.int .i64 0)), none⟩]) .ret) .skip)) (.seq (.seq (.ops [⟨some 11, .mov (.tmp 1), none⟩, ⟨some 12, .bin .leq (.tmp 11) (.const (.int .i64 256)), none⟩]) (.cond (.tmp 12) (.seq (.ops [⟨some 13, .mov (.tmp 0), none⟩, ⟨some 14, .call 77 [(.tmp 13)], none⟩, ⟨some 15, .mov (.tmp 1), none⟩, ⟨some 16, .bin .rem (.tmp 14) (.tmp 15), none⟩, ⟨some 4, .mov (.tmp 16), none⟩]) .ret) .skip)) (.seq (.ops [⟨some 17, .mov (.tmp 0), none⟩, ⟨some 18, .call 77 [(.tmp 17)], none⟩, ⟨some 5, .mov (.tmp 18), none⟩]) (.seq (.ops [⟨some 19, .mov (.tmp 0), none⟩, ⟨some 20, .call 77 [(.tmp 19)], none⟩, ⟨some 6, .mov (.tmp 20), none⟩]) (.seq (.ops [⟨some 21, .mov (.tmp 0), none⟩, ⟨some 22, .call 77 [(.tmp 21)], none⟩, ⟨some 7, .mov (.tmp 22), none⟩]) (.seq (.ops [⟨some 23, .mov (.tmp 0), none⟩, ⟨some 24, .call 77 [(.tmp 23)], none⟩, ⟨some 8, .mov (.tmp 24), none⟩]) (.seq (.ops [⟨some 25, .mov (.tmp 5), none⟩, ⟨some 26, .bin .mul (.tmp 25) (.const (.int .i64 16777216)), none⟩, ⟨some 27, .mov (.tmp 6), none⟩, ⟨some 28, .bin .mul (.tmp 27) (.const (.int .i64 65536)), none⟩, ⟨some 29, .bin .add (.tmp 26) (.tmp 28), none⟩, ⟨some 30, .mov (.tmp 7), none⟩, ⟨some 31, .bin .mul (.tmp 30) (.const (.int .i64 256)), none⟩, ⟨some 32, .bin .add (.tmp 29) (.tmp 31), none⟩, ⟨some 33, .mov (.tmp 8), none⟩, ⟨some 34, .bin .add (.tmp 32) (.tmp 33), none⟩, ⟨some 35, .mov (.tmp 1), none⟩, ⟨some 36, .bin .rem (.tmp 34) (.tmp 35), none⟩, ⟨some 4, .mov (.tmp 36), none⟩]) .ret))))))))
@[reducible] def rv62 : List RV := [.tmp 4]
theorem low62 : lowC Try.prog tau Try.f62.ntmps (Try.f62.body.getD .skip) = some (erase ic62) := by kernel_rfl
theorem res62 : lowR Try.prog Try.f62.results.toList = some rv62 := by kernel_rfl
theorem bod62 : Try.f62.body = some (Try.f62.body.getD .skip) := by kernel_rfl
theorem cal62 : callable Try.prog 62 = true := by kernel_rfl

end Go.Proofs.YtiakjdcognckpaaE

/-! The code of a function, in the engine's words. -/
namespace Go.Proofs.YtiakjdcognckpaaE
open Go Go.RowKit
@[reducible] def ic77 : IC := (.seq (.ops [⟨some 2, .mov (.const (.int .i64 0)), none⟩]) (.seq (.ops [⟨some 4, .mov (.tmp 0), none⟩, ⟨some 5, .mov (.tmp 0), none⟩, ⟨some 6, .nilc (.tmp 5), none⟩, ⟨some 7, .fadr 2 (.tmp 6), none⟩, ⟨some 8, .load 1 false (.tmp 7), none⟩, ⟨some 9, .bin .mul (.tmp 8) (.const (.int .i64 6364136223846793005)), none⟩, ⟨some 10, .bin .add (.tmp 9) (.const (.int .i64 1442695040888963407)), none⟩, ⟨some 11, .nilc (.tmp 4), none⟩, ⟨some 12, .fadr 2 (.tmp 11), none⟩, ⟨none, .store 1 (.tmp 12) (.tmp 10), none⟩]) (.seq (.draw [⟨some 13, .mov (.tmp 0), none⟩, ⟨some 14, .nilc (.tmp 13), none⟩, ⟨some 15, .fadr 2 (.tmp 14), none⟩, ⟨some 16, .load 1 false (.tmp 15), none⟩, ⟨some 17, .bin .shr (.tmp 16) (.const (.int .u64 33)), none⟩, ⟨some 18, .mov (.tmp 0), none⟩, ⟨some 19, .nilc (.tmp 18), none⟩, ⟨some 20, .fadr 2 (.tmp 19), none⟩, ⟨some 21, .load 1 false (.tmp 20), none⟩, ⟨some 22, .bin .shr (.tmp 21) (.const (.int .u64 45)), none⟩, ⟨some 23, .bin .xor (.tmp 17) (.tmp 22), none⟩, ⟨some 24, .bin .and (.tmp 23) (.const (.int .i64 255)), none⟩, ⟨some 3, .mov (.tmp 24), none⟩] (.held ⟨some 13, .mov (.tmp 0), none⟩ (.held ⟨some 14, .nilc (.tmp 13), none⟩ (.held ⟨some 15, .fadr 2 (.tmp 14), none⟩ (.held ⟨some 16, .load 1 false (.tmp 15), none⟩ (.held ⟨some 17, .bin .shr (.tmp 16) (.const (.int .u64 33)), none⟩ (.held ⟨some 18, .mov (.tmp 0), none⟩ (.held ⟨some 19, .nilc (.tmp 18), none⟩ (.held ⟨some 20, .fadr 2 (.tmp 19), none⟩ (.held ⟨some 21, .load 1 false (.tmp 20), none⟩ (.held ⟨some 22, .bin .shr (.tmp 21) (.const (.int .u64 45)), none⟩ (.held ⟨some 23, .bin .xor (.tmp 17) (.tmp 22), none⟩ (.held ⟨some 24, .bin .and (.tmp 23) (.const (.int .i64 255)), none⟩ (.held ⟨some 3, .mov (.tmp 24), none⟩ .done)))))))))))))) (.seq (.seq (.draw [⟨some 25, .mov (.tmp 0), none⟩, ⟨some 26, .nilc (.tmp 25), none⟩, ⟨some 27, .fadr 1 (.tmp 26), none⟩, ⟨some 28, .load 1 false (.tmp 27), none⟩, ⟨some 29, .mov (.tmp 0), none⟩, ⟨some 30, .nilc (.tmp 29), none⟩, ⟨some 31, .fadr 0 (.tmp 30), none⟩, ⟨some 32, .load 1 false (.tmp 31), none⟩, ⟨some 33, .len (.tmp 32), none⟩, ⟨some 34, .bin .lss (.tmp 28) (.tmp 33), none⟩] (.held ⟨some 25, .mov (.tmp 0), none⟩ (.held ⟨some 26, .nilc (.tmp 25), none⟩ (.held ⟨some 27, .fadr 1 (.tmp 26), none⟩ (.held ⟨some 28, .load 1 false (.tmp 27), none⟩ (.held ⟨some 29, .mov (.tmp 0), none⟩ (.held ⟨some 30, .nilc (.tmp 29), none⟩ (.held ⟨some 31, .fadr 0 (.tmp 30), none⟩ (.held ⟨some 32, .load 1 false (.tmp 31), none⟩ (.held ⟨some 33, .len (.tmp 32), none⟩ (.held ⟨some 34, .bin .lss (.tmp 28) (.tmp 33), none⟩ .done))))))))))) (.cond (.tmp 34) (.seq (.draw [⟨some 35, .mov (.tmp 3), none⟩, ⟨some 36, .mov (.tmp 0), none⟩, ⟨some 37, .nilc (.tmp 36), none⟩, ⟨some 38, .fadr 0 (.tmp 37), none⟩, ⟨some 39, .load 1 false (.tmp 38), none⟩, ⟨some 40, .mov (.tmp 0), none⟩, ⟨some 41, .nilc (.tmp 40), none⟩, ⟨some 42, .fadr 1 (.tmp 41), none⟩, ⟨some 43, .load 1 false (.tmp 42), none⟩, ⟨some 44, .iadr 1 (.tmp 39) (.tmp 43), none⟩, ⟨some 45, .load 1 false (.tmp 44), none⟩, ⟨some 46, .cvi .i64 (.tmp 45), none⟩, ⟨some 47, .bin .add (.tmp 35) (.tmp 46), none⟩, ⟨some 48, .bin .and (.tmp 47) (.const (.int .i64 255)), none⟩, ⟨some 3, .mov (.tmp 48), none⟩] (.held ⟨some 35, .mov (.tmp 3), none⟩ (.held ⟨some 36, .mov (.tmp 0), none⟩ (.held ⟨some 37, .nilc (.tmp 36), none⟩ (.held ⟨some 38, .fadr 0 (.tmp 37), none⟩ (.held ⟨some 39, .load 1 false (.tmp 38), none⟩ (.held ⟨some 40, .mov (.tmp 0), none⟩ (.held ⟨some 41, .nilc (.tmp 40), none⟩ (.held ⟨some 42, .fadr 1 (.tmp 41), none⟩ (.held ⟨some 43, .load 1 false (.tmp 42), none⟩ (.held ⟨some 44, .iadr 1 (.tmp 39) (.tmp 43), none⟩ (.held ⟨some 45, .load 1 false (.tmp 44), none⟩ (.held ⟨some 46, .cvi .i64 (.tmp 45), none⟩ (.held ⟨some 47, .bin .add (.tmp 35) (.tmp 46), none⟩ (.held ⟨some 48, .bin .and (.tmp 47) (.const (.int .i64 255)), none⟩ (.held ⟨some 3, .mov (.tmp 48), none⟩ .done)))))))))))))))) (.ops [⟨some 49, .mov (.tmp 0), none⟩, ⟨some 50, .mov (.tmp 0), none⟩, ⟨some 51, .nilc (.tmp 50), none⟩, ⟨some 52, .fadr 1 (.tmp 51), none⟩, ⟨some 53, .load 1 false (.tmp 52), none⟩, ⟨some 54, .bin .add (.tmp 53) (.const (.int .i64 1)), none⟩, ⟨some 55, .nilc (.tmp 49), none⟩, ⟨some 56, .fadr 1 (.tmp 55), none⟩, ⟨none, .store 1 (.tmp 56) (.tmp 54), none⟩])) .skip)) (.seq (.ops [⟨some 57, .mov (.tmp 3), none⟩, ⟨some 2, .mov (.tmp 57), none⟩]) .ret)))))
@[reducible] def rv77 : List RV := [.tmp 2]
theorem low77 : lowC Try.prog tau Try.f77.ntmps (Try.f77.body.getD .skip) = some (erase ic77) := by kernel_rfl
theorem res77 : lowR Try.prog Try.f77.results.toList = some rv77 := by kernel_rfl
theorem bod77 : Try.f77.body = some (Try.f77.body.getD .skip) := by kernel_rfl
theorem cal77 : callable Try.prog 77 = true := by kernel_rfl

end Go.Proofs.YtiakjdcognckpaaE

/-! The cursor over a draw: one byte, a number below another, a new cursor. -/
namespace Go.Proofs.YtiakjdcognckpaaE
open Go Go.RowKit
set_option linter.unusedSimpArgs false
set_option linter.unusedVariables false
set_option maxRecDepth 20000
set_option maxHeartbeats 4000000

def takeP : List AVal → List Nat
  | .ptr m _ :: _ => [m]
  | _ => []
theorem takeP_eq {m off : Nat} {r : List AVal} : takeP (.ptr m off :: r) = [m] := id rfl
/-- A cursor's three cells. -/
def cur (b : List Int) (i h : Int) : List AVal := [.rs .byte b, .v (.int .i64 i), .v (.int .i64 h)]
noncomputable def curH (h : Int) : Int := wr .i64 (wr .i64 (h * 6364136223846793005) + 1442695040888963407)
noncomputable def curX0 (h : Int) : Int := andV .i64 (xorV .i64 (shrV .i64 (curH h) 33) (shrV .i64 (curH h) 45)) 255
noncomputable def curX (b : List Int) (i h : Int) : Int := if i < b.length then andV .i64 (wr .i64 (curX0 h + wr .i64 (b.getD i.toNat 0))) 255 else curX0 h
def curI (b : List Int) (i : Int) : Int := if i < b.length then i + 1 else i
theorem curH_eq {h : Int} : curH h = wr .i64 (wr .i64 (h * 6364136223846793005) + 1442695040888963407) := id rfl
theorem curX0_eq {h : Int} : curX0 h = andV .i64 (xorV .i64 (shrV .i64 (curH h) 33) (shrV .i64 (curH h) 45)) 255 := id rfl
def spByte : Spec := ⟨fun _ => takeP, fun args objs K => match args, objs with
  | [.ptr 0 0], [.box [.rs .byte b, .v (.int .i64 i), .v (.int .i64 h)]] => (0 ≤ i ∧ i ≤ b.length ∧ b.length ≤ 1099511627776) ∧
      K (.v (.int .i64 (curX b i h))) [(0, .box [.rs .byte b, .v (.int .i64 (curI b i)), .v (.int .i64 (curH h))])] 1
  | _, _ => False, true⟩
theorem spByte_t {L : Hp} {a : List AVal} : Spec.take spByte L a = takeP a := id rfl
theorem spByte_k : Spec.keep spByte = true := id rfl
theorem spByte_f {b} {i} {h} {K : AVal → Hp → Nat → Prop} : Spec.f spByte ([.ptr 0 0]) ([.box [.rs .byte b, .v (.int .i64 i), .v (.int .i64 h)]]) K = ((0 ≤ i ∧ i ≤ b.length ∧ b.length ≤ 1099511627776) ∧
      K (.v (.int .i64 (curX b i h))) [(0, .box [.rs .byte b, .v (.int .i64 (curI b i)), .v (.int .i64 (curH h))])] 1) := id rfl
theorem valid77 : Valid Try.prog 77 spByte := by
  refine validI (Γ := lk []) Try.func77 bod77 low77 res77 (good_of trivial) ?_
  intro E args objs K h0 hE hG hP
  simp only [spByte] at h0
  split at h0
  · refine ⟨by simp [Try.ntmps77], ?_⟩
    rename_i b i h
    obtain ⟨⟨b1, b2, b3⟩, h0⟩ := h0
    have hw : wr .i64 (i + 1) = i + 1 := wrap_id (by omega) (by omega)
    by_cases hi : i < b.length
    · simp only [curX, curI, if_pos hi] at h0
      simp (config := { maxSteps := 2000000 }) only [go_sem, hG, hP, Nat.reduceEqDiff, ↓reduceIte, reduceCtorEq, Nat.reduceAdd, Nat.reduceSub, Nat.reduceMul, Nat.reduceLT, Nat.reduceLeDiff, Int.reduceAdd, Int.reduceSub, Int.reduceMul, Int.reduceLT, Int.reduceLE, Int.reduceEq, Int.reduceNeg, Int.reduceNe, Int.reduceGE, Int.reduceGT, Nat.reduceBEq, Int.reduceToNat,  hi, hw, ← curH_eq, ← curX0_eq]
      repeat (refine And.intro (by first | omega | (simp; done) | (simp; omega) | (unfold appRoom; omega)) ?_)
      refine ⟨_, _, _, ?_, h0⟩
      simp (config := { maxSteps := 2000000 }) only [go_sem, hG, hP, Nat.reduceEqDiff, ↓reduceIte, reduceCtorEq, Nat.reduceAdd, Nat.reduceSub, Nat.reduceMul, Nat.reduceLT, Nat.reduceLeDiff, Int.reduceAdd, Int.reduceSub, Int.reduceMul, Int.reduceLT, Int.reduceLE, Int.reduceEq, Int.reduceNeg, Int.reduceNe, Int.reduceGE, Int.reduceGT, Nat.reduceBEq, Int.reduceToNat]
      all_goals simp
    · simp only [curX, curI, if_neg hi] at h0
      simp (config := { maxSteps := 2000000 }) only [go_sem, hG, hP, Nat.reduceEqDiff, ↓reduceIte, reduceCtorEq, Nat.reduceAdd, Nat.reduceSub, Nat.reduceMul, Nat.reduceLT, Nat.reduceLeDiff, Int.reduceAdd, Int.reduceSub, Int.reduceMul, Int.reduceLT, Int.reduceLE, Int.reduceEq, Int.reduceNeg, Int.reduceNe, Int.reduceGE, Int.reduceGT, Nat.reduceBEq, Int.reduceToNat,  hi, ← curH_eq, ← curX0_eq]
      repeat (refine And.intro (by first | omega | (simp; done) | (simp; omega) | (unfold appRoom; omega)) ?_)
      refine ⟨_, _, _, ?_, h0⟩
      simp (config := { maxSteps := 2000000 }) only [go_sem, hG, hP, Nat.reduceEqDiff, ↓reduceIte, reduceCtorEq, Nat.reduceAdd, Nat.reduceSub, Nat.reduceMul, Nat.reduceLT, Nat.reduceLeDiff, Int.reduceAdd, Int.reduceSub, Int.reduceMul, Int.reduceLT, Int.reduceLE, Int.reduceEq, Int.reduceNeg, Int.reduceNe, Int.reduceGE, Int.reduceGT, Nat.reduceBEq, Int.reduceToNat]
      all_goals simp
  · exact h0.elim
theorem andV_255 (a : Int) : 0 ≤ andV .i64 a 255 ∧ andV .i64 a 255 ≤ 255 := by
  unfold andV
  have h : (BitVec.ofInt (IntKind.bits .i64) a &&& BitVec.ofInt (IntKind.bits .i64) 255).toNat ≤ 255 := by
    rw [BitVec.toNat_and]
    exact Nat.le_trans Nat.and_le_right (by decide)
  rw [wrap_id (by omega) (by omega)]
  omega
theorem curX_bd (b : List Int) (i h : Int) : 0 ≤ curX b i h ∧ curX b i h ≤ 255 := by
  unfold curX; split
  · exact andV_255 _
  · exact andV_255 _
theorem curI_bd {b : List Int} {i : Int} (h : 0 ≤ i ∧ i ≤ b.length) : 0 ≤ curI b i ∧ curI b i ≤ b.length := by
  unfold curI; split <;> omega
/-- The same, of which only the bounds are told. -/
def spByteA : Spec := ⟨fun _ => takeP, fun args objs K => match args, objs with
  | [.ptr 0 0], [.box [.rs .byte b, .v (.int .i64 i), .v (.int .i64 h)]] => (0 ≤ i ∧ i ≤ b.length ∧ b.length ≤ 1099511627776) ∧
      ∀ x i' h' : Int, (0 ≤ x ∧ x ≤ 255) ∧ (0 ≤ i' ∧ i' ≤ b.length) → K (.v (.int .i64 x)) [(0, .box [.rs .byte b, .v (.int .i64 i'), .v (.int .i64 h')])] 1
  | _, _ => False, true⟩
theorem spByteA_t {L : Hp} {a : List AVal} : Spec.take spByteA L a = takeP a := id rfl
theorem spByteA_k : Spec.keep spByteA = true := id rfl
theorem spByteA_f {b} {i} {h} {K : AVal → Hp → Nat → Prop} : Spec.f spByteA ([.ptr 0 0]) ([.box [.rs .byte b, .v (.int .i64 i), .v (.int .i64 h)]]) K = ((0 ≤ i ∧ i ≤ b.length ∧ b.length ≤ 1099511627776) ∧
      ∀ x i' h' : Int, (0 ≤ x ∧ x ≤ 255) ∧ (0 ≤ i' ∧ i' ≤ b.length) → K (.v (.int .i64 x)) [(0, .box [.rs .byte b, .v (.int .i64 i'), .v (.int .i64 h')])] 1) := id rfl
theorem valid77A : Valid Try.prog 77 spByteA := by
  intro W C ρ args vals objs K hd hp h
  refine valid77 W C ρ args vals objs K hd hp ?_
  simp only [spByteA] at h
  split at h
  · exact ⟨h.1, h.2 _ _ _ ⟨curX_bd _ _ _, curI_bd ⟨h.1.1, h.1.2.1⟩⟩⟩
  · exact h.elim
def spBelow : Spec := ⟨fun _ => takeP, fun args objs K => match args, objs with
  | [.ptr 0 0, .v (.int .i64 n)], [.box [.rs .byte b, .v (.int .i64 i), .v (.int .i64 h)]] => ((0 ≤ i ∧ i ≤ b.length ∧ b.length ≤ 1099511627776) ∧ n ≤ 256) ∧
      impK (n ≤ 0) (K (.v (.int .i64 0)) [(0, .box [.rs .byte b, .v (.int .i64 i), .v (.int .i64 h)])] 1) ∧
      impK (¬ n ≤ 0) (K (.v (.int .i64 ((curX b i h).tmod n))) [(0, .box [.rs .byte b, .v (.int .i64 (curI b i)), .v (.int .i64 (curH h))])] 1)
  | _, _ => False, true⟩
theorem spBelow_t {L : Hp} {a : List AVal} : Spec.take spBelow L a = takeP a := id rfl
theorem spBelow_k : Spec.keep spBelow = true := id rfl
theorem spBelow_f {n} {b} {i} {h} {K : AVal → Hp → Nat → Prop} : Spec.f spBelow ([.ptr 0 0, .v (.int .i64 n)]) ([.box [.rs .byte b, .v (.int .i64 i), .v (.int .i64 h)]]) K = (((0 ≤ i ∧ i ≤ b.length ∧ b.length ≤ 1099511627776) ∧ n ≤ 256) ∧
      impK (n ≤ 0) (K (.v (.int .i64 0)) [(0, .box [.rs .byte b, .v (.int .i64 i), .v (.int .i64 h)])] 1) ∧
      impK (¬ n ≤ 0) (K (.v (.int .i64 ((curX b i h).tmod n))) [(0, .box [.rs .byte b, .v (.int .i64 (curI b i)), .v (.int .i64 (curH h))])] 1)) := id rfl
theorem valid62 : Valid Try.prog 62 spBelow := by
  refine validI (Γ := lk [(77, spByte)]) Try.func62 bod62 low62 res62 (good_of ⟨⟨cal77, valid77⟩, trivial⟩) ?_
  intro E args objs K h0 hE hG hP
  simp only [spBelow] at h0
  split at h0
  · refine ⟨by simp [Try.ntmps62], ?_⟩
    rename_i n b i h
    obtain ⟨⟨⟨b1, b2, b3⟩, b4⟩, h1, h2⟩ := h0
    by_cases hn : n ≤ 0
    · simp (config := { maxSteps := 2000000 }) only [go_sem, hG, hP, Nat.reduceEqDiff, ↓reduceIte, reduceCtorEq, Nat.reduceAdd, Nat.reduceSub, Nat.reduceMul, Nat.reduceLT, Nat.reduceLeDiff, Int.reduceAdd, Int.reduceSub, Int.reduceMul, Int.reduceLT, Int.reduceLE, Int.reduceEq, Int.reduceNeg, Int.reduceNe, Int.reduceGE, Int.reduceGT, Nat.reduceBEq, Int.reduceToNat,  spByte_f, spByte_t, spByte_k, takeP_eq, hn]
      refine ⟨_, _, _, ?_, h1 hn⟩
      simp (config := { maxSteps := 2000000 }) only [go_sem, hG, hP, Nat.reduceEqDiff, ↓reduceIte, reduceCtorEq, Nat.reduceAdd, Nat.reduceSub, Nat.reduceMul, Nat.reduceLT, Nat.reduceLeDiff, Int.reduceAdd, Int.reduceSub, Int.reduceMul, Int.reduceLT, Int.reduceLE, Int.reduceEq, Int.reduceNeg, Int.reduceNe, Int.reduceGE, Int.reduceGT, Nat.reduceBEq, Int.reduceToNat]
      all_goals simp
    · simp (config := { maxSteps := 2000000 }) only [go_sem, hG, hP, Nat.reduceEqDiff, ↓reduceIte, reduceCtorEq, Nat.reduceAdd, Nat.reduceSub, Nat.reduceMul, Nat.reduceLT, Nat.reduceLeDiff, Int.reduceAdd, Int.reduceSub, Int.reduceMul, Int.reduceLT, Int.reduceLE, Int.reduceEq, Int.reduceNeg, Int.reduceNe, Int.reduceGE, Int.reduceGT, Nat.reduceBEq, Int.reduceToNat,  spByte_f, spByte_t, spByte_k, takeP_eq, hn, b4]
      repeat (refine And.intro (by first | omega | (simp; done) | (simp; omega) | (unfold appRoom; omega)) ?_)
      refine ⟨_, _, _, ?_, h2 hn⟩
      simp (config := { maxSteps := 2000000 }) only [go_sem, hG, hP, Nat.reduceEqDiff, ↓reduceIte, reduceCtorEq, Nat.reduceAdd, Nat.reduceSub, Nat.reduceMul, Nat.reduceLT, Nat.reduceLeDiff, Int.reduceAdd, Int.reduceSub, Int.reduceMul, Int.reduceLT, Int.reduceLE, Int.reduceEq, Int.reduceNeg, Int.reduceNe, Int.reduceGE, Int.reduceGT, Nat.reduceBEq, Int.reduceToNat]
      all_goals simp
  · exact h0.elim
noncomputable def hashN (code : List Int) : Nat → Int
  | 0 => wr .i64 (71933 + (code.length : Int))
  | k + 1 => andV .i64 (wr .i64 (wr .i64 (wr .i64 (hashN code k * 131) + wr .i64 (code.getD k 0)) + 7)) 1073741823
def spNew : Spec := ⟨fun _ _ => [], fun args objs K => match args, objs with
  | [.rs .byte code], [] => code.length ≤ 1099511627776 ∧ K (.ptr 0 0) [(0, .box [.rs .byte code, .v (.int .i64 0), .v (.int .i64 (hashN code (min code.length 4000)))])] 1
  | _, _ => False, true⟩
theorem spNew_t {L : Hp} {a : List AVal} : Spec.take spNew L a = [] := id rfl
theorem spNew_k : Spec.keep spNew = true := id rfl
theorem spNew_f {code} {K : AVal → Hp → Nat → Prop} : Spec.f spNew ([.rs .byte code]) ([]) K = (code.length ≤ 1099511627776 ∧ K (.ptr 0 0) [(0, .box [.rs .byte code, .v (.int .i64 0), .v (.int .i64 (hashN code (min code.length 4000)))])] 1) := id rfl
theorem valid60 : Valid Try.prog 60 spNew := by
  refine validI (Γ := lk []) Try.func60 bod60 low60 res60 (good_of trivial) ?_
  intro E args objs K h hE hG hP
  simp only [spNew] at h
  split at h
  · refine ⟨by simp [Try.ntmps60], ?_⟩
    rename_i code
    obtain ⟨b1, h⟩ := h
    simp (config := { maxSteps := 2000000 }) only [go_sem, hG, hP, Nat.reduceEqDiff, ↓reduceIte, reduceCtorEq, Nat.reduceAdd, Nat.reduceSub, Nat.reduceMul, Nat.reduceLT, Nat.reduceLeDiff, Int.reduceAdd, Int.reduceSub, Int.reduceMul, Int.reduceLT, Int.reduceLE, Int.reduceEq, Int.reduceNeg, Int.reduceNe, Int.reduceGE, Int.reduceGT, Nat.reduceBEq, Int.reduceToNat]
    refine loopI hE (fun k : Nat => ⟨[(0, .rs .byte code), (2, .v (.pointer none)), (3, .v (.int .i64 (hashN code k))), (4, .v (.int .i64 k))], [], 0, Try.f60.ntmps⟩) (fun k => k ≤ min code.length 4000) (fun k => code.length - k) ⟨0, Nat.zero_le _, SubS.weak ?_⟩ ?_
    · simp (config := { maxSteps := 2000000 }) only [go_sem, hG, hP, Nat.reduceEqDiff, ↓reduceIte, reduceCtorEq, Nat.reduceAdd, Nat.reduceSub, Nat.reduceMul, Nat.reduceLT, Nat.reduceLeDiff, Int.reduceAdd, Int.reduceSub, Int.reduceMul, Int.reduceLT, Int.reduceLE, Int.reduceEq, Int.reduceNeg, Int.reduceNe, Int.reduceGE, Int.reduceGT, Nat.reduceBEq, Int.reduceToNat,  hashN]
      all_goals (first | simp | (with_reducible rfl))
    · intro k hk
      by_cases hk2 : k < min code.length 4000
      · have e1 : ((k : Int) < code.length) = True := by apply eq_true; omega
        have e2 : ((k : Int) < 4000) = True := by apply eq_true; omega
        simp (config := { maxSteps := 2000000 }) only [go_sem, hG, hP, Nat.reduceEqDiff, ↓reduceIte, reduceCtorEq, Nat.reduceAdd, Nat.reduceSub, Nat.reduceMul, Nat.reduceLT, Nat.reduceLeDiff, Int.reduceAdd, Int.reduceSub, Int.reduceMul, Int.reduceLT, Int.reduceLE, Int.reduceEq, Int.reduceNeg, Int.reduceNe, Int.reduceGE, Int.reduceGT, Nat.reduceBEq, Int.reduceToNat,  e1, e2]
        (try simp (disch := omega) only [wrap_id])
        repeat (refine And.intro (by first | omega | (simp; done) | (simp; omega) | (unfold appRoom; omega)) ?_)
        refine ⟨k + 1, ⟨by omega, by omega⟩, SubS.weak ?_⟩
        simp (config := { maxSteps := 2000000 }) only [go_sem, hG, hP, Nat.reduceEqDiff, ↓reduceIte, reduceCtorEq, Nat.reduceAdd, Nat.reduceSub, Nat.reduceMul, Nat.reduceLT, Nat.reduceLeDiff, Int.reduceAdd, Int.reduceSub, Int.reduceMul, Int.reduceLT, Int.reduceLE, Int.reduceEq, Int.reduceNeg, Int.reduceNe, Int.reduceGE, Int.reduceGT, Nat.reduceBEq, Int.reduceToNat,  hashN]
        all_goals simp
      · have hk3 : k = min code.length 4000 := by omega
        by_cases e1 : (k : Int) < code.length
        · have e2 : ((k : Int) < 4000) = False := by apply eq_false; omega
          simp (config := { maxSteps := 2000000 }) only [go_sem, hG, hP, Nat.reduceEqDiff, ↓reduceIte, reduceCtorEq, Nat.reduceAdd, Nat.reduceSub, Nat.reduceMul, Nat.reduceLT, Nat.reduceLeDiff, Int.reduceAdd, Int.reduceSub, Int.reduceMul, Int.reduceLT, Int.reduceLE, Int.reduceEq, Int.reduceNeg, Int.reduceNe, Int.reduceGE, Int.reduceGT, Nat.reduceBEq, Int.reduceToNat,  e1, e2]
          rw [← hk3] at h
          refine ⟨_, _, _, ?_, h⟩
          simp (config := { maxSteps := 2000000 }) only [go_sem, hG, hP, Nat.reduceEqDiff, ↓reduceIte, reduceCtorEq, Nat.reduceAdd, Nat.reduceSub, Nat.reduceMul, Nat.reduceLT, Nat.reduceLeDiff, Int.reduceAdd, Int.reduceSub, Int.reduceMul, Int.reduceLT, Int.reduceLE, Int.reduceEq, Int.reduceNeg, Int.reduceNe, Int.reduceGE, Int.reduceGT, Nat.reduceBEq, Int.reduceToNat]
          all_goals simp
        · simp (config := { maxSteps := 2000000 }) only [go_sem, hG, hP, Nat.reduceEqDiff, ↓reduceIte, reduceCtorEq, Nat.reduceAdd, Nat.reduceSub, Nat.reduceMul, Nat.reduceLT, Nat.reduceLeDiff, Int.reduceAdd, Int.reduceSub, Int.reduceMul, Int.reduceLT, Int.reduceLE, Int.reduceEq, Int.reduceNeg, Int.reduceNe, Int.reduceGE, Int.reduceGT, Nat.reduceBEq, Int.reduceToNat,  e1]
          rw [← hk3] at h
          refine ⟨_, _, _, ?_, h⟩
          simp (config := { maxSteps := 2000000 }) only [go_sem, hG, hP, Nat.reduceEqDiff, ↓reduceIte, reduceCtorEq, Nat.reduceAdd, Nat.reduceSub, Nat.reduceMul, Nat.reduceLT, Nat.reduceLeDiff, Int.reduceAdd, Int.reduceSub, Int.reduceMul, Int.reduceLT, Int.reduceLE, Int.reduceEq, Int.reduceNeg, Int.reduceNe, Int.reduceGE, Int.reduceGT, Nat.reduceBEq, Int.reduceToNat]
          all_goals simp
  · exact h.elim
noncomputable def pickV (l : List Int) (x : Int) : Int := l.getD (x.tmod l.length).toNat 0
theorem pickV_eq {l : List Int} {x : Int} : l.getD (x.tmod l.length).toNat 0 = pickV l x := id rfl
def takePR : List AVal → List Nat
  | .ptr m _ :: .sub r _ _ _ :: _ => [m, r]
  | _ => []
theorem takePR_eq {m off k z lo n : Nat} {r : List AVal} : takePR (.ptr m off :: .sub k z lo n :: r) = [m, k] := id rfl
def spPick : Spec := ⟨fun _ => takePR, fun args objs K => match args, objs with
  | [.ptr 0 0, .sub 1 1 0 n], [.box [.rs .byte b, .v (.int .i64 i), .v (.int .i64 h)], .row .int l] => ((0 ≤ i ∧ i ≤ b.length ∧ b.length ≤ 1099511627776) ∧ n = l.length ∧ 0 < l.length ∧ l.length ≤ 256) ∧
      K (.v (.int .i64 (pickV l (curX b i h)))) [(0, .box [.rs .byte b, .v (.int .i64 (curI b i)), .v (.int .i64 (curH h))]), (1, .row .int l)] 2
  | _, _ => False, true⟩
theorem spPick_t {L : Hp} {a : List AVal} : Spec.take spPick L a = takePR a := id rfl
theorem spPick_k : Spec.keep spPick = true := id rfl
theorem spPick_f {n} {b} {i} {h} {l} {K : AVal → Hp → Nat → Prop} : Spec.f spPick ([.ptr 0 0, .sub 1 1 0 n]) ([.box [.rs .byte b, .v (.int .i64 i), .v (.int .i64 h)], .row .int l]) K = (((0 ≤ i ∧ i ≤ b.length ∧ b.length ≤ 1099511627776) ∧ n = l.length ∧ 0 < l.length ∧ l.length ≤ 256) ∧
      K (.v (.int .i64 (pickV l (curX b i h)))) [(0, .box [.rs .byte b, .v (.int .i64 (curI b i)), .v (.int .i64 (curH h))]), (1, .row .int l)] 2) := id rfl
theorem valid76 : Valid Try.prog 76 spPick := by
  refine validI (Γ := lk [(62, spBelow)]) Try.func76 bod76 low76 res76 (good_of ⟨⟨cal62, valid62⟩, trivial⟩) ?_
  intro E args objs K h0 hE hG hP
  simp only [spPick] at h0
  split at h0
  · refine ⟨by simp [Try.ntmps76], ?_⟩
    rename_i n b i h l
    obtain ⟨⟨⟨b1, b2, b3⟩, rfl, b4, b5⟩, h0⟩ := h0
    have hn : ((l.length : Int) ≤ 0) = False := by apply eq_false; omega
    have hx := curX_bd b i h
    have hm1 : 0 ≤ (curX b i h).tmod l.length := Int.tmod_nonneg _ hx.1
    have hm2 : (curX b i h).tmod l.length < l.length := Int.tmod_lt_of_pos _ (by omega)
    simp (config := { maxSteps := 2000000 }) only [go_sem, hG, hP, Nat.reduceEqDiff, ↓reduceIte, reduceCtorEq, Nat.reduceAdd, Nat.reduceSub, Nat.reduceMul, Nat.reduceLT, Nat.reduceLeDiff, Int.reduceAdd, Int.reduceSub, Int.reduceMul, Int.reduceLT, Int.reduceLE, Int.reduceEq, Int.reduceNeg, Int.reduceNe, Int.reduceGE, Int.reduceGT, Nat.reduceBEq, Int.reduceToNat,  spBelow_f, spBelow_t, spBelow_k, takeP_eq, hn, pickV_eq]
    repeat (refine And.intro (by first | omega | (simp; done) | (simp; omega) | (unfold appRoom; omega)) ?_)
    refine ⟨_, _, _, ?_, h0⟩
    simp (config := { maxSteps := 2000000 }) only [go_sem, hG, hP, Nat.reduceEqDiff, ↓reduceIte, reduceCtorEq, Nat.reduceAdd, Nat.reduceSub, Nat.reduceMul, Nat.reduceLT, Nat.reduceLeDiff, Int.reduceAdd, Int.reduceSub, Int.reduceMul, Int.reduceLT, Int.reduceLE, Int.reduceEq, Int.reduceNeg, Int.reduceNe, Int.reduceGE, Int.reduceGT, Nat.reduceBEq, Int.reduceToNat]
    all_goals simp
  · exact h0.elim
def sizeV (n : Nat) (m : Int) : Int := if 2 + (n : Int).tdiv 20 > m then m else 2 + (n : Int).tdiv 20
def spSize : Spec := ⟨fun _ _ => [], fun args objs K => match args, objs with
  | [.rs .byte b, .v (.int .i64 m)], [] => b.length ≤ 1099511627776 ∧ K (.v (.int .i64 (sizeV b.length m))) [] 0
  | _, _ => False, false⟩
theorem spSize_t {L : Hp} {a : List AVal} : Spec.take spSize L a = [] := id rfl
theorem spSize_k : Spec.keep spSize = false := id rfl
theorem spSize_f {b} {m} {K : AVal → Hp → Nat → Prop} : Spec.f spSize ([.rs .byte b, .v (.int .i64 m)]) ([]) K = (b.length ≤ 1099511627776 ∧ K (.v (.int .i64 (sizeV b.length m))) [] 0) := id rfl
theorem valid63 : Valid Try.prog 63 spSize := by
  refine validI (Γ := lk []) Try.func63 bod63 low63 res63 (good_of trivial) ?_
  intro E args objs K h hE hG hP
  simp only [spSize, sizeV] at h
  split at h
  · refine ⟨by simp [Try.ntmps63], ?_⟩
    rename_i b m
    obtain ⟨b1, h⟩ := h
    have e1 : wr .i64 ((b.length : Int).tdiv 20) = (b.length : Int).tdiv 20 := wrap_id (by rw [Int.tdiv_eq_ediv_of_nonneg (by omega)]; omega) (by rw [Int.tdiv_eq_ediv_of_nonneg (by omega)]; omega)
    have e2 : wr .i64 (2 + (b.length : Int).tdiv 20) = 2 + (b.length : Int).tdiv 20 := wrap_id (by rw [Int.tdiv_eq_ediv_of_nonneg (by omega)]; omega) (by rw [Int.tdiv_eq_ediv_of_nonneg (by omega)]; omega)
    simp (config := { maxSteps := 2000000 }) only [go_sem, hG, hP, Nat.reduceEqDiff, ↓reduceIte, reduceCtorEq, Nat.reduceAdd, Nat.reduceSub, Nat.reduceMul, Nat.reduceLT, Nat.reduceLeDiff, Int.reduceAdd, Int.reduceSub, Int.reduceMul, Int.reduceLT, Int.reduceLE, Int.reduceEq, Int.reduceNeg, Int.reduceNe, Int.reduceGE, Int.reduceGT, Nat.reduceBEq, Int.reduceToNat,  e1, e2]
    repeat (refine And.intro (by first | omega | (simp; done) | (simp; omega) | (unfold appRoom; omega)) ?_)
    refine ⟨fun h1 => ⟨_, _, _, ?_, h⟩, fun h1 => ⟨_, _, _, ?_, h⟩⟩
    · simp (config := { maxSteps := 2000000 }) only [go_sem, hG, hP, Nat.reduceEqDiff, ↓reduceIte, reduceCtorEq, Nat.reduceAdd, Nat.reduceSub, Nat.reduceMul, Nat.reduceLT, Nat.reduceLeDiff, Int.reduceAdd, Int.reduceSub, Int.reduceMul, Int.reduceLT, Int.reduceLE, Int.reduceEq, Int.reduceNeg, Int.reduceNe, Int.reduceGE, Int.reduceGT, Nat.reduceBEq, Int.reduceToNat]
      rw [if_pos h1]
    · simp (config := { maxSteps := 2000000 }) only [go_sem, hG, hP, Nat.reduceEqDiff, ↓reduceIte, reduceCtorEq, Nat.reduceAdd, Nat.reduceSub, Nat.reduceMul, Nat.reduceLT, Nat.reduceLeDiff, Int.reduceAdd, Int.reduceSub, Int.reduceMul, Int.reduceLT, Int.reduceLE, Int.reduceEq, Int.reduceNeg, Int.reduceNe, Int.reduceGE, Int.reduceGT, Nat.reduceBEq, Int.reduceToNat]
      rw [if_neg h1]
  · exact h.elim
def spBig : Spec := ⟨fun _ _ => [], fun args objs K => match args, objs with
  | [.rs .byte b], [] => K (.v (.bool (decide ((b.length : Int) > 1048576)))) [] 0
  | _, _ => False, false⟩
theorem spBig_t {L : Hp} {a : List AVal} : Spec.take spBig L a = [] := id rfl
theorem spBig_k : Spec.keep spBig = false := id rfl
theorem spBig_f {b} {K : AVal → Hp → Nat → Prop} : Spec.f spBig ([.rs .byte b]) ([]) K = (K (.v (.bool (decide ((b.length : Int) > 1048576)))) [] 0) := id rfl
theorem valid30 : Valid Try.prog 30 spBig := by
  refine validI (Γ := lk []) Try.func30 bod30 low30 res30 (good_of trivial) ?_
  intro E args objs K h hE hG hP
  simp only [spBig] at h
  split at h
  · refine ⟨by simp [Try.ntmps30], ?_⟩
    simp (config := { maxSteps := 2000000 }) only [go_sem, hG, hP, Nat.reduceEqDiff, ↓reduceIte, reduceCtorEq, Nat.reduceAdd, Nat.reduceSub, Nat.reduceMul, Nat.reduceLT, Nat.reduceLeDiff, Int.reduceAdd, Int.reduceSub, Int.reduceMul, Int.reduceLT, Int.reduceLE, Int.reduceEq, Int.reduceNeg, Int.reduceNe, Int.reduceGE, Int.reduceGT, Nat.reduceBEq, Int.reduceToNat]
    refine ⟨_, _, _, ?_, h⟩
    simp (config := { maxSteps := 2000000 }) only [go_sem, hG, hP, Nat.reduceEqDiff, ↓reduceIte, reduceCtorEq, Nat.reduceAdd, Nat.reduceSub, Nat.reduceMul, Nat.reduceLT, Nat.reduceLeDiff, Int.reduceAdd, Int.reduceSub, Int.reduceMul, Int.reduceLT, Int.reduceLE, Int.reduceEq, Int.reduceNeg, Int.reduceNe, Int.reduceGE, Int.reduceGT, Nat.reduceBEq, Int.reduceToNat]
  · exact h.elim
end Go.Proofs.YtiakjdcognckpaaE

/-! A day's events are drawn. -/
namespace Go.Proofs.YtiakjdcognckpaaE
open Go Go.RowKit
set_option linter.unusedSimpArgs false
set_option linter.unusedVariables false
set_option maxRecDepth 20000
set_option maxHeartbeats 4000000

def picks : List Int := [1, 1, 2, 2, 3, 4, 4, 5, 5, 5, 5, 5, 6, 7]
noncomputable def kindV (x : Int) : Int := pickV picks x
theorem kindV_bd {x : Int} (h : 0 ≤ x) : kindV x = 1 ∨ kindV x = 2 ∨ kindV x = 3 ∨ kindV x = 4 ∨ kindV x = 5 ∨ kindV x = 6 ∨ kindV x = 7 := by
  have h1 : 0 ≤ x.tmod 14 := Int.tmod_nonneg _ h
  have h2 : x.tmod 14 < 14 := Int.tmod_lt_of_pos _ (by omega)
  obtain ⟨m, hm⟩ : ∃ m : Nat, x.tmod 14 = m := ⟨(x.tmod 14).toNat, by omega⟩
  have e : kindV x = picks.getD m 0 := by
    show picks.getD (x.tmod (14 : Nat)).toNat 0 = _
    rw [show ((14 : Nat) : Int) = 14 from rfl, hm, Int.toNat_natCast]
  have hm2 : m = 0 ∨ m = 1 ∨ m = 2 ∨ m = 3 ∨ m = 4 ∨ m = 5 ∨ m = 6 ∨ m = 7 ∨ m = 8 ∨ m = 9 ∨ m = 10 ∨ m = 11 ∨ m = 12 ∨ m = 13 := by omega
  rw [e]
  rcases hm2 with rfl | rfl | rfl | rfl | rfl | rfl | rfl | rfl | rfl | rfl | rfl | rfl | rfl | rfl <;> simp [picks]
def spPickD : Spec := ⟨fun _ => takePR, fun args objs K => match args, objs with
  | [.ptr 0 0, .sub 1 1 0 n], [.box [.rs .byte b, .v (.int .i64 i), .v (.int .i64 h)], .row .int l] => ((0 ≤ i ∧ i ≤ b.length ∧ b.length ≤ 1099511627776) ∧ n = l.length ∧ l = picks) ∧
      K (.v (.int .i64 (kindV (curX b i h)))) [(0, .box [.rs .byte b, .v (.int .i64 (curI b i)), .v (.int .i64 (curH h))]), (1, .row .int l)] 2
  | _, _ => False, true⟩
theorem spPickD_t {L : Hp} {a : List AVal} : Spec.take spPickD L a = takePR a := id rfl
theorem spPickD_k : Spec.keep spPickD = true := id rfl
theorem spPickD_f {n} {b} {i} {h} {l} {K : AVal → Hp → Nat → Prop} : Spec.f spPickD ([.ptr 0 0, .sub 1 1 0 n]) ([.box [.rs .byte b, .v (.int .i64 i), .v (.int .i64 h)], .row .int l]) K = (((0 ≤ i ∧ i ≤ b.length ∧ b.length ≤ 1099511627776) ∧ n = l.length ∧ l = picks) ∧
      K (.v (.int .i64 (kindV (curX b i h)))) [(0, .box [.rs .byte b, .v (.int .i64 (curI b i)), .v (.int .i64 (curH h))]), (1, .row .int l)] 2) := id rfl
theorem valid76D : Valid Try.prog 76 spPickD := by
  intro W C ρ args vals objs K hd hp h
  refine valid76 W C ρ args vals objs K hd hp ?_
  simp only [spPickD] at h
  split at h
  · obtain ⟨⟨h1, h2, h3⟩, h4⟩ := h
    subst h3
    exact ⟨⟨h1, h2, by decide, by decide⟩, h4⟩
  · exact h.elim
noncomputable def dayStep (b : List Int) (i h : Int) : Ev × Int × Int :=
  if kindV (curX b i h) = 3 ∨ kindV (curX b i h) = 4 then (⟨kindV (curX b i h), (curX b (curI b i) (curH h)).tmod 2⟩, curI b (curI b i), curH (curH h))
  else if kindV (curX b i h) = 5 ∨ kindV (curX b i h) = 6 ∨ kindV (curX b i h) = 7 then
    (⟨kindV (curX b i h), wr .i64 ((curX b (curI b i) (curH h)).tmod 4 * (curX b (curI b (curI b i)) (curH (curH h))).tmod 2)⟩, curI b (curI b (curI b i)), curH (curH (curH h)))
  else (⟨kindV (curX b i h), 0⟩, curI b i, curH h)
theorem dayStep_bd {b : List Int} {i h : Int} (hb : 0 ≤ i ∧ i ≤ b.length) : 0 ≤ (dayStep b i h).2.1 ∧ (dayStep b i h).2.1 ≤ b.length := by
  have h1 := curI_bd hb
  have h2 := curI_bd h1
  have h3 := curI_bd h2
  unfold dayStep
  split
  · exact h2
  · split
    · exact h3
    · exact h1
noncomputable def dayR (b : List Int) (i h : Int) : Nat → List Ev × Int × Int
  | 0 => ([], i, h)
  | n + 1 => ((dayR b i h n).1 ++ [(dayStep b (dayR b i h n).2.1 (dayR b i h n).2.2).1], (dayStep b (dayR b i h n).2.1 (dayR b i h n).2.2).2.1, (dayStep b (dayR b i h n).2.1 (dayR b i h n).2.2).2.2)
theorem dayR_succ {b : List Int} {i h : Int} {n : Nat} : dayR b i h (n + 1) = ((dayR b i h n).1 ++ [(dayStep b (dayR b i h n).2.1 (dayR b i h n).2.2).1], (dayStep b (dayR b i h n).2.1 (dayR b i h n).2.2).2.1, (dayStep b (dayR b i h n).2.1 (dayR b i h n).2.2).2.2) := rfl
theorem dayR_len {b : List Int} {i h : Int} : ∀ n, (dayR b i h n).1.length = n
  | 0 => rfl
  | n + 1 => by rw [dayR_succ]; simp [dayR_len n]
def spEvents : Spec := ⟨fun _ => takeP, fun args objs K => match args, objs with
  | [.ptr 0 0, .v (.int .i64 n)], [.box [.rs .byte b, .v (.int .i64 i), .v (.int .i64 h)]] => ((0 ≤ i ∧ i ≤ b.length ∧ b.length ≤ 1099511627776) ∧ 0 ≤ n ∧ n ≤ 1000) ∧
      K (.sub 1 2 0 (dayR b i h n.toNat).1.length) [(0, .box [.rs .byte b, .v (.int .i64 (dayR b i h n.toNat).2.1), .v (.int .i64 (dayR b i h n.toNat).2.2)]), (1, .row .ev (dayR b i h n.toNat).1)] 2
  | _, _ => False, true⟩
theorem spEvents_t {L : Hp} {a : List AVal} : Spec.take spEvents L a = takeP a := id rfl
theorem spEvents_k : Spec.keep spEvents = true := id rfl
theorem spEvents_f {n} {b} {i} {h} {K : AVal → Hp → Nat → Prop} : Spec.f spEvents ([.ptr 0 0, .v (.int .i64 n)]) ([.box [.rs .byte b, .v (.int .i64 i), .v (.int .i64 h)]]) K = (((0 ≤ i ∧ i ≤ b.length ∧ b.length ≤ 1099511627776) ∧ 0 ≤ n ∧ n ≤ 1000) ∧
      K (.sub 1 2 0 (dayR b i h n.toNat).1.length) [(0, .box [.rs .byte b, .v (.int .i64 (dayR b i h n.toNat).2.1), .v (.int .i64 (dayR b i h n.toNat).2.2)]), (1, .row .ev (dayR b i h n.toNat).1)] 2) := id rfl
theorem valid61 : Valid Try.prog 61 spEvents := by
  refine validI (Γ := lk [(62, spBelow), (76, spPickD)]) Try.func61 bod61 low61 res61 (good_of ⟨⟨cal62, valid62⟩, ⟨cal76, valid76D⟩, trivial⟩) ?_
  intro E args objs K hh hE hG hP
  simp only [spEvents] at hh
  split at hh
  · refine ⟨by simp [Try.ntmps61], ?_⟩
    rename_i n b i0 h0
    obtain ⟨⟨⟨b1, b2, b3⟩, b4, b5⟩, hh⟩ := hh
    obtain ⟨m, rfl⟩ : ∃ m : Nat, n = m := ⟨n.toNat, by omega⟩
    rw [Int.toNat_natCast] at hh
    simp (config := { maxSteps := 2000000 }) only [go_sem, hG, hP, Nat.reduceEqDiff, ↓reduceIte, reduceCtorEq, Nat.reduceAdd, Nat.reduceSub, Nat.reduceMul, Nat.reduceLT, Nat.reduceLeDiff, Int.reduceAdd, Int.reduceSub, Int.reduceMul, Int.reduceLT, Int.reduceLE, Int.reduceEq, Int.reduceNeg, Int.reduceNe, Int.reduceGE, Int.reduceGT, Nat.reduceBEq, Int.reduceToNat]
    repeat (refine And.intro (by first | omega | (simp; done) | (simp; omega) | (unfold appRoom; omega)) ?_)
    refine loopI hE (fun p : Nat × List Ev × Int × Int => ⟨[(0, .ptr 0 0), (1, .v (.int .i64 m)), (5, .sub 1 2 0 p.2.1.length), (6, .v (.int .i64 p.1))], [(0, .box [.rs .byte b, .v (.int .i64 p.2.2.1), .v (.int .i64 p.2.2.2)]), (1, .row .ev p.2.1)], 2, Try.f61.ntmps⟩) (fun p => p.1 ≤ m ∧ p.2 = dayR b i0 h0 p.1 ∧ p.2.1.length = p.1 ∧ (0 ≤ p.2.2.1 ∧ p.2.2.1 ≤ b.length)) (fun p => m - p.1) ⟨(0, [], i0, h0), ⟨Nat.zero_le _, rfl, rfl, b1, b2⟩, SubS.weak ?_⟩ ?_
    · simp (config := { maxSteps := 2000000 }) only [go_sem, hG, hP, Nat.reduceEqDiff, ↓reduceIte, reduceCtorEq, Nat.reduceAdd, Nat.reduceSub, Nat.reduceMul, Nat.reduceLT, Nat.reduceLeDiff, Int.reduceAdd, Int.reduceSub, Int.reduceMul, Int.reduceLT, Int.reduceLE, Int.reduceEq, Int.reduceNeg, Int.reduceNe, Int.reduceGE, Int.reduceGT, Nat.reduceBEq, Int.reduceToNat]
      all_goals simp
    · rintro ⟨j, l, i, h⟩ ⟨hj, hr, hlen, hb⟩
      dsimp only at hj hr hlen hb
      have hx := curX_bd b i h
      have n2 : ((2 : Int) ≤ 0) = False := by decide
      have n4 : ((4 : Int) ≤ 0) = False := by decide
      have m2 : ((2 : Int) ≤ 256) = True := by decide
      have m4 : ((4 : Int) ≤ 256) = True := by decide
      have hb1 := curI_bd hb
      have hb2 := curI_bd hb1
      by_cases hlt : (j : Int) < (m : Int)
      · have hlte := eq_true hlt
        rcases kindV_bd hx.1 with hkd | hkd | hkd | hkd | hkd | hkd | hkd
        · have hke : kindV (curX b i h) = 1 := hkd
          simp (config := { maxSteps := 2000000 }) only [go_sem, hG, hP, Nat.reduceEqDiff, ↓reduceIte, reduceCtorEq, Nat.reduceAdd, Nat.reduceSub, Nat.reduceMul, Nat.reduceLT, Nat.reduceLeDiff, Int.reduceAdd, Int.reduceSub, Int.reduceMul, Int.reduceLT, Int.reduceLE, Int.reduceEq, Int.reduceNeg, Int.reduceNe, Int.reduceGE, Int.reduceGT, Nat.reduceBEq, Int.reduceToNat,  spPickD_f, spPickD_t, spPickD_k, spBelow_f, spBelow_t, spBelow_k, takeP_eq, takePR_eq, hlte, hke, n2, n4, m2, m4]
          (try simp (disch := omega) only [wrap_id])
          repeat' (first | (refine And.intro ?_ ?_) | (with_reducible intro _))
          all_goals first
            | omega
            | rfl
            | (simp; done)
            | (unfold appRoom; omega)
            | (refine ⟨(j + 1, (dayR b i0 h0 (j + 1)).1, (dayR b i0 h0 (j + 1)).2.1, (dayR b i0 h0 (j + 1)).2.2), ⟨⟨by dsimp only; omega, rfl, ?_, ?_⟩, by dsimp only; omega⟩, SubS.weak ?_⟩
               · dsimp only; rw [dayR_len]
               · dsimp only; rw [dayR_succ, ← hr]; exact dayStep_bd hb
               · have e : dayR b i0 h0 (j + 1) = (l ++ [(dayStep b i h).1], (dayStep b i h).2.1, (dayStep b i h).2.2) := by rw [dayR_succ, ← hr]
                 rw [e]
                 simp only [dayStep, hke]
                 simp (config := { maxSteps := 2000000 }) only [go_sem, hG, hP, Nat.reduceEqDiff, ↓reduceIte, reduceCtorEq, Nat.reduceAdd, Nat.reduceSub, Nat.reduceMul, Nat.reduceLT, Nat.reduceLeDiff, Int.reduceAdd, Int.reduceSub, Int.reduceMul, Int.reduceLT, Int.reduceLE, Int.reduceEq, Int.reduceNeg, Int.reduceNe, Int.reduceGE, Int.reduceGT, Nat.reduceBEq, Int.reduceToNat]
                 all_goals (first | (simp; done) | omega))
        · have hke : kindV (curX b i h) = 2 := hkd
          simp (config := { maxSteps := 2000000 }) only [go_sem, hG, hP, Nat.reduceEqDiff, ↓reduceIte, reduceCtorEq, Nat.reduceAdd, Nat.reduceSub, Nat.reduceMul, Nat.reduceLT, Nat.reduceLeDiff, Int.reduceAdd, Int.reduceSub, Int.reduceMul, Int.reduceLT, Int.reduceLE, Int.reduceEq, Int.reduceNeg, Int.reduceNe, Int.reduceGE, Int.reduceGT, Nat.reduceBEq, Int.reduceToNat,  spPickD_f, spPickD_t, spPickD_k, spBelow_f, spBelow_t, spBelow_k, takeP_eq, takePR_eq, hlte, hke, n2, n4, m2, m4]
          (try simp (disch := omega) only [wrap_id])
          repeat' (first | (refine And.intro ?_ ?_) | (with_reducible intro _))
          all_goals first
            | omega
            | rfl
            | (simp; done)
            | (unfold appRoom; omega)
            | (refine ⟨(j + 1, (dayR b i0 h0 (j + 1)).1, (dayR b i0 h0 (j + 1)).2.1, (dayR b i0 h0 (j + 1)).2.2), ⟨⟨by dsimp only; omega, rfl, ?_, ?_⟩, by dsimp only; omega⟩, SubS.weak ?_⟩
               · dsimp only; rw [dayR_len]
               · dsimp only; rw [dayR_succ, ← hr]; exact dayStep_bd hb
               · have e : dayR b i0 h0 (j + 1) = (l ++ [(dayStep b i h).1], (dayStep b i h).2.1, (dayStep b i h).2.2) := by rw [dayR_succ, ← hr]
                 rw [e]
                 simp only [dayStep, hke]
                 simp (config := { maxSteps := 2000000 }) only [go_sem, hG, hP, Nat.reduceEqDiff, ↓reduceIte, reduceCtorEq, Nat.reduceAdd, Nat.reduceSub, Nat.reduceMul, Nat.reduceLT, Nat.reduceLeDiff, Int.reduceAdd, Int.reduceSub, Int.reduceMul, Int.reduceLT, Int.reduceLE, Int.reduceEq, Int.reduceNeg, Int.reduceNe, Int.reduceGE, Int.reduceGT, Nat.reduceBEq, Int.reduceToNat]
                 all_goals (first | (simp; done) | omega))
        · have hke : kindV (curX b i h) = 3 := hkd
          simp (config := { maxSteps := 2000000 }) only [go_sem, hG, hP, Nat.reduceEqDiff, ↓reduceIte, reduceCtorEq, Nat.reduceAdd, Nat.reduceSub, Nat.reduceMul, Nat.reduceLT, Nat.reduceLeDiff, Int.reduceAdd, Int.reduceSub, Int.reduceMul, Int.reduceLT, Int.reduceLE, Int.reduceEq, Int.reduceNeg, Int.reduceNe, Int.reduceGE, Int.reduceGT, Nat.reduceBEq, Int.reduceToNat,  spPickD_f, spPickD_t, spPickD_k, spBelow_f, spBelow_t, spBelow_k, takeP_eq, takePR_eq, hlte, hke, n2, n4, m2, m4]
          (try simp (disch := omega) only [wrap_id])
          repeat' (first | (refine And.intro ?_ ?_) | (with_reducible intro _))
          all_goals first
            | omega
            | rfl
            | (simp; done)
            | (unfold appRoom; omega)
            | (refine ⟨(j + 1, (dayR b i0 h0 (j + 1)).1, (dayR b i0 h0 (j + 1)).2.1, (dayR b i0 h0 (j + 1)).2.2), ⟨⟨by dsimp only; omega, rfl, ?_, ?_⟩, by dsimp only; omega⟩, SubS.weak ?_⟩
               · dsimp only; rw [dayR_len]
               · dsimp only; rw [dayR_succ, ← hr]; exact dayStep_bd hb
               · have e : dayR b i0 h0 (j + 1) = (l ++ [(dayStep b i h).1], (dayStep b i h).2.1, (dayStep b i h).2.2) := by rw [dayR_succ, ← hr]
                 rw [e]
                 simp only [dayStep, hke]
                 simp (config := { maxSteps := 2000000 }) only [go_sem, hG, hP, Nat.reduceEqDiff, ↓reduceIte, reduceCtorEq, Nat.reduceAdd, Nat.reduceSub, Nat.reduceMul, Nat.reduceLT, Nat.reduceLeDiff, Int.reduceAdd, Int.reduceSub, Int.reduceMul, Int.reduceLT, Int.reduceLE, Int.reduceEq, Int.reduceNeg, Int.reduceNe, Int.reduceGE, Int.reduceGT, Nat.reduceBEq, Int.reduceToNat]
                 all_goals (first | (simp; done) | omega))
        · have hke : kindV (curX b i h) = 4 := hkd
          simp (config := { maxSteps := 2000000 }) only [go_sem, hG, hP, Nat.reduceEqDiff, ↓reduceIte, reduceCtorEq, Nat.reduceAdd, Nat.reduceSub, Nat.reduceMul, Nat.reduceLT, Nat.reduceLeDiff, Int.reduceAdd, Int.reduceSub, Int.reduceMul, Int.reduceLT, Int.reduceLE, Int.reduceEq, Int.reduceNeg, Int.reduceNe, Int.reduceGE, Int.reduceGT, Nat.reduceBEq, Int.reduceToNat,  spPickD_f, spPickD_t, spPickD_k, spBelow_f, spBelow_t, spBelow_k, takeP_eq, takePR_eq, hlte, hke, n2, n4, m2, m4]
          (try simp (disch := omega) only [wrap_id])
          repeat' (first | (refine And.intro ?_ ?_) | (with_reducible intro _))
          all_goals first
            | omega
            | rfl
            | (simp; done)
            | (unfold appRoom; omega)
            | (refine ⟨(j + 1, (dayR b i0 h0 (j + 1)).1, (dayR b i0 h0 (j + 1)).2.1, (dayR b i0 h0 (j + 1)).2.2), ⟨⟨by dsimp only; omega, rfl, ?_, ?_⟩, by dsimp only; omega⟩, SubS.weak ?_⟩
               · dsimp only; rw [dayR_len]
               · dsimp only; rw [dayR_succ, ← hr]; exact dayStep_bd hb
               · have e : dayR b i0 h0 (j + 1) = (l ++ [(dayStep b i h).1], (dayStep b i h).2.1, (dayStep b i h).2.2) := by rw [dayR_succ, ← hr]
                 rw [e]
                 simp only [dayStep, hke]
                 simp (config := { maxSteps := 2000000 }) only [go_sem, hG, hP, Nat.reduceEqDiff, ↓reduceIte, reduceCtorEq, Nat.reduceAdd, Nat.reduceSub, Nat.reduceMul, Nat.reduceLT, Nat.reduceLeDiff, Int.reduceAdd, Int.reduceSub, Int.reduceMul, Int.reduceLT, Int.reduceLE, Int.reduceEq, Int.reduceNeg, Int.reduceNe, Int.reduceGE, Int.reduceGT, Nat.reduceBEq, Int.reduceToNat]
                 all_goals (first | (simp; done) | omega))
        · have hke : kindV (curX b i h) = 5 := hkd
          simp (config := { maxSteps := 2000000 }) only [go_sem, hG, hP, Nat.reduceEqDiff, ↓reduceIte, reduceCtorEq, Nat.reduceAdd, Nat.reduceSub, Nat.reduceMul, Nat.reduceLT, Nat.reduceLeDiff, Int.reduceAdd, Int.reduceSub, Int.reduceMul, Int.reduceLT, Int.reduceLE, Int.reduceEq, Int.reduceNeg, Int.reduceNe, Int.reduceGE, Int.reduceGT, Nat.reduceBEq, Int.reduceToNat,  spPickD_f, spPickD_t, spPickD_k, spBelow_f, spBelow_t, spBelow_k, takeP_eq, takePR_eq, hlte, hke, n2, n4, m2, m4]
          (try simp (disch := omega) only [wrap_id])
          repeat' (first | (refine And.intro ?_ ?_) | (with_reducible intro _))
          all_goals first
            | omega
            | rfl
            | (simp; done)
            | (unfold appRoom; omega)
            | (refine ⟨(j + 1, (dayR b i0 h0 (j + 1)).1, (dayR b i0 h0 (j + 1)).2.1, (dayR b i0 h0 (j + 1)).2.2), ⟨⟨by dsimp only; omega, rfl, ?_, ?_⟩, by dsimp only; omega⟩, SubS.weak ?_⟩
               · dsimp only; rw [dayR_len]
               · dsimp only; rw [dayR_succ, ← hr]; exact dayStep_bd hb
               · have e : dayR b i0 h0 (j + 1) = (l ++ [(dayStep b i h).1], (dayStep b i h).2.1, (dayStep b i h).2.2) := by rw [dayR_succ, ← hr]
                 rw [e]
                 simp only [dayStep, hke]
                 simp (config := { maxSteps := 2000000 }) only [go_sem, hG, hP, Nat.reduceEqDiff, ↓reduceIte, reduceCtorEq, Nat.reduceAdd, Nat.reduceSub, Nat.reduceMul, Nat.reduceLT, Nat.reduceLeDiff, Int.reduceAdd, Int.reduceSub, Int.reduceMul, Int.reduceLT, Int.reduceLE, Int.reduceEq, Int.reduceNeg, Int.reduceNe, Int.reduceGE, Int.reduceGT, Nat.reduceBEq, Int.reduceToNat]
                 all_goals (first | (simp; done) | omega))
        · have hke : kindV (curX b i h) = 6 := hkd
          simp (config := { maxSteps := 2000000 }) only [go_sem, hG, hP, Nat.reduceEqDiff, ↓reduceIte, reduceCtorEq, Nat.reduceAdd, Nat.reduceSub, Nat.reduceMul, Nat.reduceLT, Nat.reduceLeDiff, Int.reduceAdd, Int.reduceSub, Int.reduceMul, Int.reduceLT, Int.reduceLE, Int.reduceEq, Int.reduceNeg, Int.reduceNe, Int.reduceGE, Int.reduceGT, Nat.reduceBEq, Int.reduceToNat,  spPickD_f, spPickD_t, spPickD_k, spBelow_f, spBelow_t, spBelow_k, takeP_eq, takePR_eq, hlte, hke, n2, n4, m2, m4]
          (try simp (disch := omega) only [wrap_id])
          repeat' (first | (refine And.intro ?_ ?_) | (with_reducible intro _))
          all_goals first
            | omega
            | rfl
            | (simp; done)
            | (unfold appRoom; omega)
            | (refine ⟨(j + 1, (dayR b i0 h0 (j + 1)).1, (dayR b i0 h0 (j + 1)).2.1, (dayR b i0 h0 (j + 1)).2.2), ⟨⟨by dsimp only; omega, rfl, ?_, ?_⟩, by dsimp only; omega⟩, SubS.weak ?_⟩
               · dsimp only; rw [dayR_len]
               · dsimp only; rw [dayR_succ, ← hr]; exact dayStep_bd hb
               · have e : dayR b i0 h0 (j + 1) = (l ++ [(dayStep b i h).1], (dayStep b i h).2.1, (dayStep b i h).2.2) := by rw [dayR_succ, ← hr]
                 rw [e]
                 simp only [dayStep, hke]
                 simp (config := { maxSteps := 2000000 }) only [go_sem, hG, hP, Nat.reduceEqDiff, ↓reduceIte, reduceCtorEq, Nat.reduceAdd, Nat.reduceSub, Nat.reduceMul, Nat.reduceLT, Nat.reduceLeDiff, Int.reduceAdd, Int.reduceSub, Int.reduceMul, Int.reduceLT, Int.reduceLE, Int.reduceEq, Int.reduceNeg, Int.reduceNe, Int.reduceGE, Int.reduceGT, Nat.reduceBEq, Int.reduceToNat]
                 all_goals (first | (simp; done) | omega))
        · have hke : kindV (curX b i h) = 7 := hkd
          simp (config := { maxSteps := 2000000 }) only [go_sem, hG, hP, Nat.reduceEqDiff, ↓reduceIte, reduceCtorEq, Nat.reduceAdd, Nat.reduceSub, Nat.reduceMul, Nat.reduceLT, Nat.reduceLeDiff, Int.reduceAdd, Int.reduceSub, Int.reduceMul, Int.reduceLT, Int.reduceLE, Int.reduceEq, Int.reduceNeg, Int.reduceNe, Int.reduceGE, Int.reduceGT, Nat.reduceBEq, Int.reduceToNat,  spPickD_f, spPickD_t, spPickD_k, spBelow_f, spBelow_t, spBelow_k, takeP_eq, takePR_eq, hlte, hke, n2, n4, m2, m4]
          (try simp (disch := omega) only [wrap_id])
          repeat' (first | (refine And.intro ?_ ?_) | (with_reducible intro _))
          all_goals first
            | omega
            | rfl
            | (simp; done)
            | (unfold appRoom; omega)
            | (refine ⟨(j + 1, (dayR b i0 h0 (j + 1)).1, (dayR b i0 h0 (j + 1)).2.1, (dayR b i0 h0 (j + 1)).2.2), ⟨⟨by dsimp only; omega, rfl, ?_, ?_⟩, by dsimp only; omega⟩, SubS.weak ?_⟩
               · dsimp only; rw [dayR_len]
               · dsimp only; rw [dayR_succ, ← hr]; exact dayStep_bd hb
               · have e : dayR b i0 h0 (j + 1) = (l ++ [(dayStep b i h).1], (dayStep b i h).2.1, (dayStep b i h).2.2) := by rw [dayR_succ, ← hr]
                 rw [e]
                 simp only [dayStep, hke]
                 simp (config := { maxSteps := 2000000 }) only [go_sem, hG, hP, Nat.reduceEqDiff, ↓reduceIte, reduceCtorEq, Nat.reduceAdd, Nat.reduceSub, Nat.reduceMul, Nat.reduceLT, Nat.reduceLeDiff, Int.reduceAdd, Int.reduceSub, Int.reduceMul, Int.reduceLT, Int.reduceLE, Int.reduceEq, Int.reduceNeg, Int.reduceNe, Int.reduceGE, Int.reduceGT, Nat.reduceBEq, Int.reduceToNat]
                 all_goals (first | (simp; done) | omega))
      · have hlte := eq_false hlt
        obtain rfl : j = m := by omega
        rw [← hr] at hh
        simp (config := { maxSteps := 2000000 }) only [go_sem, hG, hP, Nat.reduceEqDiff, ↓reduceIte, reduceCtorEq, Nat.reduceAdd, Nat.reduceSub, Nat.reduceMul, Nat.reduceLT, Nat.reduceLeDiff, Int.reduceAdd, Int.reduceSub, Int.reduceMul, Int.reduceLT, Int.reduceLE, Int.reduceEq, Int.reduceNeg, Int.reduceNe, Int.reduceGE, Int.reduceGT, Nat.reduceBEq, Int.reduceToNat,  hlte]
        refine ⟨_, _, _, ?_, hh⟩
        simp (config := { maxSteps := 2000000 }) only [go_sem, hG, hP, Nat.reduceEqDiff, ↓reduceIte, reduceCtorEq, Nat.reduceAdd, Nat.reduceSub, Nat.reduceMul, Nat.reduceLT, Nat.reduceLeDiff, Int.reduceAdd, Int.reduceSub, Int.reduceMul, Int.reduceLT, Int.reduceLE, Int.reduceEq, Int.reduceNeg, Int.reduceNe, Int.reduceGE, Int.reduceGT, Nat.reduceBEq, Int.reduceToNat]
        all_goals simp
  · exact hh.elim
noncomputable def dayE (code : List Int) : List Ev := (dayR code (curI code 0) (curH (hashN code (min code.length 4000))) ((curX code 0 (hashN code (min code.length 4000))).tmod (6 * sizeV code.length 20)).toNat).1
def spDay : Spec := ⟨fun _ _ => [], fun args objs K => match args, objs with
  | [.rs .byte code], [] => code.length ≤ 1099511627776 ∧ K (.sub 0 2 0 (dayE code).length) [(0, .row .ev (dayE code))] 1
  | _, _ => False, false⟩
theorem spDay_t {L : Hp} {a : List AVal} : Spec.take spDay L a = [] := id rfl
theorem spDay_k : Spec.keep spDay = false := id rfl
theorem spDay_f {code} {K : AVal → Hp → Nat → Prop} : Spec.f spDay ([.rs .byte code]) ([]) K = (code.length ≤ 1099511627776 ∧ K (.sub 0 2 0 (dayE code).length) [(0, .row .ev (dayE code))] 1) := id rfl
theorem sizeV_bd (n : Nat) : 2 ≤ sizeV n 20 ∧ sizeV n 20 ≤ 20 := by
  unfold sizeV
  have : 0 ≤ (n : Int).tdiv 20 := by rw [Int.tdiv_eq_ediv_of_nonneg (by omega)]; omega
  split <;> omega
theorem valid31 : Valid Try.prog 31 spDay := by
  refine validI (Γ := lk [(60, spNew), (61, spEvents), (62, spBelow), (63, spSize)]) Try.func31 bod31 low31 res31 (good_of ⟨⟨cal60, valid60⟩, ⟨cal61, valid61⟩, ⟨cal62, valid62⟩, ⟨cal63, valid63⟩, trivial⟩) ?_
  intro E args objs K h hE hG hP
  simp only [spDay, dayE] at h
  split at h
  · refine ⟨by simp [Try.ntmps31], ?_⟩
    rename_i code
    obtain ⟨b1, h⟩ := h
    have hs := sizeV_bd code.length
    have hw : wr .i64 (6 * sizeV code.length 20) = 6 * sizeV code.length 20 := wrap_id (by omega) (by omega)
    have n1 : (6 * sizeV code.length 20 ≤ 0) = False := by apply eq_false; omega
    have hx := curX_bd code 0 (hashN code (min code.length 4000))
    have hm1 : 0 ≤ (curX code 0 (hashN code (min code.length 4000))).tmod (6 * sizeV code.length 20) := Int.tmod_nonneg _ hx.1
    have hm2 : (curX code 0 (hashN code (min code.length 4000))).tmod (6 * sizeV code.length 20) < 6 * sizeV code.length 20 := Int.tmod_lt_of_pos _ (by omega)
    have hb := curI_bd (b := code) (i := 0) (by omega)
    simp (config := { maxSteps := 2000000 }) only [go_sem, hG, hP, Nat.reduceEqDiff, ↓reduceIte, reduceCtorEq, Nat.reduceAdd, Nat.reduceSub, Nat.reduceMul, Nat.reduceLT, Nat.reduceLeDiff, Int.reduceAdd, Int.reduceSub, Int.reduceMul, Int.reduceLT, Int.reduceLE, Int.reduceEq, Int.reduceNeg, Int.reduceNe, Int.reduceGE, Int.reduceGT, Nat.reduceBEq, Int.reduceToNat,  spNew_f, spNew_t, spNew_k, spEvents_f, spEvents_t, spEvents_k, spBelow_f, spBelow_t, spBelow_k, spSize_f, spSize_t, spSize_k, takeP_eq, hw, n1]
    repeat' (first | (refine And.intro ?_ ?_) | (with_reducible intro _))
    all_goals first
      | omega
      | (refine ⟨_, _, _, ?_, h⟩; simp (config := { maxSteps := 2000000 }) only [go_sem, hG, hP, Nat.reduceEqDiff, ↓reduceIte, reduceCtorEq, Nat.reduceAdd, Nat.reduceSub, Nat.reduceMul, Nat.reduceLT, Nat.reduceLeDiff, Int.reduceAdd, Int.reduceSub, Int.reduceMul, Int.reduceLT, Int.reduceLE, Int.reduceEq, Int.reduceNeg, Int.reduceNe, Int.reduceGE, Int.reduceGT, Nat.reduceBEq, Int.reduceToNat]; all_goals (first | (simp; done) | omega))
  · exact h.elim
end Go.Proofs.YtiakjdcognckpaaE

/-! The code of a function, in the engine's words. -/
namespace Go.Proofs.YtiakjdcognckpaaE
open Go Go.RowKit
@[reducible] def ic38 : IC := (.seq (.ops [⟨some 6, .mov (.const (.bool false)), none⟩]) (.seq (.ops [⟨some 7, .mov (.tmp 0), none⟩, ⟨some 8, .mov (.tmp 1), none⟩, ⟨some 9, .bin .geq (.tmp 7) (.tmp 8), none⟩, ⟨some 10, .mov (.tmp 9), none⟩, ⟨some 11, .mov (.tmp 0), some (10, true)⟩, ⟨some 12, .mov (.tmp 2), some (10, true)⟩, ⟨some 13, .bin .leq (.tmp 11) (.tmp 12), some (10, true)⟩, ⟨some 14, .pick (.tmp 10) (.tmp 13) (.const (.bool false)), none⟩, ⟨some 6, .mov (.tmp 14), none⟩]) .ret))
@[reducible] def rv38 : List RV := [.tmp 6]
theorem low38 : lowC Try.prog tau Try.f38.ntmps (Try.f38.body.getD .skip) = some (erase ic38) := by kernel_rfl
theorem res38 : lowR Try.prog Try.f38.results.toList = some rv38 := by kernel_rfl
theorem bod38 : Try.f38.body = some (Try.f38.body.getD .skip) := by kernel_rfl
theorem cal38 : callable Try.prog 38 = true := by kernel_rfl

end Go.Proofs.YtiakjdcognckpaaE

/-! The code of a function, in the engine's words. -/
namespace Go.Proofs.YtiakjdcognckpaaE
open Go Go.RowKit
@[reducible] def ic40 : IC := (.seq (.ops [⟨some 6, .mov (.const (.bool false)), none⟩]) (.seq (.ops [⟨some 7, .mov (.tmp 0), none⟩, ⟨some 8, .mov (.tmp 1), none⟩, ⟨some 9, .bin .geq (.tmp 7) (.tmp 8), none⟩, ⟨some 10, .mov (.tmp 9), none⟩, ⟨some 11, .mov (.tmp 0), some (10, true)⟩, ⟨some 12, .mov (.tmp 2), some (10, true)⟩, ⟨some 13, .bin .leq (.tmp 11) (.tmp 12), some (10, true)⟩, ⟨some 14, .pick (.tmp 10) (.tmp 13) (.const (.bool false)), none⟩, ⟨some 6, .mov (.tmp 14), none⟩]) .ret))
@[reducible] def rv40 : List RV := [.tmp 6]
theorem low40 : lowC Try.prog tau Try.f40.ntmps (Try.f40.body.getD .skip) = some (erase ic40) := by kernel_rfl
theorem res40 : lowR Try.prog Try.f40.results.toList = some rv40 := by kernel_rfl
theorem bod40 : Try.f40.body = some (Try.f40.body.getD .skip) := by kernel_rfl
theorem cal40 : callable Try.prog 40 = true := by kernel_rfl

end Go.Proofs.YtiakjdcognckpaaE

/-! The code of a function, in the engine's words. -/
namespace Go.Proofs.YtiakjdcognckpaaE
open Go Go.RowKit
@[reducible] def ic42 : IC := (.seq (.ops [⟨some 4, .mov (.const (.int .i64 0)), none⟩]) (.seq (.ops [⟨some 5, .mov (.tmp 1), none⟩, ⟨some 6, .mov (.tmp 0), none⟩, ⟨some 7, .len (.tmp 6), none⟩, ⟨some 8, .bin .sub (.tmp 5) (.tmp 7), none⟩, ⟨some 1, .mov (.tmp 8), none⟩]) (.seq (.seq (.ops [⟨some 9, .mov (.tmp 1), none⟩, ⟨some 10, .bin .lss (.tmp 9) (.const (.int .i64 0)), none⟩]) (.cond (.tmp 10) (.seq (.ops [⟨some 4, .mov (.const (.int .i64 (-1))), none⟩]) .ret) .skip)) (.seq (.ops [⟨some 11, .mov (.tmp 1), none⟩, ⟨some 4, .mov (.tmp 11), none⟩]) .ret))))
@[reducible] def rv42 : List RV := [.tmp 4]
theorem low42 : lowC Try.prog tau Try.f42.ntmps (Try.f42.body.getD .skip) = some (erase ic42) := by kernel_rfl
theorem res42 : lowR Try.prog Try.f42.results.toList = some rv42 := by kernel_rfl
theorem bod42 : Try.f42.body = some (Try.f42.body.getD .skip) := by kernel_rfl
theorem cal42 : callable Try.prog 42 = true := by kernel_rfl

end Go.Proofs.YtiakjdcognckpaaE

/-! The code of a function, in the engine's words. -/
namespace Go.Proofs.YtiakjdcognckpaaE
open Go Go.RowKit
@[reducible] def ic71 : IC := (.seq (.ops [⟨some 1, .box (.tmp 0), none⟩, ⟨some 2, .new [(.int .i64 0), (.int .i64 0), (.int .i64 0)], none⟩]) (.seq (.ops [⟨some 3, .new [(.int .i64 0), (.int .i64 0), (.int .i64 0)], none⟩]) (.seq (.ops [⟨some 4, .fadr 0 (.tmp 1), none⟩, ⟨some 5, .load 1 false (.tmp 4), none⟩, ⟨some 6, .fadr 0 (.tmp 3), none⟩, ⟨none, .store 1 (.tmp 6) (.tmp 5), none⟩]) (.seq (.ops [⟨some 7, .fadr 1 (.tmp 1), none⟩, ⟨some 8, .load 1 false (.tmp 7), none⟩, ⟨some 9, .fadr 1 (.tmp 3), none⟩, ⟨none, .store 1 (.tmp 9) (.tmp 8), none⟩]) (.seq (.ops [⟨some 10, .fadr 2 (.tmp 1), none⟩, ⟨some 11, .load 1 false (.tmp 10), none⟩, ⟨some 12, .fadr 2 (.tmp 3), none⟩, ⟨none, .store 1 (.tmp 12) (.tmp 11), none⟩]) (.seq (.ops [⟨some 13, .load 3 true (.tmp 3), none⟩, ⟨none, .store 3 (.tmp 2) (.tmp 13), none⟩]) .ret))))))
@[reducible] def rv71 : List RV := [.cell 2 3 true]
theorem low71 : lowC Try.prog tau Try.f71.ntmps (Try.f71.body.getD .skip) = some (erase ic71) := by kernel_rfl
theorem res71 : lowR Try.prog Try.f71.results.toList = some rv71 := by kernel_rfl
theorem bod71 : Try.f71.body = some (Try.f71.body.getD .skip) := by kernel_rfl
theorem cal71 : callable Try.prog 71 = true := by kernel_rfl

end Go.Proofs.YtiakjdcognckpaaE

/-! The code of a function, in the engine's words. -/
namespace Go.Proofs.YtiakjdcognckpaaE
open Go Go.RowKit
@[reducible] def ic47 : IC := (.seq (.ops [⟨some 2, .mov (.const (.slice none 0 0)), none⟩]) (.seq (.ops [⟨some 5, .mov (.tmp 0), none⟩, ⟨some 6, .len (.tmp 5), none⟩, ⟨some 7, .mk .sig 24 (.tmp 6) (.tmp 6), none⟩, ⟨some 3, .mov (.tmp 7), none⟩]) (.seq (.seq (.ops [⟨some 4, .mov (.const (.int .i64 0)), none⟩]) (.block 0 (.loop (.seq (.seq (.ops [⟨some 8, .mov (.tmp 4), none⟩, ⟨some 9, .mov (.tmp 0), none⟩, ⟨some 10, .len (.tmp 9), none⟩, ⟨some 11, .bin .lss (.tmp 8) (.tmp 10), none⟩]) (.cond (.tmp 11) .skip (.exit 0))) (.seq (.block 1 (.ops [⟨some 14, .mov (.tmp 3), none⟩, ⟨some 15, .mov (.tmp 4), none⟩, ⟨some 16, .mov (.tmp 0), none⟩, ⟨some 17, .mov (.tmp 4), none⟩, ⟨some 18, .iadr 3 (.tmp 16) (.tmp 17), none⟩, ⟨some 19, .load 3 true (.tmp 18), none⟩, ⟨some 20, .call 71 [(.tmp 19)], none⟩, ⟨some 21, .iadr 3 (.tmp 14) (.tmp 15), none⟩, ⟨none, .store 3 (.tmp 21) (.tmp 20), none⟩])) (.ops [⟨some 12, .mov (.tmp 4), none⟩, ⟨some 13, .bin .add (.tmp 12) (.const (.int .i64 1)), none⟩, ⟨some 4, .mov (.tmp 13), none⟩])))))) (.seq (.ops [⟨some 22, .mov (.tmp 3), none⟩, ⟨some 2, .mov (.tmp 22), none⟩]) .ret))))
@[reducible] def rv47 : List RV := [.tmp 2]
theorem low47 : lowC Try.prog tau Try.f47.ntmps (Try.f47.body.getD .skip) = some (erase ic47) := by kernel_rfl
theorem res47 : lowR Try.prog Try.f47.results.toList = some rv47 := by kernel_rfl
theorem bod47 : Try.f47.body = some (Try.f47.body.getD .skip) := by kernel_rfl
theorem cal47 : callable Try.prog 47 = true := by kernel_rfl

end Go.Proofs.YtiakjdcognckpaaE

/-! The code of a function, in the engine's words. -/
namespace Go.Proofs.YtiakjdcognckpaaE
open Go Go.RowKit
@[reducible] def ic74 : IC := (.seq (.ops [⟨some 2, .box (.tmp 0), none⟩, ⟨some 3, .box (.tmp 1), none⟩, ⟨some 4, .mov (.const (.bool false)), none⟩]) (.seq (.seq (.ops [⟨some 5, .fadr 0 (.tmp 2), none⟩, ⟨some 6, .load 1 false (.tmp 5), none⟩, ⟨some 7, .fadr 0 (.tmp 3), none⟩, ⟨some 8, .load 1 false (.tmp 7), none⟩, ⟨some 9, .bin .neq (.tmp 6) (.tmp 8), none⟩]) (.cond (.tmp 9) (.seq (.ops [⟨some 4, .mov (.const (.bool false)), none⟩]) .ret) .skip)) (.seq (.seq (.ops [⟨some 10, .fadr 1 (.tmp 2), none⟩, ⟨some 11, .load 1 false (.tmp 10), none⟩, ⟨some 12, .fadr 1 (.tmp 3), none⟩, ⟨some 13, .load 1 false (.tmp 12), none⟩, ⟨some 14, .bin .neq (.tmp 11) (.tmp 13), none⟩]) (.cond (.tmp 14) (.seq (.ops [⟨some 4, .mov (.const (.bool false)), none⟩]) .ret) .skip)) (.seq (.seq (.ops [⟨some 15, .fadr 2 (.tmp 2), none⟩, ⟨some 16, .load 1 false (.tmp 15), none⟩, ⟨some 17, .fadr 2 (.tmp 3), none⟩, ⟨some 18, .load 1 false (.tmp 17), none⟩, ⟨some 19, .bin .neq (.tmp 16) (.tmp 18), none⟩]) (.cond (.tmp 19) (.seq (.ops [⟨some 4, .mov (.const (.bool false)), none⟩]) .ret) .skip)) (.seq (.ops [⟨some 4, .mov (.const (.bool true)), none⟩]) .ret)))))
@[reducible] def rv74 : List RV := [.tmp 4]
theorem low74 : lowC Try.prog tau Try.f74.ntmps (Try.f74.body.getD .skip) = some (erase ic74) := by kernel_rfl
theorem res74 : lowR Try.prog Try.f74.results.toList = some rv74 := by kernel_rfl
theorem bod74 : Try.f74.body = some (Try.f74.body.getD .skip) := by kernel_rfl
theorem cal74 : callable Try.prog 74 = true := by kernel_rfl

end Go.Proofs.YtiakjdcognckpaaE

/-! The code of a function, in the engine's words. -/
namespace Go.Proofs.YtiakjdcognckpaaE
open Go Go.RowKit
@[reducible] def ic52 : IC := (.seq (.ops [⟨some 4, .mov (.const (.bool false)), none⟩]) (.seq (.seq (.ops [⟨some 6, .mov (.tmp 0), none⟩, ⟨some 7, .len (.tmp 6), none⟩, ⟨some 8, .mov (.tmp 1), none⟩, ⟨some 9, .len (.tmp 8), none⟩, ⟨some 10, .bin .neq (.tmp 7) (.tmp 9), none⟩]) (.cond (.tmp 10) (.seq (.ops [⟨some 4, .mov (.const (.bool false)), none⟩]) .ret) .skip)) (.seq (.seq (.ops [⟨some 5, .mov (.const (.int .i64 0)), none⟩]) (.block 0 (.loop (.seq (.seq (.ops [⟨some 11, .mov (.tmp 5), none⟩, ⟨some 12, .mov (.tmp 0), none⟩, ⟨some 13, .len (.tmp 12), none⟩, ⟨some 14, .bin .lss (.tmp 11) (.tmp 13), none⟩]) (.cond (.tmp 14) .skip (.exit 0))) (.seq (.block 1 (.seq (.draw [⟨some 17, .mov (.tmp 0), none⟩, ⟨some 18, .mov (.tmp 5), none⟩, ⟨some 19, .iadr 3 (.tmp 17) (.tmp 18), none⟩, ⟨some 20, .load 3 true (.tmp 19), none⟩, ⟨some 21, .mov (.tmp 1), none⟩, ⟨some 22, .mov (.tmp 5), none⟩, ⟨some 23, .iadr 3 (.tmp 21) (.tmp 22), none⟩, ⟨some 24, .load 3 true (.tmp 23), none⟩, ⟨some 25, .call 74 [(.tmp 20), (.tmp 24)], none⟩, ⟨some 26, .una .not (.tmp 25), none⟩] (.held ⟨some 17, .mov (.tmp 0), none⟩ (.held ⟨some 18, .mov (.tmp 5), none⟩ (.held ⟨some 19, .iadr 3 (.tmp 17) (.tmp 18), none⟩ (.held ⟨some 20, .load 3 true (.tmp 19), none⟩ (.held ⟨some 21, .mov (.tmp 1), none⟩ (.held ⟨some 22, .mov (.tmp 5), none⟩ (.held ⟨some 23, .iadr 3 (.tmp 21) (.tmp 22), none⟩ (.held ⟨some 24, .load 3 true (.tmp 23), none⟩ (.alt ⟨some 25, .call 74 [(.tmp 20), (.tmp 24)], none⟩ (.held ⟨some 26, .una .not (.tmp 25), none⟩ .done) .stop)))))))))) (.cond (.tmp 26) (.seq (.ops [⟨some 4, .mov (.const (.bool false)), none⟩]) .ret) .skip))) (.ops [⟨some 15, .mov (.tmp 5), none⟩, ⟨some 16, .bin .add (.tmp 15) (.const (.int .i64 1)), none⟩, ⟨some 5, .mov (.tmp 16), none⟩])))))) (.seq (.ops [⟨some 4, .mov (.const (.bool true)), none⟩]) .ret))))
@[reducible] def rv52 : List RV := [.tmp 4]
theorem low52 : lowC Try.prog tau Try.f52.ntmps (Try.f52.body.getD .skip) = some (erase ic52) := by kernel_rfl
theorem res52 : lowR Try.prog Try.f52.results.toList = some rv52 := by kernel_rfl
theorem bod52 : Try.f52.body = some (Try.f52.body.getD .skip) := by kernel_rfl
theorem cal52 : callable Try.prog 52 = true := by kernel_rfl

end Go.Proofs.YtiakjdcognckpaaE

/-! The code of a function, in the engine's words. -/
namespace Go.Proofs.YtiakjdcognckpaaE
open Go Go.RowKit
@[reducible] def ic53 : IC := (.seq (.ops [⟨some 4, .mov (.const (.int .i64 0)), none⟩]) (.seq (.seq (.ops [⟨some 5, .mov (.const (.int .i64 0)), none⟩]) (.block 0 (.loop (.seq (.seq (.ops [⟨some 6, .mov (.tmp 5), none⟩, ⟨some 7, .mov (.tmp 0), none⟩, ⟨some 8, .len (.tmp 7), none⟩, ⟨some 9, .bin .lss (.tmp 6) (.tmp 8), none⟩]) (.cond (.tmp 9) .skip (.exit 0))) (.seq (.block 1 (.seq (.ops [⟨some 12, .mov (.tmp 0), none⟩, ⟨some 13, .mov (.tmp 5), none⟩, ⟨some 14, .mov (.tmp 1), none⟩, ⟨some 15, .iadr 3 (.tmp 12) (.tmp 13), none⟩, ⟨some 16, .fadr 0 (.tmp 15), none⟩, ⟨none, .store 1 (.tmp 16) (.tmp 14), none⟩]) (.seq (.ops [⟨some 17, .mov (.tmp 1), none⟩, ⟨some 18, .bin .add (.tmp 17) (.const (.int .i64 1)), none⟩, ⟨some 1, .mov (.tmp 18), none⟩]) (.seq (.ops [⟨some 19, .mov (.tmp 0), none⟩, ⟨some 20, .mov (.tmp 5), none⟩, ⟨some 21, .mov (.tmp 1), none⟩, ⟨some 22, .iadr 3 (.tmp 19) (.tmp 20), none⟩, ⟨some 23, .fadr 1 (.tmp 22), none⟩, ⟨none, .store 1 (.tmp 23) (.tmp 21), none⟩]) (.seq (.ops [⟨some 24, .mov (.tmp 1), none⟩, ⟨some 25, .bin .add (.tmp 24) (.const (.int .i64 1)), none⟩, ⟨some 1, .mov (.tmp 25), none⟩]) (.seq (.ops [⟨some 26, .mov (.tmp 0), none⟩, ⟨some 27, .mov (.tmp 5), none⟩, ⟨some 28, .mov (.tmp 1), none⟩, ⟨some 29, .iadr 3 (.tmp 26) (.tmp 27), none⟩, ⟨some 30, .fadr 2 (.tmp 29), none⟩, ⟨none, .store 1 (.tmp 30) (.tmp 28), none⟩]) (.ops [⟨some 31, .mov (.tmp 1), none⟩, ⟨some 32, .bin .add (.tmp 31) (.const (.int .i64 1)), none⟩, ⟨some 1, .mov (.tmp 32), none⟩]))))))) (.ops [⟨some 10, .mov (.tmp 5), none⟩, ⟨some 11, .bin .add (.tmp 10) (.const (.int .i64 1)), none⟩, ⟨some 5, .mov (.tmp 11), none⟩])))))) (.seq (.ops [⟨some 33, .mov (.tmp 1), none⟩, ⟨some 4, .mov (.tmp 33), none⟩]) .ret)))
@[reducible] def rv53 : List RV := [.tmp 4]
theorem low53 : lowC Try.prog tau Try.f53.ntmps (Try.f53.body.getD .skip) = some (erase ic53) := by kernel_rfl
theorem res53 : lowR Try.prog Try.f53.results.toList = some rv53 := by kernel_rfl
theorem bod53 : Try.f53.body = some (Try.f53.body.getD .skip) := by kernel_rfl
theorem cal53 : callable Try.prog 53 = true := by kernel_rfl

end Go.Proofs.YtiakjdcognckpaaE

/-! The code of a function, in the engine's words. -/
namespace Go.Proofs.YtiakjdcognckpaaE
open Go Go.RowKit
@[reducible] def ic54 : IC := (.seq (.ops [⟨some 4, .mov (.const (.int .i64 0)), none⟩]) (.seq (.seq (.ops [⟨some 5, .mov (.const (.int .i64 0)), none⟩]) (.block 0 (.loop (.seq (.seq (.ops [⟨some 6, .mov (.tmp 5), none⟩, ⟨some 7, .mov (.tmp 0), none⟩, ⟨some 8, .len (.tmp 7), none⟩, ⟨some 9, .bin .lss (.tmp 6) (.tmp 8), none⟩]) (.cond (.tmp 9) .skip (.exit 0))) (.seq (.block 1 (.seq (.seq (.ops [⟨some 12, .mov (.tmp 0), none⟩, ⟨some 13, .mov (.tmp 5), none⟩, ⟨some 14, .iadr 3 (.tmp 12) (.tmp 13), none⟩, ⟨some 15, .fadr 0 (.tmp 14), none⟩, ⟨some 16, .load 1 false (.tmp 15), none⟩, ⟨some 17, .mov (.tmp 1), none⟩, ⟨some 18, .bin .neq (.tmp 16) (.tmp 17), none⟩]) (.cond (.tmp 18) (.seq (.ops [⟨some 4, .mov (.const (.int .i64 (-1))), none⟩]) .ret) .skip)) (.seq (.ops [⟨some 19, .mov (.tmp 1), none⟩, ⟨some 20, .bin .add (.tmp 19) (.const (.int .i64 1)), none⟩, ⟨some 1, .mov (.tmp 20), none⟩]) (.seq (.seq (.ops [⟨some 21, .mov (.tmp 0), none⟩, ⟨some 22, .mov (.tmp 5), none⟩, ⟨some 23, .iadr 3 (.tmp 21) (.tmp 22), none⟩, ⟨some 24, .fadr 1 (.tmp 23), none⟩, ⟨some 25, .load 1 false (.tmp 24), none⟩, ⟨some 26, .mov (.tmp 1), none⟩, ⟨some 27, .bin .neq (.tmp 25) (.tmp 26), none⟩]) (.cond (.tmp 27) (.seq (.ops [⟨some 4, .mov (.const (.int .i64 (-1))), none⟩]) .ret) .skip)) (.seq (.ops [⟨some 28, .mov (.tmp 1), none⟩, ⟨some 29, .bin .add (.tmp 28) (.const (.int .i64 1)), none⟩, ⟨some 1, .mov (.tmp 29), none⟩]) (.seq (.seq (.ops [⟨some 30, .mov (.tmp 0), none⟩, ⟨some 31, .mov (.tmp 5), none⟩, ⟨some 32, .iadr 3 (.tmp 30) (.tmp 31), none⟩, ⟨some 33, .fadr 2 (.tmp 32), none⟩, ⟨some 34, .load 1 false (.tmp 33), none⟩, ⟨some 35, .mov (.tmp 1), none⟩, ⟨some 36, .bin .neq (.tmp 34) (.tmp 35), none⟩]) (.cond (.tmp 36) (.seq (.ops [⟨some 4, .mov (.const (.int .i64 (-1))), none⟩]) .ret) .skip)) (.ops [⟨some 37, .mov (.tmp 1), none⟩, ⟨some 38, .bin .add (.tmp 37) (.const (.int .i64 1)), none⟩, ⟨some 1, .mov (.tmp 38), none⟩]))))))) (.ops [⟨some 10, .mov (.tmp 5), none⟩, ⟨some 11, .bin .add (.tmp 10) (.const (.int .i64 1)), none⟩, ⟨some 5, .mov (.tmp 11), none⟩])))))) (.seq (.ops [⟨some 39, .mov (.tmp 1), none⟩, ⟨some 4, .mov (.tmp 39), none⟩]) .ret)))
@[reducible] def rv54 : List RV := [.tmp 4]
theorem low54 : lowC Try.prog tau Try.f54.ntmps (Try.f54.body.getD .skip) = some (erase ic54) := by kernel_rfl
theorem res54 : lowR Try.prog Try.f54.results.toList = some rv54 := by kernel_rfl
theorem bod54 : Try.f54.body = some (Try.f54.body.getD .skip) := by kernel_rfl
theorem cal54 : callable Try.prog 54 = true := by kernel_rfl

end Go.Proofs.YtiakjdcognckpaaE

/-! The code of a function, in the engine's words. -/
namespace Go.Proofs.YtiakjdcognckpaaE
open Go Go.RowKit
@[reducible] def ic24 : IC := (.seq (.ops [⟨some 4, .mov (.const (.int .i64 0)), none⟩]) (.seq (.ops [⟨some 5, .mov (.tmp 1), none⟩, ⟨some 6, .mov (.tmp 0), none⟩, ⟨some 7, .len (.tmp 6), none⟩, ⟨some 8, .bin .sub (.tmp 5) (.tmp 7), none⟩, ⟨some 1, .mov (.tmp 8), none⟩]) (.seq (.seq (.ops [⟨some 9, .mov (.tmp 1), none⟩, ⟨some 10, .bin .lss (.tmp 9) (.const (.int .i64 0)), none⟩]) (.cond (.tmp 10) (.seq (.ops [⟨some 4, .mov (.const (.int .i64 (-1))), none⟩]) .ret) .skip)) (.seq (.ops [⟨some 11, .mov (.tmp 1), none⟩, ⟨some 4, .mov (.tmp 11), none⟩]) .ret))))
@[reducible] def rv24 : List RV := [.tmp 4]
theorem low24 : lowC Try.prog tau Try.f24.ntmps (Try.f24.body.getD .skip) = some (erase ic24) := by kernel_rfl
theorem res24 : lowR Try.prog Try.f24.results.toList = some rv24 := by kernel_rfl
theorem bod24 : Try.f24.body = some (Try.f24.body.getD .skip) := by kernel_rfl
theorem cal24 : callable Try.prog 24 = true := by kernel_rfl

end Go.Proofs.YtiakjdcognckpaaE

/-! The code of a function, in the engine's words. -/
namespace Go.Proofs.YtiakjdcognckpaaE
open Go Go.RowKit
@[reducible] def ic22 : IC := (.seq (.ops [⟨some 1, .box (.tmp 0), none⟩, ⟨some 2, .new [(.int .i64 0), (.int .i64 0)], none⟩]) (.seq (.ops [⟨some 3, .new [(.int .i64 0), (.int .i64 0)], none⟩]) (.seq (.ops [⟨some 4, .fadr 0 (.tmp 1), none⟩, ⟨some 5, .load 1 false (.tmp 4), none⟩, ⟨some 6, .fadr 0 (.tmp 3), none⟩, ⟨none, .store 1 (.tmp 6) (.tmp 5), none⟩]) (.seq (.ops [⟨some 7, .fadr 1 (.tmp 1), none⟩, ⟨some 8, .load 1 false (.tmp 7), none⟩, ⟨some 9, .fadr 1 (.tmp 3), none⟩, ⟨none, .store 1 (.tmp 9) (.tmp 8), none⟩]) (.seq (.ops [⟨some 10, .load 2 true (.tmp 3), none⟩, ⟨none, .store 2 (.tmp 2) (.tmp 10), none⟩]) .ret)))))
@[reducible] def rv22 : List RV := [.cell 2 2 true]
theorem low22 : lowC Try.prog tau Try.f22.ntmps (Try.f22.body.getD .skip) = some (erase ic22) := by kernel_rfl
theorem res22 : lowR Try.prog Try.f22.results.toList = some rv22 := by kernel_rfl
theorem bod22 : Try.f22.body = some (Try.f22.body.getD .skip) := by kernel_rfl
theorem cal22 : callable Try.prog 22 = true := by kernel_rfl

end Go.Proofs.YtiakjdcognckpaaE

/-! The code of a function, in the engine's words. -/
namespace Go.Proofs.YtiakjdcognckpaaE
open Go Go.RowKit
@[reducible] def ic26 : IC := (.seq (.ops [⟨some 2, .mov (.const (.slice none 0 0)), none⟩]) (.seq (.ops [⟨some 5, .mov (.tmp 0), none⟩, ⟨some 6, .len (.tmp 5), none⟩, ⟨some 7, .mk .ev 16 (.tmp 6) (.tmp 6), none⟩, ⟨some 3, .mov (.tmp 7), none⟩]) (.seq (.seq (.ops [⟨some 4, .mov (.const (.int .i64 0)), none⟩]) (.block 0 (.loop (.seq (.seq (.ops [⟨some 8, .mov (.tmp 4), none⟩, ⟨some 9, .mov (.tmp 0), none⟩, ⟨some 10, .len (.tmp 9), none⟩, ⟨some 11, .bin .lss (.tmp 8) (.tmp 10), none⟩]) (.cond (.tmp 11) .skip (.exit 0))) (.seq (.block 1 (.ops [⟨some 14, .mov (.tmp 3), none⟩, ⟨some 15, .mov (.tmp 4), none⟩, ⟨some 16, .mov (.tmp 0), none⟩, ⟨some 17, .mov (.tmp 4), none⟩, ⟨some 18, .iadr 2 (.tmp 16) (.tmp 17), none⟩, ⟨some 19, .load 2 true (.tmp 18), none⟩, ⟨some 20, .call 22 [(.tmp 19)], none⟩, ⟨some 21, .iadr 2 (.tmp 14) (.tmp 15), none⟩, ⟨none, .store 2 (.tmp 21) (.tmp 20), none⟩])) (.ops [⟨some 12, .mov (.tmp 4), none⟩, ⟨some 13, .bin .add (.tmp 12) (.const (.int .i64 1)), none⟩, ⟨some 4, .mov (.tmp 13), none⟩])))))) (.seq (.ops [⟨some 22, .mov (.tmp 3), none⟩, ⟨some 2, .mov (.tmp 22), none⟩]) .ret))))
@[reducible] def rv26 : List RV := [.tmp 2]
theorem low26 : lowC Try.prog tau Try.f26.ntmps (Try.f26.body.getD .skip) = some (erase ic26) := by kernel_rfl
theorem res26 : lowR Try.prog Try.f26.results.toList = some rv26 := by kernel_rfl
theorem bod26 : Try.f26.body = some (Try.f26.body.getD .skip) := by kernel_rfl
theorem cal26 : callable Try.prog 26 = true := by kernel_rfl

end Go.Proofs.YtiakjdcognckpaaE

/-! The code of a function, in the engine's words. -/
namespace Go.Proofs.YtiakjdcognckpaaE
open Go Go.RowKit
@[reducible] def ic59 : IC := (.seq (.ops [⟨some 2, .box (.tmp 0), none⟩, ⟨some 3, .box (.tmp 1), none⟩, ⟨some 4, .mov (.const (.bool false)), none⟩]) (.seq (.seq (.ops [⟨some 5, .fadr 0 (.tmp 2), none⟩, ⟨some 6, .load 1 false (.tmp 5), none⟩, ⟨some 7, .fadr 0 (.tmp 3), none⟩, ⟨some 8, .load 1 false (.tmp 7), none⟩, ⟨some 9, .bin .neq (.tmp 6) (.tmp 8), none⟩]) (.cond (.tmp 9) (.seq (.ops [⟨some 4, .mov (.const (.bool false)), none⟩]) .ret) .skip)) (.seq (.seq (.ops [⟨some 10, .fadr 1 (.tmp 2), none⟩, ⟨some 11, .load 1 false (.tmp 10), none⟩, ⟨some 12, .fadr 1 (.tmp 3), none⟩, ⟨some 13, .load 1 false (.tmp 12), none⟩, ⟨some 14, .bin .neq (.tmp 11) (.tmp 13), none⟩]) (.cond (.tmp 14) (.seq (.ops [⟨some 4, .mov (.const (.bool false)), none⟩]) .ret) .skip)) (.seq (.ops [⟨some 4, .mov (.const (.bool true)), none⟩]) .ret))))
@[reducible] def rv59 : List RV := [.tmp 4]
theorem low59 : lowC Try.prog tau Try.f59.ntmps (Try.f59.body.getD .skip) = some (erase ic59) := by kernel_rfl
theorem res59 : lowR Try.prog Try.f59.results.toList = some rv59 := by kernel_rfl
theorem bod59 : Try.f59.body = some (Try.f59.body.getD .skip) := by kernel_rfl
theorem cal59 : callable Try.prog 59 = true := by kernel_rfl

end Go.Proofs.YtiakjdcognckpaaE

/-! The code of a function, in the engine's words. -/
namespace Go.Proofs.YtiakjdcognckpaaE
open Go Go.RowKit
@[reducible] def ic28 : IC := (.seq (.ops [⟨some 4, .mov (.const (.bool false)), none⟩]) (.seq (.seq (.ops [⟨some 6, .mov (.tmp 0), none⟩, ⟨some 7, .len (.tmp 6), none⟩, ⟨some 8, .mov (.tmp 1), none⟩, ⟨some 9, .len (.tmp 8), none⟩, ⟨some 10, .bin .neq (.tmp 7) (.tmp 9), none⟩]) (.cond (.tmp 10) (.seq (.ops [⟨some 4, .mov (.const (.bool false)), none⟩]) .ret) .skip)) (.seq (.seq (.ops [⟨some 5, .mov (.const (.int .i64 0)), none⟩]) (.block 0 (.loop (.seq (.seq (.ops [⟨some 11, .mov (.tmp 5), none⟩, ⟨some 12, .mov (.tmp 0), none⟩, ⟨some 13, .len (.tmp 12), none⟩, ⟨some 14, .bin .lss (.tmp 11) (.tmp 13), none⟩]) (.cond (.tmp 14) .skip (.exit 0))) (.seq (.block 1 (.seq (.draw [⟨some 17, .mov (.tmp 0), none⟩, ⟨some 18, .mov (.tmp 5), none⟩, ⟨some 19, .iadr 2 (.tmp 17) (.tmp 18), none⟩, ⟨some 20, .load 2 true (.tmp 19), none⟩, ⟨some 21, .mov (.tmp 1), none⟩, ⟨some 22, .mov (.tmp 5), none⟩, ⟨some 23, .iadr 2 (.tmp 21) (.tmp 22), none⟩, ⟨some 24, .load 2 true (.tmp 23), none⟩, ⟨some 25, .call 59 [(.tmp 20), (.tmp 24)], none⟩, ⟨some 26, .una .not (.tmp 25), none⟩] (.held ⟨some 17, .mov (.tmp 0), none⟩ (.held ⟨some 18, .mov (.tmp 5), none⟩ (.held ⟨some 19, .iadr 2 (.tmp 17) (.tmp 18), none⟩ (.held ⟨some 20, .load 2 true (.tmp 19), none⟩ (.held ⟨some 21, .mov (.tmp 1), none⟩ (.held ⟨some 22, .mov (.tmp 5), none⟩ (.held ⟨some 23, .iadr 2 (.tmp 21) (.tmp 22), none⟩ (.held ⟨some 24, .load 2 true (.tmp 23), none⟩ (.alt ⟨some 25, .call 59 [(.tmp 20), (.tmp 24)], none⟩ (.held ⟨some 26, .una .not (.tmp 25), none⟩ .done) .stop)))))))))) (.cond (.tmp 26) (.seq (.ops [⟨some 4, .mov (.const (.bool false)), none⟩]) .ret) .skip))) (.ops [⟨some 15, .mov (.tmp 5), none⟩, ⟨some 16, .bin .add (.tmp 15) (.const (.int .i64 1)), none⟩, ⟨some 5, .mov (.tmp 16), none⟩])))))) (.seq (.ops [⟨some 4, .mov (.const (.bool true)), none⟩]) .ret))))
@[reducible] def rv28 : List RV := [.tmp 4]
theorem low28 : lowC Try.prog tau Try.f28.ntmps (Try.f28.body.getD .skip) = some (erase ic28) := by kernel_rfl
theorem res28 : lowR Try.prog Try.f28.results.toList = some rv28 := by kernel_rfl
theorem bod28 : Try.f28.body = some (Try.f28.body.getD .skip) := by kernel_rfl
theorem cal28 : callable Try.prog 28 = true := by kernel_rfl

end Go.Proofs.YtiakjdcognckpaaE

/-! The code of a function, in the engine's words. -/
namespace Go.Proofs.YtiakjdcognckpaaE
open Go Go.RowKit
@[reducible] def ic29 : IC := (.seq (.ops [⟨some 4, .mov (.const (.int .i64 0)), none⟩]) (.seq (.seq (.ops [⟨some 5, .mov (.const (.int .i64 0)), none⟩]) (.block 0 (.loop (.seq (.seq (.ops [⟨some 6, .mov (.tmp 5), none⟩, ⟨some 7, .mov (.tmp 0), none⟩, ⟨some 8, .len (.tmp 7), none⟩, ⟨some 9, .bin .lss (.tmp 6) (.tmp 8), none⟩]) (.cond (.tmp 9) .skip (.exit 0))) (.seq (.block 1 (.seq (.ops [⟨some 12, .mov (.tmp 0), none⟩, ⟨some 13, .mov (.tmp 5), none⟩, ⟨some 14, .mov (.tmp 1), none⟩, ⟨some 15, .iadr 2 (.tmp 12) (.tmp 13), none⟩, ⟨some 16, .fadr 0 (.tmp 15), none⟩, ⟨none, .store 1 (.tmp 16) (.tmp 14), none⟩]) (.seq (.ops [⟨some 17, .mov (.tmp 1), none⟩, ⟨some 18, .bin .add (.tmp 17) (.const (.int .i64 1)), none⟩, ⟨some 1, .mov (.tmp 18), none⟩]) (.seq (.ops [⟨some 19, .mov (.tmp 0), none⟩, ⟨some 20, .mov (.tmp 5), none⟩, ⟨some 21, .mov (.tmp 1), none⟩, ⟨some 22, .iadr 2 (.tmp 19) (.tmp 20), none⟩, ⟨some 23, .fadr 1 (.tmp 22), none⟩, ⟨none, .store 1 (.tmp 23) (.tmp 21), none⟩]) (.ops [⟨some 24, .mov (.tmp 1), none⟩, ⟨some 25, .bin .add (.tmp 24) (.const (.int .i64 1)), none⟩, ⟨some 1, .mov (.tmp 25), none⟩]))))) (.ops [⟨some 10, .mov (.tmp 5), none⟩, ⟨some 11, .bin .add (.tmp 10) (.const (.int .i64 1)), none⟩, ⟨some 5, .mov (.tmp 11), none⟩])))))) (.seq (.ops [⟨some 26, .mov (.tmp 1), none⟩, ⟨some 4, .mov (.tmp 26), none⟩]) .ret)))
@[reducible] def rv29 : List RV := [.tmp 4]
theorem low29 : lowC Try.prog tau Try.f29.ntmps (Try.f29.body.getD .skip) = some (erase ic29) := by kernel_rfl
theorem res29 : lowR Try.prog Try.f29.results.toList = some rv29 := by kernel_rfl
theorem bod29 : Try.f29.body = some (Try.f29.body.getD .skip) := by kernel_rfl
theorem cal29 : callable Try.prog 29 = true := by kernel_rfl

end Go.Proofs.YtiakjdcognckpaaE

/-! Functions over rows of one kind: sizes, copies, comparisons, marks. -/
namespace Go.Proofs.YtiakjdcognckpaaE
open Go Go.RowKit
set_option linter.unusedSimpArgs false
set_option linter.unusedVariables false
set_option maxRecDepth 20000
def spIn : Spec := ⟨fun _ _ => [], fun args objs K => match args, objs with
  | [.v (.int .i64 x), .v (.int .i64 a), .v (.int .i64 b)], [] => K (.v (.bool (decide (a ≤ x ∧ x ≤ b)))) [] 0
  | _, _ => False, false⟩
theorem spIn_t {L : Hp} {a : List AVal} : Spec.take spIn L a = [] := id rfl
theorem spIn_k : Spec.keep spIn = false := id rfl
theorem spIn_f {x} {a} {b} {K : AVal → Hp → Nat → Prop} : Spec.f spIn ([.v (.int .i64 x), .v (.int .i64 a), .v (.int .i64 b)]) ([]) K = (K (.v (.bool (decide (a ≤ x ∧ x ≤ b)))) [] 0) := id rfl
theorem valid38 : Valid Try.prog 38 spIn := by
  refine validI (Γ := lk []) Try.func38 bod38 low38 res38 (good_of trivial) ?_
  intro E args objs K h hE hG hP
  simp only [spIn] at h
  split at h
  · refine ⟨by simp [Try.ntmps38], ?_⟩
    rename_i x a b
    simp (config := { maxSteps := 2000000 }) only [go_sem, hG, hP, Nat.reduceEqDiff, ↓reduceIte, reduceCtorEq, Nat.reduceAdd, Nat.reduceSub, Nat.reduceMul, Nat.reduceLT, Nat.reduceLeDiff, Int.reduceAdd, Int.reduceSub, Int.reduceMul, Int.reduceLT, Int.reduceLE, Int.reduceEq, Int.reduceNeg, Int.reduceNe, Int.reduceGE, Int.reduceGT, Nat.reduceBEq, Int.reduceToNat]
    refine ⟨fun h1 => ⟨_, _, _, ?_, h⟩, fun h1 => ⟨_, _, _, ?_, h⟩⟩ <;> simp (config := { maxSteps := 2000000 }) only [go_sem, hG, hP, Nat.reduceEqDiff, ↓reduceIte, reduceCtorEq, Nat.reduceAdd, Nat.reduceSub, Nat.reduceMul, Nat.reduceLT, Nat.reduceLeDiff, Int.reduceAdd, Int.reduceSub, Int.reduceMul, Int.reduceLT, Int.reduceLE, Int.reduceEq, Int.reduceNeg, Int.reduceNe, Int.reduceGE, Int.reduceGT, Nat.reduceBEq, Int.reduceToNat] <;> simp <;> omega
  · exact h.elim
theorem valid40 : Valid Try.prog 40 spIn := by
  refine validI (Γ := lk []) Try.func40 bod40 low40 res40 (good_of trivial) ?_
  intro E args objs K h hE hG hP
  simp only [spIn] at h
  split at h
  · refine ⟨by simp [Try.ntmps40], ?_⟩
    rename_i x a b
    simp (config := { maxSteps := 2000000 }) only [go_sem, hG, hP, Nat.reduceEqDiff, ↓reduceIte, reduceCtorEq, Nat.reduceAdd, Nat.reduceSub, Nat.reduceMul, Nat.reduceLT, Nat.reduceLeDiff, Int.reduceAdd, Int.reduceSub, Int.reduceMul, Int.reduceLT, Int.reduceLE, Int.reduceEq, Int.reduceNeg, Int.reduceNe, Int.reduceGE, Int.reduceGT, Nat.reduceBEq, Int.reduceToNat]
    refine ⟨fun h1 => ⟨_, _, _, ?_, h⟩, fun h1 => ⟨_, _, _, ?_, h⟩⟩ <;> simp (config := { maxSteps := 2000000 }) only [go_sem, hG, hP, Nat.reduceEqDiff, ↓reduceIte, reduceCtorEq, Nat.reduceAdd, Nat.reduceSub, Nat.reduceMul, Nat.reduceLT, Nat.reduceLeDiff, Int.reduceAdd, Int.reduceSub, Int.reduceMul, Int.reduceLT, Int.reduceLE, Int.reduceEq, Int.reduceNeg, Int.reduceNe, Int.reduceGE, Int.reduceGT, Nat.reduceBEq, Int.reduceToNat] <;> simp <;> omega
  · exact h.elim
def szStep (l : Nat) (n : Int) : Int := if n - l < 0 then -1 else n - l
theorem szStep_bd {l : Nat} {n : Int} (h : -1099511627776 ≤ n) (h2 : n ≤ 1099511627776) : -1099511627776 ≤ szStep l n ∧ szStep l n ≤ 1099511627776 := by unfold szStep; split <;> omega
theorem szStep_neg {l : Nat} {n : Int} (h : szStep l n < 0) : szStep l n = -1 := by unfold szStep at h ⊢; split at h <;> rename_i h2 <;> first | rw [if_pos h2] | omega
theorem take_step {α : Type} {xs ys : List α} {k : Nat} (d : α) (h : xs.take k = ys.take k) (h1 : k < xs.length) (h2 : k < ys.length) (he : xs.getD k d = ys.getD k d) : xs.take (k + 1) = ys.take (k + 1) := by
  rw [List.take_succ_eq_append_getElem h1, List.take_succ_eq_append_getElem h2, h]
  simp [List.getD, List.getElem?_eq_getElem h1, List.getElem?_eq_getElem h2] at he
  rw [he]
theorem take_all {α : Type} {xs ys : List α} {k : Nat} (h : xs.take k = ys.take k) (hl : xs.length = ys.length) (hk : xs.length ≤ k) : xs = ys := by
  rwa [List.take_of_length_le hk, List.take_of_length_le (by omega)] at h
theorem set_step {α : Type} {ys m : List α} {j : Nat} {x : α} (d : α) (h : ys.take j = m.take j) (h1 : j < ys.length) (h2 : j < m.length) (hx : x = m.getD j d) : (ys.set j x).take (j + 1) = m.take (j + 1) := by
  refine take_step d ?_ (by simpa using h1) h2 (by simp [h1, hx, List.getD])
  rw [List.take_set_of_le (Nat.le_refl _)]; exact h
theorem set_step2 {α : Type} {ys m : List α} {j : Nat} {x y : α} (d : α) (h : ys.take j = m.take j) (h1 : j < ys.length) (h2 : j < m.length) (hx : x = m.getD j d) : ((ys.set j y).set j x).take (j + 1) = m.take (j + 1) := by
  rw [List.set_set]; exact set_step d h h1 h2 hx
theorem set_step3 {α : Type} {ys m : List α} {j : Nat} {x y z : α} (d : α) (h : ys.take j = m.take j) (h1 : j < ys.length) (h2 : j < m.length) (hx : x = m.getD j d) : (((ys.set j z).set j y).set j x).take (j + 1) = m.take (j + 1) := by
  rw [List.set_set, List.set_set]; exact set_step d h h1 h2 hx
theorem getD_set_self {α : Type} (xs : List α) (j : Nat) (y d : α) (h : j < xs.length) : (xs.set j y).getD j d = y := by simp [List.getD, h]
def take1 : List AVal → List Nat
  | .sub m _ _ _ :: _ => [m]
  | _ => []
theorem take1_eq {m z lo len : Nat} {r : List AVal} : take1 (.sub m z lo len :: r) = [m] := id rfl
theorem sig_ext {a b : Sig} (h0 : a.to = b.to) (h1 : a.kind = b.kind) (h2 : a.call = b.call) : a = b := by cases a; cases b; simp_all
def spSzSigS : Spec := ⟨fun _ _ => [], fun args objs K => match args, objs with
  | [.rs .sig xs, .v (.int .i64 n)], [] => (xs.length ≤ 17592186044416 ∧ -1099511627776 ≤ n ∧ n ≤ 1099511627776) ∧ K (.v (.int .i64 (szStep xs.length n))) [] 0
  | _, _ => False, false⟩
theorem spSzSigS_t {L : Hp} {a : List AVal} : Spec.take spSzSigS L a = [] := id rfl
theorem spSzSigS_k : Spec.keep spSzSigS = false := id rfl
theorem spSzSigS_f {xs} {n} {K : AVal → Hp → Nat → Prop} : Spec.f spSzSigS ([.rs .sig xs, .v (.int .i64 n)]) ([]) K = ((xs.length ≤ 17592186044416 ∧ -1099511627776 ≤ n ∧ n ≤ 1099511627776) ∧ K (.v (.int .i64 (szStep xs.length n))) [] 0) := id rfl
theorem valid42 : Valid Try.prog 42 spSzSigS := by
  refine validI (Γ := lk []) Try.func42 bod42 low42 res42 (good_of trivial) ?_
  intro E args objs K h hE hG hP
  simp only [spSzSigS, szStep] at h
  split at h
  · refine ⟨by simp [Try.ntmps42], ?_⟩
    rename_i xs n
    obtain ⟨⟨b1, b2, b3⟩, h⟩ := h
    simp (config := { maxSteps := 2000000 }) only [go_sem, hG, hP, Nat.reduceEqDiff, ↓reduceIte, reduceCtorEq, Nat.reduceAdd, Nat.reduceSub, Nat.reduceMul, Nat.reduceLT, Nat.reduceLeDiff, Int.reduceAdd, Int.reduceSub, Int.reduceMul, Int.reduceLT, Int.reduceLE, Int.reduceEq, Int.reduceNeg, Int.reduceNe, Int.reduceGE, Int.reduceGT, Nat.reduceBEq, Int.reduceToNat]
    (try simp (disch := omega) only [wrap_id])
    refine ⟨fun h1 => ⟨_, _, _, ?_, h⟩, fun h1 => ⟨_, _, _, ?_, h⟩⟩ <;> simp (config := { maxSteps := 2000000 }) only [go_sem, hG, hP, Nat.reduceEqDiff, ↓reduceIte, reduceCtorEq, Nat.reduceAdd, Nat.reduceSub, Nat.reduceMul, Nat.reduceLT, Nat.reduceLeDiff, Int.reduceAdd, Int.reduceSub, Int.reduceMul, Int.reduceLT, Int.reduceLE, Int.reduceEq, Int.reduceNeg, Int.reduceNe, Int.reduceGE, Int.reduceGT, Nat.reduceBEq, Int.reduceToNat] <;> simp <;> omega
  · exact h.elim
def spToSig : Spec := ⟨fun _ _ => [], fun args objs K => match args, objs with
  | [.agg [.v (.int .i64 a0), .v (.int .i64 a1), .v (.int .i64 a2)]], [] => K (.agg [.v (.int .i64 a0), .v (.int .i64 a1), .v (.int .i64 a2)]) [] 0
  | _, _ => False, false⟩
theorem spToSig_t {L : Hp} {a : List AVal} : Spec.take spToSig L a = [] := id rfl
theorem spToSig_k : Spec.keep spToSig = false := id rfl
theorem spToSig_f {a0} {a1} {a2} {K : AVal → Hp → Nat → Prop} : Spec.f spToSig ([.agg [.v (.int .i64 a0), .v (.int .i64 a1), .v (.int .i64 a2)]]) ([]) K = (K (.agg [.v (.int .i64 a0), .v (.int .i64 a1), .v (.int .i64 a2)]) [] 0) := id rfl
theorem valid71 : Valid Try.prog 71 spToSig := by
  refine validI (Γ := lk []) Try.func71 bod71 low71 res71 (good_of trivial) ?_
  intro E args objs K h hE hG hP
  simp only [spToSig] at h
  split at h
  · refine ⟨by simp [Try.ntmps71], ?_⟩
    rename_i a0 a1 a2
    simp (config := { maxSteps := 2000000 }) only [go_sem, hG, hP, Nat.reduceEqDiff, ↓reduceIte, reduceCtorEq, Nat.reduceAdd, Nat.reduceSub, Nat.reduceMul, Nat.reduceLT, Nat.reduceLeDiff, Int.reduceAdd, Int.reduceSub, Int.reduceMul, Int.reduceLT, Int.reduceLE, Int.reduceEq, Int.reduceNeg, Int.reduceNe, Int.reduceGE, Int.reduceGT, Nat.reduceBEq, Int.reduceToNat]
    exact ⟨_, _, _, by simp (config := { maxSteps := 2000000 }) only [go_sem, hG, hP, Nat.reduceEqDiff, ↓reduceIte, reduceCtorEq, Nat.reduceAdd, Nat.reduceSub, Nat.reduceMul, Nat.reduceLT, Nat.reduceLeDiff, Int.reduceAdd, Int.reduceSub, Int.reduceMul, Int.reduceLT, Int.reduceLE, Int.reduceEq, Int.reduceNeg, Int.reduceNe, Int.reduceGE, Int.reduceGT, Nat.reduceBEq, Int.reduceToNat], h⟩
  · exact h.elim
def spToSigS : Spec := ⟨fun _ _ => [], fun args objs K => match args, objs with
  | [.rs .sig xs], [] => xs.length ≤ 1099511627776 ∧ K (.sub 0 3 0 xs.length) [(0, .row .sig xs)] 1
  | _, _ => False, false⟩
theorem spToSigS_t {L : Hp} {a : List AVal} : Spec.take spToSigS L a = [] := id rfl
theorem spToSigS_k : Spec.keep spToSigS = false := id rfl
theorem spToSigS_f {xs} {K : AVal → Hp → Nat → Prop} : Spec.f spToSigS ([.rs .sig xs]) ([]) K = (xs.length ≤ 1099511627776 ∧ K (.sub 0 3 0 xs.length) [(0, .row .sig xs)] 1) := id rfl
theorem valid47 : Valid Try.prog 47 spToSigS := by
  refine validI (Γ := lk [(71, spToSig)]) Try.func47 bod47 low47 res47 (good_of ⟨⟨cal71, valid71⟩, trivial⟩) ?_
  intro E args objs K h hE hG hP
  simp only [spToSigS] at h
  split at h
  · refine ⟨by simp [Try.ntmps47], ?_⟩
    rename_i xs
    obtain ⟨hlen, h⟩ := h
    simp (config := { maxSteps := 2000000 }) only [go_sem, hG, hP, Nat.reduceEqDiff, ↓reduceIte, reduceCtorEq, Nat.reduceAdd, Nat.reduceSub, Nat.reduceMul, Nat.reduceLT, Nat.reduceLeDiff, Int.reduceAdd, Int.reduceSub, Int.reduceMul, Int.reduceLT, Int.reduceLE, Int.reduceEq, Int.reduceNeg, Int.reduceNe, Int.reduceGE, Int.reduceGT, Nat.reduceBEq, Int.reduceToNat]
    refine ⟨⟨by omega, by unfold appRoom; omega, by omega⟩, ?_⟩
    refine loopI hE (fun k : Nat => ⟨[(0, .rs .sig xs), (3, .sub 0 3 0 xs.length), (4, .v (.int .i64 k))], [(0, .row .sig (xs.take k ++ List.replicate (xs.length - k) (⟨0, 0, 0⟩ : Sig)))], 1, Try.f47.ntmps⟩) (fun k => k ≤ xs.length) (fun k => xs.length - k) ⟨0, Nat.zero_le _, SubS.weak ?_⟩ ?_
    · simp (config := { maxSteps := 2000000 }) only [go_sem, hG, hP, Nat.reduceEqDiff, ↓reduceIte, reduceCtorEq, Nat.reduceAdd, Nat.reduceSub, Nat.reduceMul, Nat.reduceLT, Nat.reduceLeDiff, Int.reduceAdd, Int.reduceSub, Int.reduceMul, Int.reduceLT, Int.reduceLE, Int.reduceEq, Int.reduceNeg, Int.reduceNe, Int.reduceGE, Int.reduceGT, Nat.reduceBEq, Int.reduceToNat]
      all_goals simp
    · intro k hk
      simp (config := { maxSteps := 2000000 }) only [go_sem, hG, hP, Nat.reduceEqDiff, ↓reduceIte, reduceCtorEq, Nat.reduceAdd, Nat.reduceSub, Nat.reduceMul, Nat.reduceLT, Nat.reduceLeDiff, Int.reduceAdd, Int.reduceSub, Int.reduceMul, Int.reduceLT, Int.reduceLE, Int.reduceEq, Int.reduceNeg, Int.reduceNe, Int.reduceGE, Int.reduceGT, Nat.reduceBEq, Int.reduceToNat,  spToSig_f, spToSig_t, spToSig_k]
      (try simp (disch := omega) only [wrap_id])
      refine ⟨fun hlt => ?_, fun hge => ⟨_, _, _, ?_, h⟩⟩
      · rw [fill_len _ _ _ hk]
        repeat (refine And.intro (by first | omega | (simp; done) | (simp; omega) | (unfold appRoom; omega)) ?_)
        refine ⟨k + 1, by omega, SubS.weak ?_⟩
        simp (config := { maxSteps := 2000000 }) only [go_sem, hG, hP, Nat.reduceEqDiff, ↓reduceIte, reduceCtorEq, Nat.reduceAdd, Nat.reduceSub, Nat.reduceMul, Nat.reduceLT, Nat.reduceLeDiff, Int.reduceAdd, Int.reduceSub, Int.reduceMul, Int.reduceLT, Int.reduceLE, Int.reduceEq, Int.reduceNeg, Int.reduceNe, Int.reduceGE, Int.reduceGT, Nat.reduceBEq, Int.reduceToNat]
        rw [fill_set _ _ _ _ (by omega)]
        simp
      · simp (config := { maxSteps := 2000000 }) only [go_sem, hG, hP, Nat.reduceEqDiff, ↓reduceIte, reduceCtorEq, Nat.reduceAdd, Nat.reduceSub, Nat.reduceMul, Nat.reduceLT, Nat.reduceLeDiff, Int.reduceAdd, Int.reduceSub, Int.reduceMul, Int.reduceLT, Int.reduceLE, Int.reduceEq, Int.reduceNeg, Int.reduceNe, Int.reduceGE, Int.reduceGT, Nat.reduceBEq, Int.reduceToNat]
        simp [show k = xs.length by omega]
  · exact h.elim
def spEqSig : Spec := ⟨fun _ _ => [], fun args objs K => match args, objs with
  | [.agg [.v (.int .i64 a0), .v (.int .i64 a1), .v (.int .i64 a2)], .agg [.v (.int .i64 b0), .v (.int .i64 b1), .v (.int .i64 b2)]], [] => K (.v (.bool (decide (a0 = b0 ∧ a1 = b1 ∧ a2 = b2)))) [] 0
  | _, _ => False, false⟩
theorem spEqSig_t {L : Hp} {a : List AVal} : Spec.take spEqSig L a = [] := id rfl
theorem spEqSig_k : Spec.keep spEqSig = false := id rfl
theorem spEqSig_f {a0} {a1} {a2} {b0} {b1} {b2} {K : AVal → Hp → Nat → Prop} : Spec.f spEqSig ([.agg [.v (.int .i64 a0), .v (.int .i64 a1), .v (.int .i64 a2)], .agg [.v (.int .i64 b0), .v (.int .i64 b1), .v (.int .i64 b2)]]) ([]) K = (K (.v (.bool (decide (a0 = b0 ∧ a1 = b1 ∧ a2 = b2)))) [] 0) := id rfl
theorem valid74 : Valid Try.prog 74 spEqSig := by
  refine validI (Γ := lk []) Try.func74 bod74 low74 res74 (good_of trivial) ?_
  intro E args objs K h hE hG hP
  simp only [spEqSig] at h
  split at h
  · refine ⟨by simp [Try.ntmps74], ?_⟩
    rename_i a0 a1 a2 b0 b1 b2
    simp (config := { maxSteps := 2000000 }) only [go_sem, hG, hP, Nat.reduceEqDiff, ↓reduceIte, reduceCtorEq, Nat.reduceAdd, Nat.reduceSub, Nat.reduceMul, Nat.reduceLT, Nat.reduceLeDiff, Int.reduceAdd, Int.reduceSub, Int.reduceMul, Int.reduceLT, Int.reduceLE, Int.reduceEq, Int.reduceNeg, Int.reduceNe, Int.reduceGE, Int.reduceGT, Nat.reduceBEq, Int.reduceToNat]
    refine ⟨fun h0 => ⟨_, _, _, ?_, h⟩, fun h0 => ⟨fun h1 => ⟨_, _, _, ?_, h⟩, fun h1 => ⟨fun h2 => ⟨_, _, _, ?_, h⟩, fun h2 => ⟨_, _, _, ?_, h⟩⟩⟩⟩ <;> simp (config := { maxSteps := 2000000 }) only [go_sem, hG, hP, Nat.reduceEqDiff, ↓reduceIte, reduceCtorEq, Nat.reduceAdd, Nat.reduceSub, Nat.reduceMul, Nat.reduceLT, Nat.reduceLeDiff, Int.reduceAdd, Int.reduceSub, Int.reduceMul, Int.reduceLT, Int.reduceLE, Int.reduceEq, Int.reduceNeg, Int.reduceNe, Int.reduceGE, Int.reduceGT, Nat.reduceBEq, Int.reduceToNat] <;> simp <;> omega
  · exact h.elim
def spEqSigS : Spec := ⟨fun _ _ => [], fun args objs K => match args, objs with
  | [.rs .sig xs, .rs .sig ys], [] => (xs.length ≤ 1099511627776 ∧ ys.length ≤ 1099511627776) ∧ K (.v (.bool (decide (xs = ys)))) [] 0
  | _, _ => False, false⟩
theorem spEqSigS_t {L : Hp} {a : List AVal} : Spec.take spEqSigS L a = [] := id rfl
theorem spEqSigS_k : Spec.keep spEqSigS = false := id rfl
theorem spEqSigS_f {xs} {ys} {K : AVal → Hp → Nat → Prop} : Spec.f spEqSigS ([.rs .sig xs, .rs .sig ys]) ([]) K = ((xs.length ≤ 1099511627776 ∧ ys.length ≤ 1099511627776) ∧ K (.v (.bool (decide (xs = ys)))) [] 0) := id rfl
theorem valid52 : Valid Try.prog 52 spEqSigS := by
  refine validI (Γ := lk [(74, spEqSig)]) Try.func52 bod52 low52 res52 (good_of ⟨⟨cal74, valid74⟩, trivial⟩) ?_
  intro E args objs K h hE hG hP
  simp only [spEqSigS] at h
  split at h
  · refine ⟨by simp [Try.ntmps52], ?_⟩
    rename_i xs ys
    obtain ⟨⟨hlen, hlen2⟩, h⟩ := h
    simp (config := { maxSteps := 2000000 }) only [go_sem, hG, hP, Nat.reduceEqDiff, ↓reduceIte, reduceCtorEq, Nat.reduceAdd, Nat.reduceSub, Nat.reduceMul, Nat.reduceLT, Nat.reduceLeDiff, Int.reduceAdd, Int.reduceSub, Int.reduceMul, Int.reduceLT, Int.reduceLE, Int.reduceEq, Int.reduceNeg, Int.reduceNe, Int.reduceGE, Int.reduceGT, Nat.reduceBEq, Int.reduceToNat]
    refine ⟨fun h1 => ⟨_, _, _, ?_, h⟩, fun h1 => ?_⟩
    · simp (config := { maxSteps := 2000000 }) only [go_sem, hG, hP, Nat.reduceEqDiff, ↓reduceIte, reduceCtorEq, Nat.reduceAdd, Nat.reduceSub, Nat.reduceMul, Nat.reduceLT, Nat.reduceLeDiff, Int.reduceAdd, Int.reduceSub, Int.reduceMul, Int.reduceLT, Int.reduceLE, Int.reduceEq, Int.reduceNeg, Int.reduceNe, Int.reduceGE, Int.reduceGT, Nat.reduceBEq, Int.reduceToNat]
      rw [decide_eq_false fun e => h1 (by rw [e])]
    · have hle : xs.length = ys.length := by omega
      refine loopI hE (fun k : Nat => ⟨[(0, .rs .sig xs), (1, .rs .sig ys), (5, .v (.int .i64 k))], [], 0, Try.f52.ntmps⟩) (fun k => k ≤ xs.length ∧ xs.take k = ys.take k) (fun k => xs.length - k) ⟨0, ⟨Nat.zero_le _, rfl⟩, SubS.weak ?_⟩ ?_
      · simp (config := { maxSteps := 2000000 }) only [go_sem, hG, hP, Nat.reduceEqDiff, ↓reduceIte, reduceCtorEq, Nat.reduceAdd, Nat.reduceSub, Nat.reduceMul, Nat.reduceLT, Nat.reduceLeDiff, Int.reduceAdd, Int.reduceSub, Int.reduceMul, Int.reduceLT, Int.reduceLE, Int.reduceEq, Int.reduceNeg, Int.reduceNe, Int.reduceGE, Int.reduceGT, Nat.reduceBEq, Int.reduceToNat]
        all_goals simp
      · intro k ⟨hk, hpre⟩
        simp (config := { maxSteps := 2000000 }) only [go_sem, hG, hP, Nat.reduceEqDiff, ↓reduceIte, reduceCtorEq, Nat.reduceAdd, Nat.reduceSub, Nat.reduceMul, Nat.reduceLT, Nat.reduceLeDiff, Int.reduceAdd, Int.reduceSub, Int.reduceMul, Int.reduceLT, Int.reduceLE, Int.reduceEq, Int.reduceNeg, Int.reduceNe, Int.reduceGE, Int.reduceGT, Nat.reduceBEq, Int.reduceToNat,  spEqSig_f, spEqSig_t, spEqSig_k]
        (try simp (disch := omega) only [wrap_id])
        refine ⟨fun hlt => ?_, fun hge => ⟨_, _, _, ?_, h⟩⟩
        · repeat (refine And.intro (by first | omega | (simp; done) | (simp; omega) | (unfold appRoom; omega)) ?_)
          refine ⟨fun hne => ⟨_, _, _, ?_, h⟩, fun heq => ?_⟩
          · simp (config := { maxSteps := 2000000 }) only [go_sem, hG, hP, Nat.reduceEqDiff, ↓reduceIte, reduceCtorEq, Nat.reduceAdd, Nat.reduceSub, Nat.reduceMul, Nat.reduceLT, Nat.reduceLeDiff, Int.reduceAdd, Int.reduceSub, Int.reduceMul, Int.reduceLT, Int.reduceLE, Int.reduceEq, Int.reduceNeg, Int.reduceNe, Int.reduceGE, Int.reduceGT, Nat.reduceBEq, Int.reduceToNat]
            rw [decide_eq_false fun e => ?_]
            subst e
            simp at hne
          · refine ⟨k + 1, ⟨⟨by omega, take_step (⟨0, 0, 0⟩ : Sig) hpre (by omega) (by omega) (by simp at heq; exact sig_ext heq.1 heq.2.1 heq.2.2)⟩, by omega⟩, SubS.weak ?_⟩
            simp (config := { maxSteps := 2000000 }) only [go_sem, hG, hP, Nat.reduceEqDiff, ↓reduceIte, reduceCtorEq, Nat.reduceAdd, Nat.reduceSub, Nat.reduceMul, Nat.reduceLT, Nat.reduceLeDiff, Int.reduceAdd, Int.reduceSub, Int.reduceMul, Int.reduceLT, Int.reduceLE, Int.reduceEq, Int.reduceNeg, Int.reduceNe, Int.reduceGE, Int.reduceGT, Nat.reduceBEq, Int.reduceToNat]
            all_goals simp
        · simp (config := { maxSteps := 2000000 }) only [go_sem, hG, hP, Nat.reduceEqDiff, ↓reduceIte, reduceCtorEq, Nat.reduceAdd, Nat.reduceSub, Nat.reduceMul, Nat.reduceLT, Nat.reduceLeDiff, Int.reduceAdd, Int.reduceSub, Int.reduceMul, Int.reduceLT, Int.reduceLE, Int.reduceEq, Int.reduceNeg, Int.reduceNe, Int.reduceGE, Int.reduceGT, Nat.reduceBEq, Int.reduceToNat]
          rw [decide_eq_true (take_all hpre hle (by omega))]
  · exact h.elim
def sigMarks (k : Int) (n : Nat) : List Sig := (List.range n).map fun (i : Nat) => ⟨k + 3 * (i : Int), k + 3 * (i : Int) + 1, k + 3 * (i : Int) + 1 + 1⟩
theorem sigMarks_len (k : Int) (n : Nat) : (sigMarks k n).length = n := by simp [sigMarks]
theorem sigMarks_get (k : Int) {n j : Nat} (h : j < n) : (sigMarks k n).getD j (⟨0, 0, 0⟩ : Sig) = ⟨k + 3 * (j : Int), k + 3 * (j : Int) + 1, k + 3 * (j : Int) + 1 + 1⟩ := by simp [sigMarks, List.getD, h]
def spMarkSigS : Spec := ⟨fun _ => take1, fun args objs K => match args, objs with
  | [.sub 0 3 0 n, .v (.int .i64 k)], [.row .sig xs] => (n = xs.length ∧ xs.length ≤ 1099511627776 ∧ 0 ≤ k ∧ k ≤ 1099511627776) ∧ K (.v (.int .i64 (k + 3 * xs.length))) [(0, .row .sig (sigMarks k xs.length))] 1
  | _, _ => False, false⟩
theorem spMarkSigS_t {L : Hp} {a : List AVal} : Spec.take spMarkSigS L a = take1 a := id rfl
theorem spMarkSigS_k : Spec.keep spMarkSigS = false := id rfl
theorem spMarkSigS_f {n} {k} {xs} {K : AVal → Hp → Nat → Prop} : Spec.f spMarkSigS ([.sub 0 3 0 n, .v (.int .i64 k)]) ([.row .sig xs]) K = ((n = xs.length ∧ xs.length ≤ 1099511627776 ∧ 0 ≤ k ∧ k ≤ 1099511627776) ∧ K (.v (.int .i64 (k + 3 * xs.length))) [(0, .row .sig (sigMarks k xs.length))] 1) := id rfl
theorem valid53 : Valid Try.prog 53 spMarkSigS := by
  refine validI (Γ := lk []) Try.func53 bod53 low53 res53 (good_of trivial) ?_
  intro E args objs K h hE hG hP
  simp only [spMarkSigS] at h
  split at h
  · refine ⟨by simp [Try.ntmps53], ?_⟩
    rename_i n k xs
    obtain ⟨⟨rfl, hlen, hk0, hk1⟩, h⟩ := h
    simp (config := { maxSteps := 2000000 }) only [go_sem, hG, hP, Nat.reduceEqDiff, ↓reduceIte, reduceCtorEq, Nat.reduceAdd, Nat.reduceSub, Nat.reduceMul, Nat.reduceLT, Nat.reduceLeDiff, Int.reduceAdd, Int.reduceSub, Int.reduceMul, Int.reduceLT, Int.reduceLE, Int.reduceEq, Int.reduceNeg, Int.reduceNe, Int.reduceGE, Int.reduceGT, Nat.reduceBEq, Int.reduceToNat]
    refine loopI hE (fun p : Nat × List Sig => ⟨[(0, .sub 0 3 0 xs.length), (1, .v (.int .i64 (k + 3 * (p.1 : Int)))), (5, .v (.int .i64 p.1))], [(0, .row .sig p.2)], 1, Try.f53.ntmps⟩) (fun p => p.1 ≤ xs.length ∧ p.2.length = xs.length ∧ p.2.take p.1 = (sigMarks k xs.length).take p.1) (fun p => xs.length - p.1) ⟨(0, xs), ⟨Nat.zero_le _, rfl, rfl⟩, SubS.weak ?_⟩ ?_
    · simp (config := { maxSteps := 2000000 }) only [go_sem, hG, hP, Nat.reduceEqDiff, ↓reduceIte, reduceCtorEq, Nat.reduceAdd, Nat.reduceSub, Nat.reduceMul, Nat.reduceLT, Nat.reduceLeDiff, Int.reduceAdd, Int.reduceSub, Int.reduceMul, Int.reduceLT, Int.reduceLE, Int.reduceEq, Int.reduceNeg, Int.reduceNe, Int.reduceGE, Int.reduceGT, Nat.reduceBEq, Int.reduceToNat]
      repeat' (first | with_reducible rfl | (refine And.intro ?_ ?_) | (refine congrArg (Value.int _) ?_; omega) | omega)
    · rintro ⟨j, ys⟩ ⟨hj, hl, hpre⟩
      dsimp only at hj hl hpre ⊢
      simp (config := { maxSteps := 2000000 }) only [go_sem, hG, hP, Nat.reduceEqDiff, ↓reduceIte, reduceCtorEq, Nat.reduceAdd, Nat.reduceSub, Nat.reduceMul, Nat.reduceLT, Nat.reduceLeDiff, Int.reduceAdd, Int.reduceSub, Int.reduceMul, Int.reduceLT, Int.reduceLE, Int.reduceEq, Int.reduceNeg, Int.reduceNe, Int.reduceGE, Int.reduceGT, Nat.reduceBEq, Int.reduceToNat]
      (try simp (disch := omega) only [wrap_id])
      refine ⟨fun hlt => ?_, fun hge => ⟨_, _, _, ?_, h⟩⟩
      · repeat (refine And.intro (by first | omega | (simp; done) | (simp; omega) | (unfold appRoom; omega)) ?_)
        repeat rw [getD_set_self _ _ _ _ (by (repeat rw [List.length_set]); omega)]
        refine ⟨(j + 1, (((ys.set j ⟨k + 3 * (j : Int), (ys.getD j (⟨0, 0, 0⟩ : Sig)).kind, (ys.getD j (⟨0, 0, 0⟩ : Sig)).call⟩).set j ⟨k + 3 * (j : Int), k + 3 * (j : Int) + 1, (ys.getD j (⟨0, 0, 0⟩ : Sig)).call⟩).set j ⟨k + 3 * (j : Int), k + 3 * (j : Int) + 1, k + 3 * (j : Int) + 1 + 1⟩)), ⟨⟨by dsimp only; omega, by rw [List.length_set, List.length_set, List.length_set]; exact hl, set_step3 (⟨0, 0, 0⟩ : Sig) hpre (by omega) (by rw [sigMarks_len]; omega) (sigMarks_get k (by omega)).symm⟩, by dsimp only; omega⟩, SubS.weak ?_⟩
        simp (config := { maxSteps := 2000000 }) only [go_sem, hG, hP, Nat.reduceEqDiff, ↓reduceIte, reduceCtorEq, Nat.reduceAdd, Nat.reduceSub, Nat.reduceMul, Nat.reduceLT, Nat.reduceLeDiff, Int.reduceAdd, Int.reduceSub, Int.reduceMul, Int.reduceLT, Int.reduceLE, Int.reduceEq, Int.reduceNeg, Int.reduceNe, Int.reduceGE, Int.reduceGT, Nat.reduceBEq, Int.reduceToNat]
        repeat' (first | with_reducible rfl | (refine And.intro ?_ ?_) | (refine congrArg (Value.int _) ?_; omega) | omega)
      · simp (config := { maxSteps := 2000000 }) only [go_sem, hG, hP, Nat.reduceEqDiff, ↓reduceIte, reduceCtorEq, Nat.reduceAdd, Nat.reduceSub, Nat.reduceMul, Nat.reduceLT, Nat.reduceLeDiff, Int.reduceAdd, Int.reduceSub, Int.reduceMul, Int.reduceLT, Int.reduceLE, Int.reduceEq, Int.reduceNeg, Int.reduceNe, Int.reduceGE, Int.reduceGT, Nat.reduceBEq, Int.reduceToNat]
        have hj' : j = xs.length := by omega
        subst hj'
        rw [take_all hpre (by rw [hl, sigMarks_len]) (by omega)]
        repeat' (first | with_reducible rfl | (refine And.intro ?_ ?_) | (refine congrArg (Value.int _) ?_; omega) | omega)
  · exact h.elim
def heldSig (xs : List Sig) (k : Int) : Int := if xs = sigMarks k xs.length then k + 3 * xs.length else -1
theorem heldSig_neg {xs : List Sig} {k : Int} (h0 : 0 ≤ k) (h : heldSig xs k < 0) : heldSig xs k = -1 := by
  unfold heldSig at h ⊢; split at h <;> rename_i h2
  · omega
  · rw [if_neg h2]
theorem heldSig_bd {xs : List Sig} {k : Int} (h0 : 0 ≤ k) : heldSig xs k ≤ k + 3 * xs.length := by
  unfold heldSig; split <;> omega
def spHeldSigS : Spec := ⟨fun _ _ => [], fun args objs K => match args, objs with
  | [.rs .sig xs, .v (.int .i64 k)], [] => (xs.length ≤ 1099511627776 ∧ 0 ≤ k ∧ k ≤ 1099511627776) ∧ K (.v (.int .i64 (heldSig xs k))) [] 0
  | _, _ => False, false⟩
theorem spHeldSigS_t {L : Hp} {a : List AVal} : Spec.take spHeldSigS L a = [] := id rfl
theorem spHeldSigS_k : Spec.keep spHeldSigS = false := id rfl
theorem spHeldSigS_f {xs} {k} {K : AVal → Hp → Nat → Prop} : Spec.f spHeldSigS ([.rs .sig xs, .v (.int .i64 k)]) ([]) K = ((xs.length ≤ 1099511627776 ∧ 0 ≤ k ∧ k ≤ 1099511627776) ∧ K (.v (.int .i64 (heldSig xs k))) [] 0) := id rfl
theorem valid54 : Valid Try.prog 54 spHeldSigS := by
  refine validI (Γ := lk []) Try.func54 bod54 low54 res54 (good_of trivial) ?_
  intro E args objs K h hE hG hP
  simp only [spHeldSigS, heldSig] at h
  split at h
  · refine ⟨by simp [Try.ntmps54], ?_⟩
    rename_i xs k
    obtain ⟨⟨hlen, hk0, hk1⟩, h⟩ := h
    simp (config := { maxSteps := 2000000 }) only [go_sem, hG, hP, Nat.reduceEqDiff, ↓reduceIte, reduceCtorEq, Nat.reduceAdd, Nat.reduceSub, Nat.reduceMul, Nat.reduceLT, Nat.reduceLeDiff, Int.reduceAdd, Int.reduceSub, Int.reduceMul, Int.reduceLT, Int.reduceLE, Int.reduceEq, Int.reduceNeg, Int.reduceNe, Int.reduceGE, Int.reduceGT, Nat.reduceBEq, Int.reduceToNat]
    refine loopI hE (fun j : Nat => ⟨[(0, .rs .sig xs), (1, .v (.int .i64 (k + 3 * (j : Int)))), (5, .v (.int .i64 j))], [], 0, Try.f54.ntmps⟩) (fun j => j ≤ xs.length ∧ xs.take j = (sigMarks k xs.length).take j) (fun j => xs.length - j) ⟨0, ⟨Nat.zero_le _, rfl⟩, SubS.weak ?_⟩ ?_
    · simp (config := { maxSteps := 2000000 }) only [go_sem, hG, hP, Nat.reduceEqDiff, ↓reduceIte, reduceCtorEq, Nat.reduceAdd, Nat.reduceSub, Nat.reduceMul, Nat.reduceLT, Nat.reduceLeDiff, Int.reduceAdd, Int.reduceSub, Int.reduceMul, Int.reduceLT, Int.reduceLE, Int.reduceEq, Int.reduceNeg, Int.reduceNe, Int.reduceGE, Int.reduceGT, Nat.reduceBEq, Int.reduceToNat]
      repeat' (first | with_reducible rfl | (refine And.intro ?_ ?_) | (refine congrArg (Value.int _) ?_; omega) | omega)
    · intro j ⟨hj, hpre⟩
      simp (config := { maxSteps := 2000000 }) only [go_sem, hG, hP, Nat.reduceEqDiff, ↓reduceIte, reduceCtorEq, Nat.reduceAdd, Nat.reduceSub, Nat.reduceMul, Nat.reduceLT, Nat.reduceLeDiff, Int.reduceAdd, Int.reduceSub, Int.reduceMul, Int.reduceLT, Int.reduceLE, Int.reduceEq, Int.reduceNeg, Int.reduceNe, Int.reduceGE, Int.reduceGT, Nat.reduceBEq, Int.reduceToNat]
      (try simp (disch := omega) only [wrap_id])
      refine ⟨fun hlt => ?_, fun hge => ⟨_, _, _, ?_, h⟩⟩
      · repeat (refine And.intro (by first | omega | (simp; done) | (simp; omega) | (unfold appRoom; omega)) ?_)
        refine ⟨fun hne => ⟨_, _, _, ?_, h⟩, fun heq0 => ?_⟩
        · simp (config := { maxSteps := 2000000 }) only [go_sem, hG, hP, Nat.reduceEqDiff, ↓reduceIte, reduceCtorEq, Nat.reduceAdd, Nat.reduceSub, Nat.reduceMul, Nat.reduceLT, Nat.reduceLeDiff, Int.reduceAdd, Int.reduceSub, Int.reduceMul, Int.reduceLT, Int.reduceLE, Int.reduceEq, Int.reduceNeg, Int.reduceNe, Int.reduceGE, Int.reduceGT, Nat.reduceBEq, Int.reduceToNat]
          rw [if_neg fun e => hne (by have e2 : xs.getD j (⟨0, 0, 0⟩ : Sig) = _ := (congrArg (fun l => l.getD j (⟨0, 0, 0⟩ : Sig)) e).trans (sigMarks_get k (by omega)); rw [e2])]
        · repeat (refine And.intro (by first | omega | (simp; done) | (simp; omega) | (unfold appRoom; omega)) ?_)
          refine ⟨fun hne => ⟨_, _, _, ?_, h⟩, fun heq1 => ?_⟩
          · simp (config := { maxSteps := 2000000 }) only [go_sem, hG, hP, Nat.reduceEqDiff, ↓reduceIte, reduceCtorEq, Nat.reduceAdd, Nat.reduceSub, Nat.reduceMul, Nat.reduceLT, Nat.reduceLeDiff, Int.reduceAdd, Int.reduceSub, Int.reduceMul, Int.reduceLT, Int.reduceLE, Int.reduceEq, Int.reduceNeg, Int.reduceNe, Int.reduceGE, Int.reduceGT, Nat.reduceBEq, Int.reduceToNat]
            rw [if_neg fun e => hne (by have e2 : xs.getD j (⟨0, 0, 0⟩ : Sig) = _ := (congrArg (fun l => l.getD j (⟨0, 0, 0⟩ : Sig)) e).trans (sigMarks_get k (by omega)); rw [e2])]
          · repeat (refine And.intro (by first | omega | (simp; done) | (simp; omega) | (unfold appRoom; omega)) ?_)
            refine ⟨fun hne => ⟨_, _, _, ?_, h⟩, fun heq2 => ?_⟩
            · simp (config := { maxSteps := 2000000 }) only [go_sem, hG, hP, Nat.reduceEqDiff, ↓reduceIte, reduceCtorEq, Nat.reduceAdd, Nat.reduceSub, Nat.reduceMul, Nat.reduceLT, Nat.reduceLeDiff, Int.reduceAdd, Int.reduceSub, Int.reduceMul, Int.reduceLT, Int.reduceLE, Int.reduceEq, Int.reduceNeg, Int.reduceNe, Int.reduceGE, Int.reduceGT, Nat.reduceBEq, Int.reduceToNat]
              rw [if_neg fun e => hne (by have e2 : xs.getD j (⟨0, 0, 0⟩ : Sig) = _ := (congrArg (fun l => l.getD j (⟨0, 0, 0⟩ : Sig)) e).trans (sigMarks_get k (by omega)); rw [e2])]
            · refine ⟨j + 1, ⟨⟨by omega, ?_⟩, by omega⟩, SubS.weak ?_⟩
              · refine take_step (⟨0, 0, 0⟩ : Sig) hpre (by omega) (by rw [sigMarks_len]; omega) (sig_ext ?_ ?_ ?_)
                · rw [Decidable.not_not.1 heq0, sigMarks_get k (by omega)]
                · rw [Decidable.not_not.1 heq1, sigMarks_get k (by omega)]
                · rw [Decidable.not_not.1 heq2, sigMarks_get k (by omega)]
              · simp (config := { maxSteps := 2000000 }) only [go_sem, hG, hP, Nat.reduceEqDiff, ↓reduceIte, reduceCtorEq, Nat.reduceAdd, Nat.reduceSub, Nat.reduceMul, Nat.reduceLT, Nat.reduceLeDiff, Int.reduceAdd, Int.reduceSub, Int.reduceMul, Int.reduceLT, Int.reduceLE, Int.reduceEq, Int.reduceNeg, Int.reduceNe, Int.reduceGE, Int.reduceGT, Nat.reduceBEq, Int.reduceToNat]
                repeat' (first | with_reducible rfl | (refine And.intro ?_ ?_) | (refine congrArg (Value.int _) ?_; omega) | omega)
      · simp (config := { maxSteps := 2000000 }) only [go_sem, hG, hP, Nat.reduceEqDiff, ↓reduceIte, reduceCtorEq, Nat.reduceAdd, Nat.reduceSub, Nat.reduceMul, Nat.reduceLT, Nat.reduceLeDiff, Int.reduceAdd, Int.reduceSub, Int.reduceMul, Int.reduceLT, Int.reduceLE, Int.reduceEq, Int.reduceNeg, Int.reduceNe, Int.reduceGE, Int.reduceGT, Nat.reduceBEq, Int.reduceToNat]
        have hj' : j = xs.length := by omega
        have e : xs = sigMarks k xs.length := take_all hpre (by rw [sigMarks_len]) (by omega)
        rw [if_pos e, hj']
  · exact h.elim
theorem ev_ext {a b : Ev} (h0 : a.kind = b.kind) (h1 : a.pl = b.pl) : a = b := by cases a; cases b; simp_all
def spSzEvS : Spec := ⟨fun _ _ => [], fun args objs K => match args, objs with
  | [.rs .ev xs, .v (.int .i64 n)], [] => (xs.length ≤ 17592186044416 ∧ -1099511627776 ≤ n ∧ n ≤ 1099511627776) ∧ K (.v (.int .i64 (szStep xs.length n))) [] 0
  | _, _ => False, false⟩
theorem spSzEvS_t {L : Hp} {a : List AVal} : Spec.take spSzEvS L a = [] := id rfl
theorem spSzEvS_k : Spec.keep spSzEvS = false := id rfl
theorem spSzEvS_f {xs} {n} {K : AVal → Hp → Nat → Prop} : Spec.f spSzEvS ([.rs .ev xs, .v (.int .i64 n)]) ([]) K = ((xs.length ≤ 17592186044416 ∧ -1099511627776 ≤ n ∧ n ≤ 1099511627776) ∧ K (.v (.int .i64 (szStep xs.length n))) [] 0) := id rfl
theorem valid24 : Valid Try.prog 24 spSzEvS := by
  refine validI (Γ := lk []) Try.func24 bod24 low24 res24 (good_of trivial) ?_
  intro E args objs K h hE hG hP
  simp only [spSzEvS, szStep] at h
  split at h
  · refine ⟨by simp [Try.ntmps24], ?_⟩
    rename_i xs n
    obtain ⟨⟨b1, b2, b3⟩, h⟩ := h
    simp (config := { maxSteps := 2000000 }) only [go_sem, hG, hP, Nat.reduceEqDiff, ↓reduceIte, reduceCtorEq, Nat.reduceAdd, Nat.reduceSub, Nat.reduceMul, Nat.reduceLT, Nat.reduceLeDiff, Int.reduceAdd, Int.reduceSub, Int.reduceMul, Int.reduceLT, Int.reduceLE, Int.reduceEq, Int.reduceNeg, Int.reduceNe, Int.reduceGE, Int.reduceGT, Nat.reduceBEq, Int.reduceToNat]
    (try simp (disch := omega) only [wrap_id])
    refine ⟨fun h1 => ⟨_, _, _, ?_, h⟩, fun h1 => ⟨_, _, _, ?_, h⟩⟩ <;> simp (config := { maxSteps := 2000000 }) only [go_sem, hG, hP, Nat.reduceEqDiff, ↓reduceIte, reduceCtorEq, Nat.reduceAdd, Nat.reduceSub, Nat.reduceMul, Nat.reduceLT, Nat.reduceLeDiff, Int.reduceAdd, Int.reduceSub, Int.reduceMul, Int.reduceLT, Int.reduceLE, Int.reduceEq, Int.reduceNeg, Int.reduceNe, Int.reduceGE, Int.reduceGT, Nat.reduceBEq, Int.reduceToNat] <;> simp <;> omega
  · exact h.elim
def spToEv : Spec := ⟨fun _ _ => [], fun args objs K => match args, objs with
  | [.agg [.v (.int .i64 a0), .v (.int .i64 a1)]], [] => K (.agg [.v (.int .i64 a0), .v (.int .i64 a1)]) [] 0
  | _, _ => False, false⟩
theorem spToEv_t {L : Hp} {a : List AVal} : Spec.take spToEv L a = [] := id rfl
theorem spToEv_k : Spec.keep spToEv = false := id rfl
theorem spToEv_f {a0} {a1} {K : AVal → Hp → Nat → Prop} : Spec.f spToEv ([.agg [.v (.int .i64 a0), .v (.int .i64 a1)]]) ([]) K = (K (.agg [.v (.int .i64 a0), .v (.int .i64 a1)]) [] 0) := id rfl
theorem valid22 : Valid Try.prog 22 spToEv := by
  refine validI (Γ := lk []) Try.func22 bod22 low22 res22 (good_of trivial) ?_
  intro E args objs K h hE hG hP
  simp only [spToEv] at h
  split at h
  · refine ⟨by simp [Try.ntmps22], ?_⟩
    rename_i a0 a1
    simp (config := { maxSteps := 2000000 }) only [go_sem, hG, hP, Nat.reduceEqDiff, ↓reduceIte, reduceCtorEq, Nat.reduceAdd, Nat.reduceSub, Nat.reduceMul, Nat.reduceLT, Nat.reduceLeDiff, Int.reduceAdd, Int.reduceSub, Int.reduceMul, Int.reduceLT, Int.reduceLE, Int.reduceEq, Int.reduceNeg, Int.reduceNe, Int.reduceGE, Int.reduceGT, Nat.reduceBEq, Int.reduceToNat]
    exact ⟨_, _, _, by simp (config := { maxSteps := 2000000 }) only [go_sem, hG, hP, Nat.reduceEqDiff, ↓reduceIte, reduceCtorEq, Nat.reduceAdd, Nat.reduceSub, Nat.reduceMul, Nat.reduceLT, Nat.reduceLeDiff, Int.reduceAdd, Int.reduceSub, Int.reduceMul, Int.reduceLT, Int.reduceLE, Int.reduceEq, Int.reduceNeg, Int.reduceNe, Int.reduceGE, Int.reduceGT, Nat.reduceBEq, Int.reduceToNat], h⟩
  · exact h.elim
def spToEvS : Spec := ⟨fun _ _ => [], fun args objs K => match args, objs with
  | [.rs .ev xs], [] => xs.length ≤ 1099511627776 ∧ K (.sub 0 2 0 xs.length) [(0, .row .ev xs)] 1
  | _, _ => False, false⟩
theorem spToEvS_t {L : Hp} {a : List AVal} : Spec.take spToEvS L a = [] := id rfl
theorem spToEvS_k : Spec.keep spToEvS = false := id rfl
theorem spToEvS_f {xs} {K : AVal → Hp → Nat → Prop} : Spec.f spToEvS ([.rs .ev xs]) ([]) K = (xs.length ≤ 1099511627776 ∧ K (.sub 0 2 0 xs.length) [(0, .row .ev xs)] 1) := id rfl
theorem valid26 : Valid Try.prog 26 spToEvS := by
  refine validI (Γ := lk [(22, spToEv)]) Try.func26 bod26 low26 res26 (good_of ⟨⟨cal22, valid22⟩, trivial⟩) ?_
  intro E args objs K h hE hG hP
  simp only [spToEvS] at h
  split at h
  · refine ⟨by simp [Try.ntmps26], ?_⟩
    rename_i xs
    obtain ⟨hlen, h⟩ := h
    simp (config := { maxSteps := 2000000 }) only [go_sem, hG, hP, Nat.reduceEqDiff, ↓reduceIte, reduceCtorEq, Nat.reduceAdd, Nat.reduceSub, Nat.reduceMul, Nat.reduceLT, Nat.reduceLeDiff, Int.reduceAdd, Int.reduceSub, Int.reduceMul, Int.reduceLT, Int.reduceLE, Int.reduceEq, Int.reduceNeg, Int.reduceNe, Int.reduceGE, Int.reduceGT, Nat.reduceBEq, Int.reduceToNat]
    refine ⟨⟨by omega, by unfold appRoom; omega, by omega⟩, ?_⟩
    refine loopI hE (fun k : Nat => ⟨[(0, .rs .ev xs), (3, .sub 0 2 0 xs.length), (4, .v (.int .i64 k))], [(0, .row .ev (xs.take k ++ List.replicate (xs.length - k) (⟨0, 0⟩ : Ev)))], 1, Try.f26.ntmps⟩) (fun k => k ≤ xs.length) (fun k => xs.length - k) ⟨0, Nat.zero_le _, SubS.weak ?_⟩ ?_
    · simp (config := { maxSteps := 2000000 }) only [go_sem, hG, hP, Nat.reduceEqDiff, ↓reduceIte, reduceCtorEq, Nat.reduceAdd, Nat.reduceSub, Nat.reduceMul, Nat.reduceLT, Nat.reduceLeDiff, Int.reduceAdd, Int.reduceSub, Int.reduceMul, Int.reduceLT, Int.reduceLE, Int.reduceEq, Int.reduceNeg, Int.reduceNe, Int.reduceGE, Int.reduceGT, Nat.reduceBEq, Int.reduceToNat]
      all_goals simp
    · intro k hk
      simp (config := { maxSteps := 2000000 }) only [go_sem, hG, hP, Nat.reduceEqDiff, ↓reduceIte, reduceCtorEq, Nat.reduceAdd, Nat.reduceSub, Nat.reduceMul, Nat.reduceLT, Nat.reduceLeDiff, Int.reduceAdd, Int.reduceSub, Int.reduceMul, Int.reduceLT, Int.reduceLE, Int.reduceEq, Int.reduceNeg, Int.reduceNe, Int.reduceGE, Int.reduceGT, Nat.reduceBEq, Int.reduceToNat,  spToEv_f, spToEv_t, spToEv_k]
      (try simp (disch := omega) only [wrap_id])
      refine ⟨fun hlt => ?_, fun hge => ⟨_, _, _, ?_, h⟩⟩
      · rw [fill_len _ _ _ hk]
        repeat (refine And.intro (by first | omega | (simp; done) | (simp; omega) | (unfold appRoom; omega)) ?_)
        refine ⟨k + 1, by omega, SubS.weak ?_⟩
        simp (config := { maxSteps := 2000000 }) only [go_sem, hG, hP, Nat.reduceEqDiff, ↓reduceIte, reduceCtorEq, Nat.reduceAdd, Nat.reduceSub, Nat.reduceMul, Nat.reduceLT, Nat.reduceLeDiff, Int.reduceAdd, Int.reduceSub, Int.reduceMul, Int.reduceLT, Int.reduceLE, Int.reduceEq, Int.reduceNeg, Int.reduceNe, Int.reduceGE, Int.reduceGT, Nat.reduceBEq, Int.reduceToNat]
        rw [fill_set _ _ _ _ (by omega)]
        simp
      · simp (config := { maxSteps := 2000000 }) only [go_sem, hG, hP, Nat.reduceEqDiff, ↓reduceIte, reduceCtorEq, Nat.reduceAdd, Nat.reduceSub, Nat.reduceMul, Nat.reduceLT, Nat.reduceLeDiff, Int.reduceAdd, Int.reduceSub, Int.reduceMul, Int.reduceLT, Int.reduceLE, Int.reduceEq, Int.reduceNeg, Int.reduceNe, Int.reduceGE, Int.reduceGT, Nat.reduceBEq, Int.reduceToNat]
        simp [show k = xs.length by omega]
  · exact h.elim
def spEqEv : Spec := ⟨fun _ _ => [], fun args objs K => match args, objs with
  | [.agg [.v (.int .i64 a0), .v (.int .i64 a1)], .agg [.v (.int .i64 b0), .v (.int .i64 b1)]], [] => K (.v (.bool (decide (a0 = b0 ∧ a1 = b1)))) [] 0
  | _, _ => False, false⟩
theorem spEqEv_t {L : Hp} {a : List AVal} : Spec.take spEqEv L a = [] := id rfl
theorem spEqEv_k : Spec.keep spEqEv = false := id rfl
theorem spEqEv_f {a0} {a1} {b0} {b1} {K : AVal → Hp → Nat → Prop} : Spec.f spEqEv ([.agg [.v (.int .i64 a0), .v (.int .i64 a1)], .agg [.v (.int .i64 b0), .v (.int .i64 b1)]]) ([]) K = (K (.v (.bool (decide (a0 = b0 ∧ a1 = b1)))) [] 0) := id rfl
theorem valid59 : Valid Try.prog 59 spEqEv := by
  refine validI (Γ := lk []) Try.func59 bod59 low59 res59 (good_of trivial) ?_
  intro E args objs K h hE hG hP
  simp only [spEqEv] at h
  split at h
  · refine ⟨by simp [Try.ntmps59], ?_⟩
    rename_i a0 a1 b0 b1
    simp (config := { maxSteps := 2000000 }) only [go_sem, hG, hP, Nat.reduceEqDiff, ↓reduceIte, reduceCtorEq, Nat.reduceAdd, Nat.reduceSub, Nat.reduceMul, Nat.reduceLT, Nat.reduceLeDiff, Int.reduceAdd, Int.reduceSub, Int.reduceMul, Int.reduceLT, Int.reduceLE, Int.reduceEq, Int.reduceNeg, Int.reduceNe, Int.reduceGE, Int.reduceGT, Nat.reduceBEq, Int.reduceToNat]
    refine ⟨fun h0 => ⟨_, _, _, ?_, h⟩, fun h0 => ⟨fun h1 => ⟨_, _, _, ?_, h⟩, fun h1 => ⟨_, _, _, ?_, h⟩⟩⟩ <;> simp (config := { maxSteps := 2000000 }) only [go_sem, hG, hP, Nat.reduceEqDiff, ↓reduceIte, reduceCtorEq, Nat.reduceAdd, Nat.reduceSub, Nat.reduceMul, Nat.reduceLT, Nat.reduceLeDiff, Int.reduceAdd, Int.reduceSub, Int.reduceMul, Int.reduceLT, Int.reduceLE, Int.reduceEq, Int.reduceNeg, Int.reduceNe, Int.reduceGE, Int.reduceGT, Nat.reduceBEq, Int.reduceToNat] <;> simp <;> omega
  · exact h.elim
def spEqEvS : Spec := ⟨fun _ _ => [], fun args objs K => match args, objs with
  | [.rs .ev xs, .rs .ev ys], [] => (xs.length ≤ 1099511627776 ∧ ys.length ≤ 1099511627776) ∧ K (.v (.bool (decide (xs = ys)))) [] 0
  | _, _ => False, false⟩
theorem spEqEvS_t {L : Hp} {a : List AVal} : Spec.take spEqEvS L a = [] := id rfl
theorem spEqEvS_k : Spec.keep spEqEvS = false := id rfl
theorem spEqEvS_f {xs} {ys} {K : AVal → Hp → Nat → Prop} : Spec.f spEqEvS ([.rs .ev xs, .rs .ev ys]) ([]) K = ((xs.length ≤ 1099511627776 ∧ ys.length ≤ 1099511627776) ∧ K (.v (.bool (decide (xs = ys)))) [] 0) := id rfl
theorem valid28 : Valid Try.prog 28 spEqEvS := by
  refine validI (Γ := lk [(59, spEqEv)]) Try.func28 bod28 low28 res28 (good_of ⟨⟨cal59, valid59⟩, trivial⟩) ?_
  intro E args objs K h hE hG hP
  simp only [spEqEvS] at h
  split at h
  · refine ⟨by simp [Try.ntmps28], ?_⟩
    rename_i xs ys
    obtain ⟨⟨hlen, hlen2⟩, h⟩ := h
    simp (config := { maxSteps := 2000000 }) only [go_sem, hG, hP, Nat.reduceEqDiff, ↓reduceIte, reduceCtorEq, Nat.reduceAdd, Nat.reduceSub, Nat.reduceMul, Nat.reduceLT, Nat.reduceLeDiff, Int.reduceAdd, Int.reduceSub, Int.reduceMul, Int.reduceLT, Int.reduceLE, Int.reduceEq, Int.reduceNeg, Int.reduceNe, Int.reduceGE, Int.reduceGT, Nat.reduceBEq, Int.reduceToNat]
    refine ⟨fun h1 => ⟨_, _, _, ?_, h⟩, fun h1 => ?_⟩
    · simp (config := { maxSteps := 2000000 }) only [go_sem, hG, hP, Nat.reduceEqDiff, ↓reduceIte, reduceCtorEq, Nat.reduceAdd, Nat.reduceSub, Nat.reduceMul, Nat.reduceLT, Nat.reduceLeDiff, Int.reduceAdd, Int.reduceSub, Int.reduceMul, Int.reduceLT, Int.reduceLE, Int.reduceEq, Int.reduceNeg, Int.reduceNe, Int.reduceGE, Int.reduceGT, Nat.reduceBEq, Int.reduceToNat]
      rw [decide_eq_false fun e => h1 (by rw [e])]
    · have hle : xs.length = ys.length := by omega
      refine loopI hE (fun k : Nat => ⟨[(0, .rs .ev xs), (1, .rs .ev ys), (5, .v (.int .i64 k))], [], 0, Try.f28.ntmps⟩) (fun k => k ≤ xs.length ∧ xs.take k = ys.take k) (fun k => xs.length - k) ⟨0, ⟨Nat.zero_le _, rfl⟩, SubS.weak ?_⟩ ?_
      · simp (config := { maxSteps := 2000000 }) only [go_sem, hG, hP, Nat.reduceEqDiff, ↓reduceIte, reduceCtorEq, Nat.reduceAdd, Nat.reduceSub, Nat.reduceMul, Nat.reduceLT, Nat.reduceLeDiff, Int.reduceAdd, Int.reduceSub, Int.reduceMul, Int.reduceLT, Int.reduceLE, Int.reduceEq, Int.reduceNeg, Int.reduceNe, Int.reduceGE, Int.reduceGT, Nat.reduceBEq, Int.reduceToNat]
        all_goals simp
      · intro k ⟨hk, hpre⟩
        simp (config := { maxSteps := 2000000 }) only [go_sem, hG, hP, Nat.reduceEqDiff, ↓reduceIte, reduceCtorEq, Nat.reduceAdd, Nat.reduceSub, Nat.reduceMul, Nat.reduceLT, Nat.reduceLeDiff, Int.reduceAdd, Int.reduceSub, Int.reduceMul, Int.reduceLT, Int.reduceLE, Int.reduceEq, Int.reduceNeg, Int.reduceNe, Int.reduceGE, Int.reduceGT, Nat.reduceBEq, Int.reduceToNat,  spEqEv_f, spEqEv_t, spEqEv_k]
        (try simp (disch := omega) only [wrap_id])
        refine ⟨fun hlt => ?_, fun hge => ⟨_, _, _, ?_, h⟩⟩
        · repeat (refine And.intro (by first | omega | (simp; done) | (simp; omega) | (unfold appRoom; omega)) ?_)
          refine ⟨fun hne => ⟨_, _, _, ?_, h⟩, fun heq => ?_⟩
          · simp (config := { maxSteps := 2000000 }) only [go_sem, hG, hP, Nat.reduceEqDiff, ↓reduceIte, reduceCtorEq, Nat.reduceAdd, Nat.reduceSub, Nat.reduceMul, Nat.reduceLT, Nat.reduceLeDiff, Int.reduceAdd, Int.reduceSub, Int.reduceMul, Int.reduceLT, Int.reduceLE, Int.reduceEq, Int.reduceNeg, Int.reduceNe, Int.reduceGE, Int.reduceGT, Nat.reduceBEq, Int.reduceToNat]
            rw [decide_eq_false fun e => ?_]
            subst e
            simp at hne
          · refine ⟨k + 1, ⟨⟨by omega, take_step (⟨0, 0⟩ : Ev) hpre (by omega) (by omega) (by simp at heq; exact ev_ext heq.1 heq.2)⟩, by omega⟩, SubS.weak ?_⟩
            simp (config := { maxSteps := 2000000 }) only [go_sem, hG, hP, Nat.reduceEqDiff, ↓reduceIte, reduceCtorEq, Nat.reduceAdd, Nat.reduceSub, Nat.reduceMul, Nat.reduceLT, Nat.reduceLeDiff, Int.reduceAdd, Int.reduceSub, Int.reduceMul, Int.reduceLT, Int.reduceLE, Int.reduceEq, Int.reduceNeg, Int.reduceNe, Int.reduceGE, Int.reduceGT, Nat.reduceBEq, Int.reduceToNat]
            all_goals simp
        · simp (config := { maxSteps := 2000000 }) only [go_sem, hG, hP, Nat.reduceEqDiff, ↓reduceIte, reduceCtorEq, Nat.reduceAdd, Nat.reduceSub, Nat.reduceMul, Nat.reduceLT, Nat.reduceLeDiff, Int.reduceAdd, Int.reduceSub, Int.reduceMul, Int.reduceLT, Int.reduceLE, Int.reduceEq, Int.reduceNeg, Int.reduceNe, Int.reduceGE, Int.reduceGT, Nat.reduceBEq, Int.reduceToNat]
          rw [decide_eq_true (take_all hpre hle (by omega))]
  · exact h.elim
def evMarks (k : Int) (n : Nat) : List Ev := (List.range n).map fun (i : Nat) => ⟨k + 2 * (i : Int), k + 2 * (i : Int) + 1⟩
theorem evMarks_len (k : Int) (n : Nat) : (evMarks k n).length = n := by simp [evMarks]
theorem evMarks_get (k : Int) {n j : Nat} (h : j < n) : (evMarks k n).getD j (⟨0, 0⟩ : Ev) = ⟨k + 2 * (j : Int), k + 2 * (j : Int) + 1⟩ := by simp [evMarks, List.getD, h]
def spMarkEvS : Spec := ⟨fun _ => take1, fun args objs K => match args, objs with
  | [.sub 0 2 0 n, .v (.int .i64 k)], [.row .ev xs] => (n = xs.length ∧ xs.length ≤ 1099511627776 ∧ 0 ≤ k ∧ k ≤ 1099511627776) ∧ K (.v (.int .i64 (k + 2 * xs.length))) [(0, .row .ev (evMarks k xs.length))] 1
  | _, _ => False, false⟩
theorem spMarkEvS_t {L : Hp} {a : List AVal} : Spec.take spMarkEvS L a = take1 a := id rfl
theorem spMarkEvS_k : Spec.keep spMarkEvS = false := id rfl
theorem spMarkEvS_f {n} {k} {xs} {K : AVal → Hp → Nat → Prop} : Spec.f spMarkEvS ([.sub 0 2 0 n, .v (.int .i64 k)]) ([.row .ev xs]) K = ((n = xs.length ∧ xs.length ≤ 1099511627776 ∧ 0 ≤ k ∧ k ≤ 1099511627776) ∧ K (.v (.int .i64 (k + 2 * xs.length))) [(0, .row .ev (evMarks k xs.length))] 1) := id rfl
theorem valid29 : Valid Try.prog 29 spMarkEvS := by
  refine validI (Γ := lk []) Try.func29 bod29 low29 res29 (good_of trivial) ?_
  intro E args objs K h hE hG hP
  simp only [spMarkEvS] at h
  split at h
  · refine ⟨by simp [Try.ntmps29], ?_⟩
    rename_i n k xs
    obtain ⟨⟨rfl, hlen, hk0, hk1⟩, h⟩ := h
    simp (config := { maxSteps := 2000000 }) only [go_sem, hG, hP, Nat.reduceEqDiff, ↓reduceIte, reduceCtorEq, Nat.reduceAdd, Nat.reduceSub, Nat.reduceMul, Nat.reduceLT, Nat.reduceLeDiff, Int.reduceAdd, Int.reduceSub, Int.reduceMul, Int.reduceLT, Int.reduceLE, Int.reduceEq, Int.reduceNeg, Int.reduceNe, Int.reduceGE, Int.reduceGT, Nat.reduceBEq, Int.reduceToNat]
    refine loopI hE (fun p : Nat × List Ev => ⟨[(0, .sub 0 2 0 xs.length), (1, .v (.int .i64 (k + 2 * (p.1 : Int)))), (5, .v (.int .i64 p.1))], [(0, .row .ev p.2)], 1, Try.f29.ntmps⟩) (fun p => p.1 ≤ xs.length ∧ p.2.length = xs.length ∧ p.2.take p.1 = (evMarks k xs.length).take p.1) (fun p => xs.length - p.1) ⟨(0, xs), ⟨Nat.zero_le _, rfl, rfl⟩, SubS.weak ?_⟩ ?_
    · simp (config := { maxSteps := 2000000 }) only [go_sem, hG, hP, Nat.reduceEqDiff, ↓reduceIte, reduceCtorEq, Nat.reduceAdd, Nat.reduceSub, Nat.reduceMul, Nat.reduceLT, Nat.reduceLeDiff, Int.reduceAdd, Int.reduceSub, Int.reduceMul, Int.reduceLT, Int.reduceLE, Int.reduceEq, Int.reduceNeg, Int.reduceNe, Int.reduceGE, Int.reduceGT, Nat.reduceBEq, Int.reduceToNat]
      repeat' (first | with_reducible rfl | (refine And.intro ?_ ?_) | (refine congrArg (Value.int _) ?_; omega) | omega)
    · rintro ⟨j, ys⟩ ⟨hj, hl, hpre⟩
      dsimp only at hj hl hpre ⊢
      simp (config := { maxSteps := 2000000 }) only [go_sem, hG, hP, Nat.reduceEqDiff, ↓reduceIte, reduceCtorEq, Nat.reduceAdd, Nat.reduceSub, Nat.reduceMul, Nat.reduceLT, Nat.reduceLeDiff, Int.reduceAdd, Int.reduceSub, Int.reduceMul, Int.reduceLT, Int.reduceLE, Int.reduceEq, Int.reduceNeg, Int.reduceNe, Int.reduceGE, Int.reduceGT, Nat.reduceBEq, Int.reduceToNat]
      (try simp (disch := omega) only [wrap_id])
      refine ⟨fun hlt => ?_, fun hge => ⟨_, _, _, ?_, h⟩⟩
      · repeat (refine And.intro (by first | omega | (simp; done) | (simp; omega) | (unfold appRoom; omega)) ?_)
        repeat rw [getD_set_self _ _ _ _ (by (repeat rw [List.length_set]); omega)]
        refine ⟨(j + 1, ((ys.set j ⟨k + 2 * (j : Int), (ys.getD j (⟨0, 0⟩ : Ev)).pl⟩).set j ⟨k + 2 * (j : Int), k + 2 * (j : Int) + 1⟩)), ⟨⟨by dsimp only; omega, by rw [List.length_set, List.length_set]; exact hl, set_step2 (⟨0, 0⟩ : Ev) hpre (by omega) (by rw [evMarks_len]; omega) (evMarks_get k (by omega)).symm⟩, by dsimp only; omega⟩, SubS.weak ?_⟩
        simp (config := { maxSteps := 2000000 }) only [go_sem, hG, hP, Nat.reduceEqDiff, ↓reduceIte, reduceCtorEq, Nat.reduceAdd, Nat.reduceSub, Nat.reduceMul, Nat.reduceLT, Nat.reduceLeDiff, Int.reduceAdd, Int.reduceSub, Int.reduceMul, Int.reduceLT, Int.reduceLE, Int.reduceEq, Int.reduceNeg, Int.reduceNe, Int.reduceGE, Int.reduceGT, Nat.reduceBEq, Int.reduceToNat]
        repeat' (first | with_reducible rfl | (refine And.intro ?_ ?_) | (refine congrArg (Value.int _) ?_; omega) | omega)
      · simp (config := { maxSteps := 2000000 }) only [go_sem, hG, hP, Nat.reduceEqDiff, ↓reduceIte, reduceCtorEq, Nat.reduceAdd, Nat.reduceSub, Nat.reduceMul, Nat.reduceLT, Nat.reduceLeDiff, Int.reduceAdd, Int.reduceSub, Int.reduceMul, Int.reduceLT, Int.reduceLE, Int.reduceEq, Int.reduceNeg, Int.reduceNe, Int.reduceGE, Int.reduceGT, Nat.reduceBEq, Int.reduceToNat]
        have hj' : j = xs.length := by omega
        subst hj'
        rw [take_all hpre (by rw [hl, evMarks_len]) (by omega)]
        repeat' (first | with_reducible rfl | (refine And.intro ?_ ?_) | (refine congrArg (Value.int _) ?_; omega) | omega)
  · exact h.elim
end Go.Proofs.YtiakjdcognckpaaE

/-! The code of a function, in the engine's words. -/
namespace Go.Proofs.YtiakjdcognckpaaE
open Go Go.RowKit
@[reducible] def ic70 : IC := (.seq (.ops [⟨some 1, .box (.tmp 0), none⟩, ⟨some 2, .new [(.int .i64 0), (.int .i64 0)], none⟩]) (.seq (.ops [⟨some 3, .new [(.int .i64 0), (.int .i64 0)], none⟩]) (.seq (.ops [⟨some 4, .fadr 0 (.tmp 1), none⟩, ⟨some 5, .load 1 false (.tmp 4), none⟩, ⟨some 6, .fadr 0 (.tmp 3), none⟩, ⟨none, .store 1 (.tmp 6) (.tmp 5), none⟩]) (.seq (.ops [⟨some 7, .fadr 1 (.tmp 1), none⟩, ⟨some 8, .load 1 false (.tmp 7), none⟩, ⟨some 9, .fadr 1 (.tmp 3), none⟩, ⟨none, .store 1 (.tmp 9) (.tmp 8), none⟩]) (.seq (.ops [⟨some 10, .load 2 true (.tmp 3), none⟩, ⟨none, .store 2 (.tmp 2) (.tmp 10), none⟩]) .ret)))))
@[reducible] def rv70 : List RV := [.cell 2 2 true]
theorem low70 : lowC Try.prog tau Try.f70.ntmps (Try.f70.body.getD .skip) = some (erase ic70) := by kernel_rfl
theorem res70 : lowR Try.prog Try.f70.results.toList = some rv70 := by kernel_rfl
theorem bod70 : Try.f70.body = some (Try.f70.body.getD .skip) := by kernel_rfl
theorem cal70 : callable Try.prog 70 = true := by kernel_rfl

end Go.Proofs.YtiakjdcognckpaaE

/-! The code of a function, in the engine's words. -/
namespace Go.Proofs.YtiakjdcognckpaaE
open Go Go.RowKit
@[reducible] def ic46 : IC := (.seq (.ops [⟨some 1, .box (.tmp 0), none⟩, ⟨some 2, .new [(.int .i64 0), (.int .i64 0), (.int .i64 0), (.int .i64 0)], none⟩]) (.seq (.ops [⟨some 3, .new [(.int .i64 0), (.int .i64 0), (.int .i64 0), (.int .i64 0)], none⟩]) (.seq (.seq (.ops [⟨some 4, .mov (.const (.int .i64 0)), none⟩]) (.block 0 (.loop (.seq (.seq (.ops [⟨some 5, .mov (.tmp 4), none⟩, ⟨some 6, .bin .lss (.tmp 5) (.const (.int .i64 2)), none⟩]) (.cond (.tmp 6) .skip (.exit 0))) (.seq (.block 1 (.ops [⟨some 9, .mov (.tmp 4), none⟩, ⟨some 10, .mov (.tmp 4), none⟩, ⟨some 11, .iarr 2 2 (.tmp 1) (.tmp 10), none⟩, ⟨some 12, .load 2 true (.tmp 11), none⟩, ⟨some 13, .call 70 [(.tmp 12)], none⟩, ⟨some 14, .iarr 2 2 (.tmp 3) (.tmp 9), none⟩, ⟨none, .store 2 (.tmp 14) (.tmp 13), none⟩])) (.ops [⟨some 7, .mov (.tmp 4), none⟩, ⟨some 8, .bin .add (.tmp 7) (.const (.int .i64 1)), none⟩, ⟨some 4, .mov (.tmp 8), none⟩])))))) (.seq (.ops [⟨some 15, .load 4 true (.tmp 3), none⟩, ⟨none, .store 4 (.tmp 2) (.tmp 15), none⟩]) .ret))))
@[reducible] def rv46 : List RV := [.cell 2 4 true]
theorem low46 : lowC Try.prog tau Try.f46.ntmps (Try.f46.body.getD .skip) = some (erase ic46) := by kernel_rfl
theorem res46 : lowR Try.prog Try.f46.results.toList = some rv46 := by kernel_rfl
theorem bod46 : Try.f46.body = some (Try.f46.body.getD .skip) := by kernel_rfl
theorem cal46 : callable Try.prog 46 = true := by kernel_rfl

end Go.Proofs.YtiakjdcognckpaaE

/-! The code of a function, in the engine's words. -/
namespace Go.Proofs.YtiakjdcognckpaaE
open Go Go.RowKit
@[reducible] def ic16 : IC := (.seq (.ops [⟨some 1, .box (.tmp 0), none⟩, ⟨some 2, .new [(.int .i64 0), (.int .i64 0), (.int .i64 0), (.int .i64 0), (.slice none 0 0)], none⟩]) (.seq (.ops [⟨some 3, .new [(.int .i64 0), (.int .i64 0), (.int .i64 0), (.int .i64 0), (.slice none 0 0)], none⟩]) (.seq (.ops [⟨some 4, .fadr 0 (.tmp 1), none⟩, ⟨some 5, .load 4 true (.tmp 4), none⟩, ⟨some 6, .call 46 [(.tmp 5)], none⟩, ⟨some 7, .fadr 0 (.tmp 3), none⟩, ⟨none, .store 4 (.tmp 7) (.tmp 6), none⟩]) (.seq (.ops [⟨some 8, .fadr 4 (.tmp 1), none⟩, ⟨some 9, .load 1 false (.tmp 8), none⟩, ⟨some 10, .call 47 [(.tmp 9)], none⟩, ⟨some 11, .fadr 4 (.tmp 3), none⟩, ⟨none, .store 1 (.tmp 11) (.tmp 10), none⟩]) (.seq (.ops [⟨some 12, .load 5 true (.tmp 3), none⟩, ⟨none, .store 5 (.tmp 2) (.tmp 12), none⟩]) .ret)))))
@[reducible] def rv16 : List RV := [.cell 2 5 true]
theorem low16 : lowC Try.prog tau Try.f16.ntmps (Try.f16.body.getD .skip) = some (erase ic16) := by kernel_rfl
theorem res16 : lowR Try.prog Try.f16.results.toList = some rv16 := by kernel_rfl
theorem bod16 : Try.f16.body = some (Try.f16.body.getD .skip) := by kernel_rfl
theorem cal16 : callable Try.prog 16 = true := by kernel_rfl

end Go.Proofs.YtiakjdcognckpaaE

/-! The code of a function, in the engine's words. -/
namespace Go.Proofs.YtiakjdcognckpaaE
open Go Go.RowKit
@[reducible] def ic49 : IC := (.seq (.ops [⟨some 1, .box (.tmp 0), none⟩, ⟨some 2, .new [(.int .i64 0), (.int .i64 0), (.int .i64 0), (.int .i64 0), (.slice none 0 0)], none⟩]) (.seq (.ops [⟨some 3, .fadr 4 (.tmp 1), none⟩, ⟨some 4, .load 1 false (.tmp 3), none⟩, ⟨some 5, .call 72 [(.tmp 4)], none⟩, ⟨some 6, .fadr 4 (.tmp 1), none⟩, ⟨none, .store 1 (.tmp 6) (.tmp 5), none⟩]) (.seq (.ops [⟨some 7, .load 5 true (.tmp 1), none⟩, ⟨none, .store 5 (.tmp 2) (.tmp 7), none⟩]) .ret)))
@[reducible] def rv49 : List RV := [.cell 2 5 true]
theorem low49 : lowC Try.prog tau Try.f49.ntmps (Try.f49.body.getD .skip) = some (erase ic49) := by kernel_rfl
theorem res49 : lowR Try.prog Try.f49.results.toList = some rv49 := by kernel_rfl
theorem bod49 : Try.f49.body = some (Try.f49.body.getD .skip) := by kernel_rfl
theorem cal49 : callable Try.prog 49 = true := by kernel_rfl

end Go.Proofs.YtiakjdcognckpaaE

/-! The code of a function, in the engine's words. -/
namespace Go.Proofs.YtiakjdcognckpaaE
open Go Go.RowKit
@[reducible] def ic43 : IC := (.seq (.ops [⟨some 1, .box (.tmp 0), none⟩, ⟨some 2, .new [(.int .i64 0), (.int .i64 0), (.int .i64 0), (.int .i64 0), (.slice none 0 0)], none⟩]) (.seq (.ops [⟨some 3, .blds .sig 0 [], none⟩, ⟨some 4, .fadr 4 (.tmp 1), none⟩, ⟨some 5, .load 1 false (.tmp 4), none⟩, ⟨some 6, .app .sig 24 (.tmp 3) (.tmp 5), none⟩, ⟨some 7, .fadr 4 (.tmp 1), none⟩, ⟨none, .store 1 (.tmp 7) (.tmp 6), none⟩]) (.seq (.ops [⟨some 8, .load 5 true (.tmp 1), none⟩, ⟨none, .store 5 (.tmp 2) (.tmp 8), none⟩]) .ret)))
@[reducible] def rv43 : List RV := [.cell 2 5 true]
theorem low43 : lowC Try.prog tau Try.f43.ntmps (Try.f43.body.getD .skip) = some (erase ic43) := by kernel_rfl
theorem res43 : lowR Try.prog Try.f43.results.toList = some rv43 := by kernel_rfl
theorem bod43 : Try.f43.body = some (Try.f43.body.getD .skip) := by kernel_rfl
theorem cal43 : callable Try.prog 43 = true := by kernel_rfl

end Go.Proofs.YtiakjdcognckpaaE

/-! The code of a function, in the engine's words. -/
namespace Go.Proofs.YtiakjdcognckpaaE
open Go Go.RowKit
@[reducible] def ic72 : IC := (.seq (.ops [⟨some 2, .mov (.const (.slice none 0 0)), none⟩]) (.seq (.seq (.ops [⟨some 3, .mov (.tmp 0), none⟩, ⟨some 4, .snil false (.tmp 3), none⟩]) (.cond (.tmp 4) (.seq (.ops [⟨some 2, .mov (.const (.slice none 0 0)), none⟩]) .ret) .skip)) (.seq (.ops [⟨some 5, .blds .sig 0 [], none⟩, ⟨some 6, .mov (.tmp 0), none⟩, ⟨some 7, .app .sig 24 (.tmp 5) (.tmp 6), none⟩, ⟨some 2, .mov (.tmp 7), none⟩]) .ret)))
@[reducible] def rv72 : List RV := [.tmp 2]
theorem low72 : lowC Try.prog tau Try.f72.ntmps (Try.f72.body.getD .skip) = some (erase ic72) := by kernel_rfl
theorem res72 : lowR Try.prog Try.f72.results.toList = some rv72 := by kernel_rfl
theorem bod72 : Try.f72.body = some (Try.f72.body.getD .skip) := by kernel_rfl
theorem cal72 : callable Try.prog 72 = true := by kernel_rfl

end Go.Proofs.YtiakjdcognckpaaE

/-! The code of a function, in the engine's words. -/
namespace Go.Proofs.YtiakjdcognckpaaE
open Go Go.RowKit
@[reducible] def ic73 : IC := (.seq (.ops [⟨some 2, .box (.tmp 0), none⟩, ⟨some 3, .box (.tmp 1), none⟩, ⟨some 4, .mov (.const (.bool false)), none⟩]) (.seq (.seq (.ops [⟨some 5, .fadr 0 (.tmp 2), none⟩, ⟨some 6, .load 1 false (.tmp 5), none⟩, ⟨some 7, .fadr 0 (.tmp 3), none⟩, ⟨some 8, .load 1 false (.tmp 7), none⟩, ⟨some 9, .bin .neq (.tmp 6) (.tmp 8), none⟩]) (.cond (.tmp 9) (.seq (.ops [⟨some 4, .mov (.const (.bool false)), none⟩]) .ret) .skip)) (.seq (.seq (.ops [⟨some 10, .fadr 1 (.tmp 2), none⟩, ⟨some 11, .load 1 false (.tmp 10), none⟩, ⟨some 12, .fadr 1 (.tmp 3), none⟩, ⟨some 13, .load 1 false (.tmp 12), none⟩, ⟨some 14, .bin .neq (.tmp 11) (.tmp 13), none⟩]) (.cond (.tmp 14) (.seq (.ops [⟨some 4, .mov (.const (.bool false)), none⟩]) .ret) .skip)) (.seq (.ops [⟨some 4, .mov (.const (.bool true)), none⟩]) .ret))))
@[reducible] def rv73 : List RV := [.tmp 4]
theorem low73 : lowC Try.prog tau Try.f73.ntmps (Try.f73.body.getD .skip) = some (erase ic73) := by kernel_rfl
theorem res73 : lowR Try.prog Try.f73.results.toList = some rv73 := by kernel_rfl
theorem bod73 : Try.f73.body = some (Try.f73.body.getD .skip) := by kernel_rfl
theorem cal73 : callable Try.prog 73 = true := by kernel_rfl

end Go.Proofs.YtiakjdcognckpaaE

/-! The code of a function, in the engine's words. -/
namespace Go.Proofs.YtiakjdcognckpaaE
open Go Go.RowKit
@[reducible] def ic51 : IC := (.seq (.ops [⟨some 2, .box (.tmp 0), none⟩, ⟨some 3, .box (.tmp 1), none⟩, ⟨some 4, .mov (.const (.bool false)), none⟩]) (.seq (.seq (.ops [⟨some 5, .mov (.const (.int .i64 0)), none⟩]) (.block 0 (.loop (.seq (.seq (.ops [⟨some 6, .mov (.tmp 5), none⟩, ⟨some 7, .bin .lss (.tmp 6) (.const (.int .i64 2)), none⟩]) (.cond (.tmp 7) .skip (.exit 0))) (.seq (.block 1 (.seq (.draw [⟨some 10, .mov (.tmp 5), none⟩, ⟨some 11, .iarr 2 2 (.tmp 2) (.tmp 10), none⟩, ⟨some 12, .load 2 true (.tmp 11), none⟩, ⟨some 13, .mov (.tmp 5), none⟩, ⟨some 14, .iarr 2 2 (.tmp 3) (.tmp 13), none⟩, ⟨some 15, .load 2 true (.tmp 14), none⟩, ⟨some 16, .call 73 [(.tmp 12), (.tmp 15)], none⟩, ⟨some 17, .una .not (.tmp 16), none⟩] (.held ⟨some 10, .mov (.tmp 5), none⟩ (.held ⟨some 11, .iarr 2 2 (.tmp 2) (.tmp 10), none⟩ (.held ⟨some 12, .load 2 true (.tmp 11), none⟩ (.held ⟨some 13, .mov (.tmp 5), none⟩ (.held ⟨some 14, .iarr 2 2 (.tmp 3) (.tmp 13), none⟩ (.held ⟨some 15, .load 2 true (.tmp 14), none⟩ (.alt ⟨some 16, .call 73 [(.tmp 12), (.tmp 15)], none⟩ (.held ⟨some 17, .una .not (.tmp 16), none⟩ .done) .stop)))))))) (.cond (.tmp 17) (.seq (.ops [⟨some 4, .mov (.const (.bool false)), none⟩]) .ret) .skip))) (.ops [⟨some 8, .mov (.tmp 5), none⟩, ⟨some 9, .bin .add (.tmp 8) (.const (.int .i64 1)), none⟩, ⟨some 5, .mov (.tmp 9), none⟩])))))) (.seq (.ops [⟨some 4, .mov (.const (.bool true)), none⟩]) .ret)))
@[reducible] def rv51 : List RV := [.tmp 4]
theorem low51 : lowC Try.prog tau Try.f51.ntmps (Try.f51.body.getD .skip) = some (erase ic51) := by kernel_rfl
theorem res51 : lowR Try.prog Try.f51.results.toList = some rv51 := by kernel_rfl
theorem bod51 : Try.f51.body = some (Try.f51.body.getD .skip) := by kernel_rfl
theorem cal51 : callable Try.prog 51 = true := by kernel_rfl

end Go.Proofs.YtiakjdcognckpaaE

/-! The code of a function, in the engine's words. -/
namespace Go.Proofs.YtiakjdcognckpaaE
open Go Go.RowKit
@[reducible] def ic18 : IC := (.seq (.ops [⟨some 2, .box (.tmp 0), none⟩, ⟨some 3, .box (.tmp 1), none⟩, ⟨some 4, .mov (.const (.bool false)), none⟩]) (.seq (.seq (.ops [⟨some 5, .fadr 0 (.tmp 2), none⟩, ⟨some 6, .load 4 true (.tmp 5), none⟩, ⟨some 7, .fadr 0 (.tmp 3), none⟩, ⟨some 8, .load 4 true (.tmp 7), none⟩, ⟨some 9, .call 51 [(.tmp 6), (.tmp 8)], none⟩, ⟨some 10, .una .not (.tmp 9), none⟩]) (.cond (.tmp 10) (.seq (.ops [⟨some 4, .mov (.const (.bool false)), none⟩]) .ret) .skip)) (.seq (.seq (.ops [⟨some 11, .fadr 4 (.tmp 2), none⟩, ⟨some 12, .load 1 false (.tmp 11), none⟩, ⟨some 13, .fadr 4 (.tmp 3), none⟩, ⟨some 14, .load 1 false (.tmp 13), none⟩, ⟨some 15, .call 52 [(.tmp 12), (.tmp 14)], none⟩, ⟨some 16, .una .not (.tmp 15), none⟩]) (.cond (.tmp 16) (.seq (.ops [⟨some 4, .mov (.const (.bool false)), none⟩]) .ret) .skip)) (.seq (.ops [⟨some 4, .mov (.const (.bool true)), none⟩]) .ret))))
@[reducible] def rv18 : List RV := [.tmp 4]
theorem low18 : lowC Try.prog tau Try.f18.ntmps (Try.f18.body.getD .skip) = some (erase ic18) := by kernel_rfl
theorem res18 : lowR Try.prog Try.f18.results.toList = some rv18 := by kernel_rfl
theorem bod18 : Try.f18.body = some (Try.f18.body.getD .skip) := by kernel_rfl
theorem cal18 : callable Try.prog 18 = true := by kernel_rfl

end Go.Proofs.YtiakjdcognckpaaE

/-! The code of a function, in the engine's words. -/
namespace Go.Proofs.YtiakjdcognckpaaE
open Go Go.RowKit
@[reducible] def ic14 : IC := (.seq (.ops [⟨some 2, .box (.tmp 0), none⟩, ⟨some 4, .mov (.const (.int .i64 0)), none⟩]) (.seq (.ops [⟨some 5, .fadr 4 (.tmp 2), none⟩, ⟨some 6, .load 1 false (.tmp 5), none⟩, ⟨some 7, .mov (.tmp 1), none⟩, ⟨some 8, .call 42 [(.tmp 6), (.tmp 7)], none⟩, ⟨some 1, .mov (.tmp 8), none⟩]) (.seq (.seq (.ops [⟨some 9, .mov (.tmp 1), none⟩, ⟨some 10, .bin .lss (.tmp 9) (.const (.int .i64 0)), none⟩]) (.cond (.tmp 10) (.seq (.ops [⟨some 4, .mov (.const (.int .i64 (-1))), none⟩]) .ret) .skip)) (.seq (.ops [⟨some 11, .mov (.tmp 1), none⟩, ⟨some 4, .mov (.tmp 11), none⟩]) .ret))))
@[reducible] def rv14 : List RV := [.tmp 4]
theorem low14 : lowC Try.prog tau Try.f14.ntmps (Try.f14.body.getD .skip) = some (erase ic14) := by kernel_rfl
theorem res14 : lowR Try.prog Try.f14.results.toList = some rv14 := by kernel_rfl
theorem bod14 : Try.f14.body = some (Try.f14.body.getD .skip) := by kernel_rfl
theorem cal14 : callable Try.prog 14 = true := by kernel_rfl

end Go.Proofs.YtiakjdcognckpaaE

/-! The code of a function, in the engine's words. -/
namespace Go.Proofs.YtiakjdcognckpaaE
open Go Go.RowKit
@[reducible] def ic19 : IC := (.seq (.ops [⟨some 2, .box (.tmp 0), none⟩, ⟨some 4, .mov (.const (.int .i64 0)), none⟩]) (.seq (.ops [⟨some 5, .fadr 4 (.tmp 2), none⟩, ⟨some 6, .load 1 false (.tmp 5), none⟩, ⟨some 7, .mov (.tmp 1), none⟩, ⟨some 8, .call 53 [(.tmp 6), (.tmp 7)], none⟩, ⟨some 1, .mov (.tmp 8), none⟩]) (.seq (.ops [⟨some 9, .mov (.tmp 1), none⟩, ⟨some 4, .mov (.tmp 9), none⟩]) .ret)))
@[reducible] def rv19 : List RV := [.tmp 4]
theorem low19 : lowC Try.prog tau Try.f19.ntmps (Try.f19.body.getD .skip) = some (erase ic19) := by kernel_rfl
theorem res19 : lowR Try.prog Try.f19.results.toList = some rv19 := by kernel_rfl
theorem bod19 : Try.f19.body = some (Try.f19.body.getD .skip) := by kernel_rfl
theorem cal19 : callable Try.prog 19 = true := by kernel_rfl

end Go.Proofs.YtiakjdcognckpaaE

/-! The code of a function, in the engine's words. -/
namespace Go.Proofs.YtiakjdcognckpaaE
open Go Go.RowKit
@[reducible] def ic20 : IC := (.seq (.ops [⟨some 2, .box (.tmp 0), none⟩, ⟨some 4, .mov (.const (.int .i64 0)), none⟩]) (.seq (.ops [⟨some 5, .fadr 4 (.tmp 2), none⟩, ⟨some 6, .load 1 false (.tmp 5), none⟩, ⟨some 7, .mov (.tmp 1), none⟩, ⟨some 8, .call 54 [(.tmp 6), (.tmp 7)], none⟩, ⟨some 1, .mov (.tmp 8), none⟩]) (.seq (.seq (.ops [⟨some 9, .mov (.tmp 1), none⟩, ⟨some 10, .bin .lss (.tmp 9) (.const (.int .i64 0)), none⟩]) (.cond (.tmp 10) (.seq (.ops [⟨some 4, .mov (.const (.int .i64 (-1))), none⟩]) .ret) .skip)) (.seq (.ops [⟨some 11, .mov (.tmp 1), none⟩, ⟨some 4, .mov (.tmp 11), none⟩]) .ret))))
@[reducible] def rv20 : List RV := [.tmp 4]
theorem low20 : lowC Try.prog tau Try.f20.ntmps (Try.f20.body.getD .skip) = some (erase ic20) := by kernel_rfl
theorem res20 : lowR Try.prog Try.f20.results.toList = some rv20 := by kernel_rfl
theorem bod20 : Try.f20.body = some (Try.f20.body.getD .skip) := by kernel_rfl
theorem cal20 : callable Try.prog 20 = true := by kernel_rfl

end Go.Proofs.YtiakjdcognckpaaE

/-! Functions over a whole Duo. -/
namespace Go.Proofs.YtiakjdcognckpaaE
open Go Go.RowKit
set_option linter.unusedSimpArgs false
set_option linter.unusedVariables false
set_option maxRecDepth 20000

/-- A Duo, as plain numbers and a list. -/
structure Du where
  a : Int
  x : Int
  b : Int
  y : Int
  q : List Sig
def duA (d : Du) : AVal := .agg [.v (.int .i64 d.a), .v (.int .i64 d.x), .v (.int .i64 d.b), .v (.int .i64 d.y), .sub 0 3 0 d.q.length]
def duL (d : Du) : Hp := [(0, .row .sig d.q)]
theorem duA_eq {a x b y : Int} {q : List Sig} : duA ⟨a, x, b, y, q⟩ = .agg [.v (.int .i64 a), .v (.int .i64 x), .v (.int .i64 b), .v (.int .i64 y), .sub 0 3 0 q.length] := id rfl
theorem duL_eq {a x b y : Int} {q : List Sig} : duL ⟨a, x, b, y, q⟩ = [(0, .row .sig q)] := id rfl
def spToHalf : Spec := ⟨fun _ _ => [], fun args objs K => match args, objs with
  | [.agg [.v (.int .i64 a), .v (.int .i64 b)]], [] => K (.agg [.v (.int .i64 a), .v (.int .i64 b)]) [] 0
  | _, _ => False, false⟩
theorem spToHalf_t {L : Hp} {a : List AVal} : Spec.take spToHalf L a = [] := id rfl
theorem spToHalf_k : Spec.keep spToHalf = false := id rfl
theorem spToHalf_f {a} {b} {K : AVal → Hp → Nat → Prop} : Spec.f spToHalf ([.agg [.v (.int .i64 a), .v (.int .i64 b)]]) ([]) K = (K (.agg [.v (.int .i64 a), .v (.int .i64 b)]) [] 0) := id rfl
theorem valid70 : Valid Try.prog 70 spToHalf := by
  refine validI (Γ := lk []) Try.func70 bod70 low70 res70 (good_of trivial) ?_
  intro E args objs K h hE hG hP
  simp only [spToHalf] at h
  split at h
  · refine ⟨by simp [Try.ntmps70], ?_⟩
    rename_i a b
    simp (config := { maxSteps := 2000000 }) only [go_sem, hG, hP, Nat.reduceEqDiff, ↓reduceIte, reduceCtorEq, Nat.reduceAdd, Nat.reduceSub, Nat.reduceMul, Nat.reduceLT, Nat.reduceLeDiff, Int.reduceAdd, Int.reduceSub, Int.reduceMul, Int.reduceLT, Int.reduceLE, Int.reduceEq, Int.reduceNeg, Int.reduceNe, Int.reduceGE, Int.reduceGT, Nat.reduceBEq, Int.reduceToNat]
    exact ⟨_, _, _, by simp (config := { maxSteps := 2000000 }) only [go_sem, hG, hP, Nat.reduceEqDiff, ↓reduceIte, reduceCtorEq, Nat.reduceAdd, Nat.reduceSub, Nat.reduceMul, Nat.reduceLT, Nat.reduceLeDiff, Int.reduceAdd, Int.reduceSub, Int.reduceMul, Int.reduceLT, Int.reduceLE, Int.reduceEq, Int.reduceNeg, Int.reduceNe, Int.reduceGE, Int.reduceGT, Nat.reduceBEq, Int.reduceToNat], h⟩
  · exact h.elim
def spToH2 : Spec := ⟨fun _ _ => [], fun args objs K => match args, objs with
  | [.agg [.v (.int .i64 a), .v (.int .i64 x), .v (.int .i64 b), .v (.int .i64 y)]], [] => K (.agg [.v (.int .i64 a), .v (.int .i64 x), .v (.int .i64 b), .v (.int .i64 y)]) [] 0
  | _, _ => False, false⟩
theorem spToH2_t {L : Hp} {a : List AVal} : Spec.take spToH2 L a = [] := id rfl
theorem spToH2_k : Spec.keep spToH2 = false := id rfl
theorem spToH2_f {a} {x} {b} {y} {K : AVal → Hp → Nat → Prop} : Spec.f spToH2 ([.agg [.v (.int .i64 a), .v (.int .i64 x), .v (.int .i64 b), .v (.int .i64 y)]]) ([]) K = (K (.agg [.v (.int .i64 a), .v (.int .i64 x), .v (.int .i64 b), .v (.int .i64 y)]) [] 0) := id rfl
theorem valid46 : Valid Try.prog 46 spToH2 := by
  refine validI (Γ := lk [(70, spToHalf)]) Try.func46 bod46 low46 res46 (good_of ⟨⟨cal70, valid70⟩, trivial⟩) ?_
  intro E args objs K h hE hG hP
  simp only [spToH2] at h
  split at h
  · refine ⟨by simp [Try.ntmps46], ?_⟩
    rename_i a x b y
    simp (config := { maxSteps := 2000000 }) only [go_sem, hG, hP, Nat.reduceEqDiff, ↓reduceIte, reduceCtorEq, Nat.reduceAdd, Nat.reduceSub, Nat.reduceMul, Nat.reduceLT, Nat.reduceLeDiff, Int.reduceAdd, Int.reduceSub, Int.reduceMul, Int.reduceLT, Int.reduceLE, Int.reduceEq, Int.reduceNeg, Int.reduceNe, Int.reduceGE, Int.reduceGT, Nat.reduceBEq, Int.reduceToNat]
    refine unrollI hE [(), (), ()] ?_
    simp (config := { maxSteps := 2000000 }) only [go_sem, hG, hP, Nat.reduceEqDiff, ↓reduceIte, reduceCtorEq, Nat.reduceAdd, Nat.reduceSub, Nat.reduceMul, Nat.reduceLT, Nat.reduceLeDiff, Int.reduceAdd, Int.reduceSub, Int.reduceMul, Int.reduceLT, Int.reduceLE, Int.reduceEq, Int.reduceNeg, Int.reduceNe, Int.reduceGE, Int.reduceGT, Nat.reduceBEq, Int.reduceToNat,  spToHalf_f, spToHalf_t, spToHalf_k]
    refine ⟨_, _, _, ?_, h⟩
    simp (config := { maxSteps := 2000000 }) only [go_sem, hG, hP, Nat.reduceEqDiff, ↓reduceIte, reduceCtorEq, Nat.reduceAdd, Nat.reduceSub, Nat.reduceMul, Nat.reduceLT, Nat.reduceLeDiff, Int.reduceAdd, Int.reduceSub, Int.reduceMul, Int.reduceLT, Int.reduceLE, Int.reduceEq, Int.reduceNeg, Int.reduceNe, Int.reduceGE, Int.reduceGT, Nat.reduceBEq, Int.reduceToNat]
  · exact h.elim
def spToDu : Spec := ⟨fun _ _ => [], fun args objs K => match args, objs with
  | [.agg [.v (.int .i64 a), .v (.int .i64 x), .v (.int .i64 b), .v (.int .i64 y), .rs .sig q]], [] => q.length ≤ 1099511627776 ∧ K (.agg [.v (.int .i64 a), .v (.int .i64 x), .v (.int .i64 b), .v (.int .i64 y), .sub 0 3 0 q.length]) [(0, .row .sig q)] 1
  | _, _ => False, false⟩
theorem spToDu_t {L : Hp} {a : List AVal} : Spec.take spToDu L a = [] := id rfl
theorem spToDu_k : Spec.keep spToDu = false := id rfl
theorem spToDu_f {a} {x} {b} {y} {q} {K : AVal → Hp → Nat → Prop} : Spec.f spToDu ([.agg [.v (.int .i64 a), .v (.int .i64 x), .v (.int .i64 b), .v (.int .i64 y), .rs .sig q]]) ([]) K = (q.length ≤ 1099511627776 ∧ K (.agg [.v (.int .i64 a), .v (.int .i64 x), .v (.int .i64 b), .v (.int .i64 y), .sub 0 3 0 q.length]) [(0, .row .sig q)] 1) := id rfl
theorem valid16 : Valid Try.prog 16 spToDu := by
  refine validI (Γ := lk [(46, spToH2), (47, spToSigS)]) Try.func16 bod16 low16 res16 (good_of ⟨⟨cal46, valid46⟩, ⟨cal47, valid47⟩, trivial⟩) ?_
  intro E args objs K h hE hG hP
  simp only [spToDu] at h
  split at h
  · refine ⟨by simp [Try.ntmps16], ?_⟩
    rename_i a x b y q
    obtain ⟨b1, h⟩ := h
    simp (config := { maxSteps := 2000000 }) only [go_sem, hG, hP, Nat.reduceEqDiff, ↓reduceIte, reduceCtorEq, Nat.reduceAdd, Nat.reduceSub, Nat.reduceMul, Nat.reduceLT, Nat.reduceLeDiff, Int.reduceAdd, Int.reduceSub, Int.reduceMul, Int.reduceLT, Int.reduceLE, Int.reduceEq, Int.reduceNeg, Int.reduceNe, Int.reduceGE, Int.reduceGT, Nat.reduceBEq, Int.reduceToNat,  spToH2_f, spToH2_t, spToH2_k, spToSigS_f, spToSigS_t, spToSigS_k]
    repeat (refine And.intro (by first | omega | (simp; done) | (simp; omega) | (unfold appRoom; omega)) ?_)
    refine ⟨_, _, _, ?_, h⟩
    simp (config := { maxSteps := 2000000 }) only [go_sem, hG, hP, Nat.reduceEqDiff, ↓reduceIte, reduceCtorEq, Nat.reduceAdd, Nat.reduceSub, Nat.reduceMul, Nat.reduceLT, Nat.reduceLeDiff, Int.reduceAdd, Int.reduceSub, Int.reduceMul, Int.reduceLT, Int.reduceLE, Int.reduceEq, Int.reduceNeg, Int.reduceNe, Int.reduceGE, Int.reduceGT, Nat.reduceBEq, Int.reduceToNat]
    all_goals simp
  · exact h.elim
def spCloneS : Spec := ⟨fun _ _ => [], fun args objs K => match args, objs with
  | [.rs .sig xs], [] => xs.length ≤ 1099511627776 ∧ K (.sub 0 3 0 xs.length) [(0, .row .sig xs)] 1
  | _, _ => False, false⟩
theorem spCloneS_t {L : Hp} {a : List AVal} : Spec.take spCloneS L a = [] := id rfl
theorem spCloneS_k : Spec.keep spCloneS = false := id rfl
theorem spCloneS_f {xs} {K : AVal → Hp → Nat → Prop} : Spec.f spCloneS ([.rs .sig xs]) ([]) K = (xs.length ≤ 1099511627776 ∧ K (.sub 0 3 0 xs.length) [(0, .row .sig xs)] 1) := id rfl
theorem valid72 : Valid Try.prog 72 spCloneS := by
  refine validI (Γ := lk []) Try.func72 bod72 low72 res72 (good_of trivial) ?_
  intro E args objs K h hE hG hP
  simp only [spCloneS] at h
  split at h
  · refine ⟨by simp [Try.ntmps72], ?_⟩
    rename_i xs
    obtain ⟨b1, h⟩ := h
    simp (config := { maxSteps := 2000000 }) only [go_sem, hG, hP, Nat.reduceEqDiff, ↓reduceIte, reduceCtorEq, Nat.reduceAdd, Nat.reduceSub, Nat.reduceMul, Nat.reduceLT, Nat.reduceLeDiff, Int.reduceAdd, Int.reduceSub, Int.reduceMul, Int.reduceLT, Int.reduceLE, Int.reduceEq, Int.reduceNeg, Int.reduceNe, Int.reduceGE, Int.reduceGT, Nat.reduceBEq, Int.reduceToNat]
    repeat (refine And.intro (by first | omega | (simp; done) | (simp; omega) | (unfold appRoom; omega)) ?_)
    intro b hb
    refine ⟨fun e => ⟨_, _, _, ?_, h⟩, fun e => ?_⟩
    · rw [hb e]
      simp (config := { maxSteps := 2000000 }) only [go_sem, hG, hP, Nat.reduceEqDiff, ↓reduceIte, reduceCtorEq, Nat.reduceAdd, Nat.reduceSub, Nat.reduceMul, Nat.reduceLT, Nat.reduceLeDiff, Int.reduceAdd, Int.reduceSub, Int.reduceMul, Int.reduceLT, Int.reduceLE, Int.reduceEq, Int.reduceNeg, Int.reduceNe, Int.reduceGE, Int.reduceGT, Nat.reduceBEq, Int.reduceToNat]
      all_goals simp
    · refine ⟨by simp only [appRoom]; omega, ⟨_, _, _, ?_, h⟩⟩
      simp (config := { maxSteps := 2000000 }) only [go_sem, hG, hP, Nat.reduceEqDiff, ↓reduceIte, reduceCtorEq, Nat.reduceAdd, Nat.reduceSub, Nat.reduceMul, Nat.reduceLT, Nat.reduceLeDiff, Int.reduceAdd, Int.reduceSub, Int.reduceMul, Int.reduceLT, Int.reduceLE, Int.reduceEq, Int.reduceNeg, Int.reduceNe, Int.reduceGE, Int.reduceGT, Nat.reduceBEq, Int.reduceToNat]
      all_goals simp
  · exact h.elim
theorem valid49 : Valid Try.prog 49 spToDu := by
  refine validI (Γ := lk [(72, spCloneS)]) Try.func49 bod49 low49 res49 (good_of ⟨⟨cal72, valid72⟩, trivial⟩) ?_
  intro E args objs K h hE hG hP
  simp only [spToDu] at h
  split at h
  · refine ⟨by simp [Try.ntmps49], ?_⟩
    rename_i a x b y q
    obtain ⟨b1, h⟩ := h
    simp (config := { maxSteps := 2000000 }) only [go_sem, hG, hP, Nat.reduceEqDiff, ↓reduceIte, reduceCtorEq, Nat.reduceAdd, Nat.reduceSub, Nat.reduceMul, Nat.reduceLT, Nat.reduceLeDiff, Int.reduceAdd, Int.reduceSub, Int.reduceMul, Int.reduceLT, Int.reduceLE, Int.reduceEq, Int.reduceNeg, Int.reduceNe, Int.reduceGE, Int.reduceGT, Nat.reduceBEq, Int.reduceToNat,  spCloneS_f, spCloneS_t, spCloneS_k]
    repeat (refine And.intro (by first | omega | (simp; done) | (simp; omega) | (unfold appRoom; omega)) ?_)
    refine ⟨_, _, _, ?_, h⟩
    simp (config := { maxSteps := 2000000 }) only [go_sem, hG, hP, Nat.reduceEqDiff, ↓reduceIte, reduceCtorEq, Nat.reduceAdd, Nat.reduceSub, Nat.reduceMul, Nat.reduceLT, Nat.reduceLeDiff, Int.reduceAdd, Int.reduceSub, Int.reduceMul, Int.reduceLT, Int.reduceLE, Int.reduceEq, Int.reduceNeg, Int.reduceNe, Int.reduceGE, Int.reduceGT, Nat.reduceBEq, Int.reduceToNat]
    all_goals simp
  · exact h.elim
theorem valid43 : Valid Try.prog 43 spToDu := by
  refine validI (Γ := lk []) Try.func43 bod43 low43 res43 (good_of trivial) ?_
  intro E args objs K h hE hG hP
  simp only [spToDu] at h
  split at h
  · refine ⟨by simp [Try.ntmps43], ?_⟩
    rename_i a x b y q
    obtain ⟨b1, h⟩ := h
    simp (config := { maxSteps := 2000000 }) only [go_sem, hG, hP, Nat.reduceEqDiff, ↓reduceIte, reduceCtorEq, Nat.reduceAdd, Nat.reduceSub, Nat.reduceMul, Nat.reduceLT, Nat.reduceLeDiff, Int.reduceAdd, Int.reduceSub, Int.reduceMul, Int.reduceLT, Int.reduceLE, Int.reduceEq, Int.reduceNeg, Int.reduceNe, Int.reduceGE, Int.reduceGT, Nat.reduceBEq, Int.reduceToNat]
    repeat (refine And.intro (by first | omega | (simp; done) | (simp; omega) | (unfold appRoom; omega)) ?_)
    refine ⟨_, _, _, ?_, h⟩
    simp (config := { maxSteps := 2000000 }) only [go_sem, hG, hP, Nat.reduceEqDiff, ↓reduceIte, reduceCtorEq, Nat.reduceAdd, Nat.reduceSub, Nat.reduceMul, Nat.reduceLT, Nat.reduceLeDiff, Int.reduceAdd, Int.reduceSub, Int.reduceMul, Int.reduceLT, Int.reduceLE, Int.reduceEq, Int.reduceNeg, Int.reduceNe, Int.reduceGE, Int.reduceGT, Nat.reduceBEq, Int.reduceToNat]
    all_goals simp
  · exact h.elim
def spEqHalf : Spec := ⟨fun _ _ => [], fun args objs K => match args, objs with
  | [.agg [.v (.int .i64 a), .v (.int .i64 b)], .agg [.v (.int .i64 c), .v (.int .i64 d)]], [] => K (.v (.bool (decide (a = c ∧ b = d)))) [] 0
  | _, _ => False, false⟩
theorem spEqHalf_t {L : Hp} {a : List AVal} : Spec.take spEqHalf L a = [] := id rfl
theorem spEqHalf_k : Spec.keep spEqHalf = false := id rfl
theorem spEqHalf_f {a} {b} {c} {d} {K : AVal → Hp → Nat → Prop} : Spec.f spEqHalf ([.agg [.v (.int .i64 a), .v (.int .i64 b)], .agg [.v (.int .i64 c), .v (.int .i64 d)]]) ([]) K = (K (.v (.bool (decide (a = c ∧ b = d)))) [] 0) := id rfl
theorem valid73 : Valid Try.prog 73 spEqHalf := by
  refine validI (Γ := lk []) Try.func73 bod73 low73 res73 (good_of trivial) ?_
  intro E args objs K h hE hG hP
  simp only [spEqHalf] at h
  split at h
  · refine ⟨by simp [Try.ntmps73], ?_⟩
    rename_i a b c d
    simp (config := { maxSteps := 2000000 }) only [go_sem, hG, hP, Nat.reduceEqDiff, ↓reduceIte, reduceCtorEq, Nat.reduceAdd, Nat.reduceSub, Nat.reduceMul, Nat.reduceLT, Nat.reduceLeDiff, Int.reduceAdd, Int.reduceSub, Int.reduceMul, Int.reduceLT, Int.reduceLE, Int.reduceEq, Int.reduceNeg, Int.reduceNe, Int.reduceGE, Int.reduceGT, Nat.reduceBEq, Int.reduceToNat]
    refine ⟨fun h1 => ⟨_, _, _, ?_, h⟩, fun h1 => ⟨fun h2 => ⟨_, _, _, ?_, h⟩, fun h2 => ⟨_, _, _, ?_, h⟩⟩⟩ <;> simp (config := { maxSteps := 2000000 }) only [go_sem, hG, hP, Nat.reduceEqDiff, ↓reduceIte, reduceCtorEq, Nat.reduceAdd, Nat.reduceSub, Nat.reduceMul, Nat.reduceLT, Nat.reduceLeDiff, Int.reduceAdd, Int.reduceSub, Int.reduceMul, Int.reduceLT, Int.reduceLE, Int.reduceEq, Int.reduceNeg, Int.reduceNe, Int.reduceGE, Int.reduceGT, Nat.reduceBEq, Int.reduceToNat] <;> simp <;> omega
  · exact h.elim
def spEqH2 : Spec := ⟨fun _ _ => [], fun args objs K => match args, objs with
  | [.agg [.v (.int .i64 a), .v (.int .i64 x), .v (.int .i64 b), .v (.int .i64 y)], .agg [.v (.int .i64 a'), .v (.int .i64 x'), .v (.int .i64 b'), .v (.int .i64 y')]], [] => K (.v (.bool (decide ((a = a' ∧ x = x') ∧ (b = b' ∧ y = y'))))) [] 0
  | _, _ => False, false⟩
theorem spEqH2_t {L : Hp} {a : List AVal} : Spec.take spEqH2 L a = [] := id rfl
theorem spEqH2_k : Spec.keep spEqH2 = false := id rfl
theorem spEqH2_f {a} {x} {b} {y} {a'} {x'} {b'} {y'} {K : AVal → Hp → Nat → Prop} : Spec.f spEqH2 ([.agg [.v (.int .i64 a), .v (.int .i64 x), .v (.int .i64 b), .v (.int .i64 y)], .agg [.v (.int .i64 a'), .v (.int .i64 x'), .v (.int .i64 b'), .v (.int .i64 y')]]) ([]) K = (K (.v (.bool (decide ((a = a' ∧ x = x') ∧ (b = b' ∧ y = y'))))) [] 0) := id rfl
theorem valid51 : Valid Try.prog 51 spEqH2 := by
  refine validI (Γ := lk [(73, spEqHalf)]) Try.func51 bod51 low51 res51 (good_of ⟨⟨cal73, valid73⟩, trivial⟩) ?_
  intro E args objs K h hE hG hP
  simp only [spEqH2] at h
  split at h
  · refine ⟨by simp [Try.ntmps51], ?_⟩
    rename_i a x b y a' x' b' y'
    simp (config := { maxSteps := 2000000 }) only [go_sem, hG, hP, Nat.reduceEqDiff, ↓reduceIte, reduceCtorEq, Nat.reduceAdd, Nat.reduceSub, Nat.reduceMul, Nat.reduceLT, Nat.reduceLeDiff, Int.reduceAdd, Int.reduceSub, Int.reduceMul, Int.reduceLT, Int.reduceLE, Int.reduceEq, Int.reduceNeg, Int.reduceNe, Int.reduceGE, Int.reduceGT, Nat.reduceBEq, Int.reduceToNat]
    refine unrollI hE [(), (), ()] ?_
    simp (config := { maxSteps := 2000000 }) only [go_sem, hG, hP, Nat.reduceEqDiff, ↓reduceIte, reduceCtorEq, Nat.reduceAdd, Nat.reduceSub, Nat.reduceMul, Nat.reduceLT, Nat.reduceLeDiff, Int.reduceAdd, Int.reduceSub, Int.reduceMul, Int.reduceLT, Int.reduceLE, Int.reduceEq, Int.reduceNeg, Int.reduceNe, Int.reduceGE, Int.reduceGT, Nat.reduceBEq, Int.reduceToNat,  spEqHalf_f, spEqHalf_t, spEqHalf_k]
    refine ⟨fun h1 => ⟨_, _, _, ?_, h⟩, fun h1 => ⟨fun h2 => ⟨_, _, _, ?_, h⟩, fun h2 => ⟨_, _, _, ?_, h⟩⟩⟩ <;> simp (config := { maxSteps := 2000000 }) only [go_sem, hG, hP, Nat.reduceEqDiff, ↓reduceIte, reduceCtorEq, Nat.reduceAdd, Nat.reduceSub, Nat.reduceMul, Nat.reduceLT, Nat.reduceLeDiff, Int.reduceAdd, Int.reduceSub, Int.reduceMul, Int.reduceLT, Int.reduceLE, Int.reduceEq, Int.reduceNeg, Int.reduceNe, Int.reduceGE, Int.reduceGT, Nat.reduceBEq, Int.reduceToNat] <;> simp <;> omega
  · exact h.elim
def spEqDu : Spec := ⟨fun _ _ => [], fun args objs K => match args, objs with
  | [.agg [.v (.int .i64 a), .v (.int .i64 x), .v (.int .i64 b), .v (.int .i64 y), .rs .sig q], .agg [.v (.int .i64 a'), .v (.int .i64 x'), .v (.int .i64 b'), .v (.int .i64 y'), .rs .sig q']], [] =>
      (q.length ≤ 1099511627776 ∧ q'.length ≤ 1099511627776) ∧ K (.v (.bool (decide (((a = a' ∧ x = x') ∧ (b = b' ∧ y = y')) ∧ q = q')))) [] 0
  | _, _ => False, false⟩
theorem spEqDu_t {L : Hp} {a : List AVal} : Spec.take spEqDu L a = [] := id rfl
theorem spEqDu_k : Spec.keep spEqDu = false := id rfl
theorem spEqDu_f {a} {x} {b} {y} {q} {a'} {x'} {b'} {y'} {q'} {K : AVal → Hp → Nat → Prop} : Spec.f spEqDu ([.agg [.v (.int .i64 a), .v (.int .i64 x), .v (.int .i64 b), .v (.int .i64 y), .rs .sig q], .agg [.v (.int .i64 a'), .v (.int .i64 x'), .v (.int .i64 b'), .v (.int .i64 y'), .rs .sig q']]) ([]) K = ((q.length ≤ 1099511627776 ∧ q'.length ≤ 1099511627776) ∧ K (.v (.bool (decide (((a = a' ∧ x = x') ∧ (b = b' ∧ y = y')) ∧ q = q')))) [] 0) := id rfl
theorem valid18 : Valid Try.prog 18 spEqDu := by
  refine validI (Γ := lk [(51, spEqH2), (52, spEqSigS)]) Try.func18 bod18 low18 res18 (good_of ⟨⟨cal51, valid51⟩, ⟨cal52, valid52⟩, trivial⟩) ?_
  intro E args objs K h hE hG hP
  simp only [spEqDu] at h
  split at h
  · refine ⟨by simp [Try.ntmps18], ?_⟩
    obtain ⟨⟨b1, b2⟩, h⟩ := h
    simp (config := { maxSteps := 2000000 }) only [go_sem, hG, hP, Nat.reduceEqDiff, ↓reduceIte, reduceCtorEq, Nat.reduceAdd, Nat.reduceSub, Nat.reduceMul, Nat.reduceLT, Nat.reduceLeDiff, Int.reduceAdd, Int.reduceSub, Int.reduceMul, Int.reduceLT, Int.reduceLE, Int.reduceEq, Int.reduceNeg, Int.reduceNe, Int.reduceGE, Int.reduceGT, Nat.reduceBEq, Int.reduceToNat,  spEqH2_f, spEqH2_t, spEqH2_k, spEqSigS_f, spEqSigS_t, spEqSigS_k]
    refine ⟨fun h1 => ⟨_, _, _, ?_, h⟩, fun h1 => ⟨⟨b1, b2⟩, fun h2 => ⟨_, _, _, ?_, h⟩, fun h2 => ⟨_, _, _, ?_, h⟩⟩⟩
    · simp (config := { maxSteps := 2000000 }) only [go_sem, hG, hP, Nat.reduceEqDiff, ↓reduceIte, reduceCtorEq, Nat.reduceAdd, Nat.reduceSub, Nat.reduceMul, Nat.reduceLT, Nat.reduceLeDiff, Int.reduceAdd, Int.reduceSub, Int.reduceMul, Int.reduceLT, Int.reduceLE, Int.reduceEq, Int.reduceNeg, Int.reduceNe, Int.reduceGE, Int.reduceGT, Nat.reduceBEq, Int.reduceToNat]
      rw [decide_eq_false fun e => h1 e.1]
    · simp (config := { maxSteps := 2000000 }) only [go_sem, hG, hP, Nat.reduceEqDiff, ↓reduceIte, reduceCtorEq, Nat.reduceAdd, Nat.reduceSub, Nat.reduceMul, Nat.reduceLT, Nat.reduceLeDiff, Int.reduceAdd, Int.reduceSub, Int.reduceMul, Int.reduceLT, Int.reduceLE, Int.reduceEq, Int.reduceNeg, Int.reduceNe, Int.reduceGE, Int.reduceGT, Nat.reduceBEq, Int.reduceToNat]
      rw [decide_eq_false fun e => h2 e.2]
    · simp (config := { maxSteps := 2000000 }) only [go_sem, hG, hP, Nat.reduceEqDiff, ↓reduceIte, reduceCtorEq, Nat.reduceAdd, Nat.reduceSub, Nat.reduceMul, Nat.reduceLT, Nat.reduceLeDiff, Int.reduceAdd, Int.reduceSub, Int.reduceMul, Int.reduceLT, Int.reduceLE, Int.reduceEq, Int.reduceNeg, Int.reduceNe, Int.reduceGE, Int.reduceGT, Nat.reduceBEq, Int.reduceToNat]
      rw [decide_eq_true ⟨h1, h2⟩]
  · exact h.elim
def spSzDu : Spec := ⟨fun _ _ => [], fun args objs K => match args, objs with
  | [.agg [.v (.int .i64 a), .v (.int .i64 x), .v (.int .i64 b), .v (.int .i64 y), .rs .sig q], .v (.int .i64 n)], [] => (q.length ≤ 17592186044416 ∧ -1099511627776 ≤ n ∧ n ≤ 1099511627776) ∧ K (.v (.int .i64 (szStep q.length n))) [] 0
  | _, _ => False, false⟩
theorem spSzDu_t {L : Hp} {a : List AVal} : Spec.take spSzDu L a = [] := id rfl
theorem spSzDu_k : Spec.keep spSzDu = false := id rfl
theorem spSzDu_f {a} {x} {b} {y} {q} {n} {K : AVal → Hp → Nat → Prop} : Spec.f spSzDu ([.agg [.v (.int .i64 a), .v (.int .i64 x), .v (.int .i64 b), .v (.int .i64 y), .rs .sig q], .v (.int .i64 n)]) ([]) K = ((q.length ≤ 17592186044416 ∧ -1099511627776 ≤ n ∧ n ≤ 1099511627776) ∧ K (.v (.int .i64 (szStep q.length n))) [] 0) := id rfl
theorem valid14 : Valid Try.prog 14 spSzDu := by
  refine validI (Γ := lk [(42, spSzSigS)]) Try.func14 bod14 low14 res14 (good_of ⟨⟨cal42, valid42⟩, trivial⟩) ?_
  intro E args objs K h hE hG hP
  simp only [spSzDu] at h
  split at h
  · refine ⟨by simp [Try.ntmps14], ?_⟩
    obtain ⟨⟨b1, b2, b3⟩, h⟩ := h
    simp (config := { maxSteps := 2000000 }) only [go_sem, hG, hP, Nat.reduceEqDiff, ↓reduceIte, reduceCtorEq, Nat.reduceAdd, Nat.reduceSub, Nat.reduceMul, Nat.reduceLT, Nat.reduceLeDiff, Int.reduceAdd, Int.reduceSub, Int.reduceMul, Int.reduceLT, Int.reduceLE, Int.reduceEq, Int.reduceNeg, Int.reduceNe, Int.reduceGE, Int.reduceGT, Nat.reduceBEq, Int.reduceToNat,  spSzSigS_f, spSzSigS_t, spSzSigS_k]
    refine ⟨⟨b1, b2, b3⟩, fun h1 => ⟨_, _, _, ?_, h⟩, fun h1 => ⟨_, _, _, ?_, h⟩⟩
    · simp (config := { maxSteps := 2000000 }) only [go_sem, hG, hP, Nat.reduceEqDiff, ↓reduceIte, reduceCtorEq, Nat.reduceAdd, Nat.reduceSub, Nat.reduceMul, Nat.reduceLT, Nat.reduceLeDiff, Int.reduceAdd, Int.reduceSub, Int.reduceMul, Int.reduceLT, Int.reduceLE, Int.reduceEq, Int.reduceNeg, Int.reduceNe, Int.reduceGE, Int.reduceGT, Nat.reduceBEq, Int.reduceToNat]
      rw [szStep_neg h1]
    · simp (config := { maxSteps := 2000000 }) only [go_sem, hG, hP, Nat.reduceEqDiff, ↓reduceIte, reduceCtorEq, Nat.reduceAdd, Nat.reduceSub, Nat.reduceMul, Nat.reduceLT, Nat.reduceLeDiff, Int.reduceAdd, Int.reduceSub, Int.reduceMul, Int.reduceLT, Int.reduceLE, Int.reduceEq, Int.reduceNeg, Int.reduceNe, Int.reduceGE, Int.reduceGT, Nat.reduceBEq, Int.reduceToNat]
  · exact h.elim
def takeA5 : List AVal → List Nat
  | .agg [_, _, _, _, .sub a _ _ _] :: _ => [a]
  | _ => []
theorem takeA5_eq {a z1 l1 n1 : Nat} {x y u v : AVal} {r : List AVal} : takeA5 (.agg [x, y, u, v, .sub a z1 l1 n1] :: r) = [a] := id rfl
def spMarkDu : Spec := ⟨fun _ => takeA5, fun args objs K => match args, objs with
  | [.agg [.v (.int .i64 a), .v (.int .i64 x), .v (.int .i64 b), .v (.int .i64 y), .sub 0 3 0 n], .v (.int .i64 k)], [.row .sig xs] => (n = xs.length ∧ xs.length ≤ 1099511627776 ∧ 0 ≤ k ∧ k ≤ 1099511627776) ∧ K (.v (.int .i64 (k + 3 * xs.length))) [(0, .row .sig (sigMarks k xs.length))] 1
  | _, _ => False, false⟩
theorem spMarkDu_t {L : Hp} {a : List AVal} : Spec.take spMarkDu L a = takeA5 a := id rfl
theorem spMarkDu_k : Spec.keep spMarkDu = false := id rfl
theorem spMarkDu_f {a} {x} {b} {y} {n} {k} {xs} {K : AVal → Hp → Nat → Prop} : Spec.f spMarkDu ([.agg [.v (.int .i64 a), .v (.int .i64 x), .v (.int .i64 b), .v (.int .i64 y), .sub 0 3 0 n], .v (.int .i64 k)]) ([.row .sig xs]) K = ((n = xs.length ∧ xs.length ≤ 1099511627776 ∧ 0 ≤ k ∧ k ≤ 1099511627776) ∧ K (.v (.int .i64 (k + 3 * xs.length))) [(0, .row .sig (sigMarks k xs.length))] 1) := id rfl
theorem valid19 : Valid Try.prog 19 spMarkDu := by
  refine validI (Γ := lk [(53, spMarkSigS)]) Try.func19 bod19 low19 res19 (good_of ⟨⟨cal53, valid53⟩, trivial⟩) ?_
  intro E args objs K h hE hG hP
  simp only [spMarkDu] at h
  split at h
  · refine ⟨by simp [Try.ntmps19], ?_⟩
    rename_i a x b y n k xs
    obtain ⟨⟨rfl, b1, b2, b3⟩, h⟩ := h
    simp (config := { maxSteps := 2000000 }) only [go_sem, hG, hP, Nat.reduceEqDiff, ↓reduceIte, reduceCtorEq, Nat.reduceAdd, Nat.reduceSub, Nat.reduceMul, Nat.reduceLT, Nat.reduceLeDiff, Int.reduceAdd, Int.reduceSub, Int.reduceMul, Int.reduceLT, Int.reduceLE, Int.reduceEq, Int.reduceNeg, Int.reduceNe, Int.reduceGE, Int.reduceGT, Nat.reduceBEq, Int.reduceToNat,  spMarkSigS_f, spMarkSigS_t, spMarkSigS_k, take1_eq]
    repeat (refine And.intro (by first | omega | (simp; done) | (simp; omega) | (unfold appRoom; omega)) ?_)
    refine ⟨_, _, _, ?_, h⟩
    simp (config := { maxSteps := 2000000 }) only [go_sem, hG, hP, Nat.reduceEqDiff, ↓reduceIte, reduceCtorEq, Nat.reduceAdd, Nat.reduceSub, Nat.reduceMul, Nat.reduceLT, Nat.reduceLeDiff, Int.reduceAdd, Int.reduceSub, Int.reduceMul, Int.reduceLT, Int.reduceLE, Int.reduceEq, Int.reduceNeg, Int.reduceNe, Int.reduceGE, Int.reduceGT, Nat.reduceBEq, Int.reduceToNat]
    all_goals simp
  · exact h.elim
def spHeldDu : Spec := ⟨fun _ _ => [], fun args objs K => match args, objs with
  | [.agg [.v (.int .i64 a), .v (.int .i64 x), .v (.int .i64 b), .v (.int .i64 y), .rs .sig q], .v (.int .i64 k)], [] => (q.length ≤ 1099511627776 ∧ 0 ≤ k ∧ k ≤ 1099511627776) ∧ K (.v (.int .i64 (heldSig q k))) [] 0
  | _, _ => False, false⟩
theorem spHeldDu_t {L : Hp} {a : List AVal} : Spec.take spHeldDu L a = [] := id rfl
theorem spHeldDu_k : Spec.keep spHeldDu = false := id rfl
theorem spHeldDu_f {a} {x} {b} {y} {q} {k} {K : AVal → Hp → Nat → Prop} : Spec.f spHeldDu ([.agg [.v (.int .i64 a), .v (.int .i64 x), .v (.int .i64 b), .v (.int .i64 y), .rs .sig q], .v (.int .i64 k)]) ([]) K = ((q.length ≤ 1099511627776 ∧ 0 ≤ k ∧ k ≤ 1099511627776) ∧ K (.v (.int .i64 (heldSig q k))) [] 0) := id rfl
theorem valid20 : Valid Try.prog 20 spHeldDu := by
  refine validI (Γ := lk [(54, spHeldSigS)]) Try.func20 bod20 low20 res20 (good_of ⟨⟨cal54, valid54⟩, trivial⟩) ?_
  intro E args objs K h hE hG hP
  simp only [spHeldDu] at h
  split at h
  · refine ⟨by simp [Try.ntmps20], ?_⟩
    obtain ⟨⟨b1, b2, b3⟩, h⟩ := h
    simp (config := { maxSteps := 2000000 }) only [go_sem, hG, hP, Nat.reduceEqDiff, ↓reduceIte, reduceCtorEq, Nat.reduceAdd, Nat.reduceSub, Nat.reduceMul, Nat.reduceLT, Nat.reduceLeDiff, Int.reduceAdd, Int.reduceSub, Int.reduceMul, Int.reduceLT, Int.reduceLE, Int.reduceEq, Int.reduceNeg, Int.reduceNe, Int.reduceGE, Int.reduceGT, Nat.reduceBEq, Int.reduceToNat,  spHeldSigS_f, spHeldSigS_t, spHeldSigS_k]
    refine ⟨⟨b1, b2, b3⟩, fun h1 => ⟨_, _, _, ?_, h⟩, fun h1 => ⟨_, _, _, ?_, h⟩⟩
    · simp (config := { maxSteps := 2000000 }) only [go_sem, hG, hP, Nat.reduceEqDiff, ↓reduceIte, reduceCtorEq, Nat.reduceAdd, Nat.reduceSub, Nat.reduceMul, Nat.reduceLT, Nat.reduceLeDiff, Int.reduceAdd, Int.reduceSub, Int.reduceMul, Int.reduceLT, Int.reduceLE, Int.reduceEq, Int.reduceNeg, Int.reduceNe, Int.reduceGE, Int.reduceGT, Nat.reduceBEq, Int.reduceToNat]
      rw [heldSig_neg b2 h1]
    · simp (config := { maxSteps := 2000000 }) only [go_sem, hG, hP, Nat.reduceEqDiff, ↓reduceIte, reduceCtorEq, Nat.reduceAdd, Nat.reduceSub, Nat.reduceMul, Nat.reduceLT, Nat.reduceLeDiff, Int.reduceAdd, Int.reduceSub, Int.reduceMul, Int.reduceLT, Int.reduceLE, Int.reduceEq, Int.reduceNeg, Int.reduceNe, Int.reduceGE, Int.reduceGT, Nat.reduceBEq, Int.reduceToNat]
  · exact h.elim
end Go.Proofs.YtiakjdcognckpaaE

/-! The code of a function, in the engine's words. -/
namespace Go.Proofs.YtiakjdcognckpaaE
open Go Go.RowKit
@[reducible] def ic48 : IC := (.seq (.ops [⟨some 1, .box (.tmp 0), none⟩, ⟨some 2, .mov (.const (.bool false)), none⟩]) (.seq (.draw [⟨some 7, .fadr 0 (.tmp 1), none⟩, ⟨some 8, .iarr 2 2 (.tmp 7) (.const (.int .i64 0)), none⟩, ⟨some 9, .load 2 true (.tmp 8), none⟩, ⟨some 10, .fadr 0 (.tmp 1), none⟩, ⟨some 11, .iarr 2 2 (.tmp 10) (.const (.int .i64 1)), none⟩, ⟨some 12, .load 2 true (.tmp 11), none⟩, ⟨some 3, .new [(.int .i64 0), (.int .i64 0)], none⟩, ⟨some 4, .new [(.int .i64 0), (.int .i64 0)], none⟩, ⟨none, .store 2 (.tmp 3) (.tmp 9), none⟩, ⟨none, .store 2 (.tmp 4) (.tmp 12), none⟩] (.held ⟨some 7, .fadr 0 (.tmp 1), none⟩ (.held ⟨some 8, .iarr 2 2 (.tmp 7) (.const (.int .i64 0)), none⟩ (.held ⟨some 9, .load 2 true (.tmp 8), none⟩ (.held ⟨some 10, .fadr 0 (.tmp 1), none⟩ (.held ⟨some 11, .iarr 2 2 (.tmp 10) (.const (.int .i64 1)), none⟩ (.alt ⟨some 12, .load 2 true (.tmp 11), none⟩ (.alt ⟨some 3, .new [(.int .i64 0), (.int .i64 0)], none⟩ (.alt ⟨some 4, .new [(.int .i64 0), (.int .i64 0)], none⟩ (.alt ⟨none, .store 2 (.tmp 3) (.tmp 9), none⟩ (.alt ⟨none, .store 2 (.tmp 4) (.tmp 12), none⟩ .done .stop) .stop) .stop) (.alt ⟨some 4, .new [(.int .i64 0), (.int .i64 0)], none⟩ (.alt ⟨some 3, .new [(.int .i64 0), (.int .i64 0)], none⟩ (.alt ⟨none, .store 2 (.tmp 3) (.tmp 9), none⟩ (.alt ⟨none, .store 2 (.tmp 4) (.tmp 12), none⟩ .done .stop) .stop) .stop) .stop)) (.alt ⟨some 3, .new [(.int .i64 0), (.int .i64 0)], none⟩ (.alt ⟨some 12, .load 2 true (.tmp 11), none⟩ (.alt ⟨some 4, .new [(.int .i64 0), (.int .i64 0)], none⟩ (.alt ⟨none, .store 2 (.tmp 3) (.tmp 9), none⟩ (.alt ⟨none, .store 2 (.tmp 4) (.tmp 12), none⟩ .done .stop) .stop) .stop) (.alt ⟨some 4, .new [(.int .i64 0), (.int .i64 0)], none⟩ (.alt ⟨some 12, .load 2 true (.tmp 11), none⟩ (.alt ⟨none, .store 2 (.tmp 3) (.tmp 9), none⟩ (.alt ⟨none, .store 2 (.tmp 4) (.tmp 12), none⟩ .done .stop) .stop) (.alt ⟨none, .store 2 (.tmp 3) (.tmp 9), none⟩ (.held ⟨some 12, .load 2 true (.tmp 11), none⟩ (.alt ⟨none, .store 2 (.tmp 4) (.tmp 12), none⟩ .done .stop)) .stop)) .stop)) (.alt ⟨some 4, .new [(.int .i64 0), (.int .i64 0)], none⟩ (.alt ⟨some 12, .load 2 true (.tmp 11), none⟩ (.alt ⟨some 3, .new [(.int .i64 0), (.int .i64 0)], none⟩ (.alt ⟨none, .store 2 (.tmp 3) (.tmp 9), none⟩ (.alt ⟨none, .store 2 (.tmp 4) (.tmp 12), none⟩ .done .stop) .stop) .stop) (.alt ⟨some 3, .new [(.int .i64 0), (.int .i64 0)], none⟩ (.alt ⟨some 12, .load 2 true (.tmp 11), none⟩ (.alt ⟨none, .store 2 (.tmp 3) (.tmp 9), none⟩ (.alt ⟨none, .store 2 (.tmp 4) (.tmp 12), none⟩ .done .stop) .stop) (.alt ⟨none, .store 2 (.tmp 3) (.tmp 9), none⟩ (.held ⟨some 12, .load 2 true (.tmp 11), none⟩ (.alt ⟨none, .store 2 (.tmp 4) (.tmp 12), none⟩ .done .stop)) .stop)) .stop)) .stop))))))))) (.seq (.seq (.ops [⟨some 13, .fadr 0 (.tmp 3), none⟩, ⟨some 14, .load 1 false (.tmp 13), none⟩, ⟨some 15, .call 40 [(.tmp 14), (.const (.int .i64 0)), (.const (.int .i64 4))], none⟩, ⟨some 16, .una .not (.tmp 15), none⟩, ⟨some 17, .mov (.tmp 16), none⟩, ⟨some 18, .fadr 0 (.tmp 4), some (17, false)⟩, ⟨some 19, .load 1 false (.tmp 18), some (17, false)⟩, ⟨some 20, .call 40 [(.tmp 19), (.const (.int .i64 0)), (.const (.int .i64 4))], some (17, false)⟩, ⟨some 21, .una .not (.tmp 20), some (17, false)⟩, ⟨some 22, .pick (.tmp 17) (.const (.bool true)) (.tmp 21), none⟩, ⟨some 23, .mov (.tmp 22), none⟩, ⟨some 24, .fadr 0 (.tmp 3), some (23, false)⟩, ⟨some 25, .load 1 false (.tmp 24), some (23, false)⟩, ⟨some 26, .bin .eql (.tmp 25) (.const (.int .i64 2)), some (23, false)⟩, ⟨some 27, .pick (.tmp 23) (.const (.bool true)) (.tmp 26), none⟩, ⟨some 28, .mov (.tmp 27), none⟩, ⟨some 29, .fadr 0 (.tmp 4), some (28, false)⟩, ⟨some 30, .load 1 false (.tmp 29), some (28, false)⟩, ⟨some 31, .bin .eql (.tmp 30) (.const (.int .i64 1)), some (28, false)⟩, ⟨some 32, .pick (.tmp 28) (.const (.bool true)) (.tmp 31), none⟩, ⟨some 33, .mov (.tmp 32), none⟩, ⟨some 34, .fadr 1 (.tmp 3), some (33, false)⟩, ⟨some 35, .load 1 false (.tmp 34), some (33, false)⟩, ⟨some 36, .call 40 [(.tmp 35), (.const (.int .i64 0)), (.const (.int .i64 1000))], some (33, false)⟩, ⟨some 37, .una .not (.tmp 36), some (33, false)⟩, ⟨some 38, .pick (.tmp 33) (.const (.bool true)) (.tmp 37), none⟩, ⟨some 39, .mov (.tmp 38), none⟩, ⟨some 40, .fadr 1 (.tmp 4), some (39, false)⟩, ⟨some 41, .load 1 false (.tmp 40), some (39, false)⟩, ⟨some 42, .fadr 1 (.tmp 3), some (39, false)⟩, ⟨some 43, .load 1 false (.tmp 42), some (39, false)⟩, ⟨some 44, .call 40 [(.tmp 41), (.const (.int .i64 0)), (.tmp 43)], some (39, false)⟩, ⟨some 45, .una .not (.tmp 44), some (39, false)⟩, ⟨some 46, .pick (.tmp 39) (.const (.bool true)) (.tmp 45), none⟩, ⟨some 47, .mov (.tmp 46), none⟩, ⟨some 48, .fadr 4 (.tmp 1), some (47, false)⟩, ⟨some 49, .load 1 false (.tmp 48), some (47, false)⟩, ⟨some 50, .len (.tmp 49), some (47, false)⟩, ⟨some 51, .bin .gtr (.tmp 50) (.const (.int .i64 40)), some (47, false)⟩, ⟨some 52, .pick (.tmp 47) (.const (.bool true)) (.tmp 51), none⟩]) (.cond (.tmp 52) (.seq (.ops [⟨some 2, .mov (.const (.bool false)), none⟩]) .ret) .skip)) (.seq (.seq (.ops [⟨some 53, .fadr 4 (.tmp 1), none⟩, ⟨some 54, .load 1 false (.tmp 53), none⟩, ⟨some 55, .len (.tmp 54), none⟩, ⟨some 56, .mov (.const (.int .i64 0)), none⟩]) (.block 0 (.loop (.seq (.ops [⟨some 57, .bin .lss (.tmp 56) (.tmp 55), none⟩]) (.seq (.cond (.tmp 57) .skip (.exit 0)) (.seq (.block 1 (.seq (.ops [⟨some 58, .iadr 3 (.tmp 54) (.tmp 56), none⟩, ⟨some 59, .load 3 true (.tmp 58), none⟩, ⟨some 6, .new [(.int .i64 0), (.int .i64 0), (.int .i64 0)], none⟩, ⟨none, .store 3 (.tmp 6) (.tmp 59), none⟩]) (.seq (.ops [⟨some 60, .fadr 0 (.tmp 6), none⟩, ⟨some 61, .load 1 false (.tmp 60), none⟩, ⟨some 62, .call 40 [(.tmp 61), (.const (.int .i64 0)), (.const (.int .i64 1))], none⟩, ⟨some 63, .una .not (.tmp 62), none⟩, ⟨some 64, .mov (.tmp 63), none⟩, ⟨some 65, .fadr 1 (.tmp 6), some (64, false)⟩, ⟨some 66, .load 1 false (.tmp 65), some (64, false)⟩, ⟨some 67, .call 40 [(.tmp 66), (.const (.int .i64 1)), (.const (.int .i64 4))], some (64, false)⟩, ⟨some 68, .una .not (.tmp 67), some (64, false)⟩, ⟨some 69, .pick (.tmp 64) (.const (.bool true)) (.tmp 68), none⟩, ⟨some 70, .mov (.tmp 69), none⟩, ⟨some 71, .fadr 2 (.tmp 6), some (70, false)⟩, ⟨some 72, .load 1 false (.tmp 71), some (70, false)⟩, ⟨some 73, .fadr 1 (.tmp 3), some (70, false)⟩, ⟨some 74, .load 1 false (.tmp 73), some (70, false)⟩, ⟨some 75, .call 40 [(.tmp 72), (.const (.int .i64 0)), (.tmp 74)], some (70, false)⟩, ⟨some 76, .una .not (.tmp 75), some (70, false)⟩, ⟨some 77, .pick (.tmp 70) (.const (.bool true)) (.tmp 76), none⟩]) (.cond (.tmp 77) (.seq (.ops [⟨some 2, .mov (.const (.bool false)), none⟩]) .ret) .skip)))) (.ops [⟨some 78, .bin .add (.tmp 56) (.const (.int .i64 1)), none⟩, ⟨some 56, .mov (.tmp 78), none⟩]))))))) (.seq (.ops [⟨some 2, .mov (.const (.bool true)), none⟩]) .ret)))))
@[reducible] def rv48 : List RV := [.tmp 2]
theorem low48 : lowC Try.prog tau Try.f48.ntmps (Try.f48.body.getD .skip) = some (erase ic48) := by kernel_rfl
theorem res48 : lowR Try.prog Try.f48.results.toList = some rv48 := by kernel_rfl
theorem bod48 : Try.f48.body = some (Try.f48.body.getD .skip) := by kernel_rfl
theorem cal48 : callable Try.prog 48 = true := by kernel_rfl

end Go.Proofs.YtiakjdcognckpaaE

/-! The code of a function, in the engine's words. -/
namespace Go.Proofs.YtiakjdcognckpaaE
open Go Go.RowKit
@[reducible] def ic32 : IC := (.seq (.ops [⟨some 1, .box (.tmp 0), none⟩, ⟨some 2, .mov (.const (.bool false)), none⟩]) (.seq (.draw [⟨some 7, .fadr 0 (.tmp 1), none⟩, ⟨some 8, .iarr 2 2 (.tmp 7) (.const (.int .i64 0)), none⟩, ⟨some 9, .load 2 true (.tmp 8), none⟩, ⟨some 10, .fadr 0 (.tmp 1), none⟩, ⟨some 11, .iarr 2 2 (.tmp 10) (.const (.int .i64 1)), none⟩, ⟨some 12, .load 2 true (.tmp 11), none⟩, ⟨some 3, .new [(.int .i64 0), (.int .i64 0)], none⟩, ⟨some 4, .new [(.int .i64 0), (.int .i64 0)], none⟩, ⟨none, .store 2 (.tmp 3) (.tmp 9), none⟩, ⟨none, .store 2 (.tmp 4) (.tmp 12), none⟩] (.held ⟨some 7, .fadr 0 (.tmp 1), none⟩ (.held ⟨some 8, .iarr 2 2 (.tmp 7) (.const (.int .i64 0)), none⟩ (.held ⟨some 9, .load 2 true (.tmp 8), none⟩ (.held ⟨some 10, .fadr 0 (.tmp 1), none⟩ (.held ⟨some 11, .iarr 2 2 (.tmp 10) (.const (.int .i64 1)), none⟩ (.alt ⟨some 12, .load 2 true (.tmp 11), none⟩ (.alt ⟨some 3, .new [(.int .i64 0), (.int .i64 0)], none⟩ (.alt ⟨some 4, .new [(.int .i64 0), (.int .i64 0)], none⟩ (.alt ⟨none, .store 2 (.tmp 3) (.tmp 9), none⟩ (.alt ⟨none, .store 2 (.tmp 4) (.tmp 12), none⟩ .done .stop) .stop) .stop) (.alt ⟨some 4, .new [(.int .i64 0), (.int .i64 0)], none⟩ (.alt ⟨some 3, .new [(.int .i64 0), (.int .i64 0)], none⟩ (.alt ⟨none, .store 2 (.tmp 3) (.tmp 9), none⟩ (.alt ⟨none, .store 2 (.tmp 4) (.tmp 12), none⟩ .done .stop) .stop) .stop) .stop)) (.alt ⟨some 3, .new [(.int .i64 0), (.int .i64 0)], none⟩ (.alt ⟨some 12, .load 2 true (.tmp 11), none⟩ (.alt ⟨some 4, .new [(.int .i64 0), (.int .i64 0)], none⟩ (.alt ⟨none, .store 2 (.tmp 3) (.tmp 9), none⟩ (.alt ⟨none, .store 2 (.tmp 4) (.tmp 12), none⟩ .done .stop) .stop) .stop) (.alt ⟨some 4, .new [(.int .i64 0), (.int .i64 0)], none⟩ (.alt ⟨some 12, .load 2 true (.tmp 11), none⟩ (.alt ⟨none, .store 2 (.tmp 3) (.tmp 9), none⟩ (.alt ⟨none, .store 2 (.tmp 4) (.tmp 12), none⟩ .done .stop) .stop) (.alt ⟨none, .store 2 (.tmp 3) (.tmp 9), none⟩ (.held ⟨some 12, .load 2 true (.tmp 11), none⟩ (.alt ⟨none, .store 2 (.tmp 4) (.tmp 12), none⟩ .done .stop)) .stop)) .stop)) (.alt ⟨some 4, .new [(.int .i64 0), (.int .i64 0)], none⟩ (.alt ⟨some 12, .load 2 true (.tmp 11), none⟩ (.alt ⟨some 3, .new [(.int .i64 0), (.int .i64 0)], none⟩ (.alt ⟨none, .store 2 (.tmp 3) (.tmp 9), none⟩ (.alt ⟨none, .store 2 (.tmp 4) (.tmp 12), none⟩ .done .stop) .stop) .stop) (.alt ⟨some 3, .new [(.int .i64 0), (.int .i64 0)], none⟩ (.alt ⟨some 12, .load 2 true (.tmp 11), none⟩ (.alt ⟨none, .store 2 (.tmp 3) (.tmp 9), none⟩ (.alt ⟨none, .store 2 (.tmp 4) (.tmp 12), none⟩ .done .stop) .stop) (.alt ⟨none, .store 2 (.tmp 3) (.tmp 9), none⟩ (.held ⟨some 12, .load 2 true (.tmp 11), none⟩ (.alt ⟨none, .store 2 (.tmp 4) (.tmp 12), none⟩ .done .stop)) .stop)) .stop)) .stop))))))))) (.seq (.seq (.ops [⟨some 13, .fadr 0 (.tmp 3), none⟩, ⟨some 14, .load 1 false (.tmp 13), none⟩, ⟨some 15, .call 38 [(.tmp 14), (.const (.int .i64 0)), (.const (.int .i64 4))], none⟩, ⟨some 16, .una .not (.tmp 15), none⟩, ⟨some 17, .mov (.tmp 16), none⟩, ⟨some 18, .fadr 0 (.tmp 4), some (17, false)⟩, ⟨some 19, .load 1 false (.tmp 18), some (17, false)⟩, ⟨some 20, .call 38 [(.tmp 19), (.const (.int .i64 0)), (.const (.int .i64 4))], some (17, false)⟩, ⟨some 21, .una .not (.tmp 20), some (17, false)⟩, ⟨some 22, .pick (.tmp 17) (.const (.bool true)) (.tmp 21), none⟩, ⟨some 23, .mov (.tmp 22), none⟩, ⟨some 24, .fadr 0 (.tmp 3), some (23, false)⟩, ⟨some 25, .load 1 false (.tmp 24), some (23, false)⟩, ⟨some 26, .bin .eql (.tmp 25) (.const (.int .i64 2)), some (23, false)⟩, ⟨some 27, .pick (.tmp 23) (.const (.bool true)) (.tmp 26), none⟩, ⟨some 28, .mov (.tmp 27), none⟩, ⟨some 29, .fadr 0 (.tmp 4), some (28, false)⟩, ⟨some 30, .load 1 false (.tmp 29), some (28, false)⟩, ⟨some 31, .bin .eql (.tmp 30) (.const (.int .i64 1)), some (28, false)⟩, ⟨some 32, .pick (.tmp 28) (.const (.bool true)) (.tmp 31), none⟩, ⟨some 33, .mov (.tmp 32), none⟩, ⟨some 34, .fadr 1 (.tmp 3), some (33, false)⟩, ⟨some 35, .load 1 false (.tmp 34), some (33, false)⟩, ⟨some 36, .call 38 [(.tmp 35), (.const (.int .i64 0)), (.const (.int .i64 1000))], some (33, false)⟩, ⟨some 37, .una .not (.tmp 36), some (33, false)⟩, ⟨some 38, .pick (.tmp 33) (.const (.bool true)) (.tmp 37), none⟩, ⟨some 39, .mov (.tmp 38), none⟩, ⟨some 40, .fadr 1 (.tmp 4), some (39, false)⟩, ⟨some 41, .load 1 false (.tmp 40), some (39, false)⟩, ⟨some 42, .fadr 1 (.tmp 3), some (39, false)⟩, ⟨some 43, .load 1 false (.tmp 42), some (39, false)⟩, ⟨some 44, .call 38 [(.tmp 41), (.const (.int .i64 0)), (.tmp 43)], some (39, false)⟩, ⟨some 45, .una .not (.tmp 44), some (39, false)⟩, ⟨some 46, .pick (.tmp 39) (.const (.bool true)) (.tmp 45), none⟩]) (.cond (.tmp 46) (.seq (.ops [⟨some 2, .mov (.const (.bool false)), none⟩]) .ret) .skip)) (.seq (.seq (.ops [⟨some 5, .mov (.const (.int .i64 0)), none⟩]) (.block 0 (.loop (.seq (.seq (.ops [⟨some 47, .mov (.tmp 5), none⟩, ⟨some 48, .fadr 4 (.tmp 1), none⟩, ⟨some 49, .load 1 false (.tmp 48), none⟩, ⟨some 50, .len (.tmp 49), none⟩, ⟨some 51, .bin .lss (.tmp 47) (.tmp 50), none⟩]) (.cond (.tmp 51) .skip (.exit 0))) (.seq (.block 1 (.seq (.ops [⟨some 54, .fadr 4 (.tmp 1), none⟩, ⟨some 55, .load 1 false (.tmp 54), none⟩, ⟨some 56, .mov (.tmp 5), none⟩, ⟨some 57, .iadr 3 (.tmp 55) (.tmp 56), none⟩, ⟨some 58, .load 3 true (.tmp 57), none⟩, ⟨some 6, .new [(.int .i64 0), (.int .i64 0), (.int .i64 0)], none⟩, ⟨none, .store 3 (.tmp 6) (.tmp 58), none⟩]) (.seq (.ops [⟨some 59, .fadr 0 (.tmp 6), none⟩, ⟨some 60, .load 1 false (.tmp 59), none⟩, ⟨some 61, .call 38 [(.tmp 60), (.const (.int .i64 0)), (.const (.int .i64 1))], none⟩, ⟨some 62, .una .not (.tmp 61), none⟩, ⟨some 63, .mov (.tmp 62), none⟩, ⟨some 64, .fadr 1 (.tmp 6), some (63, false)⟩, ⟨some 65, .load 1 false (.tmp 64), some (63, false)⟩, ⟨some 66, .call 38 [(.tmp 65), (.const (.int .i64 1)), (.const (.int .i64 4))], some (63, false)⟩, ⟨some 67, .una .not (.tmp 66), some (63, false)⟩, ⟨some 68, .pick (.tmp 63) (.const (.bool true)) (.tmp 67), none⟩, ⟨some 69, .mov (.tmp 68), none⟩, ⟨some 70, .fadr 2 (.tmp 6), some (69, false)⟩, ⟨some 71, .load 1 false (.tmp 70), some (69, false)⟩, ⟨some 72, .fadr 1 (.tmp 3), some (69, false)⟩, ⟨some 73, .load 1 false (.tmp 72), some (69, false)⟩, ⟨some 74, .call 38 [(.tmp 71), (.const (.int .i64 0)), (.tmp 73)], some (69, false)⟩, ⟨some 75, .una .not (.tmp 74), some (69, false)⟩, ⟨some 76, .pick (.tmp 69) (.const (.bool true)) (.tmp 75), none⟩]) (.cond (.tmp 76) (.seq (.ops [⟨some 2, .mov (.const (.bool false)), none⟩]) .ret) .skip)))) (.ops [⟨some 52, .mov (.tmp 5), none⟩, ⟨some 53, .bin .add (.tmp 52) (.const (.int .i64 1)), none⟩, ⟨some 5, .mov (.tmp 53), none⟩])))))) (.seq (.ops [⟨some 77, .fadr 4 (.tmp 1), none⟩, ⟨some 78, .load 1 false (.tmp 77), none⟩, ⟨some 79, .len (.tmp 78), none⟩, ⟨some 80, .bin .leq (.tmp 79) (.const (.int .i64 40)), none⟩, ⟨some 2, .mov (.tmp 80), none⟩]) .ret)))))
@[reducible] def rv32 : List RV := [.tmp 2]
theorem low32 : lowC Try.prog tau Try.f32.ntmps (Try.f32.body.getD .skip) = some (erase ic32) := by kernel_rfl
theorem res32 : lowR Try.prog Try.f32.results.toList = some rv32 := by kernel_rfl
theorem bod32 : Try.f32.body = some (Try.f32.body.getD .skip) := by kernel_rfl
theorem cal32 : callable Try.prog 32 = true := by kernel_rfl

end Go.Proofs.YtiakjdcognckpaaE
