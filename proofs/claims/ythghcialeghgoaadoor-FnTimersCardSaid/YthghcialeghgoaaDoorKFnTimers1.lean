/- A part of a proof that a law of the given program holds for every input: no condition. -/
import Derived.OrdersHeld
import Derived.Test.YthghcialeghgoaaDoorProg
import Derived.KernelRfl
import Derived.Test.YthghcialeghgoaaDoorKFnTimers0

set_option linter.unusedSimpArgs false
set_option linter.unusedVariables false
/-! One state is weaker than another. -/
namespace Go.Proofs.YthghcialeghgoaaDoorE
open Go Go.RowKit
set_option linter.unusedSimpArgs false
set_option linter.unusedVariables false

/-- For each name of the second state the object of the first, and how many of its elements (of how many cells) are passed over. -/
abbrev Th := List (Nat × Option (Nat × Nat × Nat))

/-- The name of an object of the second state, as found in the first. -/
def uniN (θ : Th) (m' m : Nat) (K : Th → Prop) : Prop :=
  match lk θ m' with
  | some x => x = some (m, 0, 0) ∧ K θ
  | none => K ((m', some (m, 0, 0)) :: θ)
def uniK (θ : Th) (m' m k z : Nat) (K : Th → Prop) : Prop :=
  if k = 0 then uniN θ m' m K else match lk θ m' with
  | some x => x = some (m, k, z) ∧ K θ
  | none => K ((m', some (m, k, z)) :: θ)
def uniNil (θ : Th) (m' : Nat) (K : Th → Prop) : Prop :=
  match lk θ m' with
  | some x => x = none ∧ K θ
  | none => K ((m', none) :: θ)

def uni1 (θ : Th) (av av' : AVal) (K : Th → Prop) : Prop :=
  match av' with
  | .junk => K θ
  | .v x' => match av with
    | .v x => x = x' ∧ K θ
    | _ => False
  | .sub m' z' lo' len' => match av with
    | .sub m z lo len => (z = z' ∧ lo' ≤ lo ∧ len = len') ∧ uniK θ m' m (lo - lo') z K
    | .v (.slice none 0 0) => (lo' = 0 ∧ len' = 0) ∧ uniNil θ m' K
    | _ => False
  | .ptr m' off' => match av with
    | .ptr m off => off = off' ∧ uniN θ m' m K
    | _ => False
  | .elt m' z' i' f' => match av with
    | .elt m z i f => (z = z' ∧ i = i' ∧ f = f') ∧ uniN θ m' m K
    | _ => False
  | .mp m' => match av with
    | .mp m => uniN θ m' m K
    | _ => False
  | .arp m' n' => match av with
    | .arp m n => n = n' ∧ uniN θ m' m K
    | _ => False
  | .rs t xs => av = .rs t xs ∧ K θ
  | .re t x f => av = .re t x f ∧ K θ
  | .rp t xs => av = .rp t xs ∧ K θ
  | _ => False
def uniL (θ : Th) : List AVal → List AVal → (Th → Prop) → Prop
  | [], [], K => K θ
  | a :: r, a' :: r', K => uni1 θ a a' fun θ => uniL θ r r' K
  | _, _, _ => False
def uni (θ : Th) (av av' : AVal) (K : Th → Prop) : Prop :=
  match av' with
  | .agg cs' => match av with
    | .agg cs => uniL θ cs cs' K
    | _ => False
  | .fn f' cs' => match av with
    | .fn f cs => f = f' ∧ uniL θ cs cs' K
    | _ => False
  | av' => uni1 θ av av' K
def uniS (θ : Th) (σ : List (Nat × AVal)) : List (Nat × AVal) → (Th → Prop) → Prop
  | [], K => K θ
  | (d, av') :: r, K => match lk σ d with
    | some av => uni θ av av' fun θ => uniS θ σ r K
    | none => False
def uniO (θ : Th) (k z : Nat) (o o' : AObj) (K : Th → Prop) : Prop :=
  match o' with
  | .box cs' => match o with
    | .box cs => k = 0 ∧ uniL θ cs cs' K
    | _ => False
  | .row t' xs' => match o with
    | .row t xs => castK t' t xs fun xs => if k = 0 then xs = xs' ∧ K θ else (z = sz t' ∧ k ≤ xs.length ∧ xs.drop k = xs') ∧ K θ
    | _ => False
  | .set kk' mp' es' => match o with
    | .set kk mp es => (k = 0 ∧ kk = kk' ∧ mp = mp' ∧ es = es') ∧ K θ
    | _ => False
def uniH (θ : Th) (L : Hp) : Hp → (Th → Prop) → Prop
  | [], K => K θ
  | (m', o') :: r, K => match lk θ m' with
    | some (some (m, k, z)) => match lk L m with
      | some o => uniO θ k z o o' fun θ => uniH θ L r K
      | none => False
    | some none => match o' with
      | .row t xs' => xs' = [] ∧ uniH θ L r K
      | _ => False
    | none => match lk L m' with
      | some o => uniO ((m', some (m', 0, 0)) :: θ) 0 0 o o' fun θ => uniH θ L r K
      | none => False
def boxesOf : Hp → Hp
  | [] => []
  | (m, .box cs) :: r => (m, .box cs) :: boxesOf r
  | _ :: r => boxesOf r
def rowsOf : Hp → Hp
  | [] => []
  | (m, .row t xs) :: r => (m, .row t xs) :: rowsOf r
  | (m, .set kk mp es) :: r => (m, .set kk mp es) :: rowsOf r
  | _ :: r => rowsOf r
def keysLt (n : Nat) : Th → Bool
  | [] => true
  | (m, _) :: r => decide (m < n) && keysLt n r
def tgts : Th → List Nat
  | [] => []
  | (_, some (m, _, _)) :: r => m :: tgts r
  | (_, none) :: r => tgts r
/-- The first state has all that the second one tells. -/
def idT : Nat → Th
  | 0 => []
  | n + 1 => (n, some (n, 0, 0)) :: idT n
def SubS (p : Nat) (s s' : S) : Prop := s'.n = s.n ∧ uniS (idT p) s.σ s'.σ fun θ => uniH θ s.L (boxesOf s'.L) fun θ => uniH θ s.L (rowsOf s'.L) fun θ => nodupB (tgts θ) = true ∧ keysLt s'.nx θ = true

section
variable {W : World} {C : CR} {ρ : Nm}

def shf (k z : Nat) : Option (Nat × Nat × Nat) → Option (Nat × Nat × Nat) := Option.map fun y => (y.1, y.2.1 + k * z, y.2.2 - k)
theorem shf_zero (z : Nat) (x : Option (Nat × Nat × Nat)) : shf 0 z x = x := by cases x <;> simp [shf]
theorem shf_zero' (z : Nat) (x : Option (Option (Nat × Nat × Nat))) : x.map (shf 0 z) = x := by cases x <;> simp [shf_zero]
def rhoT (ρ : Nm) (θ : Th) : Nm := fun m' => match lk θ m' with
  | some (some (m, k, z)) => (ρ m).map (shf k z)
  | some none => some none
  | none => none
def ExtT (θ θ' : Th) : Prop := ∀ k x, lk θ k = some x → lk θ' k = some x
theorem ExtT.refl (θ : Th) : ExtT θ θ := fun _ _ h => h
theorem ExtT.trans {a b c : Th} (h : ExtT a b) (k : ExtT b c) : ExtT a c := fun m x hx => k m x (h m x hx)
theorem ExtT.sub {θ θ' : Th} (h : ExtT θ θ') : Sub0 (rhoT ρ θ) (rhoT ρ θ') := fun m x hx => by
  unfold rhoT at hx ⊢
  cases hl : lk θ m with
  | none => rw [hl] at hx; cases hx
  | some y => rw [hl] at hx; rw [h m y hl]; exact hx
theorem ExtT.cons {θ : Th} {m : Nat} {x : Option (Nat × Nat × Nat)} (h : lk θ m = none) : ExtT θ ((m, x) :: θ) := fun k y hk => by
  simp only [lk]
  split
  · rename_i e; subst e; rw [h] at hk; cases hk
  · exact hk

theorem uniN_ok {θ : Th} {m' m : Nat} {K : Th → Prop} (h : uniN θ m' m K) : ∃ θ', ExtT θ θ' ∧ K θ' ∧ rhoT ρ θ' m' = ρ m := by
  unfold uniN at h
  split at h
  · rename_i x hx
    obtain ⟨rfl, hK⟩ := h
    exact ⟨θ, .refl _, hK, by simp [rhoT, hx, shf_zero']⟩
  · rename_i hx
    exact ⟨_, .cons hx, h, by simp [rhoT, lk, shf_zero']⟩
theorem uniK_ok {θ : Th} {m' m k z : Nat} {K : Th → Prop} (h : uniK θ m' m k z K) : ∃ θ', ExtT θ θ' ∧ K θ' ∧ rhoT ρ θ' m' = (ρ m).map (shf k z) := by
  unfold uniK at h
  split at h
  · rename_i hk
    subst hk
    obtain ⟨θ', h1, h2, h3⟩ := uniN_ok (ρ := ρ) h
    exact ⟨θ', h1, h2, by rw [h3, shf_zero']⟩
  · split at h
    · rename_i x hx
      obtain ⟨rfl, hK⟩ := h
      exact ⟨θ, .refl _, hK, by simp [rhoT, hx]⟩
    · rename_i hx
      exact ⟨_, .cons hx, h, by simp [rhoT, lk]⟩
theorem uniNil_ok {θ : Th} {m' : Nat} {K : Th → Prop} (h : uniNil θ m' K) : ∃ θ', ExtT θ θ' ∧ K θ' ∧ rhoT ρ θ' m' = some none := by
  unfold uniNil at h
  split at h
  · rename_i x hx
    obtain ⟨rfl, hK⟩ := h
    exact ⟨θ, .refl _, hK, by simp [rhoT, hx]⟩
  · rename_i hx
    exact ⟨_, .cons hx, h, by simp [rhoT, lk]⟩

theorem uni1_ok {θ : Th} {av av' : AVal} {K : Th → Prop} (h : uni1 θ av av' K) : ∃ θ', ExtT θ θ' ∧ K θ' ∧ ∀ v, Den W C ρ av v → Den W C (rhoT ρ θ') av' v := by
  unfold uni1 at h
  split at h
  · exact ⟨θ, .refl _, h, fun v _ => .junk v⟩
  · split at h
    · obtain ⟨rfl, hK⟩ := h
      exact ⟨θ, .refl _, hK, fun v hd => by rw [den_v hd]; exact .v _⟩
    · exact h.elim
  · split at h
    · rename_i m' z' lo' len' _ m z lo len
      obtain ⟨⟨rfl, hlo, rfl⟩, h⟩ := h
      obtain ⟨θ', h1, h2, h3⟩ := uniK_ok (ρ := ρ) h
      refine ⟨θ', h1, h2, fun v hd => ?_⟩
      cases hd with
      | sub hm hle had =>
        rename_i b o c ad
        rw [hm] at h3
        have e : c - lo = (c - (lo - lo')) - lo' := by omega
        rw [e]
        refine .sub h3 (by omega) (fun hlt => ?_)
        rw [had (by omega), Nat.add_assoc, ← Nat.add_mul, Nat.sub_add_cancel hlo]
      | sub0 hm =>
        rw [hm] at h3
        obtain rfl : lo' = 0 := by omega
        exact .sub0 h3
    · obtain ⟨⟨rfl, rfl⟩, h⟩ := h
      obtain ⟨θ', h1, h2, h3⟩ := uniNil_ok (ρ := ρ) h
      refine ⟨θ', h1, h2, fun v hd => ?_⟩
      rw [den_v hd]; exact .sub0 h3
    · exact h.elim
  · split at h
    · obtain ⟨rfl, h⟩ := h
      obtain ⟨θ', h1, h2, h3⟩ := uniN_ok (ρ := ρ) h
      refine ⟨θ', h1, h2, fun v hd => ?_⟩
      cases hd with
      | ptr hm => exact .ptr (h3.trans hm)
    · exact h.elim
  · split at h
    · obtain ⟨⟨rfl, rfl, rfl⟩, h⟩ := h
      obtain ⟨θ', h1, h2, h3⟩ := uniN_ok (ρ := ρ) h
      refine ⟨θ', h1, h2, fun v hd => ?_⟩
      cases hd with
      | elt hm => exact .elt (h3.trans hm)
    · exact h.elim
  · split at h
    · obtain ⟨θ', h1, h2, h3⟩ := uniN_ok (ρ := ρ) h
      refine ⟨θ', h1, h2, fun v hd => ?_⟩
      cases hd with
      | mp hm => exact .mp (h3.trans hm)
    · exact h.elim
  · split at h
    · obtain ⟨rfl, h⟩ := h
      obtain ⟨θ', h1, h2, h3⟩ := uniN_ok (ρ := ρ) h
      refine ⟨θ', h1, h2, fun v hd => ?_⟩
      cases hd with
      | arp hm => exact .arp (h3.trans hm)
    · exact h.elim
  · obtain ⟨rfl, hK⟩ := h
    refine ⟨θ, .refl _, hK, fun v hd => ?_⟩
    cases hd with
    | rs vs h1 h2 h3 => exact .rs vs h1 h2 (fun i f x av h4 h5 => enc_den h5 (h3 i f x av h4 h5))
  · obtain ⟨rfl, hK⟩ := h
    refine ⟨θ, .refl _, hK, fun v hd => ?_⟩
    cases hd with
    | re vs h1 h2 => exact .re vs h1 (fun k av hk => enc_den hk (h2 k av hk))
  · obtain ⟨rfl, hK⟩ := h
    refine ⟨θ, .refl _, hK, fun v hd => ?_⟩
    cases hd with
    | rp vs h1 h2 => exact .rp vs h1 (fun i f x av h4 h5 => enc_den h5 (h2 i f x av h4 h5))
  · exact h.elim

theorem uniL_ok : ∀ {cs cs' : List AVal} {θ : Th} {K : Th → Prop}, uniL θ cs cs' K → ∃ θ', ExtT θ θ' ∧ K θ' ∧ ∀ vs, DenL W C ρ cs vs → DenL W C (rhoT ρ θ') cs' vs
  | [], [], θ, K, h => ⟨θ, .refl _, h, fun vs hd => by have := hd.nil_inv; subst this; exact .nil⟩
  | a :: r, a' :: r', θ, K, h => by
    obtain ⟨θ1, h1, h2, h3⟩ := uni1_ok (W := W) (C := C) (ρ := ρ) h
    obtain ⟨θ2, h4, h5, h6⟩ := uniL_ok h2
    refine ⟨θ2, h1.trans h4, h5, fun vs hd => ?_⟩
    obtain ⟨v, vs', rfl, hd1, hd2⟩ := hd.cons_inv
    exact DenL.cons ((h3 v hd1).mono h4.sub) (h6 vs' hd2)
  | [], _ :: _, θ, K, h => h.elim
  | _ :: _, [], θ, K, h => h.elim

theorem uni_ok {θ : Th} {av av' : AVal} {K : Th → Prop} (h : uni θ av av' K) : ∃ θ', ExtT θ θ' ∧ K θ' ∧ ∀ v, Den W C ρ av v → Den W C (rhoT ρ θ') av' v := by
  unfold uni at h
  split at h
  · split at h
    · obtain ⟨θ', h1, h2, h3⟩ := uniL_ok (W := W) (C := C) (ρ := ρ) h
      refine ⟨θ', h1, h2, fun v hd => ?_⟩
      cases hd with
      | agg vs h4 h5 => have := h3 vs ⟨h4, h5⟩; exact .agg vs this.1 this.2
    · exact h.elim
  · split at h
    · obtain ⟨rfl, h⟩ := h
      obtain ⟨θ', h1, h2, h3⟩ := uniL_ok (W := W) (C := C) (ρ := ρ) h
      refine ⟨θ', h1, h2, fun v hd => ?_⟩
      cases hd with
      | fn vs h4 h5 => have := h3 vs ⟨h4, h5⟩; exact .fn vs this.1 this.2
    · exact h.elim
  · exact uni1_ok h

theorem uniS_ok {σ : List (Nat × AVal)} {a : Act} (hσ : ∀ d av, lk σ d = some av → ∃ v, a.tmps[d]? = some v ∧ Den W C ρ av v) : ∀ {σ' : List (Nat × AVal)} {θ : Th} {K : Th → Prop}, uniS θ σ σ' K →
    ∃ θ', ExtT θ θ' ∧ K θ' ∧ ∀ d av, lk σ' d = some av → ∃ v, a.tmps[d]? = some v ∧ Den W C (rhoT ρ θ') av v
  | [], θ, K, h => ⟨θ, .refl _, h, fun d av hl => by simp [lk] at hl⟩
  | (d, av') :: r, θ, K, h => by
    simp only [uniS] at h
    split at h
    · rename_i av hav
      obtain ⟨θ1, h1, h2, h3⟩ := uni_ok (W := W) (C := C) (ρ := ρ) h
      obtain ⟨θ2, h4, h5, h6⟩ := uniS_ok hσ h2
      refine ⟨θ2, h1.trans h4, h5, fun d2 av2 hl => ?_⟩
      simp only [lk] at hl
      split at hl
      · rename_i e
        subst e
        cases hl
        obtain ⟨v, hv, hd⟩ := hσ d av hav
        exact ⟨v, hv, (h3 v hd).mono h4.sub⟩
      · exact h6 d2 av2 hl
    · exact h.elim

theorem uniO_ok {w : World} {θ : Th} {o o' : AObj} {m m' k z : Nat} {K : Th → Prop} (ho : ObjOk W C ρ w m o) (hm : lk θ m' = some (some (m, k, z))) (h : uniO θ k z o o' K) :
    ∃ θ', ExtT θ θ' ∧ K θ' ∧ ObjOk W C (rhoT ρ θ') w m' o' := by
  have hr : ∀ θ', ExtT θ θ' → rhoT ρ θ' m' = (ρ m).map (shf k z) := fun θ' he => by simp [rhoT, he _ _ hm]
  unfold uniO at h
  split at h
  · split at h
    · obtain ⟨b, T, vs, h1, h2, h3⟩ := ho
      obtain ⟨rfl, h⟩ := h
      obtain ⟨θ', h4, h5, h6⟩ := uniL_ok (W := W) (C := C) (ρ := ρ) h
      exact ⟨θ', h4, h5, b, T, vs, (by rw [hr _ h4, shf_zero', h1]), h2, h6 vs h3⟩
    · exact h.elim
  · split at h
    · obtain rfl := castK_eq h
      have h2 := castK_same h
      clear h
      split at h2
      · rename_i hk
        subst hk
        obtain ⟨rfl, hK⟩ := h2
        refine ⟨θ, .refl _, hK, ?_⟩
        rcases ho with ⟨h4, h5⟩ | ⟨b, o, c, T, vs, h4, h5, h6, h7, h8, h9⟩
        · exact .inl ⟨by rw [hr _ (.refl _), shf_zero', h4], h5⟩
        · exact .inr ⟨b, o, c, T, vs, by rw [hr _ (.refl _), shf_zero', h4], h5, h6, h7, h8, fun i f x av h10 h11 => let ⟨u, h12, h13⟩ := h9 i f x av h10 h11; ⟨u, h12, enc_den h11 h13⟩⟩
      · obtain ⟨⟨rfl, hk, rfl⟩, hK⟩ := h2
        refine ⟨θ, .refl _, hK, ?_⟩
        rcases ho with ⟨h4, h5⟩ | ⟨b, o, c, T, vs, h4, h5, h6, h7, h8, h9⟩
        · exact .inl ⟨by rw [hr _ (.refl _), h4]; rfl, by rw [h5]; simp⟩
        · rename_i tt xs hk0
          refine .inr ⟨b, o + k * sz tt, c - k, T, vs, by rw [hr _ (.refl _), h4]; rfl, h5, ?_, by rw [List.length_drop]; omega, by omega, fun i f x av h10 h11 => ?_⟩
          · have : k * sz tt + (c - k) * sz tt = c * sz tt := by rw [← Nat.add_mul]; congr 1; omega
            omega
          · rw [List.getElem?_drop] at h10
            obtain ⟨u, h12, h13⟩ := h9 (k + i) f x av h10 h11
            refine ⟨u, ?_, enc_den h11 h13⟩
            rw [← h12]
            congr 1
            rw [Nat.add_mul]; omega
    · exact h.elim
  · split at h
    · obtain ⟨⟨rfl, rfl, rfl, rfl⟩, hK⟩ := h
      obtain ⟨b, l, c, h1, h2, h3⟩ := ho
      exact ⟨θ, .refl _, hK, b, l, c, by rw [hr _ (.refl _), shf_zero', h1], h2, h3⟩
    · exact h.elim

theorem uniH_ok {w : World} {nx : Nat} {L : Hp} (hp : HpOk W C ρ nx w L) : ∀ {L' : Hp} {θ : Th} {K : Th → Prop}, uniH θ L L' K →
    ∃ θ', ExtT θ θ' ∧ K θ' ∧ ∀ m' o', lk L' m' = some o' → ObjOk W C (rhoT ρ θ') w m' o' ∧ ((∃ m x o, lk θ' m' = some (some (m, x)) ∧ lk L m = some o) ∨ lk θ' m' = some none)
  | [], θ, K, h => ⟨θ, .refl _, h, fun m' o' hl => by simp [lk] at hl⟩
  | (m', o') :: r, θ, K, h => by
    simp only [uniH] at h
    split at h
    · rename_i m k z hm
      split at h
      · rename_i o ho
        obtain ⟨θ1, h1, h2, h3⟩ := uniO_ok (hp.obj m o ho) hm h
        obtain ⟨θ2, h4, h5, h6⟩ := uniH_ok hp h2
        refine ⟨θ2, h1.trans h4, h5, fun m2 o2 hl => ?_⟩
        simp only [lk] at hl
        split at hl
        · rename_i e; subst e; cases hl
          exact ⟨h3.mono h4.sub, .inl ⟨m, (k, z), o, h4 _ _ (h1 _ _ hm), ho⟩⟩
        · exact h6 m2 o2 hl
      · exact h.elim
    · rename_i hm
      split at h
      · obtain ⟨rfl, h⟩ := h
        obtain ⟨θ2, h4, h5, h6⟩ := uniH_ok hp h
        refine ⟨θ2, h4, h5, fun m2 o2 hl => ?_⟩
        simp only [lk] at hl
        split at hl
        · rename_i e; subst e; cases hl
          exact ⟨.inl ⟨by simp [rhoT, h4 _ _ hm], rfl⟩, .inr (h4 _ _ hm)⟩
        · exact h6 m2 o2 hl
      · exact h.elim
    · rename_i hm
      split at h
      · rename_i o ho
        obtain ⟨θ1, h1, h2, h3⟩ := uniO_ok (m' := m') (hp.obj m' o ho) (by simp [lk]) h
        obtain ⟨θ2, h4, h5, h6⟩ := uniH_ok hp h2
        refine ⟨θ2, (ExtT.cons hm).trans (h1.trans h4), h5, fun m2 o2 hl => ?_⟩
        simp only [lk] at hl
        split at hl
        · rename_i e; subst e; cases hl
          exact ⟨h3.mono h4.sub, .inl ⟨m', (0, 0), o, h4 _ _ (h1 _ _ (by simp [lk])), ho⟩⟩
        · exact h6 m2 o2 hl
      · exact h.elim

theorem lk_split {L : Hp} {m : Nat} {o : AObj} (h : lk L m = some o) : lk (boxesOf L) m = some o ∨ lk (rowsOf L) m = some o := by
  induction L with
  | nil => simp [lk] at h
  | cons x r ih =>
    obtain ⟨i, ob⟩ := x
    simp only [lk] at h
    split at h
    · rename_i e; cases h; subst e
      cases o with
      | box cs => left; simp [boxesOf, lk]
      | row t xs => right; simp [rowsOf, lk]
      | set kk mp es => right; simp [rowsOf, lk]
    · rename_i e
      rcases ih h with ih | ih
      · left; cases ob <;> simp [boxesOf, lk, e, ih]
      · right; cases ob <;> simp [rowsOf, lk, e, ih]

theorem tgts_inj : ∀ {θ : Th}, nodupB (tgts θ) = true → ∀ {a b m : Nat} {p q : Nat × Nat}, lk θ a = some (some (m, p)) → lk θ b = some (some (m, q)) → a = b
  | [], _, a, b, m, p, q, h, _ => by simp [lk] at h
  | (k, x) :: r, hn, a, b, m, p, q, ha, hb => by
    have mem : ∀ {r : Th} {j : Nat} {p : Nat × Nat}, lk r j = some (some (m, p)) → m ∈ tgts r := by
      intro r
      induction r with
      | nil => intro j p h; simp [lk] at h
      | cons y r ih =>
        intro j p h
        obtain ⟨i, z⟩ := y
        simp only [lk] at h
        split at h
        · cases h; simp [tgts]
        · cases z with
          | none => simpa [tgts] using ih h
          | some z => obtain ⟨z, z1, z2⟩ := z; simp [tgts, ih h]
    cases x with
    | none =>
      simp only [lk] at ha hb
      split at ha
      · cases ha
      · split at hb
        · cases hb
        · exact tgts_inj (by simpa [tgts] using hn) ha hb
    | some z =>
      obtain ⟨z, z1, z2⟩ := z
      simp [tgts, nodupB] at hn
      simp only [lk] at ha hb
      split at ha <;> split at hb
      · rename_i e1 e2; exact e1.symm.trans e2
      · cases ha; exact absurd (mem hb) hn.1
      · cases hb; exact absurd (mem ha) hn.1
      · exact tgts_inj hn.2 ha hb

theorem keysLt_none : ∀ {θ : Th} {n k : Nat}, keysLt n θ = true → n ≤ k → lk θ k = none
  | [], n, k, _, _ => rfl
  | (m, x) :: r, n, k, h, hk => by
    simp [keysLt] at h
    simp only [lk]
    rw [if_neg (by omega)]
    exact keysLt_none h.2 hk

theorem idT_get : ∀ (p i : Nat), i < p → lk (idT p) i = some (some (i, 0, 0))
  | p + 1, i, h => by
    simp only [idT, lk]
    by_cases e : p = i
    · subst e; simp
    · rw [if_neg e]; exact idT_get p i (by omega)
theorem rho_blk {ρ : Nm} {θ : Th} {m m1 b : Nat} {p1 x : Nat × Nat} (h : lk θ m = some (some (m1, p1))) (hx : rhoT ρ θ m = some (some (b, x))) : ∃ x1, ρ m1 = some (some (b, x1)) := by
  obtain ⟨k, z⟩ := p1
  simp only [rhoT, h] at hx
  cases hm : ρ m1 with
  | none => rw [hm] at hx; cases hx
  | some y =>
    rw [hm] at hx
    cases y with
    | none => simp [shf] at hx
    | some y =>
      simp only [Option.map_some, shf, Option.some.injEq] at hx
      obtain ⟨b', o, c⟩ := y
      simp only [Prod.mk.injEq] at hx
      obtain ⟨rfl, _⟩ := hx
      exact ⟨_, rfl⟩
theorem SubS.st {p : Nat} {s s' : S} (h : SubS p s s') {a : Act} {w : World} {ρ : Nm} (hs : StOk W C ρ s a w) : s'.n = s.n ∧ ∃ ρ', (∀ i, i < p → ρ' i = ρ i) ∧ StOk W C ρ' s' a w := by
  obtain ⟨he, h⟩ := h
  obtain ⟨θ1, h1, h2, h3⟩ := uniS_ok hs.fr.slot h
  obtain ⟨θ2, h4, h2', h7⟩ := uniH_ok hs.hp h2
  obtain ⟨θ3, h4', ⟨h5, h6⟩, h7'⟩ := uniH_ok hs.hp h2'
  have h7 : ∀ m' o', lk s'.L m' = some o' → ObjOk W C (rhoT ρ θ3) w m' o' ∧ ((∃ m x o, lk θ3 m' = some (some (m, x)) ∧ lk s.L m = some o) ∨ lk θ3 m' = some none) := fun m' o' hl => by
    rcases lk_split hl with hl | hl
    · obtain ⟨h8, h9⟩ := h7 m' o' hl
      exact ⟨h8.mono h4'.sub, h9.imp (fun ⟨m, x, o, h10, h11⟩ => ⟨m, x, o, h4' _ _ h10, h11⟩) (fun h => h4' _ _ h)⟩
    · exact h7' m' o' hl
  refine ⟨he, rhoT ρ θ3, fun i hi => by simp [rhoT, h4' _ _ (h4 _ _ (h1 _ _ (idT_get p i hi))), shf_zero'], ⟨⟨fun d av hl => ?_, by rw [he]; exact hs.fr.size, hs.fr.defers⟩, ?_⟩⟩
  · obtain ⟨v, hv, hd⟩ := h3 d av hl; exact ⟨v, hv, (hd.mono h4.sub).mono h4'.sub⟩
  · have key : ∀ m o, lk s'.L m = some o → ∀ b x, rhoT ρ θ3 m = some (some (b, x)) → ∃ m1 p1 o1 x1, lk θ3 m = some (some (m1, p1)) ∧ lk s.L m1 = some o1 ∧ ρ m1 = some (some (b, x1)) := fun m o hm b x hx => by
      rcases (h7 m o hm).2 with ⟨m1, p1, o1, h8, h9⟩ | h8
      · obtain ⟨x1, h⟩ := rho_blk h8 hx
        exact ⟨m1, p1, o1, x1, h8, h9, h⟩
      · simp [rhoT, h8] at hx
    refine ⟨fun m o hm => (h7 m o hm).1, fun m o m' o' b x b' x' hm hm' hne hx hx' => ?_, fun m o b x hm hx => ?_, fun m hm => ?_, hs.hp.os, hs.hp.tape, hs.hp.output, hs.hp.size, hs.hp.old⟩
    · obtain ⟨m1, p1, o1, x1, h8, h9, h10⟩ := key m o hm b x hx
      obtain ⟨m2, p2, o2, x2, h11, h12, h13⟩ := key m' o' hm' b' x' hx'
      refine hs.hp.apart m1 o1 m2 o2 b x1 b' x2 h9 h12 (fun e => hne ?_) h10 h13
      subst e
      exact tgts_inj h5 h8 h11
    · obtain ⟨m1, p1, o1, x1, h8, h9, h10⟩ := key m o hm b x hx
      exact hs.hp.own m1 o1 b x1 h9 h10
    · simp [rhoT, keysLt_none h6 hm]

/-- What is overwritten or unknown is left out. -/
def ded : List Nat → List (Nat × AVal) → List (Nat × AVal)
  | _, [] => []
  | seen, (d, av) :: r => if seen.contains d then ded seen r else match av with
    | .junk => ded (d :: seen) r
    | .tup _ => ded (d :: seen) r
    | av => (d, av) :: ded (d :: seen) r
def tidy (s : S) : S := { s with σ := ded [] s.σ }

theorem lk_ded : ∀ (σ : List (Nat × AVal)) (seen : List Nat) {d : Nat} {av : AVal}, lk (ded seen σ) d = some av → d ∉ seen ∧ lk σ d = some av
  | [], seen, d, av, h => by simp [ded, lk] at h
  | (i, x) :: r, seen, d, av, h => by
    simp only [ded] at h
    split at h
    · rename_i hc
      obtain ⟨h1, h2⟩ := lk_ded r seen h
      refine ⟨h1, ?_⟩
      simp only [lk]
      rw [if_neg (fun e => h1 (by subst e; simpa using hc))]
      exact h2
    · rename_i hc
      have hrec : lk (ded (i :: seen) r) d = some av → d ∉ seen ∧ lk ((i, x) :: r) d = some av := fun h => by
        obtain ⟨h1, h2⟩ := lk_ded r (i :: seen) h
        simp only [List.mem_cons, not_or] at h1
        refine ⟨h1.2, ?_⟩
        simp only [lk]
        rw [if_neg (fun e => h1.1 e.symm)]; exact h2
      split at h
      · exact hrec h
      · exact hrec h
      · simp only [lk] at h
        split at h
        · rename_i e; subst e; cases h
          exact ⟨by simpa using hc, by simp [lk]⟩
        · exact hrec h
theorem tidy_st {s : S} {a : Act} {w : World} {ρ : Nm} (hs : StOk W C ρ s a w) : StOk W C ρ (tidy s) a w :=
  ⟨⟨fun d av hl => hs.fr.slot d av (lk_ded _ _ hl).2, hs.fr.size, hs.fr.defers⟩, hs.hp⟩
end
end Go.Proofs.YthghcialeghgoaaDoorE

/-! Code: what is to be shown of it, and why that is enough. -/
namespace Go.Proofs.YthghcialeghgoaaDoorE
open Go Go.RowKit
set_option linter.unusedSimpArgs false
set_option linter.unusedVariables false

structure LO where
  d : Option Nat
  io : IOp
  g : Option (Nat × Bool)

/-- In which order the operations of a region that draws its order are taken. -/
inductive DI where
  | done
  | held (i : Nat) (t : DI)
  | alt (i : Nat) (t r : DI)
  | stop
inductive DT where
  | done
  | held (o : LO) (t : DT)
  | alt (o : LO) (t r : DT)
  | stop
  | bad

inductive IC where
  | ops (l : List LO)
  | draw (l : List LO) (t : DT)
  | skip
  | seq (a b : IC)
  | cond (x : Operand) (a b : IC)
  | block (id : Nat) (b : IC)
  | loop (b : IC)
  | exit (id : Nat)
  | ret
  | hold (c : IC)

inductive Ex where
  | normal
  | exit (id : Nat)
  | ret

def lowCall (o : Op) : Option IOp :=
  match o with
  | .call ⟨.value (.func f), args, _⟩ => some (.call f args.toList)
  | .call ⟨.value (.tmp t), args, _⟩ => some (.callv (.tmp t) args.toList)
  | _ => none
def low1 (P : Program) (τ : List (Nat × Ty)) (o : Op) : Option IOp :=
  match lowCall o with
  | some io => some io
  | none => match lowV P o with
    | some io => some io
    | none => lowW P τ o
def dOk (n : Nat) : Option Nat → Bool
  | none => true
  | some d => decide (d < n)
def lowOp (P : Program) (τ : List (Nat × Ty)) (n : Nat) (ops : List Oper) (o : Oper) : Option LO :=
  match low1 P τ o.op with
  | none => none
  | some io => if dOk n o.dst = true then match o.guard with
    | none => some ⟨o.dst, io, none⟩
    | some (j, b) => match (ops[j]?).bind (·.dst) with
      | some t => if t < n then some ⟨o.dst, io, some (t, b)⟩ else none
      | none => none
    else none
def lowOps (P : Program) (τ : List (Nat × Ty)) (n : Nat) (ops : List Oper) : List Oper → Option (List LO)
  | [] => some []
  | o :: r => match lowOp P τ n ops o, lowOps P τ n ops r with
    | some x, some xs => some (x :: xs)
    | _, _ => none
def isVal : IOp → Bool
  | .box _ => false
  | .new _ => false
  | .store _ _ _ => false
  | .mk _ _ _ _ => false
  | .blds _ _ _ => false
  | .app _ _ _ _ => false
  | .clr _ _ => false
  | .mmk _ _ => false
  | .mput _ _ _ _ _ => false
  | .call _ _ => false
  | .callv _ _ => false
  | .cpy _ _ _ => false
  | .newr _ _ => false
  | .b2s _ _ => false
  | _ => true
/-- Leaves all that was there as it was. -/
def mild : IOp → Bool
  | .store _ _ _ => false
  | .app _ _ _ _ => false
  | .clr _ _ => false
  | .mput _ _ _ _ _ => false
  | .callv _ _ => false
  | .cpy _ _ _ => false
  | .call f _ => !wildF.contains f
  | _ => true
def ins (x : Nat) (l : List Nat) : List Nat := if l.contains x then l else x :: l
def insAll : List Nat → List Nat → List Nat
  | [], l => l
  | x :: r, l => ins x (insAll r l)
def depsOf (o : Oper) : List Nat := o.after.toList.filterMap fun e => if Region.binds .any e then some e.on else none
def ancOf (acc : List (List Nat)) : List Nat → List Nat
  | [] => []
  | k :: r => ins k (insAll (acc.getD k []) (ancOf acc r))
/-- What each operation waits for, all through. -/
def ancs : List (List Nat) → List Oper → List (List Nat)
  | acc, [] => acc
  | acc, o :: r => ancs (acc ++ [ancOf acc (depsOf o)]) r
/-- Operation i may be taken first. -/
def mayHeld (ops : List Oper) (xs : List LO) (an : List (List Nat)) (listed : List Bool) (i : Nat) : Bool :=
  match ops[i]?, xs[i]? with
  | some oi, some xi => isVal xi.io && (List.range ops.length).all fun j => j == i || listed.getD j true || (an.getD j []).contains i || (match ops[j]?, xs[j]? with
      | some oj, some xj => oi.apart ops.toArray oj && (!isLd xi.io || mild xj.io)
      | _, _ => false)
  | _, _ => false
def readyL (ops : List Oper) (listed : List Bool) : List Nat :=
  (List.range ops.length).filter fun i => !listed.getD i true && (match ops[i]? with
    | some o => (depsOf o).all fun k => listed.getD k false
    | none => false)
def setB : List Bool → Nat → List Bool
  | [], _ => []
  | _ :: r, 0 => true :: r
  | b :: r, n + 1 => b :: setB r n
def closedB (ops : List Oper) (listed : List Bool) : Bool := (List.range ops.length).all fun j => !listed.getD j false || (match ops[j]? with
    | some o => (depsOf o).all fun k => listed.getD k false
    | none => false)
def buildD (ops : List Oper) (xs : List LO) (an : List (List Nat)) : Nat → List Bool → DI
  | 0, _ => .stop
  | n + 1, listed => match (readyL ops listed).find? (mayHeld ops xs an listed) with
    | some i => .held i (buildD ops xs an n (setB listed i))
    | none => match readyL ops listed with
      | [] => .done
      | rs => rs.foldr (fun i r => .alt i (buildD ops xs an n (setB listed i)) r) .stop
def altsOf : DI → List Nat
  | .alt i _ r => i :: altsOf r
  | _ => []
def chkD (ops : List Oper) (xs : List LO) (an : List (List Nat)) : Bool → DI → List Bool → Bool
  | hd, .done, listed => hd && (readyL ops listed).isEmpty
  | hd, .held i t, listed => hd && (readyL ops listed).contains i && mayHeld ops xs an listed i && closedB ops listed && chkD ops xs an true t (setB listed i)
  | hd, .alt i t r, listed => (!hd || altsOf (.alt i t r) == readyL ops listed) && chkD ops xs an true t (setB listed i) && chkD ops xs an false r listed
  | hd, .stop, _ => !hd
def depD : DI → Nat
  | .done => 0
  | .held _ t => depD t + 1
  | .alt _ t r => max (depD t + 1) (depD r)
  | .stop => 0
def linD : DT → Bool
  | .held _ t => linD t
  | .alt _ t .stop => linD t
  | .alt _ _ _ => false
  | _ => true
def fillT (xs : List LO) : DI → DT
  | .done => .done
  | .stop => .stop
  | .held i t => match xs[i]? with
    | some o => .held o (fillT xs t)
    | none => .bad
  | .alt i t r => match xs[i]? with
    | some o => .alt o (fillT xs t) (fillT xs r)
    | none => .bad
/-- A region that draws its order. -/
def lowD (P : Program) (τ : List (Nat × Ty)) (n : Nat) (l : List Oper) : Option IC :=
  match lowOps P τ n l l with
  | none => none
  | some xs =>
    let an := ancs [] l
    let t := buildD l xs an (l.length + 1) (List.replicate l.length false)
    if Region.noSelect ⟨l⟩ = true ∧ chkD l xs an true t (List.replicate l.length false) = true ∧ depD t ≤ l.length ∧ P.follows .mixedOrders = true then some (.draw xs (fillT xs t)) else none
def lowC (P : Program) (τ : List (Nat × Ty)) (n : Nat) : Code → Option IC
  | .skip => some .skip
  | .region _ ⟨l⟩ false => match lowOps P τ n l l with
    | some xs => some (.ops xs)
    | none => none
  | .region _ ⟨l⟩ true => lowD P τ n l
  | .seq a b => match lowC P τ n a, lowC P τ n b with
    | some x, some y => some (.seq x y)
    | _, _ => none
  | .cond x a b => match lowC P τ n a, lowC P τ n b with
    | some y, some z => some (.cond x y z)
    | _, _ => none
  | .block id b => match lowC P τ n b with
    | some x => some (.block id x)
    | none => none
  | .loop b => match lowC P τ n b with
    | some x => some (.loop x)
    | none => none
  | .exit id => some (.exit id)
  | .ret => some .ret
  | _ => none

def erase : IC → IC
  | .seq a b => .seq (erase a) (erase b)
  | .cond x a b => .cond x (erase a) (erase b)
  | .block id b => .block id (erase b)
  | .loop b => .loop (erase b)
  | .hold c => erase c
  | c => c

def callable (P : Program) (f : Nat) : Bool :=
  match P.funcs[f]? with
  | some fn => !(fn.name == "runtime.NumGoroutine") && fn.body.isSome
  | none => false

structure Env where
  P : Program
  τ : List (Nat × Ty)
  Γ : Nat → Option Spec
  n : Nat
  W : World
  C : CR
  pins : Nat
  ρ0 : Nm

def Env.good (E : Env) : Prop := (∀ i, i < E.pins → ∃ x, E.ρ0 i = some x) ∧ ∀ f sp, E.Γ f = some sp → callable E.P f = true ∧ Valid E.P f sp

def EvSt (E : Env) (s : S) (a : Act) (w : World) : Prop := s.n = E.n ∧ ∃ ρ, (∀ i, i < E.pins → ρ i = E.ρ0 i) ∧ StOk E.W E.C ρ s a w

def conc (E : Env) (Q : Ex → S → Prop) : Exit → Act → World → Prop
  | .normal, a, w => ∃ s, EvSt E s a w ∧ Q .normal s
  | .exit id, a, w => ∃ s, EvSt E s a w ∧ Q (.exit id) s
  | .ret, a, w => ∃ s, EvSt E s a w ∧ Q .ret s
  | _, _, _ => False

def OkI (E : Env) (ic : IC) (s : S) (Q : Ex → S → Prop) : Prop :=
  ∀ code, lowC E.P E.τ E.n code = some (erase ic) → ∀ a w, EvSt E s a w → code.wp E.P (conc E Q) a w

def gdK (s : S) (g : Option (Nat × Bool)) (K1 K2 : S → Prop) : Prop :=
  match g with
  | none => K1 s
  | some (t, b) => match lk s.σ t with
    | some (.v (.bool c)) => impK (c = b) (K1 (s.put (some t) (.v (.bool b)))) ∧ impK (c = !b) (K2 (s.put (some t) (.v (.bool (!b)))))
    | some (.v (.tuple _)) => K2 s
    | _ => False

def stepM (m : Bool) (Γ : Nat → Option Spec) (s : S) (io : IOp) (K : AVal → S → Prop) : Prop :=
  match io with
  | .box x => wst s (.box x) K
  | .new z => wst s (.new z) K
  | .newr t n => wst s (.newr t n) K
  | .b2s t x => wst s (.b2s t x) K
  | .cpy t x y => wst s (.cpy t x y) K
  | .store n p x => wst s (.store n p x) K
  | .mk t b x y => wst s (.mk t b x y) K
  | .blds t n ps => wst s (.blds t n ps) K
  | .app t b x y => wst s (.app t b x y) K
  | .clr t x => wst s (.clr t x) K
  | .mmk kk mp => wst s (.mmk kk mp) K
  | .mput kk mp m k v => wst s (.mput kk mp m k v) K
  | .call f args => someK (Γ f) fun sp => (m = true → wildF.contains f = false → sp.take s.L (args.map s.ev) = []) ∧ callK sp s (args.map s.ev) K
  | .callv x args => match s.ev x with
    | .fn f cap => someK (Γ f) fun sp => callK sp s (args.map s.ev ++ cap) K
    | _ => False
  | io => vst s io fun av => K av s

def vdt (Γ : Nat → Option Spec) : DT → S → (S → Prop) → Prop
  | .done, s, K => K s
  | .held o t, s, K => gdK s o.g (fun s => vst s o.io fun av => vdt Γ t (s.put o.d av) K) (fun s => vdt Γ t (s.put o.d (.v (.tuple #[]))) K)
  | .alt o t r, s, K => gdK s o.g (fun s => stepM true Γ s o.io fun av s' => vdt Γ t (s'.put o.d av) K) (fun s => vdt Γ t (s.put o.d (.v (.tuple #[]))) K) ∧ vdt Γ r s K
  | .stop, s, K => True
  | .bad, s, K => False

def vops (Γ : Nat → Option Spec) : List LO → S → (S → Prop) → Prop
  | [], s, K => K s
  | o :: r, s, K => gdK s o.g (fun s => stepM false Γ s o.io fun av s' => vops Γ r (s'.put o.d av) K) (fun s => vops Γ r (s.put o.d (.v (.tuple #[]))) K)

def drawQ (lin : Bool) (Γ : Nat → Option Spec) (p : Nat) (l : List LO) (t : DT) (s : S) (K : S → Prop) : Prop :=
  match lin with
  | true => vdt Γ t s K
  | false => vops Γ l s fun sl => K (tidy sl) ∧ vdt Γ t s fun s' => SubS p s' (tidy sl)

def vc (E : Env) : IC → S → (Ex → S → Prop) → Prop
  | .ops l, s, Q => vops E.Γ l s (Q .normal)
  | .draw l t, s, Q => drawQ (linD t) E.Γ E.pins l t s (Q .normal)
  | .skip, s, Q => Q .normal s
  | .seq a b, s, Q => vc E a s fun e s' => match e with
    | .normal => vc E b s' Q
    | .exit i => Q (.exit i) s'
    | .ret => Q .ret s'
  | .cond x a b, s, Q => match s.ev x with
    | .v (.bool t) => impK (t = true) (vc E a s Q) ∧ impK (t = false) (vc E b s Q)
    | _ => False
  | .block id c, s, Q => vc E c s fun e s' => match e with
    | .normal => Q .normal s'
    | .exit i => if i = id then Q .normal s' else Q (.exit i) s'
    | .ret => Q .ret s'
  | .exit id, s, Q => Q (.exit id) s
  | .ret, s, Q => Q .ret s
  | .loop c, s, Q => OkI E (.loop c) s Q
  | .hold c, s, Q => OkI E c s Q

section
variable {E : Env}

/-- The op's call of a Go function. -/
theorem run_call {P : Program} {f : Nat} {o : Oper} {a : Act} {w : World} {x : Operand} {args : Array Operand} {ts : Array TypeId} {cap : Array Value} (ho : o.op = .call ⟨.value x, args, ts⟩) (hx : a.eval x = .func (.func f) #[] cap) (hc : callable P f = true) :
    (execOp a.eval o).run P w = .ok (.enter f (args.map a.eval ++ cap)) w := by
  unfold callable at hc
  split at hc
  · rename_i fn hf
    simp only [Bool.and_eq_true, Bool.not_eq_true'] at hc
    unfold execOp; rw [ho]
    have h1 : ¬ fn.name = "runtime.NumGoroutine" := by simpa using hc.1
    have h2 : ¬ fn.body = none := by intro e; rw [e] at hc; simp at hc
    simp [resolve, hx, Deferred.ofValue, invoke, callFunc, hf, h1, h2]
  · cases hc

/-- One operation that is carried out. -/
theorem step_ok (hE : E.good) {s : S} {a : Act} {w : World} (hn : s.n = E.n) {ρ : Nm} (hs : StOk E.W E.C ρ s a w) {o : Oper} {io : IOp} (hl : low1 E.P E.τ o.op = some io) {K : AVal → S → Prop} {m : Bool} (h : stepM m E.Γ s io K)
    {next : Act → World → Prop} {Q : Exit → Act → World → Prop} (hnext : ∀ av v s' w' ρ', Sub0 ρ ρ' → K av s' → Den E.W E.C ρ' av v → FrOk E.W E.C ρ' s' a → HpOk E.W E.C ρ' s'.nx w' s'.L → s'.n = E.n → (m = true → mild io = true → Below w.heap.size w w') → next (a.put o.dst v) w') :
    o.wp E.P a w next Q := by
  have val : lowV E.P o.op = some io → vst s io (fun av => K av s) → o.wp E.P a w next Q := by
    intro hl h
    obtain ⟨av, v, hK, hd, hr⟩ := vst_ok hs hl h
    unfold Oper.wp
    rw [hr w (fun _ => Below.refl _ _)]
    exact hnext av v s w ρ (Sub0.refl _) hK hd hs.fr hs.hp hn (fun _ _ => Below.refl _ _)
  have wld : lowW E.P E.τ o.op = some io → wst s io K → o.wp E.P a w next Q := by
    intro hl h
    obtain ⟨av, v, s', w', ρ', hK, hr, hsub, hd, e1, e2, hp, hbl⟩ := wst_ok hs hl h
    have hbl' : m = true → mild io = true → Below w.heap.size w w' := fun _ hm => hbl (by
      unfold lowW at hl
      repeat' (split at hl)
      all_goals first
        | (cases hl; done)
        | (cases hl; first | rfl | (cases hm)))
    unfold Oper.wp
    rcases hr with hr | ⟨hr, rfl⟩
    · rw [hr]; exact hnext av v s' w' ρ' hsub hK hd (hs.fr.mono hsub e1 e2) hp (e2.trans hn) hbl'
    · rw [hr]; exact hnext av undef s' w' ρ' hsub hK hd (hs.fr.mono hsub e1 e2) hp (e2.trans hn) hbl'
  have call : ∀ {f : Nat} {x : Operand} {args : Array Operand} {ts : Array TypeId} {caps : List AVal} {capv : List Value}, o.op = .call ⟨.value x, args, ts⟩ → a.eval x = .func (.func f) #[] ⟨capv⟩ → DenL E.W E.C ρ caps capv →
      (someK (E.Γ f) fun sp => (m = true → mild io = true → sp.take s.L (args.toList.map s.ev ++ caps) = []) ∧ callK sp s (args.toList.map s.ev ++ caps) K) → o.wp E.P a w next Q := by
    intro f x args ts caps capv ho hx hcap h
    unfold someK at h
    split at h
    · rename_i sp hsp
      obtain ⟨htk, h⟩ := h
      obtain ⟨hc, hv⟩ := hE.2 f sp hsp
      have hd : DenL E.W E.C ρ (args.toList.map s.ev ++ caps) (args.toList.map a.eval ++ capv) := by
        refine DenL.append ⟨by simp, fun k av u h1 h2 => ?_⟩ hcap
        rw [List.getElem?_map, Option.map_eq_some_iff] at h1 h2
        obtain ⟨y, h3, rfl⟩ := h1
        obtain ⟨y', h4, rfl⟩ := h2
        rw [h3] at h4; cases h4
        exact hs.fr.ev y
      have := callK_ok hv hs.hp hd h
      unfold Oper.wp
      rw [run_call ho hx hc]
      have e : (⟨args.toList.map a.eval ++ capv⟩ : Array Value) = args.map a.eval ++ ⟨capv⟩ := by apply Array.toList_inj.1; simp
      rw [e] at this
      refine this.mono ?_
      rintro e w' ⟨r, v, s', ρ', rfl, hsub, hd, hp, e1, e2, hK, hbl⟩
      exact hnext r v s' w' ρ' hsub hK hd (hs.fr.mono hsub e1 e2) hp (e2.trans hn) (fun h1 h2 => hbl (htk h1 h2))
    · exact h.elim
  unfold low1 at hl
  split at hl
  · rename_i io' hlc
    cases hl
    unfold lowCall at hlc
    split at hlc
    · rename_i f args ts ho
      cases hlc
      exact call (caps := []) (capv := []) ho rfl .nil (by
        simp only [stepM] at h
        unfold someK at h ⊢
        split at h
        · rename_i sp hsp
          exact ⟨fun h1 h2 => by simpa using h.1 h1 (by simpa [mild] using h2), by simpa using h.2⟩
        · exact h)
    · rename_i t args ts ho
      cases hlc
      simp only [stepM] at h
      split at h
      · rename_i f cap hx
        have hd := hs.fr.ev (.tmp t)
        rw [hx] at hd
        generalize hv : a.eval (.tmp t) = v at hd
        cases hd with
        | fn vs h1 h2 => exact call ho hv ⟨h1, h2⟩ (by
          unfold someK at h ⊢
          split at h
          · rename_i sp hsp
            exact ⟨fun _ h2 => (by cases h2), h⟩
          · exact h)
      · exact h.elim
    · cases hlc
  · split at hl
    · rename_i io' hlv
      cases hl
      have : vst s io (fun av => K av s) := by
        unfold lowV at hlv
        repeat' (split at hlv)
        all_goals first
          | (cases hlv; done)
          | (cases hlv; exact h)
      exact val hlv this
    · have hlw := hl
      have : wst s io K := by
        unfold lowW at hlw
        repeat' (split at hlw)
        all_goals first
          | (cases hlw; done)
          | (cases hlw; exact h)
      exact wld hl this
end
end Go.Proofs.YthghcialeghgoaaDoorE

/-! Regions that draw their order. -/
namespace Go.Proofs.YthghcialeghgoaaDoorE
open Go Go.RowKit
set_option linter.unusedSimpArgs false
set_option linter.unusedVariables false

section
variable {P : Program} {ops : Array Oper} {Q : Exit → Act → World → Prop} {M : Nat → Bool}

/-- Whatever order is picked; what is mild leaves what was there. -/
def wpAnyM (P : Program) (ops : Array Oper) (Q : Exit → Act → World → Prop) (M : Nat → Bool) : Nat → Array Bool → Act → World → Prop
  | 0, listed, a, w => Region.ready .any ops listed = [] ∧ Q .normal a w
  | fuel + 1, listed, a, w => (Region.ready .any ops listed = [] → Q .normal a w) ∧
    ∀ i ∈ Region.ready .any ops listed, wpOp P ops Q i (fun a' w' => (M i = true → Below w.heap.size w w') ∧ wpAnyM P ops Q M fuel (listed.setIfInBounds i true) a' w') a w

theorem wpAny_of_M : ∀ (fuel : Nat) (listed : Array Bool) (a : Act) (w : World), wpAnyM P ops Q M fuel listed a w → wpAny P .any ops Q fuel listed a w
  | 0, _, _, _, h => h
  | fuel + 1, _, _, _, h => ⟨h.1, fun i hi => wpOp_mono (fun a' w' h' => wpAny_of_M fuel _ a' w' h'.2) (h.2 i hi)⟩

/-- All that a listed operation waits for is listed. -/
def Closed (ops : Array Oper) (listed : Array Bool) : Prop := ∀ j oj, ops[j]? = some oj → listed.getD j false = true → ∀ e ∈ oj.after, Region.binds .any e = true → listed.getD e.on false = true

/-- j waits for i, directly or not. -/
structure Waits (ops : Array Oper) (R : Nat → Nat → Prop) : Prop where
  step : ∀ j i, R j i → ∃ oj, ops[j]? = some oj ∧ ∃ e ∈ oj.after, Region.binds .any e = true ∧ (e.on = i ∨ (e.on < j ∧ R e.on i))

theorem Waits.listed {R : Nat → Nat → Prop} (hR : Waits ops R) {listed : Array Bool} (hc : Closed ops listed) : ∀ (j i : Nat), R j i → listed.getD j false = true → listed.getD i false = true := by
  intro j
  induction j using Nat.strongRecOn with
  | _ j ih =>
    intro i hji hj
    obtain ⟨oj, hoj, e, he, hb, hk⟩ := hR.step j i hji
    have := hc j oj hoj hj e he hb
    rcases hk with rfl | ⟨hlt, hk⟩
    · exact this
    · exact ih e.on hlt i hk this
theorem Waits.ready {R : Nat → Nat → Prop} (hR : Waits ops R) {listed : Array Bool} (hc : Closed ops listed) {j i : Nat} (hji : R j i) (hr : j ∈ Region.ready .any ops listed) : listed.getD i false = true := by
  obtain ⟨_, oj, hoj, hall⟩ := mem_ready.1 hr
  obtain ⟨oj', hoj', e, he, hb, hk⟩ := hR.step j i hji
  rw [hoj] at hoj'; cases hoj'
  have := hall e he hb
  rcases hk with rfl | ⟨hlt, hk⟩
  · exact this
  · exact hR.listed hc _ _ hk this

theorem Closed.set {listed : Array Bool} (hc : Closed ops listed) {j : Nat} (hr : j ∈ Region.ready .any ops listed) : Closed ops (listed.setIfInBounds j true) := by
  intro k ok hk hl e he hb
  apply getD_set_true
  by_cases e1 : j = k
  · subst e1
    obtain ⟨_, oj, hoj, hall⟩ := mem_ready.1 hr
    rw [hk] at hoj; cases hoj
    exact hall e he hb
  · rw [getD_set_ne false e1] at hl
    exact hc k ok hk hl e he hb

theorem anyM_first {R : Nat → Nat → Prop} (hR : Waits ops R) {i : Nat} {oi : Oper} {v : Value} {ld : Bool} (hi : ops[i]? = some oi) (hsel : ∀ (j : Nat) (o : Oper) cs b, ops[j]? = some o → o.op ≠ .select cs b)
    (hQ : ∀ c a w, ¬ Q (.panic c) a w) :
    ∀ (fuel : Nat) (listed : Array Bool) (a : Act) (w : World), Closed ops listed →
      (∀ j oj, ops[j]? = some oj → j ≠ i → listed.getD j true = false → R j i ∨ (oi.apart ops oj = true ∧ (ld = true → M j = true))) →
      i ∈ Region.ready .any ops listed → YieldsIf P ops (fun w' => ld = true → Below w.heap.size w w') oi v a →
      wpAnyM P ops Q M fuel (listed.setIfInBounds i true) (a.put oi.dst v) w → wpAnyM P ops Q M (fuel + 1) listed a w := by
  intro fuel
  induction fuel with
  | zero =>
    intro listed a w _ _ hr hy H
    refine ⟨fun h => (by rw [h] at hr; cases hr), fun j hj => ?_⟩
    by_cases hji : j = i
    · subst hji; exact hy.wpOp hi (fun _ => Below.refl _ _) ⟨fun _ => Below.refl _ _, H⟩
    · have := ready_mono hj hji
      rw [H.1] at this
      cases this
  | succ fuel ih =>
    intro listed a w hc hfree hr hy H
    refine ⟨fun h => (by rw [h] at hr; cases hr), fun j hj => ?_⟩
    by_cases hji : j = i
    · subst hji; exact hy.wpOp hi (fun _ => Below.refl _ _) ⟨fun _ => Below.refl _ _, H⟩
    · have h1 := H.2 j (ready_mono hj hji)
      obtain ⟨hjun, oj, hoj, hall⟩ := mem_ready.1 hj
      have hnw : ¬ R j i := fun h => by
        have := hR.ready hc h hj
        have h0 := (mem_ready.1 hr).1
        rcases Nat.lt_or_ge i listed.size with h' | h'
        · simp [h'] at h0 this; rw [h0] at this; cases this
        · simp [Array.getElem?_eq_none h'] at this
      obtain ⟨hap, hM⟩ := (hfree j oj hoj hji hjun).resolve_left hnw
      have h2 := wpOp_putIf hoj hap (fun cs b => hsel i oi cs b hi) (fun cs b => hsel j oj cs b hoj) (fun c a w h => absurd h (hQ c _ w)) hy h1
      have hfree' : ∀ k ok, ops[k]? = some ok → k ≠ i → (listed.setIfInBounds j true).getD k true = false → R k i ∨ (oi.apart ops ok = true ∧ (ld = true → M k = true)) := fun k ok hk hki hun => by
        refine hfree k ok hk hki ?_
        by_cases hjk : j = k
        · subst hjk; exact hjun
        · rw [getD_set_ne true hjk] at hun; exact hun
      refine wpOp_mono (fun a' w' h3 => ⟨h3.2.1, ih (listed.setIfInBounds j true) a' w' (hc.set hj) hfree' (ready_mono hr (Ne.symm hji)) ?_ ?_⟩) h2
      · rcases h3.1 with ⟨h4, h5⟩ | h4
        · refine .inl ⟨h4, fun w2 hw2 => h5 w2 fun hl => ?_⟩
          have b1 := h3.2.1 (hM hl)
          exact b1.trans ((hw2 hl).mono b1.size)
        · exact .inr h4
      · rw [Array.setIfInBounds_comm _ _ hji]
        exact h3.2.2
end

/-! ### The tree -/
section
variable {E : Env}

theorem mem_ins {x y : Nat} {l : List Nat} : y ∈ ins x l ↔ y = x ∨ y ∈ l := by
  unfold ins
  split
  · rename_i h
    constructor
    · exact .inr
    · rintro (rfl | h')
      · simpa using h
      · exact h'
  · simp
theorem mem_insAll {y : Nat} : ∀ {l m : List Nat}, y ∈ insAll l m ↔ y ∈ l ∨ y ∈ m
  | [], m => by simp [insAll]
  | x :: r, m => by rw [insAll, mem_ins, mem_insAll]; simp [or_assoc]
theorem mem_ancOf {acc : List (List Nat)} {i : Nat} : ∀ {ds : List Nat}, i ∈ ancOf acc ds → ∃ k ∈ ds, k = i ∨ i ∈ acc.getD k []
  | k :: r, h => by
    rw [ancOf, mem_ins, mem_insAll] at h
    rcases h with rfl | h | h
    · exact ⟨_, by simp, .inl rfl⟩
    · exact ⟨k, by simp, .inr h⟩
    · obtain ⟨k', h1, h2⟩ := mem_ancOf h
      exact ⟨k', by simp [h1], h2⟩
theorem ancs_spec : ∀ (r : List Oper) (acc : List (List Nat)) (j i : Nat), i ∈ (ancs acc r).getD j [] → i ∈ acc.getD j [] ∨ ∃ o, acc.length ≤ j ∧ r[j - acc.length]? = some o ∧ ∃ k ∈ depsOf o, k = i ∨ (k < j ∧ i ∈ (ancs acc r).getD k [])
  | [], acc, j, i, h => .inl h
  | o :: r, acc, j, i, h => by
    have keep : ∀ (r : List Oper) (acc : List (List Nat)) (k : Nat), k < acc.length → (ancs acc r).getD k [] = acc.getD k [] := by
      intro r
      induction r with
      | nil => intro acc k _; rfl
      | cons o r ih =>
        intro acc k hk
        rw [ancs, ih _ _ (by simp; omega)]
        simp [List.getD, List.getElem?_append_left hk]
    rw [ancs] at h
    rcases ancs_spec r _ j i h with h | ⟨o', h1, h2, k, h3, h4⟩
    · by_cases hj : j < acc.length
      · left; simpa [List.getD, List.getElem?_append_left hj] using h
      · right
        by_cases e : j = acc.length
        · subst e
          have h' : i ∈ ancOf acc (depsOf o) := by simpa [List.getD] using h
          obtain ⟨k, h5, h6⟩ := mem_ancOf h'
          refine ⟨o, Nat.le_refl _, by simp, k, h5, h6.imp id fun h7 => ?_⟩
          have hk : k < acc.length := by
            rcases Nat.lt_or_ge k acc.length with h8 | h8
            · exact h8
            · simp [List.getD, List.getElem?_eq_none h8] at h7
          refine ⟨hk, ?_⟩
          rw [ancs, keep _ _ _ (by simp; omega)]
          simpa [List.getD, List.getElem?_append_left hk] using h7
        · have : acc.length + 1 ≤ j := by omega
          simp [List.getD, List.getElem?_eq_none (show (acc ++ [ancOf acc (depsOf o)]).length ≤ j by simp; omega)] at h
    · right
      simp at h1 h2
      refine ⟨o', by omega, ?_, k, h3, ?_⟩
      · have : j - acc.length = (j - (acc.length + 1)) + 1 := by omega
        rw [this]; simpa using h2
      · rw [ancs]; exact h4

theorem mem_depsOf {o : Oper} {k : Nat} : k ∈ depsOf o ↔ ∃ e ∈ o.after, Region.binds .any e = true ∧ e.on = k := by
  unfold depsOf
  simp only [List.mem_filterMap, Array.mem_toList_iff]
  constructor
  · rintro ⟨e, he, h⟩
    split at h
    · rename_i hb; cases h; exact ⟨e, he, hb, rfl⟩
    · cases h
  · rintro ⟨e, he, hb, rfl⟩
    exact ⟨e, he, by simp [hb]⟩

theorem waits_ancs (l : List Oper) : Waits l.toArray fun j i => i ∈ (ancs [] l).getD j [] := ⟨fun j i h => by
  rcases ancs_spec l [] j i h with h | ⟨o, h1, h2, k, h3, h4⟩
  · simp [List.getD] at h
  · obtain ⟨e, he, hb, rfl⟩ := mem_depsOf.1 h3
    exact ⟨o, by simpa using h2, e, he, hb, h4⟩⟩

theorem mem_readyL {l : List Oper} {listed : List Bool} {j : Nat} : j ∈ readyL l listed ↔ j ∈ Region.ready .any l.toArray listed.toArray := by
  rw [mem_ready]
  unfold readyL
  simp only [List.mem_filter, List.mem_range]
  have e0 : listed.toArray.getD j true = listed.getD j true := by simp [List.getD, Array.getD_eq_getD_getElem?]
  cases ho : l[j]? with
  | none => simp [ho]
  | some o =>
    have hlt : j < l.length := (List.getElem?_eq_some_iff.1 ho).1
    simp only [hlt, true_and, ho, Bool.and_eq_true, Bool.not_eq_true', List.all_eq_true, e0]
    constructor
    · rintro ⟨h1, h2⟩
      refine ⟨h1, o, by simpa using ho, fun e he hb => ?_⟩
      have := h2 e.on (mem_depsOf.2 ⟨e, he, hb, rfl⟩)
      simpa [List.getD, Array.getD_eq_getD_getElem?] using this
    · rintro ⟨h1, o', h2, h3⟩
      have : o' = o := by simpa [ho] using h2.symm
      subst this
      refine ⟨h1, fun k hk => ?_⟩
      obtain ⟨e, he, hb, rfl⟩ := mem_depsOf.1 hk
      simpa [List.getD, Array.getD_eq_getD_getElem?] using h3 e he hb

theorem setB_eq : ∀ (l : List Bool) (i : Nat), (setB l i).toArray = l.toArray.setIfInBounds i true
  | [], i => by simp [setB]
  | b :: r, 0 => by apply Array.toList_inj.1; simp [setB]
  | b :: r, n + 1 => by
    have := congrArg Array.toList (setB_eq r n)
    apply Array.toList_inj.1
    simp at this ⊢
    simp [setB, this]

theorem closedB_ok {l : List Oper} {listed : List Bool} (h : closedB l listed = true) : Closed l.toArray listed.toArray := by
  intro j oj hj hl e he hb
  unfold closedB at h
  simp only [List.all_eq_true, List.mem_range, Bool.or_eq_true, Bool.not_eq_true'] at h
  have hj' : l[j]? = some oj := by simpa using hj
  have := h j (List.getElem?_eq_some_iff.1 hj').1
  have hl' : listed.getD j false = true := by simpa [List.getD, Array.getD_eq_getD_getElem?] using hl
  rcases this with h1 | h1
  · rw [hl'] at h1; cases h1
  · rw [hj'] at h1
    simp only [List.all_eq_true] at h1
    have := h1 e.on (mem_depsOf.2 ⟨e, he, hb, rfl⟩)
    simpa [List.getD, Array.getD_eq_getD_getElem?] using this

theorem lowOps_get {P : Program} {τ : List (Nat × Ty)} {n : Nat} {all : List Oper} : ∀ {l : List Oper} {xs : List LO}, lowOps P τ n all l = some xs → ∀ (i : Nat) (x : LO), xs[i]? = some x → ∃ o, l[i]? = some o ∧ lowOp P τ n all o = some x
  | [], xs, h, i, x, hx => by simp [lowOps] at h; subst h; simp at hx
  | o :: r, xs, h, i, x, hx => by
    simp only [lowOps] at h
    split at h
    · rename_i y ys hy hys
      cases h
      cases i with
      | zero => simp at hx; subst hx; exact ⟨o, by simp, hy⟩
      | succ i => simpa using lowOps_get hys i x (by simpa using hx)
    · cases h

theorem guard_ok {W : World} {C : CR} {ρ : Nm} {s : S} {a : Act} {w : World} (hs : StOk W C ρ s a w) {t : Nat} {b : Bool} (h : a.tmps[t]? = some (.bool b)) : StOk W C ρ (s.put (some t) (.v (.bool b))) a w := by
  refine ⟨⟨fun d av hl => ?_, hs.fr.size, hs.fr.defers⟩, hs.hp⟩
  simp only [S.put, lk] at hl
  by_cases e : t = d
  · subst e; rw [if_pos rfl] at hl; cases hl; exact ⟨_, h, .v _⟩
  · rw [if_neg e] at hl; exact hs.fr.slot d av hl

/-- An operation that is or is not wanted. -/
theorem gd_cases {s : S} {a : Act} {w : World} (hs : EvSt E s a w) {all : List Oper} {o : Oper} {x : LO} (hx : lowOp E.P E.τ E.n all o = some x) {K1 K2 : S → Prop} (h : gdK s x.g K1 K2) :
    x.d = o.dst ∧ low1 E.P E.τ o.op = some x.io ∧ (∀ t, o.dst = some t → t < E.n) ∧
    ((Region.wanted o (yielded all.toArray a.tmps) = true ∧ ∃ s', EvSt E s' a w ∧ K1 s') ∨ (Region.wanted o (yielded all.toArray a.tmps) = false ∧ ∃ s', EvSt E s' a w ∧ K2 s')) := by
  unfold lowOp at hx
  split at hx
  · cases hx
  · rename_i io hio
    split at hx
    · rename_i hd
      have hdn : ∀ t, o.dst = some t → t < E.n := fun t ht => by
        rw [ht] at hd; simpa [dOk] using hd
      split at hx
      · rename_i hg
        cases hx
        exact ⟨rfl, hio, hdn, .inl ⟨by simp [Region.wanted, hg], s, hs, h⟩⟩
      · rename_i j b hg
        split at hx
        · rename_i t ht
          split at hx
          · rename_i htn
            cases hx
            refine ⟨rfl, hio, hdn, ?_⟩
            simp only [gdK] at h
            split at h
            · rename_i c hc
              obtain ⟨hn, ρ, hpin, hok⟩ := hs
              obtain ⟨v, hv, hv2⟩ := hok.fr.slot t _ hc
              have := den_v hv2
              subst this
              have hy : yielded all.toArray a.tmps j = some c := by
                unfold yielded
                have : ((all.toArray[j]?).bind (·.dst)) = some t := by simpa using ht
                rw [this]; simp [hv]
              by_cases e : c = b
              · subst e
                exact .inl ⟨by simp [Region.wanted, hg, hy], s.put (some t) (.v (.bool c)), ⟨hn, ρ, hpin, guard_ok hok hv⟩, h.1 rfl⟩
              · have e' : c = !b := by cases b <;> cases c <;> simp_all
                subst e'
                exact .inr ⟨by cases b <;> simp [Region.wanted, hg, hy], s.put (some t) (.v (.bool (!b))), ⟨hn, ρ, hpin, guard_ok hok hv⟩, h.2 rfl⟩
            · rename_i c hc
              obtain ⟨hn, ρ, hpin, hok⟩ := hs
              obtain ⟨v, hv, hv2⟩ := hok.fr.slot t _ hc
              have := den_v hv2
              subst this
              have hy : yielded all.toArray a.tmps j = none := by
                unfold yielded
                have : ((all.toArray[j]?).bind (·.dst)) = some t := by simpa using ht
                rw [this]; simp [hv]
              exact .inr ⟨by simp [Region.wanted, hg, hy], s, ⟨hn, ρ, hpin, hok⟩, h⟩
            · exact h.elim
          · cases hx
        · cases hx
    · cases hx

theorem pin_sub (hE : E.good) {ρ ρ' : Nm} (hpin : ∀ i, i < E.pins → ρ i = E.ρ0 i) (hsub : Sub0 ρ ρ') : ∀ i, i < E.pins → ρ' i = E.ρ0 i := fun i hi => by
  obtain ⟨x, hx⟩ := hE.1 i hi
  rw [hx, hsub i x ((hpin i hi).trans hx)]

theorem put_st {s : S} {a : Act} {w : World} {ρ : Nm} (hpin : ∀ i, i < E.pins → ρ i = E.ρ0 i) (hn : s.n = E.n) (hfr : FrOk E.W E.C ρ s a) (hhp : HpOk E.W E.C ρ s.nx w s.L) {d : Option Nat} (hd : ∀ t, d = some t → t < E.n) {av : AVal} {v : Value} (hv : Den E.W E.C ρ av v) : EvSt E (s.put d av) (a.put d v) w := by
  refine ⟨?_, ρ, hpin, hfr.put (fun t ht => by rw [hn]; exact hd t ht) hv, ?_⟩
  · cases d <;> exact hn
  · cases d <;> exact hhp

theorem low_val {P : Program} {τ : List (Nat × Ty)} {o : Op} {io : IOp} (h : low1 P τ o = some io) (hv : isVal io = true) : lowV P o = some io := by
  unfold low1 at h
  split at h
  · rename_i io' hc'
    cases h
    unfold lowCall at hc'
    split at hc'
    · cases hc'; cases hv
    · cases hc'; cases hv
    · cases hc'
  · split at h
    · rename_i e; cases h; exact e
    · unfold lowW at h
      repeat' (split at h)
      all_goals first
        | (cases h; done)
        | (cases h; cases hv)

def mildAt (xs : List LO) (i : Nat) : Bool := match xs[i]? with
  | some x => mild x.io
  | none => false

theorem vdt_ok (hE : E.good) {l : List Oper} {xs : List LO} (hl : lowOps E.P E.τ E.n l l = some xs) (hsel : Region.noSelect l.toArray = true) {Q : Exit → Act → World → Prop} (hQ : ∀ c a w, ¬ Q (.panic c) a w) {K : S → Prop}
    (hK : ∀ s a w, EvSt E s a w → K s → Q .normal a w) :
    ∀ (t : DI) (hd : Bool) (listed : List Bool) (s : S) (a : Act) (w : World) (fuel : Nat), chkD l xs (ancs [] l) hd t listed = true → depD t ≤ fuel → vdt E.Γ (fillT xs t) s K → EvSt E s a w →
      (hd = true → wpAnyM E.P l.toArray Q (mildAt xs) fuel listed.toArray a w) ∧
      (∀ i ∈ altsOf t, ∃ f, fuel = f + 1 ∧ wpOp E.P l.toArray Q i (fun a' w' => (mildAt xs i = true → Below w.heap.size w w') ∧ wpAnyM E.P l.toArray Q (mildAt xs) f (listed.toArray.setIfInBounds i true) a' w') a w) := by
  intro t
  induction t with
  | done =>
    intro hd listed s a w fuel hc _ h hs
    refine ⟨fun hd' => ?_, fun i hi => by simp [altsOf] at hi⟩
    simp only [chkD, Bool.and_eq_true, List.isEmpty_iff] at hc
    have hr : Region.ready .any l.toArray listed.toArray = [] := by
      cases hx : Region.ready .any l.toArray listed.toArray with
      | nil => rfl
      | cons y r =>
        have := mem_readyL.2 (show y ∈ Region.ready .any l.toArray listed.toArray by rw [hx]; simp)
        rw [hc.2] at this; cases this
    cases fuel with
    | zero => exact ⟨hr, hK s a w hs h⟩
    | succ f => exact ⟨fun _ => hK s a w hs h, fun i hi => by rw [hr] at hi; cases hi⟩
  | stop =>
    intro hd listed s a w fuel hc _ h hs
    simp only [chkD] at hc
    exact ⟨fun e => by subst e; simp at hc, fun i hi => by simp [altsOf] at hi⟩
  | held i t ih =>
    intro hd listed s a w fuel hc hf h hs
    refine ⟨fun _ => ?_, fun i hi => by simp [altsOf] at hi⟩
    simp only [chkD, Bool.and_eq_true] at hc
    obtain ⟨⟨⟨⟨_, hr⟩, hm⟩, hcl⟩, hc⟩ := hc
    obtain ⟨f, rfl⟩ : ∃ f, fuel = f + 1 := ⟨fuel - 1, by simp [depD] at hf; omega⟩
    have hf' : depD t ≤ f := by simp [depD] at hf; omega
    simp only [fillT] at h
    split at h
    · rename_i x hx
      simp only [vdt] at h
      obtain ⟨o, ho, hlo⟩ := lowOps_get hl i x hx
      obtain ⟨hxd, hxio, hdn, hcs⟩ := gd_cases hs hlo h
      unfold mayHeld at hm
      rw [ho, hx] at hm
      simp only [Bool.and_eq_true, List.all_eq_true, List.mem_range, Bool.or_eq_true, beq_iff_eq] at hm
      obtain ⟨hval, hfree⟩ := hm
      have fin : ∀ v s', EvSt E s' (a.put o.dst v) w → vdt E.Γ (fillT xs t) s' K → YieldsIf E.P l.toArray (fun w' => isLd x.io = true → Below w.heap.size w w') o v a → _ := fun v s' hs' h' hy =>
        anyM_first (M := mildAt xs) (waits_ancs l) (ld := isLd x.io) (by simpa using ho) (Region.noSelect_spec hsel) hQ f listed.toArray a w (closedB_ok hcl)
          (fun j oj hj hji hun => by
            have hj' : l[j]? = some oj := by simpa using hj
            have hun' : listed.getD j true = false := by simpa [List.getD, Array.getD_eq_getD_getElem?] using hun
            rcases hfree j (List.getElem?_eq_some_iff.1 hj').1 with ((h1 | h1) | h1) | h1
            · exact absurd h1 hji
            · rw [hun'] at h1; cases h1
            · exact .inl (by simpa using h1)
            · rw [hj'] at h1
              split at h1
              · rename_i oj' xj e1 e2
                cases e1
                simp only [Bool.and_eq_true, Bool.or_eq_true, Bool.not_eq_true'] at h1
                refine .inr ⟨h1.1, fun hld => ?_⟩
                show mildAt xs j = true
                unfold mildAt
                rw [e2]
                exact h1.2.resolve_left (by rw [hld]; simp)
              · cases h1)
          (mem_readyL.1 (by simpa using hr)) hy (by rw [← setB_eq]; exact (ih true _ s' _ w f hc hf' h' hs').1 rfl)
      rcases hcs with ⟨hw, s', hs', h'⟩ | ⟨hw, s', hs', h'⟩
      · obtain ⟨hn, ρ, hpin, hok⟩ := hs'
        have hlv : lowV E.P o.op = some x.io := low_val hxio hval
        obtain ⟨av, v, hK', hdn', hy⟩ := vst_ok hok hlv h'
        refine fin v _ (put_st hpin hn hok.fr hok.hp hdn (av := av) hdn') (by rw [hxd] at hK'; exact hK') (.inl ⟨hw, hy⟩)
      · obtain ⟨hn, ρ, hpin, hok⟩ := hs'
        exact fin undef _ (put_st hpin hn hok.fr hok.hp hdn (.v _)) (by rw [hxd] at h'; exact h') (.inr ⟨hw, rfl⟩)
    · simp only [vdt] at h
  | alt i t r iht ihr =>
    intro hd listed s a w fuel hc hf h hs
    simp only [chkD, Bool.and_eq_true, Bool.or_eq_true, Bool.not_eq_true', beq_iff_eq] at hc
    obtain ⟨⟨hal, hct⟩, hcr⟩ := hc
    obtain ⟨f, rfl⟩ : ∃ f, fuel = f + 1 := ⟨fuel - 1, by simp [depD] at hf; omega⟩
    have hf1 : depD t ≤ f := by simp [depD] at hf; omega
    have hf2 : depD r ≤ f + 1 := by simp [depD] at hf; omega
    simp only [fillT] at h
    split at h
    case h_2 => simp only [vdt] at h
    rename_i x0 hx0
    simp only [vdt] at h
    obtain ⟨h, hrest⟩ := h
    have alts : ∀ j ∈ altsOf (.alt i t r), wpOp E.P l.toArray Q j (fun a' w' => (mildAt xs j = true → Below w.heap.size w w') ∧ wpAnyM E.P l.toArray Q (mildAt xs) f (listed.toArray.setIfInBounds j true) a' w') a w := by
      intro j hj
      simp only [altsOf, List.mem_cons] at hj
      by_cases hji : j = i
      · subst hji
        have hx := hx0
        · obtain ⟨o, ho, hlo⟩ := lowOps_get hl j x0 hx
          obtain ⟨hxd, hxio, hdn, hcs⟩ := gd_cases hs hlo h
          unfold wpOp
          have ho' : l.toArray[j]? = some o := by simpa using ho
          simp only [ho']
          rcases hcs with ⟨hw, s', hs', h'⟩ | ⟨hw, s', hs', h'⟩
          · rw [if_pos hw]
            obtain ⟨hn, ρ, hpin, hok⟩ := hs'
            refine .inl (step_ok hE hn hok hxio h' fun av v s2 w' ρ' hsub hK' hd' hfr hhp hn' hbl => ⟨fun hm => ?_, ?_⟩)
            · unfold mildAt at hm; rw [hx] at hm; exact hbl rfl hm
            · rw [hxd] at hK'
              rw [← setB_eq]
              exact (iht true _ _ _ w' f hct hf1 hK' (put_st (pin_sub hE hpin hsub) hn' hfr hhp hdn hd')).1 rfl
          · rw [if_neg (by rw [hw]; simp)]
            obtain ⟨hn, ρ, hpin, hok⟩ := hs'
            rw [hxd] at h'
            refine ⟨fun _ => Below.refl _ _, ?_⟩
            rw [← setB_eq]
            exact (iht true _ _ _ w f hct hf1 h' (put_st hpin hn hok.fr hok.hp hdn (.v _))).1 rfl
      · obtain ⟨f', e, h3⟩ := (ihr false listed s a w (f + 1) hcr hf2 hrest hs).2 j (hj.resolve_left hji)
        obtain rfl : f' = f := by omega
        exact h3
    refine ⟨fun hd' => ?_, fun j hj => ⟨f, rfl, alts j hj⟩⟩
    have hal' := hal.resolve_left (by rw [hd']; simp)
    have hrd : ∀ j, j ∈ Region.ready .any l.toArray listed.toArray → j ∈ altsOf (.alt i t r) := fun j hj => by rw [hal']; exact mem_readyL.2 hj
    refine ⟨fun h0 => ?_, fun j hj => alts j (hrd j hj)⟩
    exfalso
    have : i ∈ Region.ready .any l.toArray listed.toArray := mem_readyL.1 (by rw [← hal']; simp [altsOf])
    rw [h0] at this; cases this
end
end Go.Proofs.YthghcialeghgoaaDoorE

/-! Code: what is to be shown of it is enough; loops. -/
namespace Go.Proofs.YthghcialeghgoaaDoorE
open Go Go.RowKit
set_option linter.unusedSimpArgs false
set_option linter.unusedVariables false

section
variable {E : Env}

theorem vops_ok (hE : E.good) (all : List Oper) {Q : Exit → Act → World → Prop} : ∀ (l : List Oper) (xs : List LO) (s : S) (K : S → Prop), lowOps E.P E.τ E.n all l = some xs → vops E.Γ xs s K →
    (∀ s a w, EvSt E s a w → K s → Q .normal a w) → ∀ a w, EvSt E s a w → wpList E.P all.toArray Q l a w
  | [], xs, s, K, hl, h, hK, a, w, hs => by
    simp [lowOps] at hl
    subst hl
    exact hK s a w hs h
  | o :: r, xs, s, K, hl, h, hK, a, w, hs => by
    simp only [lowOps] at hl
    split at hl
    · rename_i x xs' hx hxs
      cases hl
      simp only [vops] at h
      obtain ⟨hxd, hxio, hdn, hcs⟩ := gd_cases hs hx h
      unfold wpList
      rcases hcs with ⟨hw, s', hs', h'⟩ | ⟨hw, s', hs', h'⟩
      · rw [if_pos hw]
        obtain ⟨hn, ρ, hpin, hok⟩ := hs'
        refine .inl (step_ok hE hn hok hxio h' fun av v s2 w' ρ' hsub hK' hd' hfr hhp hn' _ => ?_)
        rw [hxd] at hK'
        exact vops_ok hE all r xs' _ K hxs hK' hK _ _ (put_st (pin_sub hE hpin hsub) hn' hfr hhp hdn hd')
      · rw [if_neg (by rw [hw]; simp)]
        obtain ⟨hn, ρ, hpin, hok⟩ := hs'
        rw [hxd] at h'
        exact vops_ok hE all r xs' _ K hxs h' hK _ _ (put_st hpin hn hok.fr hok.hp hdn (.v undef))
    · cases hl

theorem wp_get {P : Program} {o : Oper} {a : Act} {w : World} {next : Act → World → Prop} (h : o.wp P a w next (fun _ _ _ => False)) : ∃ a' w', next a' w' := by
  unfold Oper.wp at h
  generalize (execOp a.eval o).run P w = r at h
  cases r with
  | ok n w' =>
    cases n <;> simp only [Oper.upon] at h <;> try (exact h.elim)
    · exact ⟨_, _, h⟩
    · exact ⟨_, _, h⟩
    · obtain ⟨e, w2, fr, hR, _⟩ := h []
      cases e with
      | returned v => exact ⟨_, _, hR⟩
      | panicked c => exact hR.elim
      | outgrown => obtain ⟨_, _, hq⟩ := hR; exact hq.elim
    · exact ⟨_, _, h⟩
    · obtain ⟨v, w2, hR, _⟩ := h default []
      exact ⟨_, _, hR⟩
  | halt x w' => cases x <;> simp only [Oper.upon] at h

/-- What is so behind all of the operations in their own order is so of some state. -/
theorem vops_get (hE : E.good) (all : List Oper) : ∀ (l : List Oper) (xs : List LO) (s : S) (K : S → Prop), lowOps E.P E.τ E.n all l = some xs → vops E.Γ xs s K → ∀ a w, EvSt E s a w → ∃ sl, K sl
  | [], xs, s, K, hl, h, a, w, hs => by
    simp [lowOps] at hl
    subst hl
    exact ⟨s, h⟩
  | o :: r, xs, s, K, hl, h, a, w, hs => by
    simp only [lowOps] at hl
    split at hl
    · rename_i x xs' hx hxs
      cases hl
      simp only [vops] at h
      obtain ⟨hxd, hxio, hdn, hcs⟩ := gd_cases hs hx h
      rcases hcs with ⟨hw, s', hs', h'⟩ | ⟨hw, s', hs', h'⟩
      · obtain ⟨hn, ρ, hpin, hok⟩ := hs'
        obtain ⟨a', w', s2, hs2, hK2⟩ := wp_get (step_ok hE hn hok hxio h' (next := fun a' w' => ∃ s2, EvSt E s2 a' w' ∧ vops E.Γ xs' s2 K) (Q := fun _ _ _ => False) fun av v s2 w' ρ' hsub hK' hd' hfr hhp hn' _ =>
          ⟨_, put_st (pin_sub hE hpin hsub) hn' hfr hhp hdn hd', by rw [hxd] at hK'; exact hK'⟩)
        exact vops_get hE all r xs' s2 K hxs hK2 a' w' hs2
      · obtain ⟨hn, ρ, hpin, hok⟩ := hs'
        rw [hxd] at h'
        exact vops_get hE all r xs' _ K hxs h' _ _ (put_st hpin hn hok.fr hok.hp hdn (.v undef))
    · cases hl

theorem low_inv {P : Program} {τ : List (Nat × Ty)} {n : Nat} {code : Code} {ic : IC} (h : lowC P τ n code = some ic) : match ic with
    | .ops xs => ∃ id l, code = .region id ⟨l⟩ false ∧ lowOps P τ n l l = some xs
    | .draw xs t => ∃ id l, code = .region id ⟨l⟩ true ∧ lowD P τ n l = some (.draw xs t)
    | .skip => code = .skip
    | .seq x y => ∃ a b, code = .seq a b ∧ lowC P τ n a = some x ∧ lowC P τ n b = some y
    | .cond c x y => ∃ a b, code = .cond c a b ∧ lowC P τ n a = some x ∧ lowC P τ n b = some y
    | .block id x => ∃ a, code = .block id a ∧ lowC P τ n a = some x
    | .loop x => ∃ a, code = .loop a ∧ lowC P τ n a = some x
    | .exit id => code = .exit id
    | .ret => code = .ret
    | .hold _ => False := by
  unfold lowC at h
  split at h
  · cases h; rfl
  · split at h
    · rename_i hx; cases h; exact ⟨_, _, rfl, hx⟩
    · cases h
  · have h' := h
    unfold lowD at h
    split at h
    · cases h
    · dsimp only at h
      split at h
      · cases h; exact ⟨_, _, rfl, h'⟩
      · cases h
  · split at h
    · rename_i h1 h2; cases h; exact ⟨_, _, rfl, h1, h2⟩
    · cases h
  · split at h
    · rename_i h1 h2; cases h; exact ⟨_, _, rfl, h1, h2⟩
    · cases h
  · split at h
    · rename_i h1; cases h; exact ⟨_, rfl, h1⟩
    · cases h
  · split at h
    · rename_i h1; cases h; exact ⟨_, rfl, h1⟩
    · cases h
  · cases h; rfl
  · cases h; rfl
  · cases h

/-- Every frame and world that is of the one state is of the other. -/
def Weak (E : Env) (s s' : S) : Prop := ∀ a w, EvSt E s a w → EvSt E s' a w

theorem SubS.weak {s s' : S} (h : SubS E.pins s s') : Weak E s s' := fun a w hs => by
  obtain ⟨hn, ρ, hpin, hok⟩ := hs
  obtain ⟨h1, ρ', h2, h3⟩ := h.st hok
  exact ⟨h1.trans hn, ρ', fun i hi => (h2 i hi).trans (hpin i hi), h3⟩

theorem conc_normal {Q : Ex → S → Prop} {s : S} {a : Act} {w : World} (hs : EvSt E s a w) (h : Q .normal s) : conc E Q .normal a w := ⟨s, hs, h⟩

theorem vc_ok (hE : E.good) : ∀ (ic : IC) (s : S) (Q : Ex → S → Prop), vc E ic s Q → OkI E ic s Q := by
  intro ic
  induction ic with
  | ops l =>
    intro s Q h code hl a w hs
    obtain ⟨id, l', rfl, hlo⟩ := low_inv hl
    exact wp_region_lit (vops_ok hE l' l' _ s (Q .normal) hlo h (fun s a w hs hk => ⟨s, hs, hk⟩) a w hs)
  | draw xs t =>
    intro s Q h code hl a w hs
    obtain ⟨id, l, rfl, hlo⟩ := low_inv hl
    unfold lowD at hlo
    split at hlo
    · cases hlo
    · rename_i xs' hxs
      dsimp only at hlo
      split at hlo
      · rename_i hc
        obtain ⟨hsel, hchk, hdep, hmix⟩ := hc
        cases hlo
        generalize buildD l xs (ancs [] l) (l.length + 1) (List.replicate l.length false) = td at hchk hdep h
        have base : ∀ (K : S → Prop), (∀ s a w, EvSt E s a w → K s → conc E Q .normal a w) → vdt E.Γ (fillT xs td) s K → (Code.region id l.toArray true).wp E.P (conc E Q) a w := fun K hK hv => by
          refine wp_region_any hmix (wpAny_of_M (M := mildAt xs) _ _ _ _ ?_)
          have hsz : l.toArray.size = l.length := by simp
          rw [hsz]
          have := (vdt_ok hE hxs hsel (Q := conc E Q) (fun c a w h => h) hK td true _ s a { w with drawn := w.drawn + 1 } l.length hchk hdep hv ?_).1 rfl
          · simpa using this
          · obtain ⟨hn, ρ, hpin, hok⟩ := hs
            exact ⟨hn, ρ, hpin, hok.fr, hok.hp.below (Below.drew (Below.refl _ _))⟩
        simp only [vc, drawQ] at h
        split at h
        · exact base _ (fun s a w hs hk => ⟨s, hs, hk⟩) h
        · obtain ⟨sl, h1, h2⟩ := vops_get hE l l xs s _ hxs h a w hs
          exact base _ (fun s a w hs hk => ⟨tidy sl, hk.weak a w hs, h1⟩) h2
      · cases hlo
  | skip =>
    intro s Q h code hl a w hs
    have e : code = .skip := low_inv hl
    subst e
    exact wp_skip ⟨s, hs, h⟩
  | seq x y ihx ihy =>
    intro s Q h code hl a w hs
    obtain ⟨c1, c2, rfl, h1, h2⟩ := low_inv hl
    refine wp_seq (wp_mono (ihx s _ h c1 h1 a w hs) ?_)
    intro e a' w' hq
    cases e with
    | normal => obtain ⟨s', hs', hk⟩ := hq; exact ihy s' Q hk c2 h2 a' w' hs'
    | exit i => exact hq
    | ret => exact hq
    | _ => exact hq.elim
  | cond c x y ihx ihy =>
    intro s Q h code hl a w hs
    obtain ⟨c1, c2, rfl, h1, h2⟩ := low_inv hl
    simp only [vc] at h
    split at h
    · rename_i t ht
      obtain ⟨hn, ρ, hpin, hok⟩ := hs
      refine wp_cond_split (ev_v hok ht) (fun e => ?_) (fun e => ?_)
      · exact ihx s Q (h.1 e) c1 h1 a w ⟨hn, ρ, hpin, hok⟩
      · exact ihy s Q (h.2 e) c2 h2 a w ⟨hn, ρ, hpin, hok⟩
    · exact h.elim
  | block id x ihx =>
    intro s Q h code hl a w hs
    obtain ⟨c1, rfl, h1⟩ := low_inv hl
    refine wp_block (wp_mono (ihx s _ h c1 h1 a w hs) ?_)
    intro e a' w' hq
    cases e with
    | normal => exact hq
    | exit i =>
      obtain ⟨s', hs', hk⟩ := hq
      simp only [Exit.inBlock]
      split
      · rename_i e; subst e; simp at hk; exact ⟨s', hs', hk⟩
      · rename_i e; simp [e] at hk; exact ⟨s', hs', hk⟩
    | ret => exact hq
    | _ => exact hq.elim
  | loop x _ => intro s Q h; exact h
  | hold x _ => intro s Q h code hl; exact h code hl
  | exit id =>
    intro s Q h code hl a w hs
    have e : code = .exit id := low_inv hl
    subst e
    exact wp_exit ⟨s, hs, h⟩
  | ret =>
    intro s Q h code hl a w hs
    have e : code = .ret := low_inv hl
    subst e
    exact wp_ret ⟨s, hs, h⟩

/-- A loop whose rounds go down. -/
theorem wp_loop_rel {P : Program} {c : Code} {Q : Exit → Act → World → Prop} (I : Nat → Act → World → Prop) (round : ∀ n a w, I n a w → c.wp P (Exit.then (fun a' w' => ∃ m, m < n ∧ I m a' w') Q) a w) :
    ∀ n a w, I n a w → (Code.loop c).wp P Q a w := by
  have key : ∀ n a w, I n a w → ∀ (b : Frame) (k : List Item) (cs : List Frame), ∃ e a' w', Q e a' w' ∧ Arrives P (lone (b.at a (.code c :: .inLoop c :: k)) cs w) b k cs e a' w' := by
    intro n
    induction n using Nat.strongRecOn with
    | _ n ih =>
      intro a w hI b k cs
      obtain ⟨e, a₁, w₁, hq, harr⟩ := round n a w hI b (.inLoop c :: k) cs
      cases e with
      | normal =>
        obtain ⟨m, hlt, hI₁⟩ := hq
        obtain ⟨e₂, a₂, w₂, hq₂, harr₂⟩ := ih m hlt a₁ w₁ hI₁ b k cs
        exact ⟨e₂, a₂, w₂, hq₂, .of_steps (Steps.trans harr (.one step_inLoop)) harr₂⟩
      | exit id => exact ⟨_, a₁, w₁, hq, .pass (x := .inLoop c) rfl (fun _ _ => .inl (by simp)) harr⟩
      | goto l => exact ⟨_, a₁, w₁, hq, .pass (x := .inLoop c) rfl (fun _ _ => .inl (by simp)) harr⟩
      | ret => exact ⟨_, a₁, w₁, hq, .pass (x := .inLoop c) rfl (fun _ _ => .inl (by simp)) harr⟩
      | panic ch => exact ⟨_, a₁, w₁, hq, .pass (x := .inLoop c) rfl (fun _ _ => .inl (by simp)) harr⟩
      | outgrown => exact ⟨_, a₁, w₁, hq, .pass (x := .inLoop c) rfl (fun _ _ => .inl (by simp)) harr⟩
  intro n a w hI b k cs
  obtain ⟨e, a', w', hq, harr⟩ := key n a w hI b k cs
  exact ⟨e, a', w', hq, .of_steps (.one step_loop) harr⟩

theorem OkI.weak {ic : IC} {s s' : S} {Q : Ex → S → Prop} (h : Weak E s s') (k : OkI E ic s' Q) : OkI E ic s Q := fun code hl a w hs => k code hl a w (h a w hs)
theorem OkI.hold {ic : IC} {s : S} {Q : Ex → S → Prop} (k : OkI E ic s Q) : OkI E (.hold ic) s Q := fun code hl a w hs => k code hl a w hs

theorem loop_ok (hE : E.good) {ic : IC} {s : S} {Q : Ex → S → Prop} {ι : Type} (Inv : ι → S) (I : ι → Prop) (μ : ι → Nat) (h0 : ∃ i, I i ∧ Weak E s (Inv i))
    (h : ∀ i, I i → vc E ic (Inv i) fun e s' => match e with
      | .normal => ∃ j, (I j ∧ μ j < μ i) ∧ Weak E s' (Inv j)
      | .exit k => Q (.exit k) s'
      | .ret => Q .ret s') : OkI E (.loop ic) s Q := by
  intro code hl a w hs
  obtain ⟨c1, rfl, h1⟩ := low_inv hl
  obtain ⟨i, hi, hw⟩ := h0
  refine wp_loop_rel (fun n a w => ∃ i, I i ∧ μ i = n ∧ EvSt E (Inv i) a w) ?_ (μ i) a w ⟨i, hi, rfl, hw a w hs⟩
  rintro n a w ⟨i, hi, rfl, hst⟩
  refine wp_mono (vc_ok hE ic (Inv i) _ (h i hi) c1 h1 a w hst) ?_
  intro e a' w' hq
  cases e with
  | normal =>
    obtain ⟨s', hs', j, ⟨hj, hlt⟩, hwk⟩ := hq
    exact ⟨μ j, hlt, j, hj, rfl, hwk a' w' hs'⟩
  | exit i => exact hq
  | ret => exact hq
  | _ => exact hq.elim

/-- A loop of at most so many rounds. -/
def loopL (E : Env) (ic : IC) : List Unit → S → (Ex → S → Prop) → Prop
  | [], _, _ => False
  | _ :: r, s, Q => vc E ic s fun e s' => match e with
    | .normal => loopL E ic r s' Q
    | .exit k => Q (.exit k) s'
    | .ret => Q .ret s'

theorem loop_unroll (hE : E.good) {ic : IC} {s : S} {Q : Ex → S → Prop} (l : List Unit) (h : loopL E ic l s Q) : OkI E (.loop ic) s Q := by
  intro code hl a w hs
  obtain ⟨c1, rfl, h1⟩ := low_inv hl
  refine wp_loop_rel (fun n a w => ∃ (l : List Unit) (s : S), l.length = n ∧ EvSt E s a w ∧ loopL E ic l s Q) ?_ l.length a w ⟨l, s, rfl, hs, h⟩
  rintro n a w ⟨l, s, rfl, hst, h⟩
  cases l with
  | nil => exact h.elim
  | cons u r =>
    refine wp_mono (vc_ok hE ic s _ h c1 h1 a w hst) ?_
    intro e a' w' hq
    cases e with
    | normal =>
      obtain ⟨s', hs', hk⟩ := hq
      exact ⟨r.length, by simp, r, s', rfl, hs', hk⟩
    | exit i => exact hq
    | ret => exact hq
    | _ => exact hq.elim
end
end Go.Proofs.YthghcialeghgoaaDoorE

/-! Functions: a specification is proved by the body's code. -/
namespace Go.Proofs.YthghcialeghgoaaDoorE
open Go Go.RowKit
set_option linter.unusedSimpArgs false
set_option linter.unusedVariables false

inductive RV where
  | tmp (t : Nat)
  | cell (t n : Nat) (ag : Bool)

def lowR (P : Program) : List ResultVar → Option (List RV)
  | [] => some []
  | .tmp t :: r => match lowR P r with
    | some l => some (.tmp t :: l)
    | none => none
  | .cell a t :: r => match cellsAt P t, lowR P r with
    | some (n, ag), some l => some (.cell a n ag :: l)
    | _, _ => none

def retL : List RV → S → (List AVal → Prop) → Prop
  | [], s, K => K []
  | .tmp t :: r, s, K => retL r s fun l => K (s.ev (.tmp t) :: l)
  | .cell t n ag :: r, s, K => loadP s.L n ag (s.ev (.tmp t)) fun av => retL r s fun l => K (av :: l)
def retK (rv : List RV) (s : S) (K : AVal → Prop) : Prop := retL rv s fun l => match l with
  | [x] => K x
  | l => K (.tup l)

def uniT (θ : Th) : List AVal → List AVal → (Th → Prop) → Prop
  | [], [], K => K θ
  | a :: r, a' :: r', K => uni θ a a' fun θ => uniT θ r r' K
  | _, _, _ => False
def uniR (θ : Th) (av av' : AVal) (K : Th → Prop) : Prop :=
  match av' with
  | .tup cs' => match av with
    | .tup cs => uniT θ cs cs' K
    | _ => False
  | av' => uni θ av av' K
/-- The result and the heap tell at least this. -/
def ResU (p : Nat) (s : S) (r r0 : AVal) (L0 : Hp) (nx0 : Nat) : Prop := uniR (idT p) r r0 fun θ => uniH θ s.L (boxesOf L0) fun θ => uniH θ s.L (rowsOf L0) fun θ => nodupB (tgts θ) = true ∧ keysLt nx0 θ = true
def FinK (p : Nat) (s : S) (r : AVal) (K : AVal → Hp → Nat → Prop) : Prop := ∃ r0 L0 nx0, ResU p s r r0 L0 nx0 ∧ K r0 L0 nx0
def retQ (p : Nat) (rv : List RV) (K : AVal → Hp → Nat → Prop) : Ex → S → Prop := fun e s => match e with
  | .normal => retK rv s fun r => FinK p s r K
  | .ret => retK rv s fun r => FinK p s r K
  | .exit _ => False

def params (k : Nat) : List AVal → List (Nat × AVal)
  | [] => []
  | x :: r => (k, x) :: params (k + 1) r

section
variable {W : World} {C : CR} {ρ : Nm} {P : Program}

theorem uniT_ok : ∀ {cs cs' : List AVal} {θ : Th} {K : Th → Prop}, uniT θ cs cs' K → ∃ θ', ExtT θ θ' ∧ K θ' ∧ ∀ vs, DenL W C ρ cs vs → DenL W C (rhoT ρ θ') cs' vs
  | [], [], θ, K, h => ⟨θ, .refl _, h, fun vs hd => by have := hd.nil_inv; subst this; exact .nil⟩
  | a :: r, a' :: r', θ, K, h => by
    obtain ⟨θ1, h1, h2, h3⟩ := uni_ok (W := W) (C := C) (ρ := ρ) h
    obtain ⟨θ2, h4, h5, h6⟩ := uniT_ok h2
    refine ⟨θ2, h1.trans h4, h5, fun vs hd => ?_⟩
    obtain ⟨v, vs', rfl, hd1, hd2⟩ := hd.cons_inv
    exact DenL.cons ((h3 v hd1).mono h4.sub) (h6 vs' hd2)
  | [], _ :: _, θ, K, h => h.elim
  | _ :: _, [], θ, K, h => h.elim
theorem uniR_ok {θ : Th} {av av' : AVal} {K : Th → Prop} (h : uniR θ av av' K) : ∃ θ', ExtT θ θ' ∧ K θ' ∧ ∀ v, Den W C ρ av v → Den W C (rhoT ρ θ') av' v := by
  unfold uniR at h
  split at h
  · split at h
    · obtain ⟨θ', h1, h2, h3⟩ := uniT_ok (W := W) (C := C) (ρ := ρ) h
      refine ⟨θ', h1, h2, fun v hd => ?_⟩
      cases hd with
      | tup vs h4 h5 => have := h3 vs ⟨h4, h5⟩; exact .tup vs this.1 this.2
    · exact h.elim
  · exact uni_ok h

theorem ResU.ok {p : Nat} {s : S} {r r0 : AVal} {L0 : Hp} {nx0 nx : Nat} {w : World} {v : Value} (hp : HpOk W C ρ nx w s.L) (hd : Den W C ρ r v) (h : ResU p s r r0 L0 nx0) :
    ∃ ρ', (∀ i, i < p → ρ' i = ρ i) ∧ Den W C ρ' r0 v ∧ HpOk W C ρ' nx0 w L0 := by
  obtain ⟨θ1, h1, h2, h3⟩ := uniR_ok (W := W) (C := C) (ρ := ρ) h
  obtain ⟨θ2', h4', h2', h7a⟩ := uniH_ok hp h2
  obtain ⟨θ2, h4b, ⟨h5, h6⟩, h7b⟩ := uniH_ok hp h2'
  have h4 := h4'.trans h4b
  have h7 : ∀ m' o', lk L0 m' = some o' → ObjOk W C (rhoT ρ θ2) w m' o' ∧ ((∃ m x o, lk θ2 m' = some (some (m, x)) ∧ lk s.L m = some o) ∨ lk θ2 m' = some none) := fun m' o' hl => by
    rcases lk_split hl with hl | hl
    · obtain ⟨h8, h9⟩ := h7a m' o' hl
      exact ⟨h8.mono h4b.sub, h9.imp (fun ⟨m, x, o, h10, h11⟩ => ⟨m, x, o, h4b _ _ h10, h11⟩) (fun h => h4b _ _ h)⟩
    · exact h7b m' o' hl
  refine ⟨rhoT ρ θ2, fun i hi => by simp [rhoT, h4 _ _ (h1 _ _ (idT_get p i hi)), shf_zero'], (h3 v hd).mono h4.sub, ?_⟩
  have key : ∀ m o, lk L0 m = some o → ∀ b x, rhoT ρ θ2 m = some (some (b, x)) → ∃ m1 p1 o1 x1, lk θ2 m = some (some (m1, p1)) ∧ lk s.L m1 = some o1 ∧ ρ m1 = some (some (b, x1)) := fun m o hm b x hx => by
    rcases (h7 m o hm).2 with ⟨m1, p1, o1, h8, h9⟩ | h8
    · obtain ⟨x1, h⟩ := rho_blk h8 hx
      exact ⟨m1, p1, o1, x1, h8, h9, h⟩
    · simp [rhoT, h8] at hx
  refine ⟨fun m o hm => (h7 m o hm).1, fun m o m' o' b x b' x' hm hm' hne hx hx' => ?_, fun m o b x hm hx => ?_, fun m hm => ?_, hp.os, hp.tape, hp.output, hp.size, hp.old⟩
  · obtain ⟨m1, p1, o1, x1, h8, h9, h10⟩ := key m o hm b x hx
    obtain ⟨m2, p2, o2, x2, h11, h12, h13⟩ := key m' o' hm' b' x' hx'
    refine hp.apart m1 o1 m2 o2 b x1 b' x2 h9 h12 (fun e => hne ?_) h10 h13
    subst e
    exact tgts_inj h5 h8 h11
  · obtain ⟨m1, p1, o1, x1, h8, h9, h10⟩ := key m o hm b x hx
    exact hp.own m1 o1 b x1 h9 h10
  · simp [rhoT, keysLt_none h6 hm]

def resOne (tmps : Array Value) (x : ResultVar) : Sem Value := match x with
  | .tmp t => pure (tmps.getD t undef)
  | .cell a t => do loadVar t (← asAddr (tmps.getD a undef))

theorem retL_ok {s : S} {a : Act} {w : World} (hs : StOk W C ρ s a w) : ∀ (rs : List ResultVar) (rv : List RV) (K : List AVal → Prop), lowR P rs = some rv → retL rv s K →
    ∃ l vs, K l ∧ DenL W C ρ l vs ∧ (rs.mapM (resOne a.tmps)).run P w = .ok vs w
  | [], rv, K, hl, h => by
    simp [lowR] at hl; subst hl
    exact ⟨[], [], h, .nil, by simp⟩
  | .tmp t :: r, rv, K, hl, h => by
    simp only [lowR] at hl
    split at hl
    · rename_i l hl2
      cases hl
      obtain ⟨l, vs, hK, hd, hr⟩ := retL_ok hs r _ _ hl2 h
      refine ⟨_, _, hK, DenL.cons (hs.fr.ev (.tmp t)) hd, ?_⟩
      simp only [List.mapM_cons, Sem.run_bind, resOne, Sem.run_pure, Result.andThen_ok, hr]
      rfl
    · cases hl
  | .cell p t :: r, rv, K, hl, h => by
    simp only [lowR] at hl
    split at hl
    · rename_i n ag l hc hl2
      cases hl
      simp only [retL] at h
      obtain ⟨ad, cs, hv, h1, h2⟩ := loadP_ok hs (hs.fr.ev (.tmp p)) h
      obtain ⟨av, v, hk, hd1, hr1⟩ := load_cells hc h1 h2
      obtain ⟨l, vs, hK, hd, hr⟩ := retL_ok hs r _ _ hl2 hk
      refine ⟨_, _, hK, DenL.cons hd1 hd, ?_⟩
      have hv' : a.tmps.getD p undef = .pointer (some ad) := hv
      simp only [List.mapM_cons, Sem.run_bind, resOne, hv', asAddr, Sem.run_pure, Result.andThen_ok, hr1 w (Below.refl _ _), hr]
    · cases hl

theorem results_ok {s : S} {a : Act} {w : World} (hs : StOk W C ρ s a w) {fn : Func} {rv : List RV} {K : AVal → Prop} (hl : lowR P fn.results.toList = some rv) (h : retK rv s K) :
    ∃ r v, K r ∧ Den W C ρ r v ∧ (results fn a.tmps).run P w = .ok v w := by
  obtain ⟨l, vs, hK, hd, hr⟩ := retL_ok hs _ _ _ hl h
  have hrun : ∀ v, (if h : (⟨vs⟩ : Array Value).size = 1 then (⟨vs⟩ : Array Value)[0] else .tuple ⟨vs⟩) = v → (results fn a.tmps).run P w = .ok v w := by
    intro v hv
    have e : results fn a.tmps = (do let vs ← fn.results.mapM (resOne a.tmps); pure (if h : vs.size = 1 then vs[0] else .tuple vs)) := rfl
    rw [e, Array.mapM_eq_mapM_toList]
    simp only [Sem.run_bind, Sem.run_map, hr, Result.andThen_ok, Sem.run_pure]
    rw [← hv]
  match l, hK, hd with
  | [x], hK, hd =>
    obtain ⟨v, vs', rfl, h1, h2⟩ := hd.cons_inv
    have := h2.nil_inv
    subst this
    exact ⟨x, v, hK, h1, hrun v rfl⟩
  | [], hK, hd =>
    have := hd.nil_inv
    subst this
    exact ⟨.tup [], _, hK, .tup [] rfl (fun k av u h => by simp at h), hrun _ rfl⟩
  | x :: y :: r, hK, hd =>
    refine ⟨.tup (x :: y :: r), _, hK, .tup vs hd.1 hd.2, hrun (.tuple ⟨vs⟩) ?_⟩
    have := hd.1
    rw [dif_neg (by simp [this])]

theorem lk_params : ∀ (l : List AVal) (k d : Nat), lk (params k l) d = if k ≤ d then l[d - k]? else none
  | [], k, d => by simp [params, lk]
  | x :: r, k, d => by
    simp only [params, lk]
    by_cases h : k = d
    · subst h; simp
    · rw [if_neg h, lk_params r]
      by_cases hk : k ≤ d
      · rw [if_pos hk, if_pos (by omega)]
        have : d - k = (d - (k + 1)) + 1 := by omega
        rw [this]; simp
      · rw [if_neg hk, if_neg (by omega)]

def allV (P : Program) : List (Nat × Spec) → Prop
  | [] => True
  | (f, sp) :: r => (callable P f = true ∧ Valid P f sp) ∧ allV P r
theorem good_of {P : Program} : ∀ {l : List (Nat × Spec)}, allV P l → ∀ f sp, lk l f = some sp → callable P f = true ∧ Valid P f sp
  | [], _, f, sp, h => by simp [lk] at h
  | (g, s) :: r, hv, f, sp, h => by
    simp only [lk] at h
    split at h
    · rename_i e; subst e; cases h; exact hv.1
    · exact good_of hv.2 f sp h

/-- A function does what is said of it, if its code does. -/
theorem valid_of {f : Nat} {fn : Func} {code : Code} {ic : IC} {rv : List RV} {τ : List (Nat × Ty)} {Γ : Nat → Option Spec} {sp : Spec} (hf : P.funcs[f]? = some fn) (hb : fn.body = some code)
    (hl : lowC P τ fn.ntmps code = some (erase ic)) (hr : lowR P fn.results.toList = some rv) (hΓ : ∀ f sp, Γ f = some sp → callable P f = true ∧ Valid P f sp)
(h : ∀ (E : Env) (args : List AVal) (objs : List AObj) (K : AVal → Hp → Nat → Prop), sp.f args objs K → E.good → E.Γ = Γ → E.pins = objs.length →
      args.length ≤ fn.ntmps ∧ vc E ic ⟨params 0 args, num 0 objs, objs.length, fn.ntmps⟩ (retQ objs.length rv K)) : Valid P f sp := by
  intro W C ρ args vals objs K hd hp hK
  have hE : (⟨P, τ, Γ, fn.ntmps, W, C, objs.length, ρ⟩ : Env).good := ⟨fun i hi => by
    have ho : lk (num 0 objs) i = some objs[i] := by rw [lk_num]; simp
    have := hp.obj i _ ho
    generalize objs[i] = o at this
    cases o with
    | box cs => obtain ⟨b, T, vs, h1, _⟩ := this; exact ⟨_, h1⟩
    | row t xs =>
      rcases this with ⟨h1, _⟩ | ⟨b, o, c, T, vs, h1, _⟩
      · exact ⟨_, h1⟩
      · exact ⟨_, h1⟩
    | set kk mp es => obtain ⟨b, l, c, h1, _⟩ := this; exact ⟨_, h1⟩, hΓ⟩
  obtain ⟨hlen, hvc⟩ := h _ args objs K hK hE rfl rfl
  refine calls_of_wp hf hb ?_
  refine wp_mono (vc_ok hE ic _ _ hvc code hl _ W ⟨rfl, ρ, fun _ _ => rfl, ⟨⟨fun d av hl => ?_, ?_, rfl⟩, hp⟩⟩) ?_
  · rw [lk_params] at hl
    simp only [Nat.zero_le, if_true, Nat.sub_zero] at hl
    obtain ⟨u, h1, h2⟩ := hd.at hl
    refine ⟨u, ?_, h2⟩
    have hlt := (List.getElem?_eq_some_iff.1 h1).1
    show ((⟨vals⟩ : Array Value) ++ _)[d]? = some u
    rw [Array.getElem?_append_left (by simpa using hlt)]
    simpa using h1
  · have := hd.1
    simp
    omega
  · intro e a w' hq
    have fin : ∀ s, EvSt ⟨P, τ, Γ, fn.ntmps, W, C, objs.length, ρ⟩ s a w' → (retK rv s fun r => FinK objs.length s r K) → a.defers = [] ∧ ∃ v, (results fn a.tmps).run P w' = .ok v w' ∧
        ∃ r v' L' nx' ρ', Ending.returned v = .returned v' ∧ Den W C ρ' r v' ∧ HpOk W C ρ' nx' w' L' ∧ (∀ i, i < objs.length → ρ' i = ρ i) ∧ K r L' nx' := by
      rintro s ⟨hn, ρ', hpin, hs⟩ hk
      obtain ⟨r, v, ⟨r0, L0, nx0, hu, hK'⟩, hd', hrun⟩ := results_ok hs hr hk
      obtain ⟨ρ2, h0, h1, h2⟩ := hu.ok hs.hp hd'
      exact ⟨hs.fr.defers, v, hrun, r0, v, L0, nx0, ρ2, rfl, h1, h2, fun i hi => (h0 i hi).trans (hpin i hi), hK'⟩
    cases e with
    | normal => obtain ⟨s, hs, hk⟩ := hq; exact fin s hs hk
    | ret => obtain ⟨s, hs, hk⟩ := hq; exact fin s hs hk
    | exit i => obtain ⟨s, hs, hk⟩ := hq; exact hk.elim
    | _ => exact hq.elim
end
end Go.Proofs.YthghcialeghgoaaDoorE

/-! The walk's rewriting rules. -/
namespace Go.Proofs.YthghcialeghgoaaDoorE
open Go Go.RowKit
/-! What is to be shown of code, under names that the kernel does not look into. -/
inductive VopsI (Γ : Nat → Option Spec) (l : List LO) (s : S) (K : S → Prop) : Prop
  | mk (h : vops Γ l s K)
inductive VdtI (Γ : Nat → Option Spec) (t : DT) (s : S) (K : S → Prop) : Prop
  | mk (h : vdt Γ t s K)
inductive VcI (E : Env) (c : IC) (s : S) (Q : Ex → S → Prop) : Prop
  | mk (h : vc E c s Q)
inductive LoopI (E : Env) (c : IC) (l : List Unit) (s : S) (Q : Ex → S → Prop) : Prop
  | mk (h : loopL E c l s Q)
theorem vopsI : @VopsI = @vops := by funext Γ l s K; exact propext ⟨fun h => h.1, .mk⟩
theorem vdtI : @VdtI = @vdt := by funext Γ l s K; exact propext ⟨fun h => h.1, .mk⟩
theorem vcI : @VcI = @vc := by funext Γ l s K; exact propext ⟨fun h => h.1, .mk⟩
theorem loopLI : @LoopI = @loopL := by funext E c l s K; exact propext ⟨fun h => h.1, .mk⟩
theorem vops_nil {Γ : Nat → Option Spec} {s : S} {K : S → Prop} : VopsI Γ [] s K = K s := by rw [vopsI]; rfl
theorem vops_cons {Γ : Nat → Option Spec} {o : LO} {r : List LO} {s : S} {K : S → Prop} : VopsI Γ (o :: r) s K = gdK s o.g (fun s => stepM false Γ s o.io fun av s' => VopsI Γ r (s'.put o.d av) K) (fun s => VopsI Γ r (s.put o.d (.v (.tuple #[]))) K) := by rw [vopsI]; rfl
theorem vdt_done {Γ : Nat → Option Spec} {s : S} {K : S → Prop} : VdtI Γ .done s K = K s := by rw [vdtI]; rfl
theorem vdt_stop {Γ : Nat → Option Spec} {s : S} {K : S → Prop} : VdtI Γ .stop s K = True := by rw [vdtI]; rfl
theorem vdt_held {Γ : Nat → Option Spec} {o : LO} {t : DT} {s : S} {K : S → Prop} : VdtI Γ (.held o t) s K = gdK s o.g (fun s => vst s o.io fun av => VdtI Γ t (s.put o.d av) K) (fun s => VdtI Γ t (s.put o.d (.v (.tuple #[]))) K) := by rw [vdtI]; rfl
theorem vdt_alt {Γ : Nat → Option Spec} {o : LO} {t r : DT} {s : S} {K : S → Prop} : VdtI Γ (.alt o t r) s K = (gdK s o.g (fun s => stepM true Γ s o.io fun av s' => VdtI Γ t (s'.put o.d av) K) (fun s => VdtI Γ t (s.put o.d (.v (.tuple #[]))) K) ∧ VdtI Γ r s K) := by rw [vdtI]; rfl
theorem drawQ_t {Γ : Nat → Option Spec} {p : Nat} {l : List LO} {t : DT} {s : S} {K : S → Prop} : drawQ true Γ p l t s K = VdtI Γ t s K := by rw [vdtI]; rfl
theorem drawQ_f {Γ : Nat → Option Spec} {p : Nat} {l : List LO} {t : DT} {s : S} {K : S → Prop} : drawQ false Γ p l t s K = VopsI Γ l s fun sl => K (tidy sl) ∧ VdtI Γ t s fun s' => SubS p s' (tidy sl) := by rw [vdtI, vopsI]; rfl
section
variable {E : Env} {s : S} {Q : Ex → S → Prop}
theorem vc_ops {l : List LO} : VcI E (.ops l) s Q = VopsI E.Γ l s (Q .normal) := by rw [vcI, vopsI]; rfl
theorem vc_draw {l : List LO} {t : DT} : VcI E (.draw l t) s Q = drawQ (linD t) E.Γ E.pins l t s (Q .normal) := by rw [vcI]; rfl
theorem vc_skip : VcI E .skip s Q = Q .normal s := by rw [vcI]; rfl
theorem vc_seq {a b : IC} : VcI E (.seq a b) s Q = VcI E a s fun e s' => match e with
    | .normal => VcI E b s' Q
    | .exit i => Q (.exit i) s'
    | .ret => Q .ret s' := by rw [vcI]; rfl
theorem vc_cond {x : Operand} {a b : IC} : VcI E (.cond x a b) s Q = match s.ev x with
    | .v (.bool t) => impK (t = true) (VcI E a s Q) ∧ impK (t = false) (VcI E b s Q)
    | _ => False := by rw [vcI]; rfl
theorem vc_block {id : Nat} {c : IC} : VcI E (.block id c) s Q = VcI E c s fun e s' => match e with
    | .normal => Q .normal s'
    | .exit i => if i = id then Q .normal s' else Q (.exit i) s'
    | .ret => Q .ret s' := by rw [vcI]; rfl
theorem vc_exit {id : Nat} : VcI E (.exit id) s Q = Q (.exit id) s := by rw [vcI]; rfl
theorem vc_ret : VcI E .ret s Q = Q .ret s := by rw [vcI]; rfl
theorem vc_loop {c : IC} : VcI E (.loop c) s Q = OkI E (.loop c) s Q := by rw [vcI]; rfl
theorem vc_hold {c : IC} : VcI E (.hold c) s Q = OkI E c s Q := by rw [vcI]; rfl
theorem loopL_nil {c : IC} : LoopI E c [] s Q = False := by rw [loopLI]; rfl
theorem loopL_cons {c : IC} {u : Unit} {r : List Unit} : LoopI E c (u :: r) s Q = VcI E c s fun e s' => match e with
    | .normal => LoopI E c r s' Q
    | .exit k => Q (.exit k) s'
    | .ret => Q .ret s' := by rw [loopLI, vcI]; rfl
end
theorem validI {P : Program} {f : Nat} {fn : Func} {code : Code} {ic : IC} {rv : List RV} {τ : List (Nat × Ty)} {Γ : Nat → Option Spec} {sp : Spec} (hf : P.funcs[f]? = some fn) (hb : fn.body = some code)
    (hl : lowC P τ fn.ntmps code = some (erase ic)) (hr : lowR P fn.results.toList = some rv) (hΓ : ∀ f sp, Γ f = some sp → callable P f = true ∧ Valid P f sp)
    (h : ∀ (E : Env) (args : List AVal) (objs : List AObj) (K : AVal → Hp → Nat → Prop), sp.f args objs K → E.good → E.Γ = Γ → E.pins = objs.length →
      args.length ≤ fn.ntmps ∧ VcI E ic ⟨params 0 args, num 0 objs, objs.length, fn.ntmps⟩ (retQ objs.length rv K)) : Valid P f sp := by
  rw [vcI] at h; exact valid_of hf hb hl hr hΓ h
theorem loopI {E : Env} (hE : E.good) {ic : IC} {s : S} {Q : Ex → S → Prop} {ι : Type} (Inv : ι → S) (I : ι → Prop) (μ : ι → Nat) (h0 : ∃ i, I i ∧ Weak E s (Inv i))
    (h : ∀ i, I i → VcI E ic (Inv i) fun e s' => match e with
      | .normal => ∃ j, (I j ∧ μ j < μ i) ∧ Weak E s' (Inv j)
      | .exit k => Q (.exit k) s'
      | .ret => Q .ret s') : OkI E (.loop ic) s Q := by
  rw [vcI] at h; exact loop_ok hE Inv I μ h0 h
theorem unrollI {E : Env} (hE : E.good) {ic : IC} {s : S} {Q : Ex → S → Prop} (l : List Unit) (h : LoopI E ic l s Q) : OkI E (.loop ic) s Q := by
  rw [loopLI] at h; exact loop_unroll hE l h
attribute [go_sem] drawQ_t drawQ_f vops_nil vops_cons vdt_done vdt_stop vdt_held vdt_alt vc_ops vc_draw vc_skip vc_seq vc_cond vc_block vc_exit vc_ret vc_loop vc_hold loopL_nil loopL_cons stepM gdK vst wst someK
@[congr] theorem drawQ_cg {b b' : Bool} {Γ : Nat → Option Spec} {p : Nat} {l : List LO} {t : DT} {s s' : S} {K : S → Prop} {b0 : Prop} (h0 : (True ∧ True) = b0) (h : b = b') (h2 : s = s') : drawQ b Γ p l t s K = drawQ b' Γ p l t s' K := by rw [h, h2]
/-! What stands behind an operation is looked at only when it is come to. -/
@[congr] theorem vops_cg {Γ : Nat → Option Spec} {l : List LO} {s s' : S} {K : S → Prop} {b0 : Prop} (h0 : (True ∧ True) = b0) (h : s = s') : VopsI Γ l s K = VopsI Γ l s' K := by rw [h]
@[congr] theorem vdt_cg {Γ : Nat → Option Spec} {t : DT} {s s' : S} {K : S → Prop} {b0 : Prop} (h0 : (True ∧ True) = b0) (h : s = s') : VdtI Γ t s K = VdtI Γ t s' K := by rw [h]
@[congr] theorem vc_cg {E : Env} {c : IC} {s s' : S} {Q : Ex → S → Prop} {b0 : Prop} (h0 : (True ∧ True) = b0) (h : s = s') : VcI E c s Q = VcI E c s' Q := by rw [h]
@[congr] theorem OkI_cg {E : Env} {c : IC} {s s' : S} {Q : Ex → S → Prop} {b0 : Prop} (h0 : (True ∧ True) = b0) (h : s = s') : OkI E c s Q = OkI E c s' Q := by rw [h]
@[congr] theorem loopL_cg {E : Env} {c : IC} {l : List Unit} {s s' : S} {Q : Ex → S → Prop} {b0 : Prop} (h0 : (True ∧ True) = b0) (h : s = s') : LoopI E c l s Q = LoopI E c l s' Q := by rw [h]
@[congr] theorem gdK_cg {s s' : S} {g : Option (Nat × Bool)} {K1 K2 : S → Prop} {b0 : Prop} (h0 : (True ∧ True) = b0) (h : s = s') : gdK s g K1 K2 = gdK s' g K1 K2 := by rw [h]
@[congr] theorem stepM_cg {m : Bool} {Γ : Nat → Option Spec} {s s' : S} {io : IOp} {K : AVal → S → Prop} {b0 : Prop} (h0 : (True ∧ True) = b0) (h : s = s') : stepM m Γ s io K = stepM m Γ s' io K := by rw [h]
@[congr] theorem vst_cg {s s' : S} {io : IOp} {K : AVal → Prop} {b0 : Prop} (h0 : (True ∧ True) = b0) (h : s = s') : vst s io K = vst s' io K := by rw [h]
@[congr] theorem wst_cg {s s' : S} {io : IOp} {K : AVal → S → Prop} {b0 : Prop} (h0 : (True ∧ True) = b0) (h : s = s') : wst s io K = wst s' io K := by rw [h]
@[congr] theorem someK_cg {α : Type} {x x' : Option α} {K : α → Prop} {b0 : Prop} (h0 : (True ∧ True) = b0) (h : x = x') : someK x K = someK x' K := by rw [h]
@[congr] theorem callK_cg {sp : Spec} {s s' : S} {l l' : List AVal} {K : AVal → S → Prop} {b0 : Prop} (h0 : (True ∧ True) = b0) (h : s = s') (h2 : l = l') : callK sp s l K = callK sp s' l' K := by rw [h, h2]
@[congr] theorem impK_cg {p p' q : Prop} {b0 : Prop} (h0 : (True ∧ True) = b0) (h : p = p') : impK p q = impK p' q := by rw [h]
theorem impK_t {q : Prop} : impK True q = q := by simp [impK]
theorem impK_f {q : Prop} : impK False q = True := by simp [impK]
theorem impK_any {p q : Prop} : impK p q = (p → q) := id rfl
attribute [go_sem] impK_t impK_f
attribute [go_sem 100] impK_any
@[congr] theorem specf_cg {sp : Spec} {l l' : List AVal} {o o' : List AObj} {K : AVal → Hp → Nat → Prop} {b0 : Prop} (h0 : (True ∧ True) = b0) (h : l = l') (h2 : o = o') : Spec.f sp l o K = Spec.f sp l' o' K := by rw [h, h2]
@[congr] theorem binV_cg {op : BinOp} {x x' y y' : Value} {K : Value → Prop} {b0 : Prop} (h0 : (True ∧ True) = b0) (h : x = x') (h2 : y = y') : binV op x y K = binV op x' y' K := by rw [h, h2]
@[congr] theorem cellsK_cg {ag : Bool} {n : Nat} {l l' : List AVal} {K : AVal → Prop} {b0 : Prop} (h0 : (True ∧ True) = b0) (h : l = l') : cellsK ag n l K = cellsK ag n l' K := by rw [h]
@[congr] theorem loadP_cg {L L' : Hp} {n : Nat} {ag : Bool} {p p' : AVal} {K : AVal → Prop} {b0 : Prop} (h0 : (True ∧ True) = b0) (h : L = L') (h2 : p = p') : loadP L n ag p K = loadP L' n ag p' K := by rw [h, h2]
@[congr] theorem fillA_cg {s s' : S} {ps : List (Nat × Nat × Operand)} {l l' : List AVal} {K : List AVal → Prop} {b0 : Prop} (h0 : (True ∧ True) = b0) (h : s = s') (h2 : l = l') : fillA s ps l K = fillA s' ps l' K := by rw [h, h2]
@[congr] theorem rowsK_cg {t : Ty} {L L' : Hp} {y y' : AVal} {K : List t.D → Prop} {b0 : Prop} (h0 : (True ∧ True) = b0) (h : L = L') (h2 : y = y') : rowsK t L y K = rowsK t L' y' K := by rw [h, h2]
@[congr] theorem appK_cg {t : Ty} {b : Nat} {sf sf' : Bool} {s s' : S} {x x' : AVal} {ys ys' : List t.D} {K : AVal → S → Prop} {b0 : Prop} (h0 : (True ∧ True) = b0) (h : s = s') (h2 : x = x') (h3 : ys = ys') (h4 : sf = sf') : appK t b sf s x ys K = appK t b sf' s' x' ys' K := by rw [h, h2, h3, h4]
@[congr] theorem keyK_cg {kk : KK} {av av' : AVal} {K : Key → Prop} {b0 : Prop} (h0 : (True ∧ True) = b0) (h : av = av') : keyK kk av K = keyK kk av' K := by rw [h]
@[congr] theorem valK_cg {mp : Bool} {av av' : AVal} {K : ByteArray → Prop} {b0 : Prop} (h0 : (True ∧ True) = b0) (h : av = av') : valK mp av K = valK mp av' K := by rw [h]
theorem keyK_int {n : Int} {K : Key → Prop} : keyK .int (.v (.int .i64 n)) K = K (.i n) := id rfl
theorem keyK_str {b : ByteArray} {K : Key → Prop} : keyK .str (.v (.string b)) K = K (.s b) := id rfl
theorem keyK_arr {n : Nat} {cs : List AVal} {K : Key → Prop} : keyK (.arr n) (.agg cs) K = (someK (i64s cs) fun l => l.length = n ∧ K (.a l)) := by
  simp only [keyK]; unfold someK; cases i64s cs <;> rfl
theorem keyK_pair {cs : List AVal} {K : Key → Prop} : keyK .pair (.agg cs) K = (someK (i64s cs) fun l => l.length = 2 ∧ K (.a l)) := by
  simp only [keyK]; unfold someK; cases i64s cs <;> rfl
theorem valK_t {x : ByteArray} {K : ByteArray → Prop} : valK true (.v (.string x)) K = K x := id rfl
theorem valK_f {b : Bool} {K : ByteArray → Prop} : valK false (.v (.bool b)) K = (b = true ∧ K ⟨#[]⟩) := id rfl
theorem mgetV_ff {es : List (Key × ByteArray)} {k : Key} : mgetV false false es k = .v (.bool (hasM es k)) := id rfl
theorem mgetV_ft {es : List (Key × ByteArray)} {k : Key} : mgetV false true es k = .tup [.v (.bool (hasM es k)), .v (.bool (hasM es k))] := id rfl
theorem mgetV_tf {es : List (Key × ByteArray)} {k : Key} : mgetV true false es k = .v (.string (strM es k)) := id rfl
theorem mgetV_tt {es : List (Key × ByteArray)} {k : Key} : mgetV true true es k = .tup [.v (.string (strM es k)), .v (.bool (hasM es k))] := id rfl
attribute [go_sem] keyK_int keyK_str keyK_arr keyK_pair valK_t valK_f mgetV_ff mgetV_ft mgetV_tf mgetV_tt
theorem selfB_ss {m z l n m' z' l' n' : Nat} : selfB (.sub m z l n) (.sub m' z' l' n') = decide (m = m') := id rfl
theorem selfB_v {x : Value} {y : AVal} : selfB (.v x) y = false := id rfl
theorem selfB_sv {m z l n : Nat} {x : Value} : selfB (.sub m z l n) (.v x) = false := id rfl
theorem selfB_sr {m z l n : Nat} {t : Ty} {xs : List t.D} : selfB (.sub m z l n) (.rs t xs) = false := id rfl
theorem selK_f {p q : Prop} : selK false p q = q := id rfl
theorem selK_t {p q : Prop} : selK true p q = (p ∨ q) := id rfl
@[congr] theorem selK_cg {sf sf' : Bool} {p q : Prop} {b0 : Prop} (h0 : (True ∧ True) = b0) (h : sf = sf') : selK sf p q = selK sf' p q := by rw [h]
theorem roomK_eq {L : Hp} {m l0 : Nat} {h : Int} : roomK L m l0 h = (match lk L m with | some (.row t xs) => (l0 : Int) + h ≤ (xs.length : Int) | _ => False) := id rfl
attribute [go_sem] selfB_ss selfB_v selfB_sv selfB_sr selK_f selK_t roomK_eq
@[congr] theorem castK_cg {t t' : Ty} {xs xs' : List t'.D} {K : List t.D → Prop} {b0 : Prop} (h0 : (True ∧ True) = b0) (h : xs = xs') : castK t t' xs K = castK t t' xs' K := by rw [h]
@[congr] theorem objsK_cg {L L' : Hp} {l l' : List Nat} {K : List AObj → Prop} {b0 : Prop} (h0 : (True ∧ True) = b0) (h : L = L') (h2 : l = l') : objsK L l K = objsK L' l' K := by rw [h, h2]
@[congr] theorem optI_cg {s s' : S} {x : Option Operand} {d d' : Int} {K : Int → Prop} {b0 : Prop} (h0 : (True ∧ True) = b0) (h : s = s') (h2 : d = d') : optI s x d K = optI s' x d' K := by rw [h, h2]
@[congr] theorem retL_cg {l : List RV} {s s' : S} {K : List AVal → Prop} {b0 : Prop} (h0 : (True ∧ True) = b0) (h : s = s') : retL l s K = retL l s' K := by rw [h]
@[congr] theorem retK_cg {l : List RV} {s s' : S} {K : AVal → Prop} {b0 : Prop} (h0 : (True ∧ True) = b0) (h : s = s') : retK l s K = retK l s' K := by rw [h]
@[congr] theorem uni1_cg {θ θ' : Th} {a a' b b' : AVal} {K : Th → Prop} {b0 : Prop} (h0 : (True ∧ True) = b0) (h : θ = θ') (h2 : a = a') (h3 : b = b') : uni1 θ a b K = uni1 θ' a' b' K := by rw [h, h2, h3]
@[congr] theorem uni_cg {θ θ' : Th} {a a' b b' : AVal} {K : Th → Prop} {b0 : Prop} (h0 : (True ∧ True) = b0) (h : θ = θ') (h2 : a = a') (h3 : b = b') : uni θ a b K = uni θ' a' b' K := by rw [h, h2, h3]
@[congr] theorem uniR_cg {θ θ' : Th} {a a' b b' : AVal} {K : Th → Prop} {b0 : Prop} (h0 : (True ∧ True) = b0) (h : θ = θ') (h2 : a = a') (h3 : b = b') : uniR θ a b K = uniR θ' a' b' K := by rw [h, h2, h3]
@[congr] theorem uniL_cg {θ θ' : Th} {a a' b b' : List AVal} {K : Th → Prop} {b0 : Prop} (h0 : (True ∧ True) = b0) (h : θ = θ') (h2 : a = a') (h3 : b = b') : uniL θ a b K = uniL θ' a' b' K := by rw [h, h2, h3]
@[congr] theorem uniT_cg {θ θ' : Th} {a a' b b' : List AVal} {K : Th → Prop} {b0 : Prop} (h0 : (True ∧ True) = b0) (h : θ = θ') (h2 : a = a') (h3 : b = b') : uniT θ a b K = uniT θ' a' b' K := by rw [h, h2, h3]
@[congr] theorem uniS_cg {θ θ' : Th} {a a' b b' : List (Nat × AVal)} {K : Th → Prop} {b0 : Prop} (h0 : (True ∧ True) = b0) (h : θ = θ') (h2 : a = a') (h3 : b = b') : uniS θ a b K = uniS θ' a' b' K := by rw [h, h2, h3]
@[congr] theorem uniO_cg {θ θ' : Th} {k z : Nat} {a a' b b' : AObj} {K : Th → Prop} {b0 : Prop} (h0 : (True ∧ True) = b0) (h : θ = θ') (h2 : a = a') (h3 : b = b') : uniO θ k z a b K = uniO θ' k z a' b' K := by rw [h, h2, h3]
@[congr] theorem uniH_cg {θ θ' : Th} {a a' b b' : Hp} {K : Th → Prop} {b0 : Prop} (h0 : (True ∧ True) = b0) (h : θ = θ') (h2 : a = a') (h3 : b = b') : uniH θ a b K = uniH θ' a' b' K := by rw [h, h2, h3]
@[congr] theorem atOff_cg {i i' : Int} {f : Nat → Prop} {l l' : List Nat} {j j' : Nat} {b0 : Prop} (h0 : (True ∧ True) = b0) (h : i = i') (h2 : l = l') (h3 : j = j') : atOff i f l j = atOff i' f l' j' := by rw [h, h2, h3]
attribute [go_sem] retQ retK retL binV cellsK loadP cellsOf splice fillA optI rowsK appK decN castK
  callK allP view1 vok1 view vok viewO vokO objsK pos nodupB idT keysLt tgts oneA
/-! The state's changes, each as a step that is written down. -/
theorem put_some {σ : List (Nat × AVal)} {L : Hp} {nx n d : Nat} {av : AVal} : S.put ⟨σ, L, nx, n⟩ (some d) av = ⟨(d, av) :: σ, L, nx, n⟩ := id rfl
theorem put_none {s : S} {av : AVal} : S.put s none av = s := id rfl
theorem add_eq {σ : List (Nat × AVal)} {L : Hp} {nx n : Nat} {o : AObj} : S.add ⟨σ, L, nx, n⟩ o = ⟨σ, (nx, o) :: L, nx + 1, n⟩ := id rfl
theorem hp_eq {σ : List (Nat × AVal)} {L L' : Hp} {nx n : Nat} : S.hp ⟨σ, L, nx, n⟩ L' = ⟨σ, L', nx, n⟩ := id rfl
theorem ev_tmp {σ : List (Nat × AVal)} {L : Hp} {nx n t : Nat} : S.ev ⟨σ, L, nx, n⟩ (.tmp t) = (lk σ t).getD .junk := id rfl
theorem ev_func {s : S} {f : Nat} : S.ev s (.func f) = .fn f [] := id rfl
theorem ev_int {s : S} {k : IntKind} {i : Int} : S.ev s (.const (.int k i)) = .v (.int k i) := id rfl
theorem ev_bool {s : S} {b : Bool} : S.ev s (.const (.bool b)) = .v (.bool b) := id rfl
theorem ev_str {s : S} {b : ByteArray} : S.ev s (.const (.string b)) = .v (.string b) := id rfl
theorem ev_nilf {s : S}  : S.ev s (.const .nilFunc) = .v .nilFunc := id rfl
theorem ev_nili {s : S}  : S.ev s (.const .nilIface) = .v .nilIface := id rfl
theorem ev_nilp {s : S} : S.ev s (.const (.pointer none)) = .v (.pointer none) := id rfl
theorem ev_nils {s : S} : S.ev s (.const (.slice none 0 0)) = .v (.slice none 0 0) := id rfl
theorem ev_agg {s : S} {cs : Array Value} : S.ev s (.const (.agg cs)) = .agg (cs.toList.map .v) := id rfl
theorem params_nil {k : Nat} : params k [] = [] := id rfl
theorem params_cons {k : Nat} {x : AVal} {r : List AVal} : params k (x :: r) = (k, x) :: params (k + 1) r := id rfl
theorem num_nil {k : Nat} : num k [] = [] := id rfl
theorem num_cons {k : Nat} {x : AObj} {r : List AObj} : num k (x :: r) = (k, x) :: num (k + 1) r := id rfl
theorem lk_nil {α : Type _} {k : Nat} : lk ([] : List (Nat × α)) k = none := id rfl
theorem lk_cons {α : Type _} {i k : Nat} {x : α} {r : List (Nat × α)} : lk ((i, x) :: r) k = if i = k then some x else lk r k := id rfl
theorem upd_nil {k : Nat} {o : AObj} : upd [] k o = [] := id rfl
theorem upd_cons {i k : Nat} {x o : AObj} {r : Hp} : upd ((i, x) :: r) k o = if i = k then (i, o) :: r else (i, x) :: upd r k o := id rfl
theorem boxesOf_nil : boxesOf [] = [] := id rfl
theorem boxesOf_box {m : Nat} {cs : List AVal} {r : Hp} : boxesOf ((m, .box cs) :: r) = (m, .box cs) :: boxesOf r := id rfl
theorem boxesOf_row {m : Nat} {t : Ty} {xs : List t.D} {r : Hp} : boxesOf ((m, .row t xs) :: r) = boxesOf r := id rfl
theorem rowsOf_nil : rowsOf [] = [] := id rfl
theorem rowsOf_box {m : Nat} {cs : List AVal} {r : Hp} : rowsOf ((m, .box cs) :: r) = rowsOf r := id rfl
theorem rowsOf_row {m : Nat} {t : Ty} {xs : List t.D} {r : Hp} : rowsOf ((m, .row t xs) :: r) = (m, .row t xs) :: rowsOf r := id rfl
theorem boxesOf_set {m : Nat} {kk : KK} {mp : Bool} {es : List (Key × ByteArray)} {r : Hp} : boxesOf ((m, .set kk mp es) :: r) = boxesOf r := id rfl
theorem rowsOf_set {m : Nat} {kk : KK} {mp : Bool} {es : List (Key × ByteArray)} {r : Hp} : rowsOf ((m, .set kk mp es) :: r) = (m, .set kk mp es) :: rowsOf r := id rfl
theorem uniO_set {θ : Th} {k z : Nat} {kk kk' : KK} {mp mp' : Bool} {es es' : List (Key × ByteArray)} {K : Th → Prop} : uniO θ k z (.set kk mp es) (.set kk' mp' es') K = ((k = 0 ∧ kk = kk' ∧ mp = mp' ∧ es = es') ∧ K θ) := id rfl
theorem uni1_mp {θ : Th} {m m' : Nat} {K : Th → Prop} : uni1 θ (.mp m) (.mp m') K = uniN θ m' m K := id rfl
theorem uni_mp {θ : Th} {av : AVal} {m' : Nat} {K : Th → Prop} : uni θ av (.mp m') K = uni1 θ av (.mp m') K := id rfl
theorem uniR_mp {θ : Th} {av : AVal} {m' : Nat} {K : Th → Prop} : uniR θ av (.mp m') K = uni θ av (.mp m') K := id rfl
theorem uni1_arp {θ : Th} {m m' n n' : Nat} {K : Th → Prop} : uni1 θ (.arp m n) (.arp m' n') K = (n = n' ∧ uniN θ m' m K) := id rfl
theorem uni_arp {θ : Th} {av : AVal} {m' n' : Nat} {K : Th → Prop} : uni θ av (.arp m' n') K = uni1 θ av (.arp m' n') K := id rfl
theorem uniR_arp {θ : Th} {av : AVal} {m' n' : Nat} {K : Th → Prop} : uniR θ av (.arp m' n') K = uni θ av (.arp m' n') K := id rfl
attribute [go_sem] uni1_arp uni_arp uniR_arp boxesOf_set rowsOf_set uniO_set uni1_mp uni_mp uniR_mp
attribute [go_sem] boxesOf_nil boxesOf_box boxesOf_row rowsOf_nil rowsOf_box rowsOf_row
attribute [go_sem] put_some put_none add_eq hp_eq ev_tmp ev_func ev_int ev_bool ev_str ev_nilf ev_nili ev_nilp ev_nils ev_agg params_nil params_cons num_nil num_cons lk_nil lk_cons upd_nil upd_cons
theorem nc0 : ((0 : Nat) : Int) = 0 := id rfl
theorem nc1 : ((1 : Nat) : Int) = 1 := id rfl
theorem nc2 : ((2 : Nat) : Int) = 2 := id rfl
theorem nc3 : ((3 : Nat) : Int) = 3 := id rfl
theorem nc4 : ((4 : Nat) : Int) = 4 := id rfl
theorem nc5 : ((5 : Nat) : Int) = 5 := id rfl
theorem nc6 : ((6 : Nat) : Int) = 6 := id rfl
theorem nc7 : ((7 : Nat) : Int) = 7 := id rfl
theorem nc8 : ((8 : Nat) : Int) = 8 := id rfl
theorem nc9 : ((9 : Nat) : Int) = 9 := id rfl
theorem nc10 : ((10 : Nat) : Int) = 10 := id rfl
theorem nc11 : ((11 : Nat) : Int) = 11 := id rfl
theorem nc12 : ((12 : Nat) : Int) = 12 := id rfl
theorem nc13 : ((13 : Nat) : Int) = 13 := id rfl
theorem nc14 : ((14 : Nat) : Int) = 14 := id rfl
theorem nc15 : ((15 : Nat) : Int) = 15 := id rfl
theorem nc16 : ((16 : Nat) : Int) = 16 := id rfl
theorem offs_1_2 : offs 1 2 = [0, 1] := by decide
theorem offs_1_4 : offs 1 4 = [0, 1, 2, 3] := by decide
theorem offs_1_8 : offs 1 8 = [0, 1, 2, 3, 4, 5, 6, 7] := by decide
theorem offs_1_16 : offs 1 16 = [0, 1, 2, 3, 4, 5, 6, 7, 8, 9, 10, 11, 12, 13, 14, 15] := by decide
theorem offs_2_2 : offs 2 2 = [0, 2] := by decide
theorem offs_2_4 : offs 2 4 = [0, 2, 4, 6] := by decide
theorem offs_2_8 : offs 2 8 = [0, 2, 4, 6, 8, 10, 12, 14] := by decide
theorem offs_2_16 : offs 2 16 = [0, 2, 4, 6, 8, 10, 12, 14, 16, 18, 20, 22, 24, 26, 28, 30] := by decide
theorem offs_3_2 : offs 3 2 = [0, 3] := by decide
theorem offs_3_4 : offs 3 4 = [0, 3, 6, 9] := by decide
theorem offs_3_8 : offs 3 8 = [0, 3, 6, 9, 12, 15, 18, 21] := by decide
theorem offs_3_16 : offs 3 16 = [0, 3, 6, 9, 12, 15, 18, 21, 24, 27, 30, 33, 36, 39, 42, 45] := by decide
theorem offs_4_2 : offs 4 2 = [0, 4] := by decide
theorem offs_4_4 : offs 4 4 = [0, 4, 8, 12] := by decide
theorem offs_4_8 : offs 4 8 = [0, 4, 8, 12, 16, 20, 24, 28] := by decide
theorem offs_4_16 : offs 4 16 = [0, 4, 8, 12, 16, 20, 24, 28, 32, 36, 40, 44, 48, 52, 56, 60] := by decide
theorem atOff_nil {i : Int} {f : Nat → Prop} {j : Nat} : atOff i f [] j = True := id rfl
theorem atOff_cons {i : Int} {f : Nat → Prop} {o : Nat} {r : List Nat} {j : Nat} : atOff i f (o :: r) j = (impK (i = (j : Int)) (f o) ∧ atOff i f r (j + 1)) := id rfl
attribute [go_sem] nc0 nc1 nc2 nc3 nc4 nc5 nc6 nc7 nc8 nc9 nc10 nc11 nc12 nc13 nc14 nc15 nc16 offs_1_2 offs_1_4 offs_1_8 offs_1_16 offs_2_2 offs_2_4 offs_2_8 offs_2_16 offs_3_2 offs_3_4 offs_3_8 offs_3_16 offs_4_2 offs_4_4 offs_4_8 offs_4_16 atOff_nil atOff_cons
/-! The state behind a call. -/
section
variable {kp : Bool} {n : Nat → Nat} {m z j f lo len off nx k : Nat} {x : Value} {cs : List AVal} {o : AObj} {r : Hp} {ms : List Nat} {L : Hp} {t : Ty} {xs : List t.D}
theorem renL_nil : renL kp n [] = [] := id rfl
theorem renL_cons : renL kp n ((m, o) :: r) = (n m, renO kp n o) :: renL kp n r := id rfl
theorem renO_box : renO kp n (.box cs) = .box (cs.map (ren1 kp n)) := id rfl
theorem renO_row : renO kp n (.row t xs) = .row t xs := id rfl
theorem ren1_v : ren1 kp n (.v x) = .v x := id rfl
theorem ren1_ptr : ren1 kp n (.ptr m off) = .ptr (n m) off := id rfl
theorem ren1_elt : ren1 kp n (.elt m z j f) = .elt (n m) z j f := id rfl
theorem ren1_sub : ren1 kp n (.sub m z lo len) = .sub (n m) z lo len := id rfl
theorem ren1_rs : ren1 kp n (.rs t xs) = if kp = true then .rs t xs else .junk := id rfl
theorem ren1_junk : ren1 kp n .junk = .junk := id rfl
theorem ren2_rs : ren2 kp n (.rs t xs) = ren1 kp n (.rs t xs) := id rfl
theorem ren_rs : ren kp n (.rs t xs) = ren1 kp n (.rs t xs) := id rfl
theorem ren2_v : ren2 kp n (.v x) = .v x := id rfl
theorem ren2_ptr : ren2 kp n (.ptr m off) = .ptr (n m) off := id rfl
theorem ren2_elt : ren2 kp n (.elt m z j f) = .elt (n m) z j f := id rfl
theorem ren2_sub : ren2 kp n (.sub m z lo len) = .sub (n m) z lo len := id rfl
theorem ren2_agg : ren2 kp n (.agg cs) = .agg (cs.map (ren1 kp n)) := id rfl
theorem ren_v : ren kp n (.v x) = .v x := id rfl
theorem ren_ptr : ren kp n (.ptr m off) = .ptr (n m) off := id rfl
theorem ren_elt : ren kp n (.elt m z j f) = .elt (n m) z j f := id rfl
theorem ren_sub : ren kp n (.sub m z lo len) = .sub (n m) z lo len := id rfl
theorem ren_agg : ren kp n (.agg cs) = .agg (cs.map (ren1 kp n)) := id rfl
theorem ren_tup : ren kp n (.tup cs) = .tup (cs.map (ren2 kp n)) := id rfl
theorem rn_eq : rn ms nx k = (nth ms k).getD (nx + k) := by unfold rn; split <;> rename_i h <;> rw [h] <;> rfl
theorem nth_nil : nth [] k = none := id rfl
theorem nth_cons : nth (m :: ms) k = if k = 0 then some m else nth ms (k - 1) := id rfl
theorem eraAll_nil : eraAll L [] = L := id rfl
theorem eraAll_cons : eraAll L (m :: ms) = eraAll (era L m) ms := id rfl
theorem era_nil : era [] k = [] := id rfl
theorem era_cons : era ((m, o) :: r) k = if m = k then era r k else (m, o) :: era r k := id rfl
end
attribute [go_sem] ren1_rs ren1_junk ren2_rs ren_rs
attribute [go_sem] renL_nil renL_cons renO_box renO_row ren1_v ren1_ptr ren1_elt ren1_sub ren2_v ren2_ptr ren2_elt ren2_sub ren2_agg ren_v ren_ptr ren_elt ren_sub ren_agg ren_tup rn_eq nth_nil nth_cons eraAll_nil eraAll_cons era_nil era_cons
theorem om_some {α β : Type _} {f : α → β} {x : α} : Option.map f (some x) = some (f x) := id rfl
theorem om_none {α β : Type _} {f : α → β} : Option.map f (none : Option α) = none := id rfl
theorem bo_ff : (false || false) = false := id rfl
theorem bo_tf {b : Bool} : (true || b) = true := id rfl
theorem bo_ft : (false || true) = true := id rfl
theorem dc_true : decide True = true := by simp
theorem dc_false : decide False = false := by simp
theorem ga_0 {α : Type _} {a : α} {l : List α} : (a :: l)[0]? = some a := id rfl
theorem ga_1 {α : Type _} {a b : α} {l : List α} : (a :: b :: l)[1]? = some b := id rfl
theorem ga_2 {α : Type _} {a b c : α} {l : List α} : (a :: b :: c :: l)[2]? = some c := id rfl
theorem ga_3 {α : Type _} {a b c d : α} {l : List α} : (a :: b :: c :: d :: l)[3]? = some d := id rfl
theorem or_ft {p : Prop} : (False ∨ p) = p := by simp
theorem or_tt {p : Prop} : (p ∨ True) = True := by simp
theorem or_pf {p : Prop} : (p ∨ False) = p := by simp
attribute [go_sem] ga_0 ga_1 ga_2 ga_3 or_ft or_tt or_pf
theorem u8s_nil : u8s [] = some [] := id rfl
theorem u8s_cons {n : Int} {r : List AVal} : u8s (.v (.int .u8 n) :: r) = (u8s r).map (n :: ·) := id rfl
attribute [go_sem] u8s_nil u8s_cons
theorem i64s_nil : i64s [] = some [] := id rfl
theorem i64s_cons {n : Int} {r : List AVal} : i64s (.v (.int .i64 n) :: r) = (i64s r).map (n :: ·) := id rfl
attribute [go_sem] i64s_nil i64s_cons
theorem take_len {α : Type _} {xs : List α} : xs.take xs.length = xs := List.take_length
theorem le_self {n : Nat} : (n ≤ n) = True := by simp
section
variable {θ : Th} {K : Th → Prop} {m m' k z z' lo lo' len len' off off' i i' f f' d p : Nat} {x x' : Value} {t t' : Ty} {xs : List t.D} {y : t.D} {cs cs' r r' : List AVal} {a a' av av' : AVal} {σ : List (Nat × AVal)} {L rL : Hp} {o o' : AObj} {s s' : S}
theorem SubS_eq : SubS p s s' = (s'.n = s.n ∧ uniS (idT p) s.σ s'.σ fun θ => uniH θ s.L (boxesOf s'.L) fun θ => uniH θ s.L (rowsOf s'.L) fun θ => nodupB (tgts θ) = true ∧ keysLt s'.nx θ = true) := id rfl
theorem ResU_eq {r0 rr : AVal} {L0 : Hp} {nx0 : Nat} : ResU p s rr r0 L0 nx0 = (uniR (idT p) rr r0 fun θ => uniH θ s.L (boxesOf L0) fun θ => uniH θ s.L (rowsOf L0) fun θ => nodupB (tgts θ) = true ∧ keysLt nx0 θ = true) := id rfl
theorem uniN_eq : uniN θ m' m K = (match lk θ m' with | some x => x = some (m, 0, 0) ∧ K θ | none => K ((m', some (m, 0, 0)) :: θ)) := id rfl
theorem uniK_eq : uniK θ m' m k z K = (if k = 0 then uniN θ m' m K else match lk θ m' with | some x => x = some (m, k, z) ∧ K θ | none => K ((m', some (m, k, z)) :: θ)) := id rfl
theorem uniNil_eq : uniNil θ m' K = (match lk θ m' with | some x => x = none ∧ K θ | none => K ((m', none) :: θ)) := id rfl
theorem uni1_junk : uni1 θ av .junk K = K θ := id rfl
theorem uni1_v : uni1 θ (.v x) (.v x') K = (x = x' ∧ K θ) := id rfl
theorem uni1_sub : uni1 θ (.sub m z lo len) (.sub m' z' lo' len') K = ((z = z' ∧ lo' ≤ lo ∧ len = len') ∧ uniK θ m' m (lo - lo') z K) := id rfl
theorem uni1_nil : uni1 θ (.v (.slice none 0 0)) (.sub m' z' lo' len') K = ((lo' = 0 ∧ len' = 0) ∧ uniNil θ m' K) := id rfl
theorem uni1_ptr : uni1 θ (.ptr m off) (.ptr m' off') K = (off = off' ∧ uniN θ m' m K) := id rfl
theorem uni1_elt : uni1 θ (.elt m z i f) (.elt m' z' i' f') K = ((z = z' ∧ i = i' ∧ f = f') ∧ uniN θ m' m K) := id rfl
theorem uni1_rs : uni1 θ av (.rs t xs) K = (av = .rs t xs ∧ K θ) := id rfl
theorem uni1_re : uni1 θ av (.re t y f) K = (av = .re t y f ∧ K θ) := id rfl
theorem uni1_rp : uni1 θ av (.rp t xs) K = (av = .rp t xs ∧ K θ) := id rfl
theorem uni_rp : uni θ av (.rp t xs) K = uni1 θ av (.rp t xs) K := id rfl
theorem uniL_nil : uniL θ [] [] K = K θ := id rfl
theorem uniL_cons : uniL θ (a :: r) (a' :: r') K = uni1 θ a a' fun θ => uniL θ r r' K := id rfl
theorem uni_agg : uni θ (.agg cs) (.agg cs') K = uniL θ cs cs' K := id rfl
theorem uni_fn : uni θ (.fn f cs) (.fn f' cs') K = (f = f' ∧ uniL θ cs cs' K) := id rfl
theorem uni_junk : uni θ av .junk K = K θ := id rfl
theorem uni_v : uni θ av (.v x') K = uni1 θ av (.v x') K := id rfl
theorem uni_sub : uni θ av (.sub m' z' lo' len') K = uni1 θ av (.sub m' z' lo' len') K := id rfl
theorem uni_ptr : uni θ av (.ptr m' off') K = uni1 θ av (.ptr m' off') K := id rfl
theorem uni_elt : uni θ av (.elt m' z' i' f') K = uni1 θ av (.elt m' z' i' f') K := id rfl
theorem uni_rs : uni θ av (.rs t xs) K = uni1 θ av (.rs t xs) K := id rfl
theorem uni_re : uni θ av (.re t y f) K = uni1 θ av (.re t y f) K := id rfl
theorem uniS_nil : uniS θ σ [] K = K θ := id rfl
theorem uniS_cons {r : List (Nat × AVal)} : uniS θ σ ((d, av') :: r) K = someK (lk σ d) fun av => uni θ av av' fun θ => uniS θ σ r K := by
  cases h : lk σ d <;> simp [uniS, someK, h]
theorem uniO_box : uniO θ k z (.box cs) (.box cs') K = (k = 0 ∧ uniL θ cs cs' K) := id rfl
theorem uniO_row {xs' : List t'.D} : uniO θ k z (.row t xs) (.row t' xs') K = castK t' t xs fun xs => if k = 0 then xs = xs' ∧ K θ else (z = sz t' ∧ k ≤ xs.length ∧ xs.drop k = xs') ∧ K θ := id rfl
theorem uniH_nil : uniH θ L [] K = K θ := id rfl
theorem uniH_cons : uniH θ L ((m', o') :: rL) K = (match lk θ m' with
    | some (some (m, k, z)) => match lk L m with
      | some o => uniO θ k z o o' fun θ => uniH θ L rL K
      | none => False
    | some none => match o' with
      | .row t xs' => xs' = [] ∧ uniH θ L rL K
      | _ => False
    | none => match lk L m' with
      | some o => uniO ((m', some (m', 0, 0)) :: θ) 0 0 o o' fun θ => uniH θ L rL K
      | none => False) := id rfl
theorem uniT_nil : uniT θ [] [] K = K θ := id rfl
theorem uniT_cons : uniT θ (a :: r) (a' :: r') K = uni θ a a' fun θ => uniT θ r r' K := id rfl
theorem uniR_tup : uniR θ (.tup cs) (.tup cs') K = uniT θ cs cs' K := id rfl
theorem uniR_agg : uniR θ av (.agg cs') K = uni θ av (.agg cs') K := id rfl
theorem uniR_fn : uniR θ av (.fn f' cs') K = uni θ av (.fn f' cs') K := id rfl
theorem uniR_v : uniR θ av (.v x') K = uni θ av (.v x') K := id rfl
theorem uniR_junk : uniR θ av .junk K = uni θ av .junk K := id rfl
theorem uniR_sub : uniR θ av (.sub m' z' lo' len') K = uni θ av (.sub m' z' lo' len') K := id rfl
theorem uniR_ptr : uniR θ av (.ptr m' off') K = uni θ av (.ptr m' off') K := id rfl
theorem uniR_elt : uniR θ av (.elt m' z' i' f') K = uni θ av (.elt m' z' i' f') K := id rfl
theorem uniR_rs : uniR θ av (.rs t xs) K = uni θ av (.rs t xs) K := id rfl
theorem uniR_re : uniR θ av (.re t y f) K = uni θ av (.re t y f) K := id rfl
end
attribute [go_sem] uni1_rp uni_rp
attribute [go_sem ↓] uniN_eq uniK_eq uniNil_eq
attribute [go_sem] SubS_eq ResU_eq uni1_junk uni1_v uni1_sub uni1_nil uni1_ptr uni1_elt uni1_rs uni1_re uniL_nil uniL_cons uni_agg uni_fn uni_junk uni_v uni_sub uni_ptr uni_elt uni_rs uni_re uniS_nil uniS_cons uniO_box uniO_row uniH_nil uniH_cons uniT_nil uniT_cons uniR_tup uniR_agg uniR_fn uniR_v uniR_junk uniR_sub uniR_ptr uniR_elt uniR_rs uniR_re
def isV : AVal → Prop
  | .v _ => True
  | _ => False
def vAll : List AVal → Prop
  | [] => True
  | x :: r => isV x ∧ vAll r
theorem isV_v {x : Value} : isV (.v x) = True := by simp [isV]
theorem vAll_nil : vAll [] = True := by simp [vAll]
theorem vAll_cons {x : AVal} {r : List AVal} : vAll (x :: r) = (isV x ∧ vAll r) := id rfl
theorem uniL_same {θ : Th} {K : Th → Prop} : ∀ {cs : List AVal}, vAll cs → uniL θ cs cs K = K θ
  | [], _ => rfl
  | x :: r, h => by
    cases x with
    | v y => simp only [uniL, uni1, true_and]; exact uniL_same h.2
    | _ => exact h.1.elim
theorem uni_same {θ : Th} {cs : List AVal} {K : Th → Prop} (h : vAll cs) : uni θ (.agg cs) (.agg cs) K = K θ := by simp only [uni]; exact uniL_same h
theorem uniO_same {θ : Th} {cs : List AVal} {K : Th → Prop} (h : vAll cs) : uniO θ 0 0 (.box cs) (.box cs) K = K θ := by simp only [uniO, true_and]; exact uniL_same h
attribute [go_sem] isV_v vAll_nil vAll_cons
attribute [go_sem high] uni_same uniO_same
def ifSeen (seen : List Nat) (d : Nat) (a b : List (Nat × AVal)) : List (Nat × AVal) := if seen.contains d = true then a else b
theorem ifSeen_nil {d : Nat} {a b : List (Nat × AVal)} : ifSeen [] d a b = b := by simp [ifSeen]
theorem ifSeen_cons {x d : Nat} {l : List Nat} {a b : List (Nat × AVal)} : ifSeen (x :: l) d a b = if d = x then a else ifSeen l d a b := by
  unfold ifSeen
  by_cases h : d = x
  · simp [h]
  · simp [h]
@[congr] theorem ifSeen_cg {l l' : List Nat} {d d' : Nat} {a b : List (Nat × AVal)} {b0 : Prop} (h0 : (True ∧ True) = b0) (h : l = l') (h2 : d = d') : ifSeen l d a b = ifSeen l' d' a b := by rw [h, h2]
theorem tidy_eq {σ : List (Nat × AVal)} {L : Hp} {nx n : Nat} : tidy ⟨σ, L, nx, n⟩ = ⟨ded [] σ, L, nx, n⟩ := id rfl
theorem ded_nil {seen : List Nat} : ded seen [] = [] := id rfl
theorem ded_junk {seen : List Nat} {d : Nat} {r : List (Nat × AVal)} : ded seen ((d, .junk) :: r) = ifSeen seen d (ded seen r) (ded (d :: seen) r) := id rfl
theorem ded_v {seen : List Nat} {d : Nat} {r : List (Nat × AVal)} {x : Value} : ded seen ((d, .v x) :: r) = ifSeen seen d (ded seen r) ((d, .v x) :: ded (d :: seen) r) := id rfl
theorem ded_ptr {seen : List Nat} {d : Nat} {r : List (Nat × AVal)} {m o : Nat} : ded seen ((d, .ptr m o) :: r) = ifSeen seen d (ded seen r) ((d, .ptr m o) :: ded (d :: seen) r) := id rfl
theorem ded_elt {seen : List Nat} {d : Nat} {r : List (Nat × AVal)} {m s i f : Nat} : ded seen ((d, .elt m s i f) :: r) = ifSeen seen d (ded seen r) ((d, .elt m s i f) :: ded (d :: seen) r) := id rfl
theorem ded_sub {seen : List Nat} {d : Nat} {r : List (Nat × AVal)} {m s l k : Nat} : ded seen ((d, .sub m s l k) :: r) = ifSeen seen d (ded seen r) ((d, .sub m s l k) :: ded (d :: seen) r) := id rfl
theorem ded_rs {seen : List Nat} {d : Nat} {r : List (Nat × AVal)} {t : Ty} {xs : List t.D} : ded seen ((d, .rs t xs) :: r) = ifSeen seen d (ded seen r) ((d, .rs t xs) :: ded (d :: seen) r) := id rfl
theorem ded_re {seen : List Nat} {d : Nat} {r : List (Nat × AVal)} {t : Ty} {x : t.D} {f : Nat} : ded seen ((d, .re t x f) :: r) = ifSeen seen d (ded seen r) ((d, .re t x f) :: ded (d :: seen) r) := id rfl
theorem ded_rp {seen : List Nat} {d : Nat} {r : List (Nat × AVal)} {t : Ty} {xs : List t.D} : ded seen ((d, .rp t xs) :: r) = ifSeen seen d (ded seen r) ((d, .rp t xs) :: ded (d :: seen) r) := id rfl
theorem ded_mp {seen : List Nat} {d : Nat} {r : List (Nat × AVal)} {m : Nat} : ded seen ((d, .mp m) :: r) = ifSeen seen d (ded seen r) ((d, .mp m) :: ded (d :: seen) r) := id rfl
theorem ded_arp {seen : List Nat} {d : Nat} {r : List (Nat × AVal)} {m n : Nat} : ded seen ((d, .arp m n) :: r) = ifSeen seen d (ded seen r) ((d, .arp m n) :: ded (d :: seen) r) := id rfl
attribute [go_sem] ded_rp ded_mp ded_arp
theorem ded_agg {seen : List Nat} {d : Nat} {r : List (Nat × AVal)} {cs : List AVal} : ded seen ((d, .agg cs) :: r) = ifSeen seen d (ded seen r) ((d, .agg cs) :: ded (d :: seen) r) := id rfl
theorem ded_tup {seen : List Nat} {d : Nat} {r : List (Nat × AVal)} {cs : List AVal} : ded seen ((d, .tup cs) :: r) = ifSeen seen d (ded seen r) (ded (d :: seen) r) := id rfl
theorem ded_fn {seen : List Nat} {d : Nat} {r : List (Nat × AVal)} {f : Nat} {cs : List AVal} : ded seen ((d, .fn f cs) :: r) = ifSeen seen d (ded seen r) ((d, .fn f cs) :: ded (d :: seen) r) := id rfl
attribute [go_sem] tidy_eq ifSeen_nil ifSeen_cons ded_nil ded_junk ded_v ded_ptr ded_elt ded_sub ded_rs ded_re ded_agg ded_tup ded_fn
theorem sub_self' {n : Nat} : n - n = 0 := by simp
attribute [go_sem] sub_self'
theorem tr_or {p : Prop} : (True ∨ p) = True := by simp
attribute [go_sem] take_len le_self tr_or om_some om_none bo_ff bo_tf bo_ft dc_true dc_false
theorem rep_0 {α : Type _} {a : α} : List.replicate 0 a = [] := id rfl
theorem rep_1 {α : Type _} {a : α} : List.replicate 1 a = [a] := id rfl
theorem rep_2 {α : Type _} {a : α} : List.replicate 2 a = [a, a] := id rfl
theorem rep_3 {α : Type _} {a : α} : List.replicate 3 a = [a, a, a] := id rfl
theorem rep_4 {α : Type _} {a : α} : List.replicate 4 a = [a, a, a, a] := id rfl
theorem rep_5 {α : Type _} {a : α} : List.replicate 5 a = [a, a, a, a, a] := id rfl
theorem rep_6 {α : Type _} {a : α} : List.replicate 6 a = [a, a, a, a, a, a] := id rfl
theorem rep_7 {α : Type _} {a : α} : List.replicate 7 a = [a, a, a, a, a, a, a] := id rfl
theorem rep_8 {α : Type _} {a : α} : List.replicate 8 a = [a, a, a, a, a, a, a, a] := id rfl
attribute [go_sem] rep_3 rep_4 rep_5 rep_6 rep_7 rep_8
theorem flat_nil {α : Type _} : ([] : List (List α)).flatten = [] := id rfl
theorem flat_cons {α : Type _} {a : List α} {r : List (List α)} : (a :: r).flatten = a ++ r.flatten := id rfl
attribute [go_sem] rep_0 rep_1 rep_2 flat_nil flat_cons
theorem linD_done : linD .done = true := id rfl
theorem linD_stop : linD .stop = true := id rfl
theorem linD_held {o : LO} {t : DT} : linD (.held o t) = linD t := id rfl
theorem linD_one {o : LO} {t : DT} : linD (.alt o t .stop) = linD t := id rfl
theorem linD_two {o o2 : LO} {t t2 r2 : DT} : linD (.alt o t (.alt o2 t2 r2)) = false := id rfl
attribute [go_sem] linD_done linD_stop linD_held linD_one linD_two
theorem true_imp (p : Prop) : (True → p) = p := by simp
theorem false_imp (p : Prop) : (False → p) = True := by simp
theorem tt_imp (p : Prop) : (true = true → p) = p := by simp
theorem ff_imp (p : Prop) : (false = false → p) = p := by simp
theorem tf_imp (p : Prop) : (true = false → p) = True := by simp
theorem ft_imp (p : Prop) : (false = true → p) = True := by simp
theorem wrap_id {n : Int} (h1 : -9223372036854775808 ≤ n) (h2 : n ≤ 9223372036854775807) : wr .i64 n = n := by rw [wr_eq, IntKind.wrap_i64]; omega
theorem fill_set {α : Type} (xs : List α) (d z : α) (k : Nat) (h : k < xs.length) : (xs.take k ++ List.replicate (xs.length - k) z).set k (xs.getD k d) = xs.take (k + 1) ++ List.replicate (xs.length - (k + 1)) z := by
  apply List.ext_getElem?
  intro i
  simp only [List.getElem?_set, List.getElem?_append, List.length_append, List.length_take, List.length_replicate, List.getElem?_take, List.getElem?_replicate]
  have h1 : min k xs.length = k := by omega
  have h2 : min (k + 1) xs.length = k + 1 := by omega
  rw [h1, h2]
  by_cases e : k = i
  · subst e
    simp [h, List.getD, show k < k + (xs.length - k) by omega]
  · by_cases e2 : i < k
    · simp [e, e2, show i < k + 1 by omega]
    · simp [e, e2, show ¬ i < k + 1 by omega, show i - k < xs.length - k ↔ i - (k + 1) < xs.length - (k + 1) by omega]
theorem fill_len {α : Type} (xs : List α) (z : α) (k : Nat) (h : k ≤ xs.length) : (xs.take k ++ List.replicate (xs.length - k) z).length = xs.length := by simp; omega
theorem cast_succ (k : Nat) : (k : Int) + 1 = ((k + 1 : Nat) : Int) := by omega
attribute [go_sem] wrap_id List.all_cons List.all_nil Bool.and_true Bool.true_and List.contains_nil List.contains_cons true_imp false_imp tt_imp ff_imp tf_imp ft_imp Bool.not_true Bool.not_false and_true true_and and_false false_and Nat.zero_add Nat.add_zero Option.getD_some Option.getD_none
  if_true if_false List.map_cons List.map_nil List.length_cons List.length_nil List.drop_zero List.drop_succ_cons List.take_succ_cons List.take_zero List.take_nil List.drop_nil List.nil_append List.cons_append List.append_nil
  decide_eq_true_eq decide_eq_false_iff_not Bool.not_eq_true' Bool.not_eq_false' Bool.not_eq_eq_eq_not ne_eq not_true_eq_false not_false_eq_true forall_const Int.toNat_natCast List.append_nil
end Go.Proofs.YthghcialeghgoaaDoorE

/-! The code of a function, in the engine's words. -/
namespace Go.Proofs.YthghcialeghgoaaDoorE
open Go Go.RowKit
@[reducible] def ic10 : IC := (.seq (.ops [⟨some 4, .mov (.const (.int .i64 0)), none⟩]) (.seq (.ops [⟨some 6, .mov (.tmp 1), none⟩, ⟨some 7, .mov (.tmp 0), none⟩, ⟨some 8, .len (.tmp 7), none⟩, ⟨some 9, .bin .sub (.tmp 6) (.tmp 8), none⟩, ⟨some 1, .mov (.tmp 9), none⟩]) (.seq (.seq (.ops [⟨some 10, .mov (.tmp 1), none⟩, ⟨some 11, .bin .lss (.tmp 10) (.const (.int .i64 0)), none⟩]) (.cond (.tmp 11) (.seq (.ops [⟨some 4, .mov (.const (.int .i64 (-1))), none⟩]) .ret) .skip)) (.seq (.seq (.ops [⟨some 5, .mov (.const (.int .i64 0)), none⟩]) (.block 0 (.loop (.seq (.seq (.ops [⟨some 12, .mov (.tmp 5), none⟩, ⟨some 13, .mov (.tmp 0), none⟩, ⟨some 14, .len (.tmp 13), none⟩, ⟨some 15, .bin .lss (.tmp 12) (.tmp 14), none⟩]) (.cond (.tmp 15) .skip (.exit 0))) (.seq (.block 1 (.seq (.ops [⟨some 18, .mov (.tmp 0), none⟩, ⟨some 19, .mov (.tmp 5), none⟩, ⟨some 20, .iadr 6 (.tmp 18) (.tmp 19), none⟩, ⟨some 21, .load 6 true (.tmp 20), none⟩, ⟨some 22, .mov (.tmp 1), none⟩, ⟨some 23, .call 33 [(.tmp 21), (.tmp 22)], none⟩, ⟨some 1, .mov (.tmp 23), none⟩]) (.seq (.ops [⟨some 24, .mov (.tmp 1), none⟩, ⟨some 25, .bin .lss (.tmp 24) (.const (.int .i64 0)), none⟩]) (.cond (.tmp 25) (.seq (.ops [⟨some 4, .mov (.const (.int .i64 (-1))), none⟩]) .ret) .skip)))) (.ops [⟨some 16, .mov (.tmp 5), none⟩, ⟨some 17, .bin .add (.tmp 16) (.const (.int .i64 1)), none⟩, ⟨some 5, .mov (.tmp 17), none⟩])))))) (.seq (.ops [⟨some 26, .mov (.tmp 1), none⟩, ⟨some 4, .mov (.tmp 26), none⟩]) .ret)))))
@[reducible] def rv10 : List RV := [.tmp 4]
theorem low10 : lowC Tryd.prog tau Tryd.f10.ntmps (Tryd.f10.body.getD .skip) = some (erase ic10) := by kernel_rfl
theorem res10 : lowR Tryd.prog Tryd.f10.results.toList = some rv10 := by kernel_rfl
theorem bod10 : Tryd.f10.body = some (Tryd.f10.body.getD .skip) := by kernel_rfl
theorem cal10 : callable Tryd.prog 10 = true := by kernel_rfl

end Go.Proofs.YthghcialeghgoaaDoorE

/-! The code of a function, in the engine's words. -/
namespace Go.Proofs.YthghcialeghgoaaDoorE
open Go Go.RowKit
@[reducible] def ic12 : IC := (.seq (.ops [⟨some 2, .mov (.const (.slice none 0 0)), none⟩]) (.seq (.ops [⟨some 5, .mov (.tmp 0), none⟩, ⟨some 6, .len (.tmp 5), none⟩, ⟨some 7, .mk .rule 64 (.tmp 6) (.tmp 6), none⟩, ⟨some 3, .mov (.tmp 7), none⟩]) (.seq (.seq (.ops [⟨some 4, .mov (.const (.int .i64 0)), none⟩]) (.block 0 (.loop (.seq (.seq (.ops [⟨some 8, .mov (.tmp 4), none⟩, ⟨some 9, .mov (.tmp 0), none⟩, ⟨some 10, .len (.tmp 9), none⟩, ⟨some 11, .bin .lss (.tmp 8) (.tmp 10), none⟩]) (.cond (.tmp 11) .skip (.exit 0))) (.seq (.block 1 (.ops [⟨some 14, .mov (.tmp 3), none⟩, ⟨some 15, .mov (.tmp 4), none⟩, ⟨some 16, .mov (.tmp 0), none⟩, ⟨some 17, .mov (.tmp 4), none⟩, ⟨some 18, .iadr 6 (.tmp 16) (.tmp 17), none⟩, ⟨some 19, .load 6 true (.tmp 18), none⟩, ⟨some 20, .call 35 [(.tmp 19)], none⟩, ⟨some 21, .iadr 6 (.tmp 14) (.tmp 15), none⟩, ⟨none, .store 6 (.tmp 21) (.tmp 20), none⟩])) (.ops [⟨some 12, .mov (.tmp 4), none⟩, ⟨some 13, .bin .add (.tmp 12) (.const (.int .i64 1)), none⟩, ⟨some 4, .mov (.tmp 13), none⟩])))))) (.seq (.ops [⟨some 22, .mov (.tmp 3), none⟩, ⟨some 2, .mov (.tmp 22), none⟩]) .ret))))
@[reducible] def rv12 : List RV := [.tmp 2]
theorem low12 : lowC Tryd.prog tau Tryd.f12.ntmps (Tryd.f12.body.getD .skip) = some (erase ic12) := by kernel_rfl
theorem res12 : lowR Tryd.prog Tryd.f12.results.toList = some rv12 := by kernel_rfl
theorem bod12 : Tryd.f12.body = some (Tryd.f12.body.getD .skip) := by kernel_rfl
theorem cal12 : callable Tryd.prog 12 = true := by kernel_rfl

end Go.Proofs.YthghcialeghgoaaDoorE

/-! The code of a function, in the engine's words. -/
namespace Go.Proofs.YthghcialeghgoaaDoorE
open Go Go.RowKit
@[reducible] def ic14 : IC := (.seq (.ops [⟨some 4, .mov (.const (.bool false)), none⟩]) (.seq (.seq (.ops [⟨some 6, .mov (.tmp 0), none⟩, ⟨some 7, .len (.tmp 6), none⟩, ⟨some 8, .mov (.tmp 1), none⟩, ⟨some 9, .len (.tmp 8), none⟩, ⟨some 10, .bin .neq (.tmp 7) (.tmp 9), none⟩]) (.cond (.tmp 10) (.seq (.ops [⟨some 4, .mov (.const (.bool false)), none⟩]) .ret) .skip)) (.seq (.seq (.ops [⟨some 5, .mov (.const (.int .i64 0)), none⟩]) (.block 0 (.loop (.seq (.seq (.ops [⟨some 11, .mov (.tmp 5), none⟩, ⟨some 12, .mov (.tmp 0), none⟩, ⟨some 13, .len (.tmp 12), none⟩, ⟨some 14, .bin .lss (.tmp 11) (.tmp 13), none⟩]) (.cond (.tmp 14) .skip (.exit 0))) (.seq (.block 1 (.seq (.draw [⟨some 17, .mov (.tmp 0), none⟩, ⟨some 18, .mov (.tmp 5), none⟩, ⟨some 19, .iadr 6 (.tmp 17) (.tmp 18), none⟩, ⟨some 20, .load 6 true (.tmp 19), none⟩, ⟨some 21, .mov (.tmp 1), none⟩, ⟨some 22, .mov (.tmp 5), none⟩, ⟨some 23, .iadr 6 (.tmp 21) (.tmp 22), none⟩, ⟨some 24, .load 6 true (.tmp 23), none⟩, ⟨some 25, .call 38 [(.tmp 20), (.tmp 24)], none⟩, ⟨some 26, .una .not (.tmp 25), none⟩] (.held ⟨some 17, .mov (.tmp 0), none⟩ (.held ⟨some 18, .mov (.tmp 5), none⟩ (.held ⟨some 19, .iadr 6 (.tmp 17) (.tmp 18), none⟩ (.held ⟨some 20, .load 6 true (.tmp 19), none⟩ (.held ⟨some 21, .mov (.tmp 1), none⟩ (.held ⟨some 22, .mov (.tmp 5), none⟩ (.held ⟨some 23, .iadr 6 (.tmp 21) (.tmp 22), none⟩ (.held ⟨some 24, .load 6 true (.tmp 23), none⟩ (.alt ⟨some 25, .call 38 [(.tmp 20), (.tmp 24)], none⟩ (.held ⟨some 26, .una .not (.tmp 25), none⟩ .done) .stop)))))))))) (.cond (.tmp 26) (.seq (.ops [⟨some 4, .mov (.const (.bool false)), none⟩]) .ret) .skip))) (.ops [⟨some 15, .mov (.tmp 5), none⟩, ⟨some 16, .bin .add (.tmp 15) (.const (.int .i64 1)), none⟩, ⟨some 5, .mov (.tmp 16), none⟩])))))) (.seq (.ops [⟨some 4, .mov (.const (.bool true)), none⟩]) .ret))))
@[reducible] def rv14 : List RV := [.tmp 4]
theorem low14 : lowC Tryd.prog tau Tryd.f14.ntmps (Tryd.f14.body.getD .skip) = some (erase ic14) := by kernel_rfl
theorem res14 : lowR Tryd.prog Tryd.f14.results.toList = some rv14 := by kernel_rfl
theorem bod14 : Tryd.f14.body = some (Tryd.f14.body.getD .skip) := by kernel_rfl
theorem cal14 : callable Tryd.prog 14 = true := by kernel_rfl

end Go.Proofs.YthghcialeghgoaaDoorE

/-! The code of a function, in the engine's words. -/
namespace Go.Proofs.YthghcialeghgoaaDoorE
open Go Go.RowKit
@[reducible] def ic15 : IC := (.seq (.ops [⟨some 4, .mov (.const (.int .i64 0)), none⟩]) (.seq (.ops [⟨some 6, .mov (.tmp 1), none⟩, ⟨some 7, .mov (.tmp 0), none⟩, ⟨some 8, .len (.tmp 7), none⟩, ⟨some 9, .bin .sub (.tmp 6) (.tmp 8), none⟩, ⟨some 1, .mov (.tmp 9), none⟩]) (.seq (.seq (.ops [⟨some 10, .mov (.tmp 1), none⟩, ⟨some 11, .bin .lss (.tmp 10) (.const (.int .i64 0)), none⟩]) (.cond (.tmp 11) (.seq (.ops [⟨some 4, .mov (.const (.int .i64 (-1))), none⟩]) .ret) .skip)) (.seq (.seq (.ops [⟨some 5, .mov (.const (.int .i64 0)), none⟩]) (.block 0 (.loop (.seq (.seq (.ops [⟨some 12, .mov (.tmp 5), none⟩, ⟨some 13, .mov (.tmp 0), none⟩, ⟨some 14, .len (.tmp 13), none⟩, ⟨some 15, .bin .lss (.tmp 12) (.tmp 14), none⟩]) (.cond (.tmp 15) .skip (.exit 0))) (.seq (.block 1 (.seq (.ops [⟨some 18, .mov (.tmp 0), none⟩, ⟨some 19, .mov (.tmp 5), none⟩, ⟨some 20, .iadr 2 (.tmp 18) (.tmp 19), none⟩, ⟨some 21, .load 2 true (.tmp 20), none⟩, ⟨some 22, .mov (.tmp 1), none⟩, ⟨some 23, .call 39 [(.tmp 21), (.tmp 22)], none⟩, ⟨some 1, .mov (.tmp 23), none⟩]) (.seq (.ops [⟨some 24, .mov (.tmp 1), none⟩, ⟨some 25, .bin .lss (.tmp 24) (.const (.int .i64 0)), none⟩]) (.cond (.tmp 25) (.seq (.ops [⟨some 4, .mov (.const (.int .i64 (-1))), none⟩]) .ret) .skip)))) (.ops [⟨some 16, .mov (.tmp 5), none⟩, ⟨some 17, .bin .add (.tmp 16) (.const (.int .i64 1)), none⟩, ⟨some 5, .mov (.tmp 17), none⟩])))))) (.seq (.ops [⟨some 26, .mov (.tmp 1), none⟩, ⟨some 4, .mov (.tmp 26), none⟩]) .ret)))))
@[reducible] def rv15 : List RV := [.tmp 4]
theorem low15 : lowC Tryd.prog tau Tryd.f15.ntmps (Tryd.f15.body.getD .skip) = some (erase ic15) := by kernel_rfl
theorem res15 : lowR Tryd.prog Tryd.f15.results.toList = some rv15 := by kernel_rfl
theorem bod15 : Tryd.f15.body = some (Tryd.f15.body.getD .skip) := by kernel_rfl
theorem cal15 : callable Tryd.prog 15 = true := by kernel_rfl

end Go.Proofs.YthghcialeghgoaaDoorE

/-! The code of a function, in the engine's words. -/
namespace Go.Proofs.YthghcialeghgoaaDoorE
open Go Go.RowKit
@[reducible] def ic17 : IC := (.seq (.ops [⟨some 2, .mov (.const (.slice none 0 0)), none⟩]) (.seq (.ops [⟨some 5, .mov (.tmp 0), none⟩, ⟨some 6, .len (.tmp 5), none⟩, ⟨some 7, .mk .prt 32 (.tmp 6) (.tmp 6), none⟩, ⟨some 3, .mov (.tmp 7), none⟩]) (.seq (.seq (.ops [⟨some 4, .mov (.const (.int .i64 0)), none⟩]) (.block 0 (.loop (.seq (.seq (.ops [⟨some 8, .mov (.tmp 4), none⟩, ⟨some 9, .mov (.tmp 0), none⟩, ⟨some 10, .len (.tmp 9), none⟩, ⟨some 11, .bin .lss (.tmp 8) (.tmp 10), none⟩]) (.cond (.tmp 11) .skip (.exit 0))) (.seq (.block 1 (.ops [⟨some 14, .mov (.tmp 3), none⟩, ⟨some 15, .mov (.tmp 4), none⟩, ⟨some 16, .mov (.tmp 0), none⟩, ⟨some 17, .mov (.tmp 4), none⟩, ⟨some 18, .iadr 2 (.tmp 16) (.tmp 17), none⟩, ⟨some 19, .load 2 true (.tmp 18), none⟩, ⟨some 20, .call 41 [(.tmp 19)], none⟩, ⟨some 21, .iadr 2 (.tmp 14) (.tmp 15), none⟩, ⟨none, .store 2 (.tmp 21) (.tmp 20), none⟩])) (.ops [⟨some 12, .mov (.tmp 4), none⟩, ⟨some 13, .bin .add (.tmp 12) (.const (.int .i64 1)), none⟩, ⟨some 4, .mov (.tmp 13), none⟩])))))) (.seq (.ops [⟨some 22, .mov (.tmp 3), none⟩, ⟨some 2, .mov (.tmp 22), none⟩]) .ret))))
@[reducible] def rv17 : List RV := [.tmp 2]
theorem low17 : lowC Tryd.prog tau Tryd.f17.ntmps (Tryd.f17.body.getD .skip) = some (erase ic17) := by kernel_rfl
theorem res17 : lowR Tryd.prog Tryd.f17.results.toList = some rv17 := by kernel_rfl
theorem bod17 : Tryd.f17.body = some (Tryd.f17.body.getD .skip) := by kernel_rfl
theorem cal17 : callable Tryd.prog 17 = true := by kernel_rfl

end Go.Proofs.YthghcialeghgoaaDoorE

/-! The code of a function, in the engine's words. -/
namespace Go.Proofs.YthghcialeghgoaaDoorE
open Go Go.RowKit
@[reducible] def ic19 : IC := (.seq (.ops [⟨some 4, .mov (.const (.bool false)), none⟩]) (.seq (.seq (.ops [⟨some 6, .mov (.tmp 0), none⟩, ⟨some 7, .len (.tmp 6), none⟩, ⟨some 8, .mov (.tmp 1), none⟩, ⟨some 9, .len (.tmp 8), none⟩, ⟨some 10, .bin .neq (.tmp 7) (.tmp 9), none⟩]) (.cond (.tmp 10) (.seq (.ops [⟨some 4, .mov (.const (.bool false)), none⟩]) .ret) .skip)) (.seq (.seq (.ops [⟨some 5, .mov (.const (.int .i64 0)), none⟩]) (.block 0 (.loop (.seq (.seq (.ops [⟨some 11, .mov (.tmp 5), none⟩, ⟨some 12, .mov (.tmp 0), none⟩, ⟨some 13, .len (.tmp 12), none⟩, ⟨some 14, .bin .lss (.tmp 11) (.tmp 13), none⟩]) (.cond (.tmp 14) .skip (.exit 0))) (.seq (.block 1 (.seq (.draw [⟨some 17, .mov (.tmp 0), none⟩, ⟨some 18, .mov (.tmp 5), none⟩, ⟨some 19, .iadr 2 (.tmp 17) (.tmp 18), none⟩, ⟨some 20, .load 2 true (.tmp 19), none⟩, ⟨some 21, .mov (.tmp 1), none⟩, ⟨some 22, .mov (.tmp 5), none⟩, ⟨some 23, .iadr 2 (.tmp 21) (.tmp 22), none⟩, ⟨some 24, .load 2 true (.tmp 23), none⟩, ⟨some 25, .call 42 [(.tmp 20), (.tmp 24)], none⟩, ⟨some 26, .una .not (.tmp 25), none⟩] (.held ⟨some 17, .mov (.tmp 0), none⟩ (.held ⟨some 18, .mov (.tmp 5), none⟩ (.held ⟨some 19, .iadr 2 (.tmp 17) (.tmp 18), none⟩ (.held ⟨some 20, .load 2 true (.tmp 19), none⟩ (.held ⟨some 21, .mov (.tmp 1), none⟩ (.held ⟨some 22, .mov (.tmp 5), none⟩ (.held ⟨some 23, .iadr 2 (.tmp 21) (.tmp 22), none⟩ (.held ⟨some 24, .load 2 true (.tmp 23), none⟩ (.alt ⟨some 25, .call 42 [(.tmp 20), (.tmp 24)], none⟩ (.held ⟨some 26, .una .not (.tmp 25), none⟩ .done) .stop)))))))))) (.cond (.tmp 26) (.seq (.ops [⟨some 4, .mov (.const (.bool false)), none⟩]) .ret) .skip))) (.ops [⟨some 15, .mov (.tmp 5), none⟩, ⟨some 16, .bin .add (.tmp 15) (.const (.int .i64 1)), none⟩, ⟨some 5, .mov (.tmp 16), none⟩])))))) (.seq (.ops [⟨some 4, .mov (.const (.bool true)), none⟩]) .ret))))
@[reducible] def rv19 : List RV := [.tmp 4]
theorem low19 : lowC Tryd.prog tau Tryd.f19.ntmps (Tryd.f19.body.getD .skip) = some (erase ic19) := by kernel_rfl
theorem res19 : lowR Tryd.prog Tryd.f19.results.toList = some rv19 := by kernel_rfl
theorem bod19 : Tryd.f19.body = some (Tryd.f19.body.getD .skip) := by kernel_rfl
theorem cal19 : callable Tryd.prog 19 = true := by kernel_rfl

end Go.Proofs.YthghcialeghgoaaDoorE

/-! The code of a function, in the engine's words. -/
namespace Go.Proofs.YthghcialeghgoaaDoorE
open Go Go.RowKit
@[reducible] def ic30 : IC := (.seq (.ops [⟨some 4, .mov (.const (.int .i64 0)), none⟩]) (.seq (.ops [⟨some 6, .mov (.tmp 1), none⟩, ⟨some 7, .mov (.tmp 0), none⟩, ⟨some 8, .len (.tmp 7), none⟩, ⟨some 9, .bin .sub (.tmp 6) (.tmp 8), none⟩, ⟨some 1, .mov (.tmp 9), none⟩]) (.seq (.seq (.ops [⟨some 10, .mov (.tmp 1), none⟩, ⟨some 11, .bin .lss (.tmp 10) (.const (.int .i64 0)), none⟩]) (.cond (.tmp 11) (.seq (.ops [⟨some 4, .mov (.const (.int .i64 (-1))), none⟩]) .ret) .skip)) (.seq (.seq (.ops [⟨some 5, .mov (.const (.int .i64 0)), none⟩]) (.block 0 (.loop (.seq (.seq (.ops [⟨some 12, .mov (.tmp 5), none⟩, ⟨some 13, .mov (.tmp 0), none⟩, ⟨some 14, .len (.tmp 13), none⟩, ⟨some 15, .bin .lss (.tmp 12) (.tmp 14), none⟩]) (.cond (.tmp 15) .skip (.exit 0))) (.seq (.block 1 (.seq (.ops [⟨some 18, .mov (.tmp 0), none⟩, ⟨some 19, .mov (.tmp 5), none⟩, ⟨some 20, .iadr 2 (.tmp 18) (.tmp 19), none⟩, ⟨some 21, .load 2 true (.tmp 20), none⟩, ⟨some 22, .mov (.tmp 1), none⟩, ⟨some 23, .call 57 [(.tmp 21), (.tmp 22)], none⟩, ⟨some 1, .mov (.tmp 23), none⟩]) (.seq (.ops [⟨some 24, .mov (.tmp 1), none⟩, ⟨some 25, .bin .lss (.tmp 24) (.const (.int .i64 0)), none⟩]) (.cond (.tmp 25) (.seq (.ops [⟨some 4, .mov (.const (.int .i64 (-1))), none⟩]) .ret) .skip)))) (.ops [⟨some 16, .mov (.tmp 5), none⟩, ⟨some 17, .bin .add (.tmp 16) (.const (.int .i64 1)), none⟩, ⟨some 5, .mov (.tmp 17), none⟩])))))) (.seq (.ops [⟨some 26, .mov (.tmp 1), none⟩, ⟨some 4, .mov (.tmp 26), none⟩]) .ret)))))
@[reducible] def rv30 : List RV := [.tmp 4]
theorem low30 : lowC Tryd.prog tau Tryd.f30.ntmps (Tryd.f30.body.getD .skip) = some (erase ic30) := by kernel_rfl
theorem res30 : lowR Tryd.prog Tryd.f30.results.toList = some rv30 := by kernel_rfl
theorem bod30 : Tryd.f30.body = some (Tryd.f30.body.getD .skip) := by kernel_rfl
theorem cal30 : callable Tryd.prog 30 = true := by kernel_rfl

end Go.Proofs.YthghcialeghgoaaDoorE

/-! The code of a function, in the engine's words. -/
namespace Go.Proofs.YthghcialeghgoaaDoorE
open Go Go.RowKit
@[reducible] def ic31 : IC := (.seq (.ops [⟨some 2, .mov (.const (.slice none 0 0)), none⟩]) (.seq (.ops [⟨some 5, .mov (.tmp 0), none⟩, ⟨some 6, .len (.tmp 5), none⟩, ⟨some 7, .mk .prs 24 (.tmp 6) (.tmp 6), none⟩, ⟨some 3, .mov (.tmp 7), none⟩]) (.seq (.seq (.ops [⟨some 4, .mov (.const (.int .i64 0)), none⟩]) (.block 0 (.loop (.seq (.seq (.ops [⟨some 8, .mov (.tmp 4), none⟩, ⟨some 9, .mov (.tmp 0), none⟩, ⟨some 10, .len (.tmp 9), none⟩, ⟨some 11, .bin .lss (.tmp 8) (.tmp 10), none⟩]) (.cond (.tmp 11) .skip (.exit 0))) (.seq (.block 1 (.ops [⟨some 14, .mov (.tmp 3), none⟩, ⟨some 15, .mov (.tmp 4), none⟩, ⟨some 16, .mov (.tmp 0), none⟩, ⟨some 17, .mov (.tmp 4), none⟩, ⟨some 18, .iadr 2 (.tmp 16) (.tmp 17), none⟩, ⟨some 19, .load 2 true (.tmp 18), none⟩, ⟨some 20, .call 58 [(.tmp 19)], none⟩, ⟨some 21, .iadr 2 (.tmp 14) (.tmp 15), none⟩, ⟨none, .store 2 (.tmp 21) (.tmp 20), none⟩])) (.ops [⟨some 12, .mov (.tmp 4), none⟩, ⟨some 13, .bin .add (.tmp 12) (.const (.int .i64 1)), none⟩, ⟨some 4, .mov (.tmp 13), none⟩])))))) (.seq (.ops [⟨some 22, .mov (.tmp 3), none⟩, ⟨some 2, .mov (.tmp 22), none⟩]) .ret))))
@[reducible] def rv31 : List RV := [.tmp 2]
theorem low31 : lowC Tryd.prog tau Tryd.f31.ntmps (Tryd.f31.body.getD .skip) = some (erase ic31) := by kernel_rfl
theorem res31 : lowR Tryd.prog Tryd.f31.results.toList = some rv31 := by kernel_rfl
theorem bod31 : Tryd.f31.body = some (Tryd.f31.body.getD .skip) := by kernel_rfl
theorem cal31 : callable Tryd.prog 31 = true := by kernel_rfl

end Go.Proofs.YthghcialeghgoaaDoorE

/-! The code of a function, in the engine's words. -/
namespace Go.Proofs.YthghcialeghgoaaDoorE
open Go Go.RowKit
@[reducible] def ic32 : IC := (.seq (.ops [⟨some 4, .mov (.const (.bool false)), none⟩]) (.seq (.seq (.ops [⟨some 6, .mov (.tmp 0), none⟩, ⟨some 7, .len (.tmp 6), none⟩, ⟨some 8, .mov (.tmp 1), none⟩, ⟨some 9, .len (.tmp 8), none⟩, ⟨some 10, .bin .neq (.tmp 7) (.tmp 9), none⟩]) (.cond (.tmp 10) (.seq (.ops [⟨some 4, .mov (.const (.bool false)), none⟩]) .ret) .skip)) (.seq (.seq (.ops [⟨some 5, .mov (.const (.int .i64 0)), none⟩]) (.block 0 (.loop (.seq (.seq (.ops [⟨some 11, .mov (.tmp 5), none⟩, ⟨some 12, .mov (.tmp 0), none⟩, ⟨some 13, .len (.tmp 12), none⟩, ⟨some 14, .bin .lss (.tmp 11) (.tmp 13), none⟩]) (.cond (.tmp 14) .skip (.exit 0))) (.seq (.block 1 (.seq (.draw [⟨some 17, .mov (.tmp 0), none⟩, ⟨some 18, .mov (.tmp 5), none⟩, ⟨some 19, .iadr 2 (.tmp 17) (.tmp 18), none⟩, ⟨some 20, .load 2 true (.tmp 19), none⟩, ⟨some 21, .mov (.tmp 1), none⟩, ⟨some 22, .mov (.tmp 5), none⟩, ⟨some 23, .iadr 2 (.tmp 21) (.tmp 22), none⟩, ⟨some 24, .load 2 true (.tmp 23), none⟩, ⟨some 25, .call 59 [(.tmp 20), (.tmp 24)], none⟩, ⟨some 26, .una .not (.tmp 25), none⟩] (.held ⟨some 17, .mov (.tmp 0), none⟩ (.held ⟨some 18, .mov (.tmp 5), none⟩ (.held ⟨some 19, .iadr 2 (.tmp 17) (.tmp 18), none⟩ (.held ⟨some 20, .load 2 true (.tmp 19), none⟩ (.held ⟨some 21, .mov (.tmp 1), none⟩ (.held ⟨some 22, .mov (.tmp 5), none⟩ (.held ⟨some 23, .iadr 2 (.tmp 21) (.tmp 22), none⟩ (.held ⟨some 24, .load 2 true (.tmp 23), none⟩ (.alt ⟨some 25, .call 59 [(.tmp 20), (.tmp 24)], none⟩ (.held ⟨some 26, .una .not (.tmp 25), none⟩ .done) .stop)))))))))) (.cond (.tmp 26) (.seq (.ops [⟨some 4, .mov (.const (.bool false)), none⟩]) .ret) .skip))) (.ops [⟨some 15, .mov (.tmp 5), none⟩, ⟨some 16, .bin .add (.tmp 15) (.const (.int .i64 1)), none⟩, ⟨some 5, .mov (.tmp 16), none⟩])))))) (.seq (.ops [⟨some 4, .mov (.const (.bool true)), none⟩]) .ret))))
@[reducible] def rv32 : List RV := [.tmp 4]
theorem low32 : lowC Tryd.prog tau Tryd.f32.ntmps (Tryd.f32.body.getD .skip) = some (erase ic32) := by kernel_rfl
theorem res32 : lowR Tryd.prog Tryd.f32.results.toList = some rv32 := by kernel_rfl
theorem bod32 : Tryd.f32.body = some (Tryd.f32.body.getD .skip) := by kernel_rfl
theorem cal32 : callable Tryd.prog 32 = true := by kernel_rfl

end Go.Proofs.YthghcialeghgoaaDoorE

/-! The code of a function, in the engine's words. -/
namespace Go.Proofs.YthghcialeghgoaaDoorE
open Go Go.RowKit
@[reducible] def ic33 : IC := (.seq (.ops [⟨some 2, .box (.tmp 0), none⟩, ⟨some 4, .mov (.const (.int .i64 0)), none⟩]) (.seq (.ops [⟨some 5, .mov (.tmp 1), none⟩, ⟨some 6, .fadr 0 (.tmp 2), none⟩, ⟨some 7, .load 1 false (.tmp 6), none⟩, ⟨some 8, .slen (.tmp 7), none⟩, ⟨some 9, .bin .sub (.tmp 5) (.tmp 8), none⟩, ⟨some 1, .mov (.tmp 9), none⟩]) (.seq (.seq (.ops [⟨some 10, .mov (.tmp 1), none⟩, ⟨some 11, .bin .lss (.tmp 10) (.const (.int .i64 0)), none⟩]) (.cond (.tmp 11) (.seq (.ops [⟨some 4, .mov (.const (.int .i64 (-1))), none⟩]) .ret) .skip)) (.seq (.ops [⟨some 12, .mov (.tmp 1), none⟩, ⟨some 13, .fadr 5 (.tmp 2), none⟩, ⟨some 14, .load 1 false (.tmp 13), none⟩, ⟨some 15, .slen (.tmp 14), none⟩, ⟨some 16, .bin .sub (.tmp 12) (.tmp 15), none⟩, ⟨some 1, .mov (.tmp 16), none⟩]) (.seq (.seq (.ops [⟨some 17, .mov (.tmp 1), none⟩, ⟨some 18, .bin .lss (.tmp 17) (.const (.int .i64 0)), none⟩]) (.cond (.tmp 18) (.seq (.ops [⟨some 4, .mov (.const (.int .i64 (-1))), none⟩]) .ret) .skip)) (.seq (.ops [⟨some 19, .mov (.tmp 1), none⟩, ⟨some 4, .mov (.tmp 19), none⟩]) .ret))))))
@[reducible] def rv33 : List RV := [.tmp 4]
theorem low33 : lowC Tryd.prog tau Tryd.f33.ntmps (Tryd.f33.body.getD .skip) = some (erase ic33) := by kernel_rfl
theorem res33 : lowR Tryd.prog Tryd.f33.results.toList = some rv33 := by kernel_rfl
theorem bod33 : Tryd.f33.body = some (Tryd.f33.body.getD .skip) := by kernel_rfl
theorem cal33 : callable Tryd.prog 33 = true := by kernel_rfl

end Go.Proofs.YthghcialeghgoaaDoorE

/-! The code of a function, in the engine's words. -/
namespace Go.Proofs.YthghcialeghgoaaDoorE
open Go Go.RowKit
@[reducible] def ic35 : IC := (.seq (.ops [⟨some 1, .box (.tmp 0), none⟩, ⟨some 2, .new [(.string ⟨#[]⟩), (.int .i64 0), (.int .i64 0), (.int .i64 0), (.int .i64 0), (.string ⟨#[]⟩)], none⟩]) (.seq (.ops [⟨some 3, .new [(.string ⟨#[]⟩), (.int .i64 0), (.int .i64 0), (.int .i64 0), (.int .i64 0), (.string ⟨#[]⟩)], none⟩]) (.seq (.ops [⟨some 4, .fadr 0 (.tmp 1), none⟩, ⟨some 5, .load 1 false (.tmp 4), none⟩, ⟨some 6, .fadr 0 (.tmp 3), none⟩, ⟨none, .store 1 (.tmp 6) (.tmp 5), none⟩]) (.seq (.ops [⟨some 7, .fadr 1 (.tmp 1), none⟩, ⟨some 8, .load 1 false (.tmp 7), none⟩, ⟨some 9, .fadr 1 (.tmp 3), none⟩, ⟨none, .store 1 (.tmp 9) (.tmp 8), none⟩]) (.seq (.ops [⟨some 10, .fadr 2 (.tmp 1), none⟩, ⟨some 11, .load 1 false (.tmp 10), none⟩, ⟨some 12, .fadr 2 (.tmp 3), none⟩, ⟨none, .store 1 (.tmp 12) (.tmp 11), none⟩]) (.seq (.ops [⟨some 13, .fadr 3 (.tmp 1), none⟩, ⟨some 14, .load 1 false (.tmp 13), none⟩, ⟨some 15, .fadr 3 (.tmp 3), none⟩, ⟨none, .store 1 (.tmp 15) (.tmp 14), none⟩]) (.seq (.ops [⟨some 16, .fadr 4 (.tmp 1), none⟩, ⟨some 17, .load 1 false (.tmp 16), none⟩, ⟨some 18, .fadr 4 (.tmp 3), none⟩, ⟨none, .store 1 (.tmp 18) (.tmp 17), none⟩]) (.seq (.ops [⟨some 19, .fadr 5 (.tmp 1), none⟩, ⟨some 20, .load 1 false (.tmp 19), none⟩, ⟨some 21, .fadr 5 (.tmp 3), none⟩, ⟨none, .store 1 (.tmp 21) (.tmp 20), none⟩]) (.seq (.ops [⟨some 22, .load 6 true (.tmp 3), none⟩, ⟨none, .store 6 (.tmp 2) (.tmp 22), none⟩]) .ret)))))))))
@[reducible] def rv35 : List RV := [.cell 2 6 true]
theorem low35 : lowC Tryd.prog tau Tryd.f35.ntmps (Tryd.f35.body.getD .skip) = some (erase ic35) := by kernel_rfl
theorem res35 : lowR Tryd.prog Tryd.f35.results.toList = some rv35 := by kernel_rfl
theorem bod35 : Tryd.f35.body = some (Tryd.f35.body.getD .skip) := by kernel_rfl
theorem cal35 : callable Tryd.prog 35 = true := by kernel_rfl

end Go.Proofs.YthghcialeghgoaaDoorE

/-! The code of a function, in the engine's words. -/
namespace Go.Proofs.YthghcialeghgoaaDoorE
open Go Go.RowKit
@[reducible] def ic38 : IC := (.seq (.ops [⟨some 2, .box (.tmp 0), none⟩, ⟨some 3, .box (.tmp 1), none⟩, ⟨some 4, .mov (.const (.bool false)), none⟩]) (.seq (.seq (.ops [⟨some 5, .fadr 0 (.tmp 2), none⟩, ⟨some 6, .load 1 false (.tmp 5), none⟩, ⟨some 7, .fadr 0 (.tmp 3), none⟩, ⟨some 8, .load 1 false (.tmp 7), none⟩, ⟨some 9, .bin .neq (.tmp 6) (.tmp 8), none⟩]) (.cond (.tmp 9) (.seq (.ops [⟨some 4, .mov (.const (.bool false)), none⟩]) .ret) .skip)) (.seq (.seq (.ops [⟨some 10, .fadr 1 (.tmp 2), none⟩, ⟨some 11, .load 1 false (.tmp 10), none⟩, ⟨some 12, .fadr 1 (.tmp 3), none⟩, ⟨some 13, .load 1 false (.tmp 12), none⟩, ⟨some 14, .bin .neq (.tmp 11) (.tmp 13), none⟩]) (.cond (.tmp 14) (.seq (.ops [⟨some 4, .mov (.const (.bool false)), none⟩]) .ret) .skip)) (.seq (.seq (.ops [⟨some 15, .fadr 2 (.tmp 2), none⟩, ⟨some 16, .load 1 false (.tmp 15), none⟩, ⟨some 17, .fadr 2 (.tmp 3), none⟩, ⟨some 18, .load 1 false (.tmp 17), none⟩, ⟨some 19, .bin .neq (.tmp 16) (.tmp 18), none⟩]) (.cond (.tmp 19) (.seq (.ops [⟨some 4, .mov (.const (.bool false)), none⟩]) .ret) .skip)) (.seq (.seq (.ops [⟨some 20, .fadr 3 (.tmp 2), none⟩, ⟨some 21, .load 1 false (.tmp 20), none⟩, ⟨some 22, .fadr 3 (.tmp 3), none⟩, ⟨some 23, .load 1 false (.tmp 22), none⟩, ⟨some 24, .bin .neq (.tmp 21) (.tmp 23), none⟩]) (.cond (.tmp 24) (.seq (.ops [⟨some 4, .mov (.const (.bool false)), none⟩]) .ret) .skip)) (.seq (.seq (.ops [⟨some 25, .fadr 4 (.tmp 2), none⟩, ⟨some 26, .load 1 false (.tmp 25), none⟩, ⟨some 27, .fadr 4 (.tmp 3), none⟩, ⟨some 28, .load 1 false (.tmp 27), none⟩, ⟨some 29, .bin .neq (.tmp 26) (.tmp 28), none⟩]) (.cond (.tmp 29) (.seq (.ops [⟨some 4, .mov (.const (.bool false)), none⟩]) .ret) .skip)) (.seq (.seq (.ops [⟨some 30, .fadr 5 (.tmp 2), none⟩, ⟨some 31, .load 1 false (.tmp 30), none⟩, ⟨some 32, .fadr 5 (.tmp 3), none⟩, ⟨some 33, .load 1 false (.tmp 32), none⟩, ⟨some 34, .bin .neq (.tmp 31) (.tmp 33), none⟩]) (.cond (.tmp 34) (.seq (.ops [⟨some 4, .mov (.const (.bool false)), none⟩]) .ret) .skip)) (.seq (.ops [⟨some 4, .mov (.const (.bool true)), none⟩]) .ret))))))))
@[reducible] def rv38 : List RV := [.tmp 4]
theorem low38 : lowC Tryd.prog tau Tryd.f38.ntmps (Tryd.f38.body.getD .skip) = some (erase ic38) := by kernel_rfl
theorem res38 : lowR Tryd.prog Tryd.f38.results.toList = some rv38 := by kernel_rfl
theorem bod38 : Tryd.f38.body = some (Tryd.f38.body.getD .skip) := by kernel_rfl
theorem cal38 : callable Tryd.prog 38 = true := by kernel_rfl

end Go.Proofs.YthghcialeghgoaaDoorE

/-! The code of a function, in the engine's words. -/
namespace Go.Proofs.YthghcialeghgoaaDoorE
open Go Go.RowKit
@[reducible] def ic39 : IC := (.seq (.ops [⟨some 2, .box (.tmp 0), none⟩, ⟨some 4, .mov (.const (.int .i64 0)), none⟩]) (.seq (.ops [⟨some 5, .mov (.tmp 1), none⟩, ⟨some 6, .fadr 0 (.tmp 2), none⟩, ⟨some 7, .load 1 false (.tmp 6), none⟩, ⟨some 8, .slen (.tmp 7), none⟩, ⟨some 9, .bin .sub (.tmp 5) (.tmp 8), none⟩, ⟨some 1, .mov (.tmp 9), none⟩]) (.seq (.seq (.ops [⟨some 10, .mov (.tmp 1), none⟩, ⟨some 11, .bin .lss (.tmp 10) (.const (.int .i64 0)), none⟩]) (.cond (.tmp 11) (.seq (.ops [⟨some 4, .mov (.const (.int .i64 (-1))), none⟩]) .ret) .skip)) (.seq (.ops [⟨some 12, .mov (.tmp 1), none⟩, ⟨some 13, .fadr 1 (.tmp 2), none⟩, ⟨some 14, .load 1 false (.tmp 13), none⟩, ⟨some 15, .slen (.tmp 14), none⟩, ⟨some 16, .bin .sub (.tmp 12) (.tmp 15), none⟩, ⟨some 1, .mov (.tmp 16), none⟩]) (.seq (.seq (.ops [⟨some 17, .mov (.tmp 1), none⟩, ⟨some 18, .bin .lss (.tmp 17) (.const (.int .i64 0)), none⟩]) (.cond (.tmp 18) (.seq (.ops [⟨some 4, .mov (.const (.int .i64 (-1))), none⟩]) .ret) .skip)) (.seq (.ops [⟨some 19, .mov (.tmp 1), none⟩, ⟨some 4, .mov (.tmp 19), none⟩]) .ret))))))
@[reducible] def rv39 : List RV := [.tmp 4]
theorem low39 : lowC Tryd.prog tau Tryd.f39.ntmps (Tryd.f39.body.getD .skip) = some (erase ic39) := by kernel_rfl
theorem res39 : lowR Tryd.prog Tryd.f39.results.toList = some rv39 := by kernel_rfl
theorem bod39 : Tryd.f39.body = some (Tryd.f39.body.getD .skip) := by kernel_rfl
theorem cal39 : callable Tryd.prog 39 = true := by kernel_rfl

end Go.Proofs.YthghcialeghgoaaDoorE

/-! The code of a function, in the engine's words. -/
namespace Go.Proofs.YthghcialeghgoaaDoorE
open Go Go.RowKit
@[reducible] def ic41 : IC := (.seq (.ops [⟨some 1, .box (.tmp 0), none⟩, ⟨some 2, .new [(.string ⟨#[]⟩), (.string ⟨#[]⟩)], none⟩]) (.seq (.ops [⟨some 3, .new [(.string ⟨#[]⟩), (.string ⟨#[]⟩)], none⟩]) (.seq (.ops [⟨some 4, .fadr 0 (.tmp 1), none⟩, ⟨some 5, .load 1 false (.tmp 4), none⟩, ⟨some 6, .fadr 0 (.tmp 3), none⟩, ⟨none, .store 1 (.tmp 6) (.tmp 5), none⟩]) (.seq (.ops [⟨some 7, .fadr 1 (.tmp 1), none⟩, ⟨some 8, .load 1 false (.tmp 7), none⟩, ⟨some 9, .fadr 1 (.tmp 3), none⟩, ⟨none, .store 1 (.tmp 9) (.tmp 8), none⟩]) (.seq (.ops [⟨some 10, .load 2 true (.tmp 3), none⟩, ⟨none, .store 2 (.tmp 2) (.tmp 10), none⟩]) .ret)))))
@[reducible] def rv41 : List RV := [.cell 2 2 true]
theorem low41 : lowC Tryd.prog tau Tryd.f41.ntmps (Tryd.f41.body.getD .skip) = some (erase ic41) := by kernel_rfl
theorem res41 : lowR Tryd.prog Tryd.f41.results.toList = some rv41 := by kernel_rfl
theorem bod41 : Tryd.f41.body = some (Tryd.f41.body.getD .skip) := by kernel_rfl
theorem cal41 : callable Tryd.prog 41 = true := by kernel_rfl

end Go.Proofs.YthghcialeghgoaaDoorE

/-! The code of a function, in the engine's words. -/
namespace Go.Proofs.YthghcialeghgoaaDoorE
open Go Go.RowKit
@[reducible] def ic42 : IC := (.seq (.ops [⟨some 2, .box (.tmp 0), none⟩, ⟨some 3, .box (.tmp 1), none⟩, ⟨some 4, .mov (.const (.bool false)), none⟩]) (.seq (.seq (.ops [⟨some 5, .fadr 0 (.tmp 2), none⟩, ⟨some 6, .load 1 false (.tmp 5), none⟩, ⟨some 7, .fadr 0 (.tmp 3), none⟩, ⟨some 8, .load 1 false (.tmp 7), none⟩, ⟨some 9, .bin .neq (.tmp 6) (.tmp 8), none⟩]) (.cond (.tmp 9) (.seq (.ops [⟨some 4, .mov (.const (.bool false)), none⟩]) .ret) .skip)) (.seq (.seq (.ops [⟨some 10, .fadr 1 (.tmp 2), none⟩, ⟨some 11, .load 1 false (.tmp 10), none⟩, ⟨some 12, .fadr 1 (.tmp 3), none⟩, ⟨some 13, .load 1 false (.tmp 12), none⟩, ⟨some 14, .bin .neq (.tmp 11) (.tmp 13), none⟩]) (.cond (.tmp 14) (.seq (.ops [⟨some 4, .mov (.const (.bool false)), none⟩]) .ret) .skip)) (.seq (.ops [⟨some 4, .mov (.const (.bool true)), none⟩]) .ret))))
@[reducible] def rv42 : List RV := [.tmp 4]
theorem low42 : lowC Tryd.prog tau Tryd.f42.ntmps (Tryd.f42.body.getD .skip) = some (erase ic42) := by kernel_rfl
theorem res42 : lowR Tryd.prog Tryd.f42.results.toList = some rv42 := by kernel_rfl
theorem bod42 : Tryd.f42.body = some (Tryd.f42.body.getD .skip) := by kernel_rfl
theorem cal42 : callable Tryd.prog 42 = true := by kernel_rfl

end Go.Proofs.YthghcialeghgoaaDoorE

/-! The code of a function, in the engine's words. -/
namespace Go.Proofs.YthghcialeghgoaaDoorE
open Go Go.RowKit
@[reducible] def ic57 : IC := (.seq (.ops [⟨some 2, .box (.tmp 0), none⟩, ⟨some 4, .mov (.const (.int .i64 0)), none⟩]) (.seq (.ops [⟨some 5, .mov (.tmp 1), none⟩, ⟨some 6, .fadr 1 (.tmp 2), none⟩, ⟨some 7, .load 1 false (.tmp 6), none⟩, ⟨some 8, .slen (.tmp 7), none⟩, ⟨some 9, .bin .sub (.tmp 5) (.tmp 8), none⟩, ⟨some 1, .mov (.tmp 9), none⟩]) (.seq (.seq (.ops [⟨some 10, .mov (.tmp 1), none⟩, ⟨some 11, .bin .lss (.tmp 10) (.const (.int .i64 0)), none⟩]) (.cond (.tmp 11) (.seq (.ops [⟨some 4, .mov (.const (.int .i64 (-1))), none⟩]) .ret) .skip)) (.seq (.ops [⟨some 12, .mov (.tmp 1), none⟩, ⟨some 4, .mov (.tmp 12), none⟩]) .ret))))
@[reducible] def rv57 : List RV := [.tmp 4]
theorem low57 : lowC Tryd.prog tau Tryd.f57.ntmps (Tryd.f57.body.getD .skip) = some (erase ic57) := by kernel_rfl
theorem res57 : lowR Tryd.prog Tryd.f57.results.toList = some rv57 := by kernel_rfl
theorem bod57 : Tryd.f57.body = some (Tryd.f57.body.getD .skip) := by kernel_rfl
theorem cal57 : callable Tryd.prog 57 = true := by kernel_rfl

end Go.Proofs.YthghcialeghgoaaDoorE

/-! The code of a function, in the engine's words. -/
namespace Go.Proofs.YthghcialeghgoaaDoorE
open Go Go.RowKit
@[reducible] def ic58 : IC := (.seq (.ops [⟨some 1, .box (.tmp 0), none⟩, ⟨some 2, .new [(.int .i64 0), (.string ⟨#[]⟩)], none⟩]) (.seq (.ops [⟨some 3, .new [(.int .i64 0), (.string ⟨#[]⟩)], none⟩]) (.seq (.ops [⟨some 4, .fadr 0 (.tmp 1), none⟩, ⟨some 5, .load 1 false (.tmp 4), none⟩, ⟨some 6, .fadr 0 (.tmp 3), none⟩, ⟨none, .store 1 (.tmp 6) (.tmp 5), none⟩]) (.seq (.ops [⟨some 7, .fadr 1 (.tmp 1), none⟩, ⟨some 8, .load 1 false (.tmp 7), none⟩, ⟨some 9, .fadr 1 (.tmp 3), none⟩, ⟨none, .store 1 (.tmp 9) (.tmp 8), none⟩]) (.seq (.ops [⟨some 10, .load 2 true (.tmp 3), none⟩, ⟨none, .store 2 (.tmp 2) (.tmp 10), none⟩]) .ret)))))
@[reducible] def rv58 : List RV := [.cell 2 2 true]
theorem low58 : lowC Tryd.prog tau Tryd.f58.ntmps (Tryd.f58.body.getD .skip) = some (erase ic58) := by kernel_rfl
theorem res58 : lowR Tryd.prog Tryd.f58.results.toList = some rv58 := by kernel_rfl
theorem bod58 : Tryd.f58.body = some (Tryd.f58.body.getD .skip) := by kernel_rfl
theorem cal58 : callable Tryd.prog 58 = true := by kernel_rfl

end Go.Proofs.YthghcialeghgoaaDoorE

/-! The code of a function, in the engine's words. -/
namespace Go.Proofs.YthghcialeghgoaaDoorE
open Go Go.RowKit
@[reducible] def ic59 : IC := (.seq (.ops [⟨some 2, .box (.tmp 0), none⟩, ⟨some 3, .box (.tmp 1), none⟩, ⟨some 4, .mov (.const (.bool false)), none⟩]) (.seq (.seq (.ops [⟨some 5, .fadr 0 (.tmp 2), none⟩, ⟨some 6, .load 1 false (.tmp 5), none⟩, ⟨some 7, .fadr 0 (.tmp 3), none⟩, ⟨some 8, .load 1 false (.tmp 7), none⟩, ⟨some 9, .bin .neq (.tmp 6) (.tmp 8), none⟩]) (.cond (.tmp 9) (.seq (.ops [⟨some 4, .mov (.const (.bool false)), none⟩]) .ret) .skip)) (.seq (.seq (.ops [⟨some 10, .fadr 1 (.tmp 2), none⟩, ⟨some 11, .load 1 false (.tmp 10), none⟩, ⟨some 12, .fadr 1 (.tmp 3), none⟩, ⟨some 13, .load 1 false (.tmp 12), none⟩, ⟨some 14, .bin .neq (.tmp 11) (.tmp 13), none⟩]) (.cond (.tmp 14) (.seq (.ops [⟨some 4, .mov (.const (.bool false)), none⟩]) .ret) .skip)) (.seq (.ops [⟨some 4, .mov (.const (.bool true)), none⟩]) .ret))))
@[reducible] def rv59 : List RV := [.tmp 4]
theorem low59 : lowC Tryd.prog tau Tryd.f59.ntmps (Tryd.f59.body.getD .skip) = some (erase ic59) := by kernel_rfl
theorem res59 : lowR Tryd.prog Tryd.f59.results.toList = some rv59 := by kernel_rfl
theorem bod59 : Tryd.f59.body = some (Tryd.f59.body.getD .skip) := by kernel_rfl
theorem cal59 : callable Tryd.prog 59 = true := by kernel_rfl

end Go.Proofs.YthghcialeghgoaaDoorE

/-! The code of a function, in the engine's words. -/
namespace Go.Proofs.YthghcialeghgoaaDoorE
open Go Go.RowKit
@[reducible] def ic37 : IC := (.seq (.ops [⟨some 6, .mov (.const (.bool false)), none⟩]) (.seq (.ops [⟨some 7, .mov (.tmp 0), none⟩, ⟨some 8, .mov (.tmp 1), none⟩, ⟨some 9, .bin .geq (.tmp 7) (.tmp 8), none⟩, ⟨some 10, .mov (.tmp 9), none⟩, ⟨some 11, .mov (.tmp 0), some (10, true)⟩, ⟨some 12, .mov (.tmp 2), some (10, true)⟩, ⟨some 13, .bin .leq (.tmp 11) (.tmp 12), some (10, true)⟩, ⟨some 14, .pick (.tmp 10) (.tmp 13) (.const (.bool false)), none⟩, ⟨some 6, .mov (.tmp 14), none⟩]) .ret))
@[reducible] def rv37 : List RV := [.tmp 6]
theorem low37 : lowC Tryd.prog tau Tryd.f37.ntmps (Tryd.f37.body.getD .skip) = some (erase ic37) := by kernel_rfl
theorem res37 : lowR Tryd.prog Tryd.f37.results.toList = some rv37 := by kernel_rfl
theorem bod37 : Tryd.f37.body = some (Tryd.f37.body.getD .skip) := by kernel_rfl
theorem cal37 : callable Tryd.prog 37 = true := by kernel_rfl

end Go.Proofs.YthghcialeghgoaaDoorE

/-! The code of a function, in the engine's words. -/
namespace Go.Proofs.YthghcialeghgoaaDoorE
open Go Go.RowKit
@[reducible] def ic49 : IC := (.seq (.ops [⟨some 6, .mov (.const (.bool false)), none⟩]) (.seq (.ops [⟨some 7, .mov (.tmp 0), none⟩, ⟨some 8, .mov (.tmp 1), none⟩, ⟨some 9, .bin .geq (.tmp 7) (.tmp 8), none⟩, ⟨some 10, .mov (.tmp 9), none⟩, ⟨some 11, .mov (.tmp 0), some (10, true)⟩, ⟨some 12, .mov (.tmp 2), some (10, true)⟩, ⟨some 13, .bin .leq (.tmp 11) (.tmp 12), some (10, true)⟩, ⟨some 14, .pick (.tmp 10) (.tmp 13) (.const (.bool false)), none⟩, ⟨some 6, .mov (.tmp 14), none⟩]) .ret))
@[reducible] def rv49 : List RV := [.tmp 6]
theorem low49 : lowC Tryd.prog tau Tryd.f49.ntmps (Tryd.f49.body.getD .skip) = some (erase ic49) := by kernel_rfl
theorem res49 : lowR Tryd.prog Tryd.f49.results.toList = some rv49 := by kernel_rfl
theorem bod49 : Tryd.f49.body = some (Tryd.f49.body.getD .skip) := by kernel_rfl
theorem cal49 : callable Tryd.prog 49 = true := by kernel_rfl

end Go.Proofs.YthghcialeghgoaaDoorE

/-! The code of a function, in the engine's words. -/
namespace Go.Proofs.YthghcialeghgoaaDoorE
open Go Go.RowKit
@[reducible] def ic61 : IC := (.seq (.ops [⟨some 2, .mov (.const (.bool false)), none⟩]) (.seq (.ops [⟨some 3, .mov (.tmp 0), none⟩, ⟨some 4, .bin .geq (.tmp 3) (.const (.int .u8 48)), none⟩, ⟨some 5, .mov (.tmp 4), none⟩, ⟨some 6, .mov (.tmp 0), some (5, true)⟩, ⟨some 7, .bin .leq (.tmp 6) (.const (.int .u8 57)), some (5, true)⟩, ⟨some 8, .pick (.tmp 5) (.tmp 7) (.const (.bool false)), none⟩, ⟨some 9, .mov (.tmp 8), none⟩, ⟨some 10, .mov (.tmp 0), some (9, false)⟩, ⟨some 11, .bin .eql (.tmp 10) (.const (.int .u8 42)), some (9, false)⟩, ⟨some 12, .pick (.tmp 9) (.const (.bool true)) (.tmp 11), none⟩, ⟨some 13, .mov (.tmp 12), none⟩, ⟨some 14, .mov (.tmp 0), some (13, false)⟩, ⟨some 15, .bin .eql (.tmp 14) (.const (.int .u8 35)), some (13, false)⟩, ⟨some 16, .pick (.tmp 13) (.const (.bool true)) (.tmp 15), none⟩, ⟨some 2, .mov (.tmp 16), none⟩]) .ret))
@[reducible] def rv61 : List RV := [.tmp 2]
theorem low61 : lowC Tryd.prog tau Tryd.f61.ntmps (Tryd.f61.body.getD .skip) = some (erase ic61) := by kernel_rfl
theorem res61 : lowR Tryd.prog Tryd.f61.results.toList = some rv61 := by kernel_rfl
theorem bod61 : Tryd.f61.body = some (Tryd.f61.body.getD .skip) := by kernel_rfl
theorem cal61 : callable Tryd.prog 61 = true := by kernel_rfl

end Go.Proofs.YthghcialeghgoaaDoorE

/-! The code of a function, in the engine's words. -/
namespace Go.Proofs.YthghcialeghgoaaDoorE
open Go Go.RowKit
@[reducible] def ic40 : IC := (.seq (.ops [⟨some 2, .mov (.const (.bool false)), none⟩]) (.seq (.seq (.ops [⟨some 3, .mov (.const (.int .i64 0)), none⟩]) (.block 0 (.loop (.seq (.seq (.ops [⟨some 4, .mov (.tmp 3), none⟩, ⟨some 5, .mov (.tmp 0), none⟩, ⟨some 6, .slen (.tmp 5), none⟩, ⟨some 7, .bin .lss (.tmp 4) (.tmp 6), none⟩]) (.cond (.tmp 7) .skip (.exit 0))) (.seq (.block 1 (.seq (.ops [⟨some 10, .mov (.tmp 0), none⟩, ⟨some 11, .mov (.tmp 3), none⟩, ⟨some 12, .sidx (.tmp 10) (.tmp 11), none⟩, ⟨some 13, .call 61 [(.tmp 12)], none⟩, ⟨some 14, .una .not (.tmp 13), none⟩]) (.cond (.tmp 14) (.seq (.ops [⟨some 2, .mov (.const (.bool false)), none⟩]) .ret) .skip))) (.ops [⟨some 8, .mov (.tmp 3), none⟩, ⟨some 9, .bin .add (.tmp 8) (.const (.int .i64 1)), none⟩, ⟨some 3, .mov (.tmp 9), none⟩])))))) (.seq (.ops [⟨some 15, .mov (.tmp 0), none⟩, ⟨some 16, .slen (.tmp 15), none⟩, ⟨some 17, .bin .leq (.tmp 16) (.const (.int .i64 20)), none⟩, ⟨some 2, .mov (.tmp 17), none⟩]) .ret)))
@[reducible] def rv40 : List RV := [.tmp 2]
theorem low40 : lowC Tryd.prog tau Tryd.f40.ntmps (Tryd.f40.body.getD .skip) = some (erase ic40) := by kernel_rfl
theorem res40 : lowR Tryd.prog Tryd.f40.results.toList = some rv40 := by kernel_rfl
theorem bod40 : Tryd.f40.body = some (Tryd.f40.body.getD .skip) := by kernel_rfl
theorem cal40 : callable Tryd.prog 40 = true := by kernel_rfl

end Go.Proofs.YthghcialeghgoaaDoorE

/-! Rows of structs with strings: size, copy, compare; digits. -/
namespace Go.Proofs.YthghcialeghgoaaDoorE
open Go Go.RowKit
set_option linter.unusedSimpArgs false
set_option linter.unusedVariables false
set_option maxRecDepth 20000
set_option maxHeartbeats 4000000

theorem take_step {α : Type} {xs ys : List α} {k : Nat} (d : α) (h : xs.take k = ys.take k) (h1 : k < xs.length) (h2 : k < ys.length) (he : xs.getD k d = ys.getD k d) : xs.take (k + 1) = ys.take (k + 1) := by
  rw [List.take_succ_eq_append_getElem h1, List.take_succ_eq_append_getElem h2, h]
  simp [List.getD, List.getElem?_eq_getElem h1, List.getElem?_eq_getElem h2] at he
  rw [he]
theorem take_all {α : Type} {xs ys : List α} {k : Nat} (h : xs.take k = ys.take k) (hl : xs.length = ys.length) (hk : xs.length ≤ k) : xs = ys := by
  rwa [List.take_of_length_le hk, List.take_of_length_le (by omega)] at h
theorem rule_ext {a b : Rul} (h0 : a.pre = b.pre) (h1 : a.least = b.least) (h2 : a.most = b.most) (h3 : a.route = b.route) (h4 : a.strip = b.strip) (h5 : a.add = b.add) : a = b := by cases a; cases b; simp_all
abbrev Rulz : Rul := ⟨⟨#[]⟩, 0, 0, 0, 0, ⟨#[]⟩⟩
def szRulOk (x : Rul) (n : Nat) : Prop := x.pre.size ≤ n ∧ x.add.size ≤ n
def szRulAll (l : List Rul) (n : Nat) : Prop := ∀ i, i < l.length → szRulOk (l.getD i (⟨⟨#[]⟩, 0, 0, 0, 0, ⟨#[]⟩⟩ : Rul)) n
def spSzRul : Spec := ⟨fun _ _ => [], fun args objs K => match args, objs with
  | [.agg [.v (.string a0), .v (.int .i64 a1), .v (.int .i64 a2), .v (.int .i64 a3), .v (.int .i64 a4), .v (.string a5)], .v (.int .i64 n)], [] => ((a0.size ≤ 140737488351232 ∧ a5.size ≤ 140737488351232) ∧ 0 ≤ n ∧ n ≤ 1099511627776) ∧ ∀ r : Int, (r = -1 ∨ (0 ≤ r ∧ r ≤ n ∧ (a0.size : Int) ≤ n ∧ (a5.size : Int) ≤ n)) → K (.v (.int .i64 r)) [] 0
  | _, _ => False, false⟩
theorem spSzRul_t {L : Hp} {a : List AVal} : Spec.take spSzRul L a = [] := id rfl
theorem spSzRul_k : Spec.keep spSzRul = false := id rfl
theorem spSzRul_f {a0} {a1} {a2} {a3} {a4} {a5} {n} {K : AVal → Hp → Nat → Prop} : Spec.f spSzRul ([.agg [.v (.string a0), .v (.int .i64 a1), .v (.int .i64 a2), .v (.int .i64 a3), .v (.int .i64 a4), .v (.string a5)], .v (.int .i64 n)]) ([]) K = (((a0.size ≤ 140737488351232 ∧ a5.size ≤ 140737488351232) ∧ 0 ≤ n ∧ n ≤ 1099511627776) ∧ ∀ r : Int, (r = -1 ∨ (0 ≤ r ∧ r ≤ n ∧ (a0.size : Int) ≤ n ∧ (a5.size : Int) ≤ n)) → K (.v (.int .i64 r)) [] 0) := id rfl
theorem valid33 : Valid Tryd.prog 33 spSzRul := by
  refine validI (Γ := lk []) Tryd.func33 bod33 low33 res33 (good_of trivial) ?_
  intro E args objs K h hE hG hP
  simp only [spSzRul] at h
  split at h
  · refine ⟨by simp [Tryd.ntmps33], ?_⟩
    rename_i a0 a1 a2 a3 a4 a5 n
    obtain ⟨⟨hs, hn0, hn1⟩, h⟩ := h
    simp (config := { maxSteps := 2000000 }) only [go_sem, hG, hP, Nat.reduceEqDiff, ↓reduceIte, reduceCtorEq, Nat.reduceAdd, Nat.reduceSub, Nat.reduceMul, Nat.reduceLT, Nat.reduceLeDiff, Int.reduceAdd, Int.reduceSub, Int.reduceMul, Int.reduceLT, Int.reduceLE, Int.reduceEq, Int.reduceNeg, Int.reduceNe, Int.reduceGE, Int.reduceGT, Nat.reduceBEq, Int.reduceToNat]
    (try simp (disch := omega) only [wrap_id])
    repeat' (first | (refine And.intro ?_ ?_) | (with_reducible intro _))
    all_goals first
      | (refine ⟨_, _, _, ?_, h (-1) (.inl rfl)⟩; simp (config := { maxSteps := 2000000 }) only [go_sem, hG, hP, Nat.reduceEqDiff, ↓reduceIte, reduceCtorEq, Nat.reduceAdd, Nat.reduceSub, Nat.reduceMul, Nat.reduceLT, Nat.reduceLeDiff, Int.reduceAdd, Int.reduceSub, Int.reduceMul, Int.reduceLT, Int.reduceLE, Int.reduceEq, Int.reduceNeg, Int.reduceNe, Int.reduceGE, Int.reduceGT, Nat.reduceBEq, Int.reduceToNat]; done)
      | (refine ⟨_, _, _, ?_, h (n - (a0.size : Int) - (a5.size : Int)) (.inr ⟨by omega, by omega, by omega, by omega⟩)⟩; simp (config := { maxSteps := 2000000 }) only [go_sem, hG, hP, Nat.reduceEqDiff, ↓reduceIte, reduceCtorEq, Nat.reduceAdd, Nat.reduceSub, Nat.reduceMul, Nat.reduceLT, Nat.reduceLeDiff, Int.reduceAdd, Int.reduceSub, Int.reduceMul, Int.reduceLT, Int.reduceLE, Int.reduceEq, Int.reduceNeg, Int.reduceNe, Int.reduceGE, Int.reduceGT, Nat.reduceBEq, Int.reduceToNat]; done)
  · exact h.elim
def spSzRulS : Spec := ⟨fun _ _ => [], fun args objs K => match args, objs with
  | [.rs .rule xs, .v (.int .i64 n)], [] => (szRulAll xs 140737488351232 ∧ xs.length ≤ 17592186044416 ∧ 0 ≤ n ∧ n ≤ 1099511627776) ∧ ∀ r : Int, (r = -1 ∨ (0 ≤ r ∧ r ≤ n ∧ (xs.length : Int) ≤ n ∧ szRulAll xs n.toNat)) → K (.v (.int .i64 r)) [] 0
  | _, _ => False, false⟩
theorem spSzRulS_t {L : Hp} {a : List AVal} : Spec.take spSzRulS L a = [] := id rfl
theorem spSzRulS_k : Spec.keep spSzRulS = false := id rfl
theorem spSzRulS_f {xs} {n} {K : AVal → Hp → Nat → Prop} : Spec.f spSzRulS ([.rs .rule xs, .v (.int .i64 n)]) ([]) K = ((szRulAll xs 140737488351232 ∧ xs.length ≤ 17592186044416 ∧ 0 ≤ n ∧ n ≤ 1099511627776) ∧ ∀ r : Int, (r = -1 ∨ (0 ≤ r ∧ r ≤ n ∧ (xs.length : Int) ≤ n ∧ szRulAll xs n.toNat)) → K (.v (.int .i64 r)) [] 0) := id rfl
theorem valid10 : Valid Tryd.prog 10 spSzRulS := by
  refine validI (Γ := lk [(33, spSzRul)]) Tryd.func10 bod10 low10 res10 (good_of ⟨⟨cal33, valid33⟩, trivial⟩) ?_
  intro E args objs K h hE hG hP
  simp only [spSzRulS] at h
  split at h
  · refine ⟨by simp [Tryd.ntmps10], ?_⟩
    rename_i xs n
    obtain ⟨⟨hs, hl, hn0, hn1⟩, h⟩ := h
    have w1 : wr .i64 (n - xs.length) = n - xs.length := wrap_id (by omega) (by omega)
    by_cases hneg : n - xs.length < 0
    · have e1 := eq_true hneg
      simp (config := { maxSteps := 2000000 }) only [go_sem, hG, hP, Nat.reduceEqDiff, ↓reduceIte, reduceCtorEq, Nat.reduceAdd, Nat.reduceSub, Nat.reduceMul, Nat.reduceLT, Nat.reduceLeDiff, Int.reduceAdd, Int.reduceSub, Int.reduceMul, Int.reduceLT, Int.reduceLE, Int.reduceEq, Int.reduceNeg, Int.reduceNe, Int.reduceGE, Int.reduceGT, Nat.reduceBEq, Int.reduceToNat,  w1, e1]
      refine ⟨_, _, _, ?_, h (-1) (.inl rfl)⟩
      simp (config := { maxSteps := 2000000 }) only [go_sem, hG, hP, Nat.reduceEqDiff, ↓reduceIte, reduceCtorEq, Nat.reduceAdd, Nat.reduceSub, Nat.reduceMul, Nat.reduceLT, Nat.reduceLeDiff, Int.reduceAdd, Int.reduceSub, Int.reduceMul, Int.reduceLT, Int.reduceLE, Int.reduceEq, Int.reduceNeg, Int.reduceNe, Int.reduceGE, Int.reduceGT, Nat.reduceBEq, Int.reduceToNat]
    · have e1 := eq_false hneg
      simp (config := { maxSteps := 2000000 }) only [go_sem, hG, hP, Nat.reduceEqDiff, ↓reduceIte, reduceCtorEq, Nat.reduceAdd, Nat.reduceSub, Nat.reduceMul, Nat.reduceLT, Nat.reduceLeDiff, Int.reduceAdd, Int.reduceSub, Int.reduceMul, Int.reduceLT, Int.reduceLE, Int.reduceEq, Int.reduceNeg, Int.reduceNe, Int.reduceGE, Int.reduceGT, Nat.reduceBEq, Int.reduceToNat,  w1, e1]
      refine loopI hE (fun p : Nat × Int => ⟨[(0, .rs .rule xs), (1, .v (.int .i64 p.2)), (5, .v (.int .i64 p.1))], [], 0, Tryd.f10.ntmps⟩) (fun p => p.1 ≤ xs.length ∧ (0 ≤ p.2 ∧ p.2 ≤ n) ∧ ∀ i, i < p.1 → szRulOk (xs.getD i (⟨⟨#[]⟩, 0, 0, 0, 0, ⟨#[]⟩⟩ : Rul)) n.toNat) (fun p => xs.length - p.1) ⟨(0, n - xs.length), ⟨by dsimp only; omega, ⟨by dsimp only; omega, by dsimp only; omega⟩, fun i hi => by dsimp only at hi; omega⟩, SubS.weak ?_⟩ ?_
      · simp (config := { maxSteps := 2000000 }) only [go_sem, hG, hP, Nat.reduceEqDiff, ↓reduceIte, reduceCtorEq, Nat.reduceAdd, Nat.reduceSub, Nat.reduceMul, Nat.reduceLT, Nat.reduceLeDiff, Int.reduceAdd, Int.reduceSub, Int.reduceMul, Int.reduceLT, Int.reduceLE, Int.reduceEq, Int.reduceNeg, Int.reduceNe, Int.reduceGE, Int.reduceGT, Nat.reduceBEq, Int.reduceToNat]
        repeat' (first | with_reducible rfl | (refine And.intro ?_ ?_) | (refine congrArg (Value.int _) ?_; omega) | omega)
      · rintro ⟨k, m⟩ ⟨k1, k2, k3⟩
        dsimp only at k1 k2 k3 ⊢
        by_cases hk : k < xs.length
        · have e2 : ((k : Int) < xs.length) = True := by apply eq_true; omega
          have hsk := hs k hk
          unfold szRulOk at hsk
          simp (config := { maxSteps := 2000000 }) only [go_sem, hG, hP, Nat.reduceEqDiff, ↓reduceIte, reduceCtorEq, Nat.reduceAdd, Nat.reduceSub, Nat.reduceMul, Nat.reduceLT, Nat.reduceLeDiff, Int.reduceAdd, Int.reduceSub, Int.reduceMul, Int.reduceLT, Int.reduceLE, Int.reduceEq, Int.reduceNeg, Int.reduceNe, Int.reduceGE, Int.reduceGT, Nat.reduceBEq, Int.reduceToNat,  spSzRul_f, spSzRul_t, spSzRul_k, e2]
          (try simp (disch := omega) only [wrap_id])
          repeat (refine And.intro (by first | omega | (simp; done) | (simp; omega) | (unfold appRoom; omega)) ?_)
          rintro r hr
          refine ⟨fun hng => ⟨_, _, _, ?_, h (-1) (.inl rfl)⟩, fun hps => ⟨(k + 1, r), ⟨⟨by dsimp only; omega, ⟨by dsimp only; omega, by dsimp only; omega⟩, fun i hi => ?_⟩, by dsimp only; omega⟩, SubS.weak ?_⟩⟩
          · simp (config := { maxSteps := 2000000 }) only [go_sem, hG, hP, Nat.reduceEqDiff, ↓reduceIte, reduceCtorEq, Nat.reduceAdd, Nat.reduceSub, Nat.reduceMul, Nat.reduceLT, Nat.reduceLeDiff, Int.reduceAdd, Int.reduceSub, Int.reduceMul, Int.reduceLT, Int.reduceLE, Int.reduceEq, Int.reduceNeg, Int.reduceNe, Int.reduceGE, Int.reduceGT, Nat.reduceBEq, Int.reduceToNat]
          · dsimp only at hi
            by_cases e : i < k
            · exact k3 i e
            · obtain rfl : i = k := by omega
              unfold szRulOk
              omega
          · simp (config := { maxSteps := 2000000 }) only [go_sem, hG, hP, Nat.reduceEqDiff, ↓reduceIte, reduceCtorEq, Nat.reduceAdd, Nat.reduceSub, Nat.reduceMul, Nat.reduceLT, Nat.reduceLeDiff, Int.reduceAdd, Int.reduceSub, Int.reduceMul, Int.reduceLT, Int.reduceLE, Int.reduceEq, Int.reduceNeg, Int.reduceNe, Int.reduceGE, Int.reduceGT, Nat.reduceBEq, Int.reduceToNat]
            repeat' (first | with_reducible rfl | (refine And.intro ?_ ?_) | (refine congrArg (Value.int _) ?_; omega) | omega)
        · have e2 : ((k : Int) < xs.length) = False := by apply eq_false; omega
          simp (config := { maxSteps := 2000000 }) only [go_sem, hG, hP, Nat.reduceEqDiff, ↓reduceIte, reduceCtorEq, Nat.reduceAdd, Nat.reduceSub, Nat.reduceMul, Nat.reduceLT, Nat.reduceLeDiff, Int.reduceAdd, Int.reduceSub, Int.reduceMul, Int.reduceLT, Int.reduceLE, Int.reduceEq, Int.reduceNeg, Int.reduceNe, Int.reduceGE, Int.reduceGT, Nat.reduceBEq, Int.reduceToNat,  e2]
          refine ⟨_, _, _, ?_, h m (.inr ⟨k2.1, k2.2, by omega, fun i hi => k3 i (by omega)⟩)⟩
          simp (config := { maxSteps := 2000000 }) only [go_sem, hG, hP, Nat.reduceEqDiff, ↓reduceIte, reduceCtorEq, Nat.reduceAdd, Nat.reduceSub, Nat.reduceMul, Nat.reduceLT, Nat.reduceLeDiff, Int.reduceAdd, Int.reduceSub, Int.reduceMul, Int.reduceLT, Int.reduceLE, Int.reduceEq, Int.reduceNeg, Int.reduceNe, Int.reduceGE, Int.reduceGT, Nat.reduceBEq, Int.reduceToNat]
  · exact h.elim
def spToRul : Spec := ⟨fun _ _ => [], fun args objs K => match args, objs with
  | [.agg [.v (.string a0), .v (.int .i64 a1), .v (.int .i64 a2), .v (.int .i64 a3), .v (.int .i64 a4), .v (.string a5)]], [] => K (.agg [.v (.string a0), .v (.int .i64 a1), .v (.int .i64 a2), .v (.int .i64 a3), .v (.int .i64 a4), .v (.string a5)]) [] 0
  | _, _ => False, false⟩
theorem spToRul_t {L : Hp} {a : List AVal} : Spec.take spToRul L a = [] := id rfl
theorem spToRul_k : Spec.keep spToRul = false := id rfl
theorem spToRul_f {a0} {a1} {a2} {a3} {a4} {a5} {K : AVal → Hp → Nat → Prop} : Spec.f spToRul ([.agg [.v (.string a0), .v (.int .i64 a1), .v (.int .i64 a2), .v (.int .i64 a3), .v (.int .i64 a4), .v (.string a5)]]) ([]) K = (K (.agg [.v (.string a0), .v (.int .i64 a1), .v (.int .i64 a2), .v (.int .i64 a3), .v (.int .i64 a4), .v (.string a5)]) [] 0) := id rfl
theorem valid35 : Valid Tryd.prog 35 spToRul := by
  refine validI (Γ := lk []) Tryd.func35 bod35 low35 res35 (good_of trivial) ?_
  intro E args objs K h hE hG hP
  simp only [spToRul] at h
  split at h
  · refine ⟨by simp [Tryd.ntmps35], ?_⟩
    rename_i a0 a1 a2 a3 a4 a5
    simp (config := { maxSteps := 2000000 }) only [go_sem, hG, hP, Nat.reduceEqDiff, ↓reduceIte, reduceCtorEq, Nat.reduceAdd, Nat.reduceSub, Nat.reduceMul, Nat.reduceLT, Nat.reduceLeDiff, Int.reduceAdd, Int.reduceSub, Int.reduceMul, Int.reduceLT, Int.reduceLE, Int.reduceEq, Int.reduceNeg, Int.reduceNe, Int.reduceGE, Int.reduceGT, Nat.reduceBEq, Int.reduceToNat]
    exact ⟨_, _, _, by simp (config := { maxSteps := 2000000 }) only [go_sem, hG, hP, Nat.reduceEqDiff, ↓reduceIte, reduceCtorEq, Nat.reduceAdd, Nat.reduceSub, Nat.reduceMul, Nat.reduceLT, Nat.reduceLeDiff, Int.reduceAdd, Int.reduceSub, Int.reduceMul, Int.reduceLT, Int.reduceLE, Int.reduceEq, Int.reduceNeg, Int.reduceNe, Int.reduceGE, Int.reduceGT, Nat.reduceBEq, Int.reduceToNat], h⟩
  · exact h.elim
def spToRulS : Spec := ⟨fun _ _ => [], fun args objs K => match args, objs with
  | [.rs .rule xs], [] => xs.length ≤ 1099511627776 ∧ K (.sub 0 6 0 xs.length) [(0, .row .rule xs)] 1
  | _, _ => False, false⟩
theorem spToRulS_t {L : Hp} {a : List AVal} : Spec.take spToRulS L a = [] := id rfl
theorem spToRulS_k : Spec.keep spToRulS = false := id rfl
theorem spToRulS_f {xs} {K : AVal → Hp → Nat → Prop} : Spec.f spToRulS ([.rs .rule xs]) ([]) K = (xs.length ≤ 1099511627776 ∧ K (.sub 0 6 0 xs.length) [(0, .row .rule xs)] 1) := id rfl
theorem valid12 : Valid Tryd.prog 12 spToRulS := by
  refine validI (Γ := lk [(35, spToRul)]) Tryd.func12 bod12 low12 res12 (good_of ⟨⟨cal35, valid35⟩, trivial⟩) ?_
  intro E args objs K h hE hG hP
  simp only [spToRulS] at h
  split at h
  · refine ⟨by simp [Tryd.ntmps12], ?_⟩
    rename_i xs
    obtain ⟨hlen, h⟩ := h
    simp (config := { maxSteps := 2000000 }) only [go_sem, hG, hP, Nat.reduceEqDiff, ↓reduceIte, reduceCtorEq, Nat.reduceAdd, Nat.reduceSub, Nat.reduceMul, Nat.reduceLT, Nat.reduceLeDiff, Int.reduceAdd, Int.reduceSub, Int.reduceMul, Int.reduceLT, Int.reduceLE, Int.reduceEq, Int.reduceNeg, Int.reduceNe, Int.reduceGE, Int.reduceGT, Nat.reduceBEq, Int.reduceToNat]
    refine ⟨⟨by omega, by unfold appRoom; omega, by omega⟩, ?_⟩
    refine loopI hE (fun k : Nat => ⟨[(0, .rs .rule xs), (3, .sub 0 6 0 xs.length), (4, .v (.int .i64 k))], [(0, .row .rule (xs.take k ++ List.replicate (xs.length - k) (⟨⟨#[]⟩, 0, 0, 0, 0, ⟨#[]⟩⟩ : Rul)))], 1, Tryd.f12.ntmps⟩) (fun k => k ≤ xs.length) (fun k => xs.length - k) ⟨0, Nat.zero_le _, SubS.weak ?_⟩ ?_
    · simp (config := { maxSteps := 2000000 }) only [go_sem, hG, hP, Nat.reduceEqDiff, ↓reduceIte, reduceCtorEq, Nat.reduceAdd, Nat.reduceSub, Nat.reduceMul, Nat.reduceLT, Nat.reduceLeDiff, Int.reduceAdd, Int.reduceSub, Int.reduceMul, Int.reduceLT, Int.reduceLE, Int.reduceEq, Int.reduceNeg, Int.reduceNe, Int.reduceGE, Int.reduceGT, Nat.reduceBEq, Int.reduceToNat]
      all_goals simp
    · intro k hk
      simp (config := { maxSteps := 2000000 }) only [go_sem, hG, hP, Nat.reduceEqDiff, ↓reduceIte, reduceCtorEq, Nat.reduceAdd, Nat.reduceSub, Nat.reduceMul, Nat.reduceLT, Nat.reduceLeDiff, Int.reduceAdd, Int.reduceSub, Int.reduceMul, Int.reduceLT, Int.reduceLE, Int.reduceEq, Int.reduceNeg, Int.reduceNe, Int.reduceGE, Int.reduceGT, Nat.reduceBEq, Int.reduceToNat,  spToRul_f, spToRul_t, spToRul_k]
      (try simp (disch := omega) only [wrap_id])
      refine ⟨fun hlt => ?_, fun hge => ⟨_, _, _, ?_, h⟩⟩
      · rw [fill_len _ _ _ hk]
        repeat (refine And.intro (by first | omega | (simp; done) | (simp; omega) | (unfold appRoom; omega)) ?_)
        refine ⟨k + 1, by omega, SubS.weak ?_⟩
        simp (config := { maxSteps := 2000000 }) only [go_sem, hG, hP, Nat.reduceEqDiff, ↓reduceIte, reduceCtorEq, Nat.reduceAdd, Nat.reduceSub, Nat.reduceMul, Nat.reduceLT, Nat.reduceLeDiff, Int.reduceAdd, Int.reduceSub, Int.reduceMul, Int.reduceLT, Int.reduceLE, Int.reduceEq, Int.reduceNeg, Int.reduceNe, Int.reduceGE, Int.reduceGT, Nat.reduceBEq, Int.reduceToNat]
        rw [fill_set _ _ _ _ (by omega)]
        simp
      · simp (config := { maxSteps := 2000000 }) only [go_sem, hG, hP, Nat.reduceEqDiff, ↓reduceIte, reduceCtorEq, Nat.reduceAdd, Nat.reduceSub, Nat.reduceMul, Nat.reduceLT, Nat.reduceLeDiff, Int.reduceAdd, Int.reduceSub, Int.reduceMul, Int.reduceLT, Int.reduceLE, Int.reduceEq, Int.reduceNeg, Int.reduceNe, Int.reduceGE, Int.reduceGT, Nat.reduceBEq, Int.reduceToNat]
        simp [show k = xs.length by omega]
  · exact h.elim
def spEqRul : Spec := ⟨fun _ _ => [], fun args objs K => match args, objs with
  | [.agg [.v (.string a0), .v (.int .i64 a1), .v (.int .i64 a2), .v (.int .i64 a3), .v (.int .i64 a4), .v (.string a5)], .agg [.v (.string b0), .v (.int .i64 b1), .v (.int .i64 b2), .v (.int .i64 b3), .v (.int .i64 b4), .v (.string b5)]], [] => K (.v (.bool (decide (a0 = b0 ∧ a1 = b1 ∧ a2 = b2 ∧ a3 = b3 ∧ a4 = b4 ∧ a5 = b5)))) [] 0
  | _, _ => False, false⟩
theorem spEqRul_t {L : Hp} {a : List AVal} : Spec.take spEqRul L a = [] := id rfl
theorem spEqRul_k : Spec.keep spEqRul = false := id rfl
theorem spEqRul_f {a0} {a1} {a2} {a3} {a4} {a5} {b0} {b1} {b2} {b3} {b4} {b5} {K : AVal → Hp → Nat → Prop} : Spec.f spEqRul ([.agg [.v (.string a0), .v (.int .i64 a1), .v (.int .i64 a2), .v (.int .i64 a3), .v (.int .i64 a4), .v (.string a5)], .agg [.v (.string b0), .v (.int .i64 b1), .v (.int .i64 b2), .v (.int .i64 b3), .v (.int .i64 b4), .v (.string b5)]]) ([]) K = (K (.v (.bool (decide (a0 = b0 ∧ a1 = b1 ∧ a2 = b2 ∧ a3 = b3 ∧ a4 = b4 ∧ a5 = b5)))) [] 0) := id rfl
theorem valid38 : Valid Tryd.prog 38 spEqRul := by
  refine validI (Γ := lk []) Tryd.func38 bod38 low38 res38 (good_of trivial) ?_
  intro E args objs K h hE hG hP
  simp only [spEqRul] at h
  split at h
  · refine ⟨by simp [Tryd.ntmps38], ?_⟩
    rename_i a0 a1 a2 a3 a4 a5 b0 b1 b2 b3 b4 b5
    simp (config := { maxSteps := 2000000 }) only [go_sem, hG, hP, Nat.reduceEqDiff, ↓reduceIte, reduceCtorEq, Nat.reduceAdd, Nat.reduceSub, Nat.reduceMul, Nat.reduceLT, Nat.reduceLeDiff, Int.reduceAdd, Int.reduceSub, Int.reduceMul, Int.reduceLT, Int.reduceLE, Int.reduceEq, Int.reduceNeg, Int.reduceNe, Int.reduceGE, Int.reduceGT, Nat.reduceBEq, Int.reduceToNat]
    refine ⟨fun h0 => ⟨_, _, _, ?_, h⟩, fun h0 => ⟨fun h1 => ⟨_, _, _, ?_, h⟩, fun h1 => ⟨fun h2 => ⟨_, _, _, ?_, h⟩, fun h2 => ⟨fun h3 => ⟨_, _, _, ?_, h⟩, fun h3 => ⟨fun h4 => ⟨_, _, _, ?_, h⟩, fun h4 => ⟨fun h5 => ⟨_, _, _, ?_, h⟩, fun h5 => ⟨_, _, _, ?_, h⟩⟩⟩⟩⟩⟩⟩ <;> simp (config := { maxSteps := 2000000 }) only [go_sem, hG, hP, Nat.reduceEqDiff, ↓reduceIte, reduceCtorEq, Nat.reduceAdd, Nat.reduceSub, Nat.reduceMul, Nat.reduceLT, Nat.reduceLeDiff, Int.reduceAdd, Int.reduceSub, Int.reduceMul, Int.reduceLT, Int.reduceLE, Int.reduceEq, Int.reduceNeg, Int.reduceNe, Int.reduceGE, Int.reduceGT, Nat.reduceBEq, Int.reduceToNat] <;> simp_all
  · exact h.elim
def spEqRulS : Spec := ⟨fun _ _ => [], fun args objs K => match args, objs with
  | [.rs .rule xs, .rs .rule ys], [] => (xs.length ≤ 1099511627776 ∧ ys.length ≤ 1099511627776) ∧ ∀ b : Bool, (b = true ↔ xs = ys) → K (.v (.bool b)) [] 0
  | _, _ => False, false⟩
theorem spEqRulS_t {L : Hp} {a : List AVal} : Spec.take spEqRulS L a = [] := id rfl
theorem spEqRulS_k : Spec.keep spEqRulS = false := id rfl
theorem spEqRulS_f {xs} {ys} {K : AVal → Hp → Nat → Prop} : Spec.f spEqRulS ([.rs .rule xs, .rs .rule ys]) ([]) K = ((xs.length ≤ 1099511627776 ∧ ys.length ≤ 1099511627776) ∧ ∀ b : Bool, (b = true ↔ xs = ys) → K (.v (.bool b)) [] 0) := id rfl
theorem valid14 : Valid Tryd.prog 14 spEqRulS := by
  refine validI (Γ := lk [(38, spEqRul)]) Tryd.func14 bod14 low14 res14 (good_of ⟨⟨cal38, valid38⟩, trivial⟩) ?_
  intro E args objs K h hE hG hP
  simp only [spEqRulS] at h
  split at h
  · refine ⟨by simp [Tryd.ntmps14], ?_⟩
    rename_i xs ys
    obtain ⟨⟨hlen, hlen2⟩, h⟩ := h
    simp (config := { maxSteps := 2000000 }) only [go_sem, hG, hP, Nat.reduceEqDiff, ↓reduceIte, reduceCtorEq, Nat.reduceAdd, Nat.reduceSub, Nat.reduceMul, Nat.reduceLT, Nat.reduceLeDiff, Int.reduceAdd, Int.reduceSub, Int.reduceMul, Int.reduceLT, Int.reduceLE, Int.reduceEq, Int.reduceNeg, Int.reduceNe, Int.reduceGE, Int.reduceGT, Nat.reduceBEq, Int.reduceToNat]
    refine ⟨fun h1 => ⟨_, _, _, ?_, h false ⟨fun e => by (cases e), fun e => absurd (by rw [e]) h1⟩⟩, fun h1 => ?_⟩
    · simp (config := { maxSteps := 2000000 }) only [go_sem, hG, hP, Nat.reduceEqDiff, ↓reduceIte, reduceCtorEq, Nat.reduceAdd, Nat.reduceSub, Nat.reduceMul, Nat.reduceLT, Nat.reduceLeDiff, Int.reduceAdd, Int.reduceSub, Int.reduceMul, Int.reduceLT, Int.reduceLE, Int.reduceEq, Int.reduceNeg, Int.reduceNe, Int.reduceGE, Int.reduceGT, Nat.reduceBEq, Int.reduceToNat]
    · have hle : xs.length = ys.length := by omega
      refine loopI hE (fun k : Nat => ⟨[(0, .rs .rule xs), (1, .rs .rule ys), (5, .v (.int .i64 k))], [], 0, Tryd.f14.ntmps⟩) (fun k => k ≤ xs.length ∧ xs.take k = ys.take k) (fun k => xs.length - k) ⟨0, ⟨Nat.zero_le _, rfl⟩, SubS.weak ?_⟩ ?_
      · simp (config := { maxSteps := 2000000 }) only [go_sem, hG, hP, Nat.reduceEqDiff, ↓reduceIte, reduceCtorEq, Nat.reduceAdd, Nat.reduceSub, Nat.reduceMul, Nat.reduceLT, Nat.reduceLeDiff, Int.reduceAdd, Int.reduceSub, Int.reduceMul, Int.reduceLT, Int.reduceLE, Int.reduceEq, Int.reduceNeg, Int.reduceNe, Int.reduceGE, Int.reduceGT, Nat.reduceBEq, Int.reduceToNat]
        all_goals simp
      · intro k ⟨hk, hpre⟩
        simp (config := { maxSteps := 2000000 }) only [go_sem, hG, hP, Nat.reduceEqDiff, ↓reduceIte, reduceCtorEq, Nat.reduceAdd, Nat.reduceSub, Nat.reduceMul, Nat.reduceLT, Nat.reduceLeDiff, Int.reduceAdd, Int.reduceSub, Int.reduceMul, Int.reduceLT, Int.reduceLE, Int.reduceEq, Int.reduceNeg, Int.reduceNe, Int.reduceGE, Int.reduceGT, Nat.reduceBEq, Int.reduceToNat,  spEqRul_f, spEqRul_t, spEqRul_k]
        (try simp (disch := omega) only [wrap_id])
        refine ⟨fun hlt => ?_, fun hge => ⟨_, _, _, ?_, h true ⟨fun _ => take_all hpre hle (by omega), fun _ => rfl⟩⟩⟩
        · repeat (refine And.intro (by first | omega | (simp; done) | (simp; omega) | (unfold appRoom; omega)) ?_)
          refine ⟨fun hne => ⟨_, _, _, ?_, h false ⟨fun e => by (cases e), fun e => ?_⟩⟩, fun heq => ?_⟩
          · simp (config := { maxSteps := 2000000 }) only [go_sem, hG, hP, Nat.reduceEqDiff, ↓reduceIte, reduceCtorEq, Nat.reduceAdd, Nat.reduceSub, Nat.reduceMul, Nat.reduceLT, Nat.reduceLeDiff, Int.reduceAdd, Int.reduceSub, Int.reduceMul, Int.reduceLT, Int.reduceLE, Int.reduceEq, Int.reduceNeg, Int.reduceNe, Int.reduceGE, Int.reduceGT, Nat.reduceBEq, Int.reduceToNat]
          · subst e
            simp at hne
          · refine ⟨k + 1, ⟨⟨by omega, take_step (⟨⟨#[]⟩, 0, 0, 0, 0, ⟨#[]⟩⟩ : Rul) hpre (by omega) (by omega) (by simp at heq; exact rule_ext heq.1 heq.2.1 heq.2.2.1 heq.2.2.2.1 heq.2.2.2.2.1 heq.2.2.2.2.2)⟩, by omega⟩, SubS.weak ?_⟩
            simp (config := { maxSteps := 2000000 }) only [go_sem, hG, hP, Nat.reduceEqDiff, ↓reduceIte, reduceCtorEq, Nat.reduceAdd, Nat.reduceSub, Nat.reduceMul, Nat.reduceLT, Nat.reduceLeDiff, Int.reduceAdd, Int.reduceSub, Int.reduceMul, Int.reduceLT, Int.reduceLE, Int.reduceEq, Int.reduceNeg, Int.reduceNe, Int.reduceGE, Int.reduceGT, Nat.reduceBEq, Int.reduceToNat]
            all_goals simp
        · simp (config := { maxSteps := 2000000 }) only [go_sem, hG, hP, Nat.reduceEqDiff, ↓reduceIte, reduceCtorEq, Nat.reduceAdd, Nat.reduceSub, Nat.reduceMul, Nat.reduceLT, Nat.reduceLeDiff, Int.reduceAdd, Int.reduceSub, Int.reduceMul, Int.reduceLT, Int.reduceLE, Int.reduceEq, Int.reduceNeg, Int.reduceNe, Int.reduceGE, Int.reduceGT, Nat.reduceBEq, Int.reduceToNat]
  · exact h.elim
theorem prt_ext {a b : Prt} (h0 : a.num = b.num) (h1 : a.to = b.to) : a = b := by cases a; cases b; simp_all
abbrev Prtz : Prt := ⟨⟨#[]⟩, ⟨#[]⟩⟩
def szPrtOk (x : Prt) (n : Nat) : Prop := x.num.size ≤ n ∧ x.to.size ≤ n
def szPrtAll (l : List Prt) (n : Nat) : Prop := ∀ i, i < l.length → szPrtOk (l.getD i (⟨⟨#[]⟩, ⟨#[]⟩⟩ : Prt)) n
def spSzPrt : Spec := ⟨fun _ _ => [], fun args objs K => match args, objs with
  | [.agg [.v (.string a0), .v (.string a1)], .v (.int .i64 n)], [] => ((a0.size ≤ 140737488351232 ∧ a1.size ≤ 140737488351232) ∧ 0 ≤ n ∧ n ≤ 1099511627776) ∧ ∀ r : Int, (r = -1 ∨ (0 ≤ r ∧ r ≤ n ∧ (a0.size : Int) ≤ n ∧ (a1.size : Int) ≤ n)) → K (.v (.int .i64 r)) [] 0
  | _, _ => False, false⟩
theorem spSzPrt_t {L : Hp} {a : List AVal} : Spec.take spSzPrt L a = [] := id rfl
theorem spSzPrt_k : Spec.keep spSzPrt = false := id rfl
theorem spSzPrt_f {a0} {a1} {n} {K : AVal → Hp → Nat → Prop} : Spec.f spSzPrt ([.agg [.v (.string a0), .v (.string a1)], .v (.int .i64 n)]) ([]) K = (((a0.size ≤ 140737488351232 ∧ a1.size ≤ 140737488351232) ∧ 0 ≤ n ∧ n ≤ 1099511627776) ∧ ∀ r : Int, (r = -1 ∨ (0 ≤ r ∧ r ≤ n ∧ (a0.size : Int) ≤ n ∧ (a1.size : Int) ≤ n)) → K (.v (.int .i64 r)) [] 0) := id rfl
theorem valid39 : Valid Tryd.prog 39 spSzPrt := by
  refine validI (Γ := lk []) Tryd.func39 bod39 low39 res39 (good_of trivial) ?_
  intro E args objs K h hE hG hP
  simp only [spSzPrt] at h
  split at h
  · refine ⟨by simp [Tryd.ntmps39], ?_⟩
    rename_i a0 a1 n
    obtain ⟨⟨hs, hn0, hn1⟩, h⟩ := h
    simp (config := { maxSteps := 2000000 }) only [go_sem, hG, hP, Nat.reduceEqDiff, ↓reduceIte, reduceCtorEq, Nat.reduceAdd, Nat.reduceSub, Nat.reduceMul, Nat.reduceLT, Nat.reduceLeDiff, Int.reduceAdd, Int.reduceSub, Int.reduceMul, Int.reduceLT, Int.reduceLE, Int.reduceEq, Int.reduceNeg, Int.reduceNe, Int.reduceGE, Int.reduceGT, Nat.reduceBEq, Int.reduceToNat]
    (try simp (disch := omega) only [wrap_id])
    repeat' (first | (refine And.intro ?_ ?_) | (with_reducible intro _))
    all_goals first
      | (refine ⟨_, _, _, ?_, h (-1) (.inl rfl)⟩; simp (config := { maxSteps := 2000000 }) only [go_sem, hG, hP, Nat.reduceEqDiff, ↓reduceIte, reduceCtorEq, Nat.reduceAdd, Nat.reduceSub, Nat.reduceMul, Nat.reduceLT, Nat.reduceLeDiff, Int.reduceAdd, Int.reduceSub, Int.reduceMul, Int.reduceLT, Int.reduceLE, Int.reduceEq, Int.reduceNeg, Int.reduceNe, Int.reduceGE, Int.reduceGT, Nat.reduceBEq, Int.reduceToNat]; done)
      | (refine ⟨_, _, _, ?_, h (n - (a0.size : Int) - (a1.size : Int)) (.inr ⟨by omega, by omega, by omega, by omega⟩)⟩; simp (config := { maxSteps := 2000000 }) only [go_sem, hG, hP, Nat.reduceEqDiff, ↓reduceIte, reduceCtorEq, Nat.reduceAdd, Nat.reduceSub, Nat.reduceMul, Nat.reduceLT, Nat.reduceLeDiff, Int.reduceAdd, Int.reduceSub, Int.reduceMul, Int.reduceLT, Int.reduceLE, Int.reduceEq, Int.reduceNeg, Int.reduceNe, Int.reduceGE, Int.reduceGT, Nat.reduceBEq, Int.reduceToNat]; done)
  · exact h.elim
def spSzPrtS : Spec := ⟨fun _ _ => [], fun args objs K => match args, objs with
  | [.rs .prt xs, .v (.int .i64 n)], [] => (szPrtAll xs 140737488351232 ∧ xs.length ≤ 17592186044416 ∧ 0 ≤ n ∧ n ≤ 1099511627776) ∧ ∀ r : Int, (r = -1 ∨ (0 ≤ r ∧ r ≤ n ∧ (xs.length : Int) ≤ n ∧ szPrtAll xs n.toNat)) → K (.v (.int .i64 r)) [] 0
  | _, _ => False, false⟩
theorem spSzPrtS_t {L : Hp} {a : List AVal} : Spec.take spSzPrtS L a = [] := id rfl
theorem spSzPrtS_k : Spec.keep spSzPrtS = false := id rfl
theorem spSzPrtS_f {xs} {n} {K : AVal → Hp → Nat → Prop} : Spec.f spSzPrtS ([.rs .prt xs, .v (.int .i64 n)]) ([]) K = ((szPrtAll xs 140737488351232 ∧ xs.length ≤ 17592186044416 ∧ 0 ≤ n ∧ n ≤ 1099511627776) ∧ ∀ r : Int, (r = -1 ∨ (0 ≤ r ∧ r ≤ n ∧ (xs.length : Int) ≤ n ∧ szPrtAll xs n.toNat)) → K (.v (.int .i64 r)) [] 0) := id rfl
theorem valid15 : Valid Tryd.prog 15 spSzPrtS := by
  refine validI (Γ := lk [(39, spSzPrt)]) Tryd.func15 bod15 low15 res15 (good_of ⟨⟨cal39, valid39⟩, trivial⟩) ?_
  intro E args objs K h hE hG hP
  simp only [spSzPrtS] at h
  split at h
  · refine ⟨by simp [Tryd.ntmps15], ?_⟩
    rename_i xs n
    obtain ⟨⟨hs, hl, hn0, hn1⟩, h⟩ := h
    have w1 : wr .i64 (n - xs.length) = n - xs.length := wrap_id (by omega) (by omega)
    by_cases hneg : n - xs.length < 0
    · have e1 := eq_true hneg
      simp (config := { maxSteps := 2000000 }) only [go_sem, hG, hP, Nat.reduceEqDiff, ↓reduceIte, reduceCtorEq, Nat.reduceAdd, Nat.reduceSub, Nat.reduceMul, Nat.reduceLT, Nat.reduceLeDiff, Int.reduceAdd, Int.reduceSub, Int.reduceMul, Int.reduceLT, Int.reduceLE, Int.reduceEq, Int.reduceNeg, Int.reduceNe, Int.reduceGE, Int.reduceGT, Nat.reduceBEq, Int.reduceToNat,  w1, e1]
      refine ⟨_, _, _, ?_, h (-1) (.inl rfl)⟩
      simp (config := { maxSteps := 2000000 }) only [go_sem, hG, hP, Nat.reduceEqDiff, ↓reduceIte, reduceCtorEq, Nat.reduceAdd, Nat.reduceSub, Nat.reduceMul, Nat.reduceLT, Nat.reduceLeDiff, Int.reduceAdd, Int.reduceSub, Int.reduceMul, Int.reduceLT, Int.reduceLE, Int.reduceEq, Int.reduceNeg, Int.reduceNe, Int.reduceGE, Int.reduceGT, Nat.reduceBEq, Int.reduceToNat]
    · have e1 := eq_false hneg
      simp (config := { maxSteps := 2000000 }) only [go_sem, hG, hP, Nat.reduceEqDiff, ↓reduceIte, reduceCtorEq, Nat.reduceAdd, Nat.reduceSub, Nat.reduceMul, Nat.reduceLT, Nat.reduceLeDiff, Int.reduceAdd, Int.reduceSub, Int.reduceMul, Int.reduceLT, Int.reduceLE, Int.reduceEq, Int.reduceNeg, Int.reduceNe, Int.reduceGE, Int.reduceGT, Nat.reduceBEq, Int.reduceToNat,  w1, e1]
      refine loopI hE (fun p : Nat × Int => ⟨[(0, .rs .prt xs), (1, .v (.int .i64 p.2)), (5, .v (.int .i64 p.1))], [], 0, Tryd.f15.ntmps⟩) (fun p => p.1 ≤ xs.length ∧ (0 ≤ p.2 ∧ p.2 ≤ n) ∧ ∀ i, i < p.1 → szPrtOk (xs.getD i (⟨⟨#[]⟩, ⟨#[]⟩⟩ : Prt)) n.toNat) (fun p => xs.length - p.1) ⟨(0, n - xs.length), ⟨by dsimp only; omega, ⟨by dsimp only; omega, by dsimp only; omega⟩, fun i hi => by dsimp only at hi; omega⟩, SubS.weak ?_⟩ ?_
      · simp (config := { maxSteps := 2000000 }) only [go_sem, hG, hP, Nat.reduceEqDiff, ↓reduceIte, reduceCtorEq, Nat.reduceAdd, Nat.reduceSub, Nat.reduceMul, Nat.reduceLT, Nat.reduceLeDiff, Int.reduceAdd, Int.reduceSub, Int.reduceMul, Int.reduceLT, Int.reduceLE, Int.reduceEq, Int.reduceNeg, Int.reduceNe, Int.reduceGE, Int.reduceGT, Nat.reduceBEq, Int.reduceToNat]
        repeat' (first | with_reducible rfl | (refine And.intro ?_ ?_) | (refine congrArg (Value.int _) ?_; omega) | omega)
      · rintro ⟨k, m⟩ ⟨k1, k2, k3⟩
        dsimp only at k1 k2 k3 ⊢
        by_cases hk : k < xs.length
        · have e2 : ((k : Int) < xs.length) = True := by apply eq_true; omega
          have hsk := hs k hk
          unfold szPrtOk at hsk
          simp (config := { maxSteps := 2000000 }) only [go_sem, hG, hP, Nat.reduceEqDiff, ↓reduceIte, reduceCtorEq, Nat.reduceAdd, Nat.reduceSub, Nat.reduceMul, Nat.reduceLT, Nat.reduceLeDiff, Int.reduceAdd, Int.reduceSub, Int.reduceMul, Int.reduceLT, Int.reduceLE, Int.reduceEq, Int.reduceNeg, Int.reduceNe, Int.reduceGE, Int.reduceGT, Nat.reduceBEq, Int.reduceToNat,  spSzPrt_f, spSzPrt_t, spSzPrt_k, e2]
          (try simp (disch := omega) only [wrap_id])
          repeat (refine And.intro (by first | omega | (simp; done) | (simp; omega) | (unfold appRoom; omega)) ?_)
          rintro r hr
          refine ⟨fun hng => ⟨_, _, _, ?_, h (-1) (.inl rfl)⟩, fun hps => ⟨(k + 1, r), ⟨⟨by dsimp only; omega, ⟨by dsimp only; omega, by dsimp only; omega⟩, fun i hi => ?_⟩, by dsimp only; omega⟩, SubS.weak ?_⟩⟩
          · simp (config := { maxSteps := 2000000 }) only [go_sem, hG, hP, Nat.reduceEqDiff, ↓reduceIte, reduceCtorEq, Nat.reduceAdd, Nat.reduceSub, Nat.reduceMul, Nat.reduceLT, Nat.reduceLeDiff, Int.reduceAdd, Int.reduceSub, Int.reduceMul, Int.reduceLT, Int.reduceLE, Int.reduceEq, Int.reduceNeg, Int.reduceNe, Int.reduceGE, Int.reduceGT, Nat.reduceBEq, Int.reduceToNat]
          · dsimp only at hi
            by_cases e : i < k
            · exact k3 i e
            · obtain rfl : i = k := by omega
              unfold szPrtOk
              omega
          · simp (config := { maxSteps := 2000000 }) only [go_sem, hG, hP, Nat.reduceEqDiff, ↓reduceIte, reduceCtorEq, Nat.reduceAdd, Nat.reduceSub, Nat.reduceMul, Nat.reduceLT, Nat.reduceLeDiff, Int.reduceAdd, Int.reduceSub, Int.reduceMul, Int.reduceLT, Int.reduceLE, Int.reduceEq, Int.reduceNeg, Int.reduceNe, Int.reduceGE, Int.reduceGT, Nat.reduceBEq, Int.reduceToNat]
            repeat' (first | with_reducible rfl | (refine And.intro ?_ ?_) | (refine congrArg (Value.int _) ?_; omega) | omega)
        · have e2 : ((k : Int) < xs.length) = False := by apply eq_false; omega
          simp (config := { maxSteps := 2000000 }) only [go_sem, hG, hP, Nat.reduceEqDiff, ↓reduceIte, reduceCtorEq, Nat.reduceAdd, Nat.reduceSub, Nat.reduceMul, Nat.reduceLT, Nat.reduceLeDiff, Int.reduceAdd, Int.reduceSub, Int.reduceMul, Int.reduceLT, Int.reduceLE, Int.reduceEq, Int.reduceNeg, Int.reduceNe, Int.reduceGE, Int.reduceGT, Nat.reduceBEq, Int.reduceToNat,  e2]
          refine ⟨_, _, _, ?_, h m (.inr ⟨k2.1, k2.2, by omega, fun i hi => k3 i (by omega)⟩)⟩
          simp (config := { maxSteps := 2000000 }) only [go_sem, hG, hP, Nat.reduceEqDiff, ↓reduceIte, reduceCtorEq, Nat.reduceAdd, Nat.reduceSub, Nat.reduceMul, Nat.reduceLT, Nat.reduceLeDiff, Int.reduceAdd, Int.reduceSub, Int.reduceMul, Int.reduceLT, Int.reduceLE, Int.reduceEq, Int.reduceNeg, Int.reduceNe, Int.reduceGE, Int.reduceGT, Nat.reduceBEq, Int.reduceToNat]
  · exact h.elim
def spToPrt : Spec := ⟨fun _ _ => [], fun args objs K => match args, objs with
  | [.agg [.v (.string a0), .v (.string a1)]], [] => K (.agg [.v (.string a0), .v (.string a1)]) [] 0
  | _, _ => False, false⟩
theorem spToPrt_t {L : Hp} {a : List AVal} : Spec.take spToPrt L a = [] := id rfl
theorem spToPrt_k : Spec.keep spToPrt = false := id rfl
theorem spToPrt_f {a0} {a1} {K : AVal → Hp → Nat → Prop} : Spec.f spToPrt ([.agg [.v (.string a0), .v (.string a1)]]) ([]) K = (K (.agg [.v (.string a0), .v (.string a1)]) [] 0) := id rfl
theorem valid41 : Valid Tryd.prog 41 spToPrt := by
  refine validI (Γ := lk []) Tryd.func41 bod41 low41 res41 (good_of trivial) ?_
  intro E args objs K h hE hG hP
  simp only [spToPrt] at h
  split at h
  · refine ⟨by simp [Tryd.ntmps41], ?_⟩
    rename_i a0 a1
    simp (config := { maxSteps := 2000000 }) only [go_sem, hG, hP, Nat.reduceEqDiff, ↓reduceIte, reduceCtorEq, Nat.reduceAdd, Nat.reduceSub, Nat.reduceMul, Nat.reduceLT, Nat.reduceLeDiff, Int.reduceAdd, Int.reduceSub, Int.reduceMul, Int.reduceLT, Int.reduceLE, Int.reduceEq, Int.reduceNeg, Int.reduceNe, Int.reduceGE, Int.reduceGT, Nat.reduceBEq, Int.reduceToNat]
    exact ⟨_, _, _, by simp (config := { maxSteps := 2000000 }) only [go_sem, hG, hP, Nat.reduceEqDiff, ↓reduceIte, reduceCtorEq, Nat.reduceAdd, Nat.reduceSub, Nat.reduceMul, Nat.reduceLT, Nat.reduceLeDiff, Int.reduceAdd, Int.reduceSub, Int.reduceMul, Int.reduceLT, Int.reduceLE, Int.reduceEq, Int.reduceNeg, Int.reduceNe, Int.reduceGE, Int.reduceGT, Nat.reduceBEq, Int.reduceToNat], h⟩
  · exact h.elim
def spToPrtS : Spec := ⟨fun _ _ => [], fun args objs K => match args, objs with
  | [.rs .prt xs], [] => xs.length ≤ 1099511627776 ∧ K (.sub 0 2 0 xs.length) [(0, .row .prt xs)] 1
  | _, _ => False, false⟩
theorem spToPrtS_t {L : Hp} {a : List AVal} : Spec.take spToPrtS L a = [] := id rfl
theorem spToPrtS_k : Spec.keep spToPrtS = false := id rfl
theorem spToPrtS_f {xs} {K : AVal → Hp → Nat → Prop} : Spec.f spToPrtS ([.rs .prt xs]) ([]) K = (xs.length ≤ 1099511627776 ∧ K (.sub 0 2 0 xs.length) [(0, .row .prt xs)] 1) := id rfl
theorem valid17 : Valid Tryd.prog 17 spToPrtS := by
  refine validI (Γ := lk [(41, spToPrt)]) Tryd.func17 bod17 low17 res17 (good_of ⟨⟨cal41, valid41⟩, trivial⟩) ?_
  intro E args objs K h hE hG hP
  simp only [spToPrtS] at h
  split at h
  · refine ⟨by simp [Tryd.ntmps17], ?_⟩
    rename_i xs
    obtain ⟨hlen, h⟩ := h
    simp (config := { maxSteps := 2000000 }) only [go_sem, hG, hP, Nat.reduceEqDiff, ↓reduceIte, reduceCtorEq, Nat.reduceAdd, Nat.reduceSub, Nat.reduceMul, Nat.reduceLT, Nat.reduceLeDiff, Int.reduceAdd, Int.reduceSub, Int.reduceMul, Int.reduceLT, Int.reduceLE, Int.reduceEq, Int.reduceNeg, Int.reduceNe, Int.reduceGE, Int.reduceGT, Nat.reduceBEq, Int.reduceToNat]
    refine ⟨⟨by omega, by unfold appRoom; omega, by omega⟩, ?_⟩
    refine loopI hE (fun k : Nat => ⟨[(0, .rs .prt xs), (3, .sub 0 2 0 xs.length), (4, .v (.int .i64 k))], [(0, .row .prt (xs.take k ++ List.replicate (xs.length - k) (⟨⟨#[]⟩, ⟨#[]⟩⟩ : Prt)))], 1, Tryd.f17.ntmps⟩) (fun k => k ≤ xs.length) (fun k => xs.length - k) ⟨0, Nat.zero_le _, SubS.weak ?_⟩ ?_
    · simp (config := { maxSteps := 2000000 }) only [go_sem, hG, hP, Nat.reduceEqDiff, ↓reduceIte, reduceCtorEq, Nat.reduceAdd, Nat.reduceSub, Nat.reduceMul, Nat.reduceLT, Nat.reduceLeDiff, Int.reduceAdd, Int.reduceSub, Int.reduceMul, Int.reduceLT, Int.reduceLE, Int.reduceEq, Int.reduceNeg, Int.reduceNe, Int.reduceGE, Int.reduceGT, Nat.reduceBEq, Int.reduceToNat]
      all_goals simp
    · intro k hk
      simp (config := { maxSteps := 2000000 }) only [go_sem, hG, hP, Nat.reduceEqDiff, ↓reduceIte, reduceCtorEq, Nat.reduceAdd, Nat.reduceSub, Nat.reduceMul, Nat.reduceLT, Nat.reduceLeDiff, Int.reduceAdd, Int.reduceSub, Int.reduceMul, Int.reduceLT, Int.reduceLE, Int.reduceEq, Int.reduceNeg, Int.reduceNe, Int.reduceGE, Int.reduceGT, Nat.reduceBEq, Int.reduceToNat,  spToPrt_f, spToPrt_t, spToPrt_k]
      (try simp (disch := omega) only [wrap_id])
      refine ⟨fun hlt => ?_, fun hge => ⟨_, _, _, ?_, h⟩⟩
      · rw [fill_len _ _ _ hk]
        repeat (refine And.intro (by first | omega | (simp; done) | (simp; omega) | (unfold appRoom; omega)) ?_)
        refine ⟨k + 1, by omega, SubS.weak ?_⟩
        simp (config := { maxSteps := 2000000 }) only [go_sem, hG, hP, Nat.reduceEqDiff, ↓reduceIte, reduceCtorEq, Nat.reduceAdd, Nat.reduceSub, Nat.reduceMul, Nat.reduceLT, Nat.reduceLeDiff, Int.reduceAdd, Int.reduceSub, Int.reduceMul, Int.reduceLT, Int.reduceLE, Int.reduceEq, Int.reduceNeg, Int.reduceNe, Int.reduceGE, Int.reduceGT, Nat.reduceBEq, Int.reduceToNat]
        rw [fill_set _ _ _ _ (by omega)]
        simp
      · simp (config := { maxSteps := 2000000 }) only [go_sem, hG, hP, Nat.reduceEqDiff, ↓reduceIte, reduceCtorEq, Nat.reduceAdd, Nat.reduceSub, Nat.reduceMul, Nat.reduceLT, Nat.reduceLeDiff, Int.reduceAdd, Int.reduceSub, Int.reduceMul, Int.reduceLT, Int.reduceLE, Int.reduceEq, Int.reduceNeg, Int.reduceNe, Int.reduceGE, Int.reduceGT, Nat.reduceBEq, Int.reduceToNat]
        simp [show k = xs.length by omega]
  · exact h.elim
def spEqPrt : Spec := ⟨fun _ _ => [], fun args objs K => match args, objs with
  | [.agg [.v (.string a0), .v (.string a1)], .agg [.v (.string b0), .v (.string b1)]], [] => K (.v (.bool (decide (a0 = b0 ∧ a1 = b1)))) [] 0
  | _, _ => False, false⟩
theorem spEqPrt_t {L : Hp} {a : List AVal} : Spec.take spEqPrt L a = [] := id rfl
theorem spEqPrt_k : Spec.keep spEqPrt = false := id rfl
theorem spEqPrt_f {a0} {a1} {b0} {b1} {K : AVal → Hp → Nat → Prop} : Spec.f spEqPrt ([.agg [.v (.string a0), .v (.string a1)], .agg [.v (.string b0), .v (.string b1)]]) ([]) K = (K (.v (.bool (decide (a0 = b0 ∧ a1 = b1)))) [] 0) := id rfl
theorem valid42 : Valid Tryd.prog 42 spEqPrt := by
  refine validI (Γ := lk []) Tryd.func42 bod42 low42 res42 (good_of trivial) ?_
  intro E args objs K h hE hG hP
  simp only [spEqPrt] at h
  split at h
  · refine ⟨by simp [Tryd.ntmps42], ?_⟩
    rename_i a0 a1 b0 b1
    simp (config := { maxSteps := 2000000 }) only [go_sem, hG, hP, Nat.reduceEqDiff, ↓reduceIte, reduceCtorEq, Nat.reduceAdd, Nat.reduceSub, Nat.reduceMul, Nat.reduceLT, Nat.reduceLeDiff, Int.reduceAdd, Int.reduceSub, Int.reduceMul, Int.reduceLT, Int.reduceLE, Int.reduceEq, Int.reduceNeg, Int.reduceNe, Int.reduceGE, Int.reduceGT, Nat.reduceBEq, Int.reduceToNat]
    refine ⟨fun h0 => ⟨_, _, _, ?_, h⟩, fun h0 => ⟨fun h1 => ⟨_, _, _, ?_, h⟩, fun h1 => ⟨_, _, _, ?_, h⟩⟩⟩ <;> simp (config := { maxSteps := 2000000 }) only [go_sem, hG, hP, Nat.reduceEqDiff, ↓reduceIte, reduceCtorEq, Nat.reduceAdd, Nat.reduceSub, Nat.reduceMul, Nat.reduceLT, Nat.reduceLeDiff, Int.reduceAdd, Int.reduceSub, Int.reduceMul, Int.reduceLT, Int.reduceLE, Int.reduceEq, Int.reduceNeg, Int.reduceNe, Int.reduceGE, Int.reduceGT, Nat.reduceBEq, Int.reduceToNat] <;> simp_all
  · exact h.elim
def spEqPrtS : Spec := ⟨fun _ _ => [], fun args objs K => match args, objs with
  | [.rs .prt xs, .rs .prt ys], [] => (xs.length ≤ 1099511627776 ∧ ys.length ≤ 1099511627776) ∧ ∀ b : Bool, (b = true ↔ xs = ys) → K (.v (.bool b)) [] 0
  | _, _ => False, false⟩
theorem spEqPrtS_t {L : Hp} {a : List AVal} : Spec.take spEqPrtS L a = [] := id rfl
theorem spEqPrtS_k : Spec.keep spEqPrtS = false := id rfl
theorem spEqPrtS_f {xs} {ys} {K : AVal → Hp → Nat → Prop} : Spec.f spEqPrtS ([.rs .prt xs, .rs .prt ys]) ([]) K = ((xs.length ≤ 1099511627776 ∧ ys.length ≤ 1099511627776) ∧ ∀ b : Bool, (b = true ↔ xs = ys) → K (.v (.bool b)) [] 0) := id rfl
theorem valid19 : Valid Tryd.prog 19 spEqPrtS := by
  refine validI (Γ := lk [(42, spEqPrt)]) Tryd.func19 bod19 low19 res19 (good_of ⟨⟨cal42, valid42⟩, trivial⟩) ?_
  intro E args objs K h hE hG hP
  simp only [spEqPrtS] at h
  split at h
  · refine ⟨by simp [Tryd.ntmps19], ?_⟩
    rename_i xs ys
    obtain ⟨⟨hlen, hlen2⟩, h⟩ := h
    simp (config := { maxSteps := 2000000 }) only [go_sem, hG, hP, Nat.reduceEqDiff, ↓reduceIte, reduceCtorEq, Nat.reduceAdd, Nat.reduceSub, Nat.reduceMul, Nat.reduceLT, Nat.reduceLeDiff, Int.reduceAdd, Int.reduceSub, Int.reduceMul, Int.reduceLT, Int.reduceLE, Int.reduceEq, Int.reduceNeg, Int.reduceNe, Int.reduceGE, Int.reduceGT, Nat.reduceBEq, Int.reduceToNat]
    refine ⟨fun h1 => ⟨_, _, _, ?_, h false ⟨fun e => by (cases e), fun e => absurd (by rw [e]) h1⟩⟩, fun h1 => ?_⟩
    · simp (config := { maxSteps := 2000000 }) only [go_sem, hG, hP, Nat.reduceEqDiff, ↓reduceIte, reduceCtorEq, Nat.reduceAdd, Nat.reduceSub, Nat.reduceMul, Nat.reduceLT, Nat.reduceLeDiff, Int.reduceAdd, Int.reduceSub, Int.reduceMul, Int.reduceLT, Int.reduceLE, Int.reduceEq, Int.reduceNeg, Int.reduceNe, Int.reduceGE, Int.reduceGT, Nat.reduceBEq, Int.reduceToNat]
    · have hle : xs.length = ys.length := by omega
      refine loopI hE (fun k : Nat => ⟨[(0, .rs .prt xs), (1, .rs .prt ys), (5, .v (.int .i64 k))], [], 0, Tryd.f19.ntmps⟩) (fun k => k ≤ xs.length ∧ xs.take k = ys.take k) (fun k => xs.length - k) ⟨0, ⟨Nat.zero_le _, rfl⟩, SubS.weak ?_⟩ ?_
      · simp (config := { maxSteps := 2000000 }) only [go_sem, hG, hP, Nat.reduceEqDiff, ↓reduceIte, reduceCtorEq, Nat.reduceAdd, Nat.reduceSub, Nat.reduceMul, Nat.reduceLT, Nat.reduceLeDiff, Int.reduceAdd, Int.reduceSub, Int.reduceMul, Int.reduceLT, Int.reduceLE, Int.reduceEq, Int.reduceNeg, Int.reduceNe, Int.reduceGE, Int.reduceGT, Nat.reduceBEq, Int.reduceToNat]
        all_goals simp
      · intro k ⟨hk, hpre⟩
        simp (config := { maxSteps := 2000000 }) only [go_sem, hG, hP, Nat.reduceEqDiff, ↓reduceIte, reduceCtorEq, Nat.reduceAdd, Nat.reduceSub, Nat.reduceMul, Nat.reduceLT, Nat.reduceLeDiff, Int.reduceAdd, Int.reduceSub, Int.reduceMul, Int.reduceLT, Int.reduceLE, Int.reduceEq, Int.reduceNeg, Int.reduceNe, Int.reduceGE, Int.reduceGT, Nat.reduceBEq, Int.reduceToNat,  spEqPrt_f, spEqPrt_t, spEqPrt_k]
        (try simp (disch := omega) only [wrap_id])
        refine ⟨fun hlt => ?_, fun hge => ⟨_, _, _, ?_, h true ⟨fun _ => take_all hpre hle (by omega), fun _ => rfl⟩⟩⟩
        · repeat (refine And.intro (by first | omega | (simp; done) | (simp; omega) | (unfold appRoom; omega)) ?_)
          refine ⟨fun hne => ⟨_, _, _, ?_, h false ⟨fun e => by (cases e), fun e => ?_⟩⟩, fun heq => ?_⟩
          · simp (config := { maxSteps := 2000000 }) only [go_sem, hG, hP, Nat.reduceEqDiff, ↓reduceIte, reduceCtorEq, Nat.reduceAdd, Nat.reduceSub, Nat.reduceMul, Nat.reduceLT, Nat.reduceLeDiff, Int.reduceAdd, Int.reduceSub, Int.reduceMul, Int.reduceLT, Int.reduceLE, Int.reduceEq, Int.reduceNeg, Int.reduceNe, Int.reduceGE, Int.reduceGT, Nat.reduceBEq, Int.reduceToNat]
          · subst e
            simp at hne
          · refine ⟨k + 1, ⟨⟨by omega, take_step (⟨⟨#[]⟩, ⟨#[]⟩⟩ : Prt) hpre (by omega) (by omega) (by simp at heq; exact prt_ext heq.1 heq.2)⟩, by omega⟩, SubS.weak ?_⟩
            simp (config := { maxSteps := 2000000 }) only [go_sem, hG, hP, Nat.reduceEqDiff, ↓reduceIte, reduceCtorEq, Nat.reduceAdd, Nat.reduceSub, Nat.reduceMul, Nat.reduceLT, Nat.reduceLeDiff, Int.reduceAdd, Int.reduceSub, Int.reduceMul, Int.reduceLT, Int.reduceLE, Int.reduceEq, Int.reduceNeg, Int.reduceNe, Int.reduceGE, Int.reduceGT, Nat.reduceBEq, Int.reduceToNat]
            all_goals simp
        · simp (config := { maxSteps := 2000000 }) only [go_sem, hG, hP, Nat.reduceEqDiff, ↓reduceIte, reduceCtorEq, Nat.reduceAdd, Nat.reduceSub, Nat.reduceMul, Nat.reduceLT, Nat.reduceLeDiff, Int.reduceAdd, Int.reduceSub, Int.reduceMul, Int.reduceLT, Int.reduceLE, Int.reduceEq, Int.reduceNeg, Int.reduceNe, Int.reduceGE, Int.reduceGT, Nat.reduceBEq, Int.reduceToNat]
  · exact h.elim
theorem prs_ext {a b : Prs} (h0 : a.tick = b.tick) (h1 : a.dig = b.dig) : a = b := by cases a; cases b; simp_all
abbrev Prsz : Prs := ⟨0, ⟨#[]⟩⟩
def szPrsOk (x : Prs) (n : Nat) : Prop := x.dig.size ≤ n
def szPrsAll (l : List Prs) (n : Nat) : Prop := ∀ i, i < l.length → szPrsOk (l.getD i (⟨0, ⟨#[]⟩⟩ : Prs)) n
def spSzPrs : Spec := ⟨fun _ _ => [], fun args objs K => match args, objs with
  | [.agg [.v (.int .i64 a0), .v (.string a1)], .v (.int .i64 n)], [] => ((a1.size ≤ 140737488351232) ∧ 0 ≤ n ∧ n ≤ 1099511627776) ∧ ∀ r : Int, (r = -1 ∨ (0 ≤ r ∧ r ≤ n ∧ (a1.size : Int) ≤ n)) → K (.v (.int .i64 r)) [] 0
  | _, _ => False, false⟩
theorem spSzPrs_t {L : Hp} {a : List AVal} : Spec.take spSzPrs L a = [] := id rfl
theorem spSzPrs_k : Spec.keep spSzPrs = false := id rfl
theorem spSzPrs_f {a0} {a1} {n} {K : AVal → Hp → Nat → Prop} : Spec.f spSzPrs ([.agg [.v (.int .i64 a0), .v (.string a1)], .v (.int .i64 n)]) ([]) K = (((a1.size ≤ 140737488351232) ∧ 0 ≤ n ∧ n ≤ 1099511627776) ∧ ∀ r : Int, (r = -1 ∨ (0 ≤ r ∧ r ≤ n ∧ (a1.size : Int) ≤ n)) → K (.v (.int .i64 r)) [] 0) := id rfl
theorem valid57 : Valid Tryd.prog 57 spSzPrs := by
  refine validI (Γ := lk []) Tryd.func57 bod57 low57 res57 (good_of trivial) ?_
  intro E args objs K h hE hG hP
  simp only [spSzPrs] at h
  split at h
  · refine ⟨by simp [Tryd.ntmps57], ?_⟩
    rename_i a0 a1 n
    obtain ⟨⟨hs, hn0, hn1⟩, h⟩ := h
    simp (config := { maxSteps := 2000000 }) only [go_sem, hG, hP, Nat.reduceEqDiff, ↓reduceIte, reduceCtorEq, Nat.reduceAdd, Nat.reduceSub, Nat.reduceMul, Nat.reduceLT, Nat.reduceLeDiff, Int.reduceAdd, Int.reduceSub, Int.reduceMul, Int.reduceLT, Int.reduceLE, Int.reduceEq, Int.reduceNeg, Int.reduceNe, Int.reduceGE, Int.reduceGT, Nat.reduceBEq, Int.reduceToNat]
    (try simp (disch := omega) only [wrap_id])
    repeat' (first | (refine And.intro ?_ ?_) | (with_reducible intro _))
    all_goals first
      | (refine ⟨_, _, _, ?_, h (-1) (.inl rfl)⟩; simp (config := { maxSteps := 2000000 }) only [go_sem, hG, hP, Nat.reduceEqDiff, ↓reduceIte, reduceCtorEq, Nat.reduceAdd, Nat.reduceSub, Nat.reduceMul, Nat.reduceLT, Nat.reduceLeDiff, Int.reduceAdd, Int.reduceSub, Int.reduceMul, Int.reduceLT, Int.reduceLE, Int.reduceEq, Int.reduceNeg, Int.reduceNe, Int.reduceGE, Int.reduceGT, Nat.reduceBEq, Int.reduceToNat]; done)
      | (refine ⟨_, _, _, ?_, h (n - (a1.size : Int)) (.inr ⟨by omega, by omega, by omega⟩)⟩; simp (config := { maxSteps := 2000000 }) only [go_sem, hG, hP, Nat.reduceEqDiff, ↓reduceIte, reduceCtorEq, Nat.reduceAdd, Nat.reduceSub, Nat.reduceMul, Nat.reduceLT, Nat.reduceLeDiff, Int.reduceAdd, Int.reduceSub, Int.reduceMul, Int.reduceLT, Int.reduceLE, Int.reduceEq, Int.reduceNeg, Int.reduceNe, Int.reduceGE, Int.reduceGT, Nat.reduceBEq, Int.reduceToNat]; done)
  · exact h.elim
def spSzPrsS : Spec := ⟨fun _ _ => [], fun args objs K => match args, objs with
  | [.rs .prs xs, .v (.int .i64 n)], [] => (szPrsAll xs 140737488351232 ∧ xs.length ≤ 17592186044416 ∧ 0 ≤ n ∧ n ≤ 1099511627776) ∧ ∀ r : Int, (r = -1 ∨ (0 ≤ r ∧ r ≤ n ∧ (xs.length : Int) ≤ n ∧ szPrsAll xs n.toNat)) → K (.v (.int .i64 r)) [] 0
  | _, _ => False, false⟩
theorem spSzPrsS_t {L : Hp} {a : List AVal} : Spec.take spSzPrsS L a = [] := id rfl
theorem spSzPrsS_k : Spec.keep spSzPrsS = false := id rfl
theorem spSzPrsS_f {xs} {n} {K : AVal → Hp → Nat → Prop} : Spec.f spSzPrsS ([.rs .prs xs, .v (.int .i64 n)]) ([]) K = ((szPrsAll xs 140737488351232 ∧ xs.length ≤ 17592186044416 ∧ 0 ≤ n ∧ n ≤ 1099511627776) ∧ ∀ r : Int, (r = -1 ∨ (0 ≤ r ∧ r ≤ n ∧ (xs.length : Int) ≤ n ∧ szPrsAll xs n.toNat)) → K (.v (.int .i64 r)) [] 0) := id rfl
theorem valid30 : Valid Tryd.prog 30 spSzPrsS := by
  refine validI (Γ := lk [(57, spSzPrs)]) Tryd.func30 bod30 low30 res30 (good_of ⟨⟨cal57, valid57⟩, trivial⟩) ?_
  intro E args objs K h hE hG hP
  simp only [spSzPrsS] at h
  split at h
  · refine ⟨by simp [Tryd.ntmps30], ?_⟩
    rename_i xs n
    obtain ⟨⟨hs, hl, hn0, hn1⟩, h⟩ := h
    have w1 : wr .i64 (n - xs.length) = n - xs.length := wrap_id (by omega) (by omega)
    by_cases hneg : n - xs.length < 0
    · have e1 := eq_true hneg
      simp (config := { maxSteps := 2000000 }) only [go_sem, hG, hP, Nat.reduceEqDiff, ↓reduceIte, reduceCtorEq, Nat.reduceAdd, Nat.reduceSub, Nat.reduceMul, Nat.reduceLT, Nat.reduceLeDiff, Int.reduceAdd, Int.reduceSub, Int.reduceMul, Int.reduceLT, Int.reduceLE, Int.reduceEq, Int.reduceNeg, Int.reduceNe, Int.reduceGE, Int.reduceGT, Nat.reduceBEq, Int.reduceToNat,  w1, e1]
      refine ⟨_, _, _, ?_, h (-1) (.inl rfl)⟩
      simp (config := { maxSteps := 2000000 }) only [go_sem, hG, hP, Nat.reduceEqDiff, ↓reduceIte, reduceCtorEq, Nat.reduceAdd, Nat.reduceSub, Nat.reduceMul, Nat.reduceLT, Nat.reduceLeDiff, Int.reduceAdd, Int.reduceSub, Int.reduceMul, Int.reduceLT, Int.reduceLE, Int.reduceEq, Int.reduceNeg, Int.reduceNe, Int.reduceGE, Int.reduceGT, Nat.reduceBEq, Int.reduceToNat]
    · have e1 := eq_false hneg
      simp (config := { maxSteps := 2000000 }) only [go_sem, hG, hP, Nat.reduceEqDiff, ↓reduceIte, reduceCtorEq, Nat.reduceAdd, Nat.reduceSub, Nat.reduceMul, Nat.reduceLT, Nat.reduceLeDiff, Int.reduceAdd, Int.reduceSub, Int.reduceMul, Int.reduceLT, Int.reduceLE, Int.reduceEq, Int.reduceNeg, Int.reduceNe, Int.reduceGE, Int.reduceGT, Nat.reduceBEq, Int.reduceToNat,  w1, e1]
      refine loopI hE (fun p : Nat × Int => ⟨[(0, .rs .prs xs), (1, .v (.int .i64 p.2)), (5, .v (.int .i64 p.1))], [], 0, Tryd.f30.ntmps⟩) (fun p => p.1 ≤ xs.length ∧ (0 ≤ p.2 ∧ p.2 ≤ n) ∧ ∀ i, i < p.1 → szPrsOk (xs.getD i (⟨0, ⟨#[]⟩⟩ : Prs)) n.toNat) (fun p => xs.length - p.1) ⟨(0, n - xs.length), ⟨by dsimp only; omega, ⟨by dsimp only; omega, by dsimp only; omega⟩, fun i hi => by dsimp only at hi; omega⟩, SubS.weak ?_⟩ ?_
      · simp (config := { maxSteps := 2000000 }) only [go_sem, hG, hP, Nat.reduceEqDiff, ↓reduceIte, reduceCtorEq, Nat.reduceAdd, Nat.reduceSub, Nat.reduceMul, Nat.reduceLT, Nat.reduceLeDiff, Int.reduceAdd, Int.reduceSub, Int.reduceMul, Int.reduceLT, Int.reduceLE, Int.reduceEq, Int.reduceNeg, Int.reduceNe, Int.reduceGE, Int.reduceGT, Nat.reduceBEq, Int.reduceToNat]
        repeat' (first | with_reducible rfl | (refine And.intro ?_ ?_) | (refine congrArg (Value.int _) ?_; omega) | omega)
      · rintro ⟨k, m⟩ ⟨k1, k2, k3⟩
        dsimp only at k1 k2 k3 ⊢
        by_cases hk : k < xs.length
        · have e2 : ((k : Int) < xs.length) = True := by apply eq_true; omega
          have hsk := hs k hk
          unfold szPrsOk at hsk
          simp (config := { maxSteps := 2000000 }) only [go_sem, hG, hP, Nat.reduceEqDiff, ↓reduceIte, reduceCtorEq, Nat.reduceAdd, Nat.reduceSub, Nat.reduceMul, Nat.reduceLT, Nat.reduceLeDiff, Int.reduceAdd, Int.reduceSub, Int.reduceMul, Int.reduceLT, Int.reduceLE, Int.reduceEq, Int.reduceNeg, Int.reduceNe, Int.reduceGE, Int.reduceGT, Nat.reduceBEq, Int.reduceToNat,  spSzPrs_f, spSzPrs_t, spSzPrs_k, e2]
          (try simp (disch := omega) only [wrap_id])
          repeat (refine And.intro (by first | omega | (simp; done) | (simp; omega) | (unfold appRoom; omega)) ?_)
          rintro r hr
          refine ⟨fun hng => ⟨_, _, _, ?_, h (-1) (.inl rfl)⟩, fun hps => ⟨(k + 1, r), ⟨⟨by dsimp only; omega, ⟨by dsimp only; omega, by dsimp only; omega⟩, fun i hi => ?_⟩, by dsimp only; omega⟩, SubS.weak ?_⟩⟩
          · simp (config := { maxSteps := 2000000 }) only [go_sem, hG, hP, Nat.reduceEqDiff, ↓reduceIte, reduceCtorEq, Nat.reduceAdd, Nat.reduceSub, Nat.reduceMul, Nat.reduceLT, Nat.reduceLeDiff, Int.reduceAdd, Int.reduceSub, Int.reduceMul, Int.reduceLT, Int.reduceLE, Int.reduceEq, Int.reduceNeg, Int.reduceNe, Int.reduceGE, Int.reduceGT, Nat.reduceBEq, Int.reduceToNat]
          · dsimp only at hi
            by_cases e : i < k
            · exact k3 i e
            · obtain rfl : i = k := by omega
              unfold szPrsOk
              omega
          · simp (config := { maxSteps := 2000000 }) only [go_sem, hG, hP, Nat.reduceEqDiff, ↓reduceIte, reduceCtorEq, Nat.reduceAdd, Nat.reduceSub, Nat.reduceMul, Nat.reduceLT, Nat.reduceLeDiff, Int.reduceAdd, Int.reduceSub, Int.reduceMul, Int.reduceLT, Int.reduceLE, Int.reduceEq, Int.reduceNeg, Int.reduceNe, Int.reduceGE, Int.reduceGT, Nat.reduceBEq, Int.reduceToNat]
            repeat' (first | with_reducible rfl | (refine And.intro ?_ ?_) | (refine congrArg (Value.int _) ?_; omega) | omega)
        · have e2 : ((k : Int) < xs.length) = False := by apply eq_false; omega
          simp (config := { maxSteps := 2000000 }) only [go_sem, hG, hP, Nat.reduceEqDiff, ↓reduceIte, reduceCtorEq, Nat.reduceAdd, Nat.reduceSub, Nat.reduceMul, Nat.reduceLT, Nat.reduceLeDiff, Int.reduceAdd, Int.reduceSub, Int.reduceMul, Int.reduceLT, Int.reduceLE, Int.reduceEq, Int.reduceNeg, Int.reduceNe, Int.reduceGE, Int.reduceGT, Nat.reduceBEq, Int.reduceToNat,  e2]
          refine ⟨_, _, _, ?_, h m (.inr ⟨k2.1, k2.2, by omega, fun i hi => k3 i (by omega)⟩)⟩
          simp (config := { maxSteps := 2000000 }) only [go_sem, hG, hP, Nat.reduceEqDiff, ↓reduceIte, reduceCtorEq, Nat.reduceAdd, Nat.reduceSub, Nat.reduceMul, Nat.reduceLT, Nat.reduceLeDiff, Int.reduceAdd, Int.reduceSub, Int.reduceMul, Int.reduceLT, Int.reduceLE, Int.reduceEq, Int.reduceNeg, Int.reduceNe, Int.reduceGE, Int.reduceGT, Nat.reduceBEq, Int.reduceToNat]
  · exact h.elim
def spToPrs : Spec := ⟨fun _ _ => [], fun args objs K => match args, objs with
  | [.agg [.v (.int .i64 a0), .v (.string a1)]], [] => K (.agg [.v (.int .i64 a0), .v (.string a1)]) [] 0
  | _, _ => False, false⟩
theorem spToPrs_t {L : Hp} {a : List AVal} : Spec.take spToPrs L a = [] := id rfl
theorem spToPrs_k : Spec.keep spToPrs = false := id rfl
theorem spToPrs_f {a0} {a1} {K : AVal → Hp → Nat → Prop} : Spec.f spToPrs ([.agg [.v (.int .i64 a0), .v (.string a1)]]) ([]) K = (K (.agg [.v (.int .i64 a0), .v (.string a1)]) [] 0) := id rfl
theorem valid58 : Valid Tryd.prog 58 spToPrs := by
  refine validI (Γ := lk []) Tryd.func58 bod58 low58 res58 (good_of trivial) ?_
  intro E args objs K h hE hG hP
  simp only [spToPrs] at h
  split at h
  · refine ⟨by simp [Tryd.ntmps58], ?_⟩
    rename_i a0 a1
    simp (config := { maxSteps := 2000000 }) only [go_sem, hG, hP, Nat.reduceEqDiff, ↓reduceIte, reduceCtorEq, Nat.reduceAdd, Nat.reduceSub, Nat.reduceMul, Nat.reduceLT, Nat.reduceLeDiff, Int.reduceAdd, Int.reduceSub, Int.reduceMul, Int.reduceLT, Int.reduceLE, Int.reduceEq, Int.reduceNeg, Int.reduceNe, Int.reduceGE, Int.reduceGT, Nat.reduceBEq, Int.reduceToNat]
    exact ⟨_, _, _, by simp (config := { maxSteps := 2000000 }) only [go_sem, hG, hP, Nat.reduceEqDiff, ↓reduceIte, reduceCtorEq, Nat.reduceAdd, Nat.reduceSub, Nat.reduceMul, Nat.reduceLT, Nat.reduceLeDiff, Int.reduceAdd, Int.reduceSub, Int.reduceMul, Int.reduceLT, Int.reduceLE, Int.reduceEq, Int.reduceNeg, Int.reduceNe, Int.reduceGE, Int.reduceGT, Nat.reduceBEq, Int.reduceToNat], h⟩
  · exact h.elim
def spToPrsS : Spec := ⟨fun _ _ => [], fun args objs K => match args, objs with
  | [.rs .prs xs], [] => xs.length ≤ 1099511627776 ∧ K (.sub 0 2 0 xs.length) [(0, .row .prs xs)] 1
  | _, _ => False, false⟩
theorem spToPrsS_t {L : Hp} {a : List AVal} : Spec.take spToPrsS L a = [] := id rfl
theorem spToPrsS_k : Spec.keep spToPrsS = false := id rfl
theorem spToPrsS_f {xs} {K : AVal → Hp → Nat → Prop} : Spec.f spToPrsS ([.rs .prs xs]) ([]) K = (xs.length ≤ 1099511627776 ∧ K (.sub 0 2 0 xs.length) [(0, .row .prs xs)] 1) := id rfl
theorem valid31 : Valid Tryd.prog 31 spToPrsS := by
  refine validI (Γ := lk [(58, spToPrs)]) Tryd.func31 bod31 low31 res31 (good_of ⟨⟨cal58, valid58⟩, trivial⟩) ?_
  intro E args objs K h hE hG hP
  simp only [spToPrsS] at h
  split at h
  · refine ⟨by simp [Tryd.ntmps31], ?_⟩
    rename_i xs
    obtain ⟨hlen, h⟩ := h
    simp (config := { maxSteps := 2000000 }) only [go_sem, hG, hP, Nat.reduceEqDiff, ↓reduceIte, reduceCtorEq, Nat.reduceAdd, Nat.reduceSub, Nat.reduceMul, Nat.reduceLT, Nat.reduceLeDiff, Int.reduceAdd, Int.reduceSub, Int.reduceMul, Int.reduceLT, Int.reduceLE, Int.reduceEq, Int.reduceNeg, Int.reduceNe, Int.reduceGE, Int.reduceGT, Nat.reduceBEq, Int.reduceToNat]
    refine ⟨⟨by omega, by unfold appRoom; omega, by omega⟩, ?_⟩
    refine loopI hE (fun k : Nat => ⟨[(0, .rs .prs xs), (3, .sub 0 2 0 xs.length), (4, .v (.int .i64 k))], [(0, .row .prs (xs.take k ++ List.replicate (xs.length - k) (⟨0, ⟨#[]⟩⟩ : Prs)))], 1, Tryd.f31.ntmps⟩) (fun k => k ≤ xs.length) (fun k => xs.length - k) ⟨0, Nat.zero_le _, SubS.weak ?_⟩ ?_
    · simp (config := { maxSteps := 2000000 }) only [go_sem, hG, hP, Nat.reduceEqDiff, ↓reduceIte, reduceCtorEq, Nat.reduceAdd, Nat.reduceSub, Nat.reduceMul, Nat.reduceLT, Nat.reduceLeDiff, Int.reduceAdd, Int.reduceSub, Int.reduceMul, Int.reduceLT, Int.reduceLE, Int.reduceEq, Int.reduceNeg, Int.reduceNe, Int.reduceGE, Int.reduceGT, Nat.reduceBEq, Int.reduceToNat]
      all_goals simp
    · intro k hk
      simp (config := { maxSteps := 2000000 }) only [go_sem, hG, hP, Nat.reduceEqDiff, ↓reduceIte, reduceCtorEq, Nat.reduceAdd, Nat.reduceSub, Nat.reduceMul, Nat.reduceLT, Nat.reduceLeDiff, Int.reduceAdd, Int.reduceSub, Int.reduceMul, Int.reduceLT, Int.reduceLE, Int.reduceEq, Int.reduceNeg, Int.reduceNe, Int.reduceGE, Int.reduceGT, Nat.reduceBEq, Int.reduceToNat,  spToPrs_f, spToPrs_t, spToPrs_k]
      (try simp (disch := omega) only [wrap_id])
      refine ⟨fun hlt => ?_, fun hge => ⟨_, _, _, ?_, h⟩⟩
      · rw [fill_len _ _ _ hk]
        repeat (refine And.intro (by first | omega | (simp; done) | (simp; omega) | (unfold appRoom; omega)) ?_)
        refine ⟨k + 1, by omega, SubS.weak ?_⟩
        simp (config := { maxSteps := 2000000 }) only [go_sem, hG, hP, Nat.reduceEqDiff, ↓reduceIte, reduceCtorEq, Nat.reduceAdd, Nat.reduceSub, Nat.reduceMul, Nat.reduceLT, Nat.reduceLeDiff, Int.reduceAdd, Int.reduceSub, Int.reduceMul, Int.reduceLT, Int.reduceLE, Int.reduceEq, Int.reduceNeg, Int.reduceNe, Int.reduceGE, Int.reduceGT, Nat.reduceBEq, Int.reduceToNat]
        rw [fill_set _ _ _ _ (by omega)]
        simp
      · simp (config := { maxSteps := 2000000 }) only [go_sem, hG, hP, Nat.reduceEqDiff, ↓reduceIte, reduceCtorEq, Nat.reduceAdd, Nat.reduceSub, Nat.reduceMul, Nat.reduceLT, Nat.reduceLeDiff, Int.reduceAdd, Int.reduceSub, Int.reduceMul, Int.reduceLT, Int.reduceLE, Int.reduceEq, Int.reduceNeg, Int.reduceNe, Int.reduceGE, Int.reduceGT, Nat.reduceBEq, Int.reduceToNat]
        simp [show k = xs.length by omega]
  · exact h.elim
def spEqPrs : Spec := ⟨fun _ _ => [], fun args objs K => match args, objs with
  | [.agg [.v (.int .i64 a0), .v (.string a1)], .agg [.v (.int .i64 b0), .v (.string b1)]], [] => K (.v (.bool (decide (a0 = b0 ∧ a1 = b1)))) [] 0
  | _, _ => False, false⟩
theorem spEqPrs_t {L : Hp} {a : List AVal} : Spec.take spEqPrs L a = [] := id rfl
theorem spEqPrs_k : Spec.keep spEqPrs = false := id rfl
theorem spEqPrs_f {a0} {a1} {b0} {b1} {K : AVal → Hp → Nat → Prop} : Spec.f spEqPrs ([.agg [.v (.int .i64 a0), .v (.string a1)], .agg [.v (.int .i64 b0), .v (.string b1)]]) ([]) K = (K (.v (.bool (decide (a0 = b0 ∧ a1 = b1)))) [] 0) := id rfl
theorem valid59 : Valid Tryd.prog 59 spEqPrs := by
  refine validI (Γ := lk []) Tryd.func59 bod59 low59 res59 (good_of trivial) ?_
  intro E args objs K h hE hG hP
  simp only [spEqPrs] at h
  split at h
  · refine ⟨by simp [Tryd.ntmps59], ?_⟩
    rename_i a0 a1 b0 b1
    simp (config := { maxSteps := 2000000 }) only [go_sem, hG, hP, Nat.reduceEqDiff, ↓reduceIte, reduceCtorEq, Nat.reduceAdd, Nat.reduceSub, Nat.reduceMul, Nat.reduceLT, Nat.reduceLeDiff, Int.reduceAdd, Int.reduceSub, Int.reduceMul, Int.reduceLT, Int.reduceLE, Int.reduceEq, Int.reduceNeg, Int.reduceNe, Int.reduceGE, Int.reduceGT, Nat.reduceBEq, Int.reduceToNat]
    refine ⟨fun h0 => ⟨_, _, _, ?_, h⟩, fun h0 => ⟨fun h1 => ⟨_, _, _, ?_, h⟩, fun h1 => ⟨_, _, _, ?_, h⟩⟩⟩ <;> simp (config := { maxSteps := 2000000 }) only [go_sem, hG, hP, Nat.reduceEqDiff, ↓reduceIte, reduceCtorEq, Nat.reduceAdd, Nat.reduceSub, Nat.reduceMul, Nat.reduceLT, Nat.reduceLeDiff, Int.reduceAdd, Int.reduceSub, Int.reduceMul, Int.reduceLT, Int.reduceLE, Int.reduceEq, Int.reduceNeg, Int.reduceNe, Int.reduceGE, Int.reduceGT, Nat.reduceBEq, Int.reduceToNat] <;> simp_all
  · exact h.elim
def spEqPrsS : Spec := ⟨fun _ _ => [], fun args objs K => match args, objs with
  | [.rs .prs xs, .rs .prs ys], [] => (xs.length ≤ 1099511627776 ∧ ys.length ≤ 1099511627776) ∧ ∀ b : Bool, (b = true ↔ xs = ys) → K (.v (.bool b)) [] 0
  | _, _ => False, false⟩
theorem spEqPrsS_t {L : Hp} {a : List AVal} : Spec.take spEqPrsS L a = [] := id rfl
theorem spEqPrsS_k : Spec.keep spEqPrsS = false := id rfl
theorem spEqPrsS_f {xs} {ys} {K : AVal → Hp → Nat → Prop} : Spec.f spEqPrsS ([.rs .prs xs, .rs .prs ys]) ([]) K = ((xs.length ≤ 1099511627776 ∧ ys.length ≤ 1099511627776) ∧ ∀ b : Bool, (b = true ↔ xs = ys) → K (.v (.bool b)) [] 0) := id rfl
theorem valid32 : Valid Tryd.prog 32 spEqPrsS := by
  refine validI (Γ := lk [(59, spEqPrs)]) Tryd.func32 bod32 low32 res32 (good_of ⟨⟨cal59, valid59⟩, trivial⟩) ?_
  intro E args objs K h hE hG hP
  simp only [spEqPrsS] at h
  split at h
  · refine ⟨by simp [Tryd.ntmps32], ?_⟩
    rename_i xs ys
    obtain ⟨⟨hlen, hlen2⟩, h⟩ := h
    simp (config := { maxSteps := 2000000 }) only [go_sem, hG, hP, Nat.reduceEqDiff, ↓reduceIte, reduceCtorEq, Nat.reduceAdd, Nat.reduceSub, Nat.reduceMul, Nat.reduceLT, Nat.reduceLeDiff, Int.reduceAdd, Int.reduceSub, Int.reduceMul, Int.reduceLT, Int.reduceLE, Int.reduceEq, Int.reduceNeg, Int.reduceNe, Int.reduceGE, Int.reduceGT, Nat.reduceBEq, Int.reduceToNat]
    refine ⟨fun h1 => ⟨_, _, _, ?_, h false ⟨fun e => by (cases e), fun e => absurd (by rw [e]) h1⟩⟩, fun h1 => ?_⟩
    · simp (config := { maxSteps := 2000000 }) only [go_sem, hG, hP, Nat.reduceEqDiff, ↓reduceIte, reduceCtorEq, Nat.reduceAdd, Nat.reduceSub, Nat.reduceMul, Nat.reduceLT, Nat.reduceLeDiff, Int.reduceAdd, Int.reduceSub, Int.reduceMul, Int.reduceLT, Int.reduceLE, Int.reduceEq, Int.reduceNeg, Int.reduceNe, Int.reduceGE, Int.reduceGT, Nat.reduceBEq, Int.reduceToNat]
    · have hle : xs.length = ys.length := by omega
      refine loopI hE (fun k : Nat => ⟨[(0, .rs .prs xs), (1, .rs .prs ys), (5, .v (.int .i64 k))], [], 0, Tryd.f32.ntmps⟩) (fun k => k ≤ xs.length ∧ xs.take k = ys.take k) (fun k => xs.length - k) ⟨0, ⟨Nat.zero_le _, rfl⟩, SubS.weak ?_⟩ ?_
      · simp (config := { maxSteps := 2000000 }) only [go_sem, hG, hP, Nat.reduceEqDiff, ↓reduceIte, reduceCtorEq, Nat.reduceAdd, Nat.reduceSub, Nat.reduceMul, Nat.reduceLT, Nat.reduceLeDiff, Int.reduceAdd, Int.reduceSub, Int.reduceMul, Int.reduceLT, Int.reduceLE, Int.reduceEq, Int.reduceNeg, Int.reduceNe, Int.reduceGE, Int.reduceGT, Nat.reduceBEq, Int.reduceToNat]
        all_goals simp
      · intro k ⟨hk, hpre⟩
        simp (config := { maxSteps := 2000000 }) only [go_sem, hG, hP, Nat.reduceEqDiff, ↓reduceIte, reduceCtorEq, Nat.reduceAdd, Nat.reduceSub, Nat.reduceMul, Nat.reduceLT, Nat.reduceLeDiff, Int.reduceAdd, Int.reduceSub, Int.reduceMul, Int.reduceLT, Int.reduceLE, Int.reduceEq, Int.reduceNeg, Int.reduceNe, Int.reduceGE, Int.reduceGT, Nat.reduceBEq, Int.reduceToNat,  spEqPrs_f, spEqPrs_t, spEqPrs_k]
        (try simp (disch := omega) only [wrap_id])
        refine ⟨fun hlt => ?_, fun hge => ⟨_, _, _, ?_, h true ⟨fun _ => take_all hpre hle (by omega), fun _ => rfl⟩⟩⟩
        · repeat (refine And.intro (by first | omega | (simp; done) | (simp; omega) | (unfold appRoom; omega)) ?_)
          refine ⟨fun hne => ⟨_, _, _, ?_, h false ⟨fun e => by (cases e), fun e => ?_⟩⟩, fun heq => ?_⟩
          · simp (config := { maxSteps := 2000000 }) only [go_sem, hG, hP, Nat.reduceEqDiff, ↓reduceIte, reduceCtorEq, Nat.reduceAdd, Nat.reduceSub, Nat.reduceMul, Nat.reduceLT, Nat.reduceLeDiff, Int.reduceAdd, Int.reduceSub, Int.reduceMul, Int.reduceLT, Int.reduceLE, Int.reduceEq, Int.reduceNeg, Int.reduceNe, Int.reduceGE, Int.reduceGT, Nat.reduceBEq, Int.reduceToNat]
          · subst e
            simp at hne
          · refine ⟨k + 1, ⟨⟨by omega, take_step (⟨0, ⟨#[]⟩⟩ : Prs) hpre (by omega) (by omega) (by simp at heq; exact prs_ext heq.1 heq.2)⟩, by omega⟩, SubS.weak ?_⟩
            simp (config := { maxSteps := 2000000 }) only [go_sem, hG, hP, Nat.reduceEqDiff, ↓reduceIte, reduceCtorEq, Nat.reduceAdd, Nat.reduceSub, Nat.reduceMul, Nat.reduceLT, Nat.reduceLeDiff, Int.reduceAdd, Int.reduceSub, Int.reduceMul, Int.reduceLT, Int.reduceLE, Int.reduceEq, Int.reduceNeg, Int.reduceNe, Int.reduceGE, Int.reduceGT, Nat.reduceBEq, Int.reduceToNat]
            all_goals simp
        · simp (config := { maxSteps := 2000000 }) only [go_sem, hG, hP, Nat.reduceEqDiff, ↓reduceIte, reduceCtorEq, Nat.reduceAdd, Nat.reduceSub, Nat.reduceMul, Nat.reduceLT, Nat.reduceLeDiff, Int.reduceAdd, Int.reduceSub, Int.reduceMul, Int.reduceLT, Int.reduceLE, Int.reduceEq, Int.reduceNeg, Int.reduceNe, Int.reduceGE, Int.reduceGT, Nat.reduceBEq, Int.reduceToNat]
  · exact h.elim
def spIn : Spec := ⟨fun _ _ => [], fun args objs K => match args, objs with
  | [.v (.int .i64 x), .v (.int .i64 a), .v (.int .i64 b)], [] => K (.v (.bool (decide (a ≤ x ∧ x ≤ b)))) [] 0
  | _, _ => False, false⟩
theorem spIn_t {L : Hp} {a : List AVal} : Spec.take spIn L a = [] := id rfl
theorem spIn_k : Spec.keep spIn = false := id rfl
theorem spIn_f {x} {a} {b} {K : AVal → Hp → Nat → Prop} : Spec.f spIn ([.v (.int .i64 x), .v (.int .i64 a), .v (.int .i64 b)]) ([]) K = (K (.v (.bool (decide (a ≤ x ∧ x ≤ b)))) [] 0) := id rfl
theorem valid37 : Valid Tryd.prog 37 spIn := by
  refine validI (Γ := lk []) Tryd.func37 bod37 low37 res37 (good_of trivial) ?_
  intro E args objs K h hE hG hP
  simp only [spIn] at h
  split at h
  · refine ⟨by simp [Tryd.ntmps37], ?_⟩
    simp (config := { maxSteps := 2000000 }) only [go_sem, hG, hP, Nat.reduceEqDiff, ↓reduceIte, reduceCtorEq, Nat.reduceAdd, Nat.reduceSub, Nat.reduceMul, Nat.reduceLT, Nat.reduceLeDiff, Int.reduceAdd, Int.reduceSub, Int.reduceMul, Int.reduceLT, Int.reduceLE, Int.reduceEq, Int.reduceNeg, Int.reduceNe, Int.reduceGE, Int.reduceGT, Nat.reduceBEq, Int.reduceToNat]
    repeat' (first | (refine And.intro ?_ ?_) | (with_reducible intro _))
    all_goals (refine ⟨_, _, _, ?_, h⟩; simp (config := { maxSteps := 2000000 }) only [go_sem, hG, hP, Nat.reduceEqDiff, ↓reduceIte, reduceCtorEq, Nat.reduceAdd, Nat.reduceSub, Nat.reduceMul, Nat.reduceLT, Nat.reduceLeDiff, Int.reduceAdd, Int.reduceSub, Int.reduceMul, Int.reduceLT, Int.reduceLE, Int.reduceEq, Int.reduceNeg, Int.reduceNe, Int.reduceGE, Int.reduceGT, Nat.reduceBEq, Int.reduceToNat]; all_goals (first | (simp; done) | (simp; omega) | omega))
  · exact h.elim
theorem valid49 : Valid Tryd.prog 49 spIn := by
  refine validI (Γ := lk []) Tryd.func49 bod49 low49 res49 (good_of trivial) ?_
  intro E args objs K h hE hG hP
  simp only [spIn] at h
  split at h
  · refine ⟨by simp [Tryd.ntmps49], ?_⟩
    simp (config := { maxSteps := 2000000 }) only [go_sem, hG, hP, Nat.reduceEqDiff, ↓reduceIte, reduceCtorEq, Nat.reduceAdd, Nat.reduceSub, Nat.reduceMul, Nat.reduceLT, Nat.reduceLeDiff, Int.reduceAdd, Int.reduceSub, Int.reduceMul, Int.reduceLT, Int.reduceLE, Int.reduceEq, Int.reduceNeg, Int.reduceNe, Int.reduceGE, Int.reduceGT, Nat.reduceBEq, Int.reduceToNat]
    repeat' (first | (refine And.intro ?_ ?_) | (with_reducible intro _))
    all_goals (refine ⟨_, _, _, ?_, h⟩; simp (config := { maxSteps := 2000000 }) only [go_sem, hG, hP, Nat.reduceEqDiff, ↓reduceIte, reduceCtorEq, Nat.reduceAdd, Nat.reduceSub, Nat.reduceMul, Nat.reduceLT, Nat.reduceLeDiff, Int.reduceAdd, Int.reduceSub, Int.reduceMul, Int.reduceLT, Int.reduceLE, Int.reduceEq, Int.reduceNeg, Int.reduceNe, Int.reduceGE, Int.reduceGT, Nat.reduceBEq, Int.reduceToNat]; all_goals (first | (simp; done) | (simp; omega) | omega))
  · exact h.elim
def digV (x : Int) : Bool := decide ((48 ≤ x ∧ x ≤ 57) ∨ x = 42 ∨ x = 35)
def spDigit : Spec := ⟨fun _ _ => [], fun args objs K => match args, objs with
  | [.v (.int .u8 x)], [] => K (.v (.bool (digV x))) [] 0
  | _, _ => False, false⟩
theorem spDigit_t {L : Hp} {a : List AVal} : Spec.take spDigit L a = [] := id rfl
theorem spDigit_k : Spec.keep spDigit = false := id rfl
theorem spDigit_f {x} {K : AVal → Hp → Nat → Prop} : Spec.f spDigit ([.v (.int .u8 x)]) ([]) K = (K (.v (.bool (digV x))) [] 0) := id rfl
theorem valid61 : Valid Tryd.prog 61 spDigit := by
  refine validI (Γ := lk []) Tryd.func61 bod61 low61 res61 (good_of trivial) ?_
  intro E args objs K h hE hG hP
  simp only [spDigit] at h
  split at h
  · refine ⟨by simp [Tryd.ntmps61], ?_⟩
    rename_i x
    unfold digV at h
    simp (config := { maxSteps := 2000000 }) only [go_sem, hG, hP, Nat.reduceEqDiff, ↓reduceIte, reduceCtorEq, Nat.reduceAdd, Nat.reduceSub, Nat.reduceMul, Nat.reduceLT, Nat.reduceLeDiff, Int.reduceAdd, Int.reduceSub, Int.reduceMul, Int.reduceLT, Int.reduceLE, Int.reduceEq, Int.reduceNeg, Int.reduceNe, Int.reduceGE, Int.reduceGT, Nat.reduceBEq, Int.reduceToNat]
    repeat' (first | (refine And.intro ?_ ?_) | (with_reducible intro _))
    all_goals (refine ⟨_, _, _, ?_, h⟩; simp (config := { maxSteps := 2000000 }) only [go_sem, hG, hP, Nat.reduceEqDiff, ↓reduceIte, reduceCtorEq, Nat.reduceAdd, Nat.reduceSub, Nat.reduceMul, Nat.reduceLT, Nat.reduceLeDiff, Int.reduceAdd, Int.reduceSub, Int.reduceMul, Int.reduceLT, Int.reduceLE, Int.reduceEq, Int.reduceNeg, Int.reduceNe, Int.reduceGE, Int.reduceGT, Nat.reduceBEq, Int.reduceToNat]; all_goals (first | (simp; done) | (simp; omega) | omega | (congr 1; rw [Bool.eq_iff_iff]; simp; omega) | trace_state))
  · exact h.elim
/-- Only digits (and the two signs), and not too many. -/
def allDig (s : ByteArray) : Prop := ∀ i, i < s.size → digV (byteV s i) = true
def digsP (s : ByteArray) : Prop := s.size ≤ 20 ∧ allDig s
noncomputable instance (s : ByteArray) : Decidable (digsP s) := Classical.propDecidable _
def spDigits : Spec := ⟨fun _ _ => [], fun args objs K => match args, objs with
  | [.v (.string s)], [] => s.size ≤ 140737488351232 ∧ K (.v (.bool (decide (digsP s)))) [] 0
  | _, _ => False, false⟩
theorem spDigits_t {L : Hp} {a : List AVal} : Spec.take spDigits L a = [] := id rfl
theorem spDigits_k : Spec.keep spDigits = false := id rfl
theorem spDigits_f {s} {K : AVal → Hp → Nat → Prop} : Spec.f spDigits ([.v (.string s)]) ([]) K = (s.size ≤ 140737488351232 ∧ K (.v (.bool (decide (digsP s)))) [] 0) := id rfl
theorem valid40 : Valid Tryd.prog 40 spDigits := by
  refine validI (Γ := lk [(61, spDigit)]) Tryd.func40 bod40 low40 res40 (good_of ⟨⟨cal61, valid61⟩, trivial⟩) ?_
  intro E args objs K h hE hG hP
  simp only [spDigits] at h
  split at h
  · refine ⟨by simp [Tryd.ntmps40], ?_⟩
    rename_i s
    obtain ⟨hs, h⟩ := h
    simp (config := { maxSteps := 2000000 }) only [go_sem, hG, hP, Nat.reduceEqDiff, ↓reduceIte, reduceCtorEq, Nat.reduceAdd, Nat.reduceSub, Nat.reduceMul, Nat.reduceLT, Nat.reduceLeDiff, Int.reduceAdd, Int.reduceSub, Int.reduceMul, Int.reduceLT, Int.reduceLE, Int.reduceEq, Int.reduceNeg, Int.reduceNe, Int.reduceGE, Int.reduceGT, Nat.reduceBEq, Int.reduceToNat]
    refine loopI hE (fun k : Nat => ⟨[(0, .v (.string s)), (3, .v (.int .i64 k))], [], 0, Tryd.f40.ntmps⟩) (fun k => k ≤ s.size ∧ ∀ i, i < k → digV (byteV s i) = true) (fun k => s.size - k) ⟨0, ⟨Nat.zero_le _, fun i hi => by omega⟩, SubS.weak ?_⟩ ?_
    · simp (config := { maxSteps := 2000000 }) only [go_sem, hG, hP, Nat.reduceEqDiff, ↓reduceIte, reduceCtorEq, Nat.reduceAdd, Nat.reduceSub, Nat.reduceMul, Nat.reduceLT, Nat.reduceLeDiff, Int.reduceAdd, Int.reduceSub, Int.reduceMul, Int.reduceLT, Int.reduceLE, Int.reduceEq, Int.reduceNeg, Int.reduceNe, Int.reduceGE, Int.reduceGT, Nat.reduceBEq, Int.reduceToNat]
      repeat' (first | with_reducible rfl | (refine And.intro ?_ ?_) | (refine congrArg (Value.int _) ?_; omega) | omega)
    · rintro k ⟨hk, hpre⟩
      by_cases hlt : k < s.size
      · have e1 : ((k : Int) < s.size) = True := by apply eq_true; omega
        cases hd : digV (byteV s k) with
        | true =>
          simp (config := { maxSteps := 2000000 }) only [go_sem, hG, hP, Nat.reduceEqDiff, ↓reduceIte, reduceCtorEq, Nat.reduceAdd, Nat.reduceSub, Nat.reduceMul, Nat.reduceLT, Nat.reduceLeDiff, Int.reduceAdd, Int.reduceSub, Int.reduceMul, Int.reduceLT, Int.reduceLE, Int.reduceEq, Int.reduceNeg, Int.reduceNe, Int.reduceGE, Int.reduceGT, Nat.reduceBEq, Int.reduceToNat,  e1, spDigit_f, spDigit_t, spDigit_k, hd]
          (try simp (disch := omega) only [wrap_id])
          repeat (refine And.intro (by first | omega | (simp; done) | (simp; omega) | (unfold appRoom; omega)) ?_)
          refine ⟨k + 1, ⟨⟨by omega, fun i hi => ?_⟩, by omega⟩, SubS.weak ?_⟩
          · by_cases e : i < k
            · exact hpre i e
            · obtain rfl : i = k := by omega
              exact hd
          · simp (config := { maxSteps := 2000000 }) only [go_sem, hG, hP, Nat.reduceEqDiff, ↓reduceIte, reduceCtorEq, Nat.reduceAdd, Nat.reduceSub, Nat.reduceMul, Nat.reduceLT, Nat.reduceLeDiff, Int.reduceAdd, Int.reduceSub, Int.reduceMul, Int.reduceLT, Int.reduceLE, Int.reduceEq, Int.reduceNeg, Int.reduceNe, Int.reduceGE, Int.reduceGT, Nat.reduceBEq, Int.reduceToNat]
            repeat' (first | with_reducible rfl | (refine And.intro ?_ ?_) | (refine congrArg (Value.int _) ?_; omega) | omega)
        | false =>
          have hn : ¬ digsP s := fun e => by have := e.2 k hlt; rw [hd] at this; cases this
          rw [decide_eq_false hn] at h
          simp (config := { maxSteps := 2000000 }) only [go_sem, hG, hP, Nat.reduceEqDiff, ↓reduceIte, reduceCtorEq, Nat.reduceAdd, Nat.reduceSub, Nat.reduceMul, Nat.reduceLT, Nat.reduceLeDiff, Int.reduceAdd, Int.reduceSub, Int.reduceMul, Int.reduceLT, Int.reduceLE, Int.reduceEq, Int.reduceNeg, Int.reduceNe, Int.reduceGE, Int.reduceGT, Nat.reduceBEq, Int.reduceToNat,  e1, spDigit_f, spDigit_t, spDigit_k, hd]
          (try simp (disch := omega) only [wrap_id])
          repeat (refine And.intro (by first | omega | (simp; done) | (simp; omega) | (unfold appRoom; omega)) ?_)
          refine ⟨_, _, _, ?_, h⟩
          simp (config := { maxSteps := 2000000 }) only [go_sem, hG, hP, Nat.reduceEqDiff, ↓reduceIte, reduceCtorEq, Nat.reduceAdd, Nat.reduceSub, Nat.reduceMul, Nat.reduceLT, Nat.reduceLeDiff, Int.reduceAdd, Int.reduceSub, Int.reduceMul, Int.reduceLT, Int.reduceLE, Int.reduceEq, Int.reduceNeg, Int.reduceNe, Int.reduceGE, Int.reduceGT, Nat.reduceBEq, Int.reduceToNat]
      · have e1 : ((k : Int) < s.size) = False := by apply eq_false; omega
        have ha : allDig s := fun i hi => hpre i (by omega)
        simp (config := { maxSteps := 2000000 }) only [go_sem, hG, hP, Nat.reduceEqDiff, ↓reduceIte, reduceCtorEq, Nat.reduceAdd, Nat.reduceSub, Nat.reduceMul, Nat.reduceLT, Nat.reduceLeDiff, Int.reduceAdd, Int.reduceSub, Int.reduceMul, Int.reduceLT, Int.reduceLE, Int.reduceEq, Int.reduceNeg, Int.reduceNe, Int.reduceGE, Int.reduceGT, Nat.reduceBEq, Int.reduceToNat,  e1]
        refine ⟨_, _, _, ?_, h⟩
        simp (config := { maxSteps := 2000000 }) only [go_sem, hG, hP, Nat.reduceEqDiff, ↓reduceIte, reduceCtorEq, Nat.reduceAdd, Nat.reduceSub, Nat.reduceMul, Nat.reduceLT, Nat.reduceLeDiff, Int.reduceAdd, Int.reduceSub, Int.reduceMul, Int.reduceLT, Int.reduceLE, Int.reduceEq, Int.reduceNeg, Int.reduceNe, Int.reduceGE, Int.reduceGT, Nat.reduceBEq, Int.reduceToNat]
        by_cases e : s.size ≤ 20
        · rw [decide_eq_true (show digsP s from ⟨e, ha⟩)]; simp; omega
        · rw [decide_eq_false (show ¬ digsP s from fun q => e q.1)]; simp; omega
  · exact h.elim
end Go.Proofs.YthghcialeghgoaaDoorE

/-! The code of a function, in the engine's words. -/
namespace Go.Proofs.YthghcialeghgoaaDoorE
open Go Go.RowKit
@[reducible] def ic34 : IC := (.seq (.ops [⟨some 1, .box (.tmp 0), none⟩, ⟨some 2, .mov (.const (.bool false)), none⟩]) (.seq (.ops [⟨some 3, .fadr 0 (.tmp 1), none⟩, ⟨some 4, .load 1 false (.tmp 3), none⟩, ⟨some 5, .call 40 [(.tmp 4)], none⟩, ⟨some 6, .mov (.tmp 5), none⟩, ⟨some 7, .fadr 0 (.tmp 1), some (6, true)⟩, ⟨some 8, .load 1 false (.tmp 7), some (6, true)⟩, ⟨some 9, .slen (.tmp 8), some (6, true)⟩, ⟨some 10, .bin .gtr (.tmp 9) (.const (.int .i64 0)), some (6, true)⟩, ⟨some 11, .pick (.tmp 6) (.tmp 10) (.const (.bool false)), none⟩, ⟨some 12, .mov (.tmp 11), none⟩, ⟨some 13, .fadr 1 (.tmp 1), some (12, true)⟩, ⟨some 14, .load 1 false (.tmp 13), some (12, true)⟩, ⟨some 15, .fadr 0 (.tmp 1), some (12, true)⟩, ⟨some 16, .load 1 false (.tmp 15), some (12, true)⟩, ⟨some 17, .slen (.tmp 16), some (12, true)⟩, ⟨some 18, .bin .geq (.tmp 14) (.tmp 17), some (12, true)⟩, ⟨some 19, .pick (.tmp 12) (.tmp 18) (.const (.bool false)), none⟩, ⟨some 20, .mov (.tmp 19), none⟩, ⟨some 21, .fadr 2 (.tmp 1), some (20, true)⟩, ⟨some 22, .load 1 false (.tmp 21), some (20, true)⟩, ⟨some 23, .fadr 1 (.tmp 1), some (20, true)⟩, ⟨some 24, .load 1 false (.tmp 23), some (20, true)⟩, ⟨some 25, .bin .geq (.tmp 22) (.tmp 24), some (20, true)⟩, ⟨some 26, .pick (.tmp 20) (.tmp 25) (.const (.bool false)), none⟩, ⟨some 27, .mov (.tmp 26), none⟩, ⟨some 28, .fadr 2 (.tmp 1), some (27, true)⟩, ⟨some 29, .load 1 false (.tmp 28), some (27, true)⟩, ⟨some 30, .bin .leq (.tmp 29) (.const (.int .i64 20)), some (27, true)⟩, ⟨some 31, .pick (.tmp 27) (.tmp 30) (.const (.bool false)), none⟩, ⟨some 32, .mov (.tmp 31), none⟩, ⟨some 33, .fadr 3 (.tmp 1), some (32, true)⟩, ⟨some 34, .load 1 false (.tmp 33), some (32, true)⟩, ⟨some 35, .call 49 [(.tmp 34), (.const (.int .i64 0)), (.const (.int .i64 1000))], some (32, true)⟩, ⟨some 36, .pick (.tmp 32) (.tmp 35) (.const (.bool false)), none⟩, ⟨some 37, .mov (.tmp 36), none⟩, ⟨some 38, .fadr 4 (.tmp 1), some (37, true)⟩, ⟨some 39, .load 1 false (.tmp 38), some (37, true)⟩, ⟨some 40, .fadr 1 (.tmp 1), some (37, true)⟩, ⟨some 41, .load 1 false (.tmp 40), some (37, true)⟩, ⟨some 42, .call 49 [(.tmp 39), (.const (.int .i64 0)), (.tmp 41)], some (37, true)⟩, ⟨some 43, .pick (.tmp 37) (.tmp 42) (.const (.bool false)), none⟩, ⟨some 44, .mov (.tmp 43), none⟩, ⟨some 45, .fadr 5 (.tmp 1), some (44, true)⟩, ⟨some 46, .load 1 false (.tmp 45), some (44, true)⟩, ⟨some 47, .call 40 [(.tmp 46)], some (44, true)⟩, ⟨some 48, .pick (.tmp 44) (.tmp 47) (.const (.bool false)), none⟩, ⟨some 49, .mov (.tmp 48), none⟩, ⟨some 50, .fadr 5 (.tmp 1), some (49, true)⟩, ⟨some 51, .load 1 false (.tmp 50), some (49, true)⟩, ⟨some 52, .slen (.tmp 51), some (49, true)⟩, ⟨some 53, .fadr 2 (.tmp 1), some (49, true)⟩, ⟨some 54, .load 1 false (.tmp 53), some (49, true)⟩, ⟨some 55, .bin .add (.tmp 52) (.tmp 54), some (49, true)⟩, ⟨some 56, .fadr 4 (.tmp 1), some (49, true)⟩, ⟨some 57, .load 1 false (.tmp 56), some (49, true)⟩, ⟨some 58, .bin .sub (.tmp 55) (.tmp 57), some (49, true)⟩, ⟨some 59, .bin .leq (.tmp 58) (.const (.int .i64 20)), some (49, true)⟩, ⟨some 60, .pick (.tmp 49) (.tmp 59) (.const (.bool false)), none⟩, ⟨some 2, .mov (.tmp 60), none⟩]) .ret))
@[reducible] def rv34 : List RV := [.tmp 2]
theorem low34 : lowC Tryd.prog tau Tryd.f34.ntmps (Tryd.f34.body.getD .skip) = some (erase ic34) := by kernel_rfl
theorem res34 : lowR Tryd.prog Tryd.f34.results.toList = some rv34 := by kernel_rfl
theorem bod34 : Tryd.f34.body = some (Tryd.f34.body.getD .skip) := by kernel_rfl
theorem cal34 : callable Tryd.prog 34 = true := by kernel_rfl

end Go.Proofs.YthghcialeghgoaaDoorE

/-! The code of a function, in the engine's words. -/
namespace Go.Proofs.YthghcialeghgoaaDoorE
open Go Go.RowKit
@[reducible] def ic11 : IC := (.seq (.ops [⟨some 2, .mov (.const (.bool false)), none⟩]) (.seq (.seq (.ops [⟨some 3, .mov (.const (.int .i64 0)), none⟩]) (.block 0 (.loop (.seq (.seq (.ops [⟨some 5, .mov (.tmp 3), none⟩, ⟨some 6, .mov (.tmp 0), none⟩, ⟨some 7, .len (.tmp 6), none⟩, ⟨some 8, .bin .lss (.tmp 5) (.tmp 7), none⟩]) (.cond (.tmp 8) .skip (.exit 0))) (.seq (.block 1 (.seq (.seq (.ops [⟨some 11, .mov (.tmp 0), none⟩, ⟨some 12, .mov (.tmp 3), none⟩, ⟨some 13, .iadr 6 (.tmp 11) (.tmp 12), none⟩, ⟨some 14, .load 6 true (.tmp 13), none⟩, ⟨some 15, .call 34 [(.tmp 14)], none⟩, ⟨some 16, .una .not (.tmp 15), none⟩]) (.cond (.tmp 16) (.seq (.ops [⟨some 2, .mov (.const (.bool false)), none⟩]) .ret) .skip)) (.seq (.ops [⟨some 4, .mov (.const (.int .i64 0)), none⟩]) (.block 2 (.loop (.seq (.seq (.ops [⟨some 17, .mov (.tmp 4), none⟩, ⟨some 18, .mov (.tmp 3), none⟩, ⟨some 19, .bin .lss (.tmp 17) (.tmp 18), none⟩]) (.cond (.tmp 19) .skip (.exit 2))) (.seq (.block 3 (.seq (.draw [⟨some 22, .mov (.tmp 0), none⟩, ⟨some 23, .mov (.tmp 4), none⟩, ⟨some 24, .iadr 6 (.tmp 22) (.tmp 23), none⟩, ⟨some 25, .fadr 0 (.tmp 24), none⟩, ⟨some 26, .load 1 false (.tmp 25), none⟩, ⟨some 27, .mov (.tmp 0), none⟩, ⟨some 28, .mov (.tmp 3), none⟩, ⟨some 29, .iadr 6 (.tmp 27) (.tmp 28), none⟩, ⟨some 30, .fadr 0 (.tmp 29), none⟩, ⟨some 31, .load 1 false (.tmp 30), none⟩, ⟨some 32, .bin .eql (.tmp 26) (.tmp 31), none⟩] (.held ⟨some 22, .mov (.tmp 0), none⟩ (.held ⟨some 23, .mov (.tmp 4), none⟩ (.held ⟨some 24, .iadr 6 (.tmp 22) (.tmp 23), none⟩ (.held ⟨some 25, .fadr 0 (.tmp 24), none⟩ (.held ⟨some 26, .load 1 false (.tmp 25), none⟩ (.held ⟨some 27, .mov (.tmp 0), none⟩ (.held ⟨some 28, .mov (.tmp 3), none⟩ (.held ⟨some 29, .iadr 6 (.tmp 27) (.tmp 28), none⟩ (.held ⟨some 30, .fadr 0 (.tmp 29), none⟩ (.held ⟨some 31, .load 1 false (.tmp 30), none⟩ (.held ⟨some 32, .bin .eql (.tmp 26) (.tmp 31), none⟩ .done)))))))))))) (.cond (.tmp 32) (.seq (.ops [⟨some 2, .mov (.const (.bool false)), none⟩]) .ret) .skip))) (.ops [⟨some 20, .mov (.tmp 4), none⟩, ⟨some 21, .bin .add (.tmp 20) (.const (.int .i64 1)), none⟩, ⟨some 4, .mov (.tmp 21), none⟩])))))))) (.ops [⟨some 9, .mov (.tmp 3), none⟩, ⟨some 10, .bin .add (.tmp 9) (.const (.int .i64 1)), none⟩, ⟨some 3, .mov (.tmp 10), none⟩])))))) (.seq (.ops [⟨some 33, .mov (.tmp 0), none⟩, ⟨some 34, .len (.tmp 33), none⟩, ⟨some 35, .bin .leq (.tmp 34) (.const (.int .i64 60)), none⟩, ⟨some 2, .mov (.tmp 35), none⟩]) .ret)))
@[reducible] def rv11 : List RV := [.tmp 2]
theorem low11 : lowC Tryd.prog tau Tryd.f11.ntmps (Tryd.f11.body.getD .skip) = some (erase ic11) := by kernel_rfl
theorem res11 : lowR Tryd.prog Tryd.f11.results.toList = some rv11 := by kernel_rfl
theorem bod11 : Tryd.f11.body = some (Tryd.f11.body.getD .skip) := by kernel_rfl
theorem cal11 : callable Tryd.prog 11 = true := by kernel_rfl

end Go.Proofs.YthghcialeghgoaaDoorE

/-! The reference's RulesOk. -/
namespace Go.Proofs.YthghcialeghgoaaDoorE
open Go Go.RowKit
set_option linter.unusedSimpArgs false
set_option linter.unusedVariables false
set_option maxRecDepth 20000
set_option maxHeartbeats 4000000

def ruleP (r : Rul) : Prop := digsP r.pre ∧ 0 < r.pre.size ∧ (r.pre.size : Int) ≤ r.least ∧ r.least ≤ r.most ∧ r.most ≤ 20 ∧ (0 ≤ r.route ∧ r.route ≤ 1000) ∧ (0 ≤ r.strip ∧ r.strip ≤ r.least) ∧ digsP r.add ∧ (r.add.size : Int) + r.most - r.strip ≤ 20
noncomputable instance (r : Rul) : Decidable (ruleP r) := Classical.propDecidable _
def spRule : Spec := ⟨fun _ _ => [], fun args objs K => match args, objs with
  | [.agg [.v (.string a0), .v (.int .i64 a1), .v (.int .i64 a2), .v (.int .i64 a3), .v (.int .i64 a4), .v (.string a5)]], [] => (a0.size ≤ 140737488351232 ∧ a5.size ≤ 140737488351232) ∧ K (.v (.bool (decide (ruleP ⟨a0, a1, a2, a3, a4, a5⟩)))) [] 0
  | _, _ => False, false⟩
theorem spRule_t {L : Hp} {a : List AVal} : Spec.take spRule L a = [] := id rfl
theorem spRule_k : Spec.keep spRule = false := id rfl
theorem spRule_f {a0} {a1} {a2} {a3} {a4} {a5} {K : AVal → Hp → Nat → Prop} : Spec.f spRule ([.agg [.v (.string a0), .v (.int .i64 a1), .v (.int .i64 a2), .v (.int .i64 a3), .v (.int .i64 a4), .v (.string a5)]]) ([]) K = ((a0.size ≤ 140737488351232 ∧ a5.size ≤ 140737488351232) ∧ K (.v (.bool (decide (ruleP ⟨a0, a1, a2, a3, a4, a5⟩)))) [] 0) := id rfl
theorem valid34 : Valid Tryd.prog 34 spRule := by
  refine validI (Γ := lk [(40, spDigits), (49, spIn)]) Tryd.func34 bod34 low34 res34 (good_of ⟨⟨cal40, valid40⟩, ⟨cal49, valid49⟩, trivial⟩) ?_
  intro E args objs K h hE hG hP
  simp only [spRule] at h
  split at h
  · refine ⟨by simp [Tryd.ntmps34], ?_⟩
    rename_i a0 a1 a2 a3 a4 a5
    obtain ⟨⟨s1, s2⟩, h⟩ := h
    simp (config := { maxSteps := 2000000 }) only [go_sem, hG, hP, Nat.reduceEqDiff, ↓reduceIte, reduceCtorEq, Nat.reduceAdd, Nat.reduceSub, Nat.reduceMul, Nat.reduceLT, Nat.reduceLeDiff, Int.reduceAdd, Int.reduceSub, Int.reduceMul, Int.reduceLT, Int.reduceLE, Int.reduceEq, Int.reduceNeg, Int.reduceNe, Int.reduceGE, Int.reduceGT, Nat.reduceBEq, Int.reduceToNat,  spDigits_f, spDigits_t, spDigits_k, spIn_f, spIn_t, spIn_k]
    repeat' (first | (refine And.intro ?_ ?_) | (with_reducible intro _))
    all_goals first
      | omega
      | (have hq : ¬ ruleP ⟨a0, a1, a2, a3, a4, a5⟩ := fun q => by
           obtain ⟨q1, q2, q3, q4, q5, q6, q7, q8, q9⟩ := q
           dsimp only at q1 q2 q3 q4 q5 q6 q7 q8 q9
           first | omega | contradiction
         rw [decide_eq_false hq] at h
         refine ⟨_, _, _, ?_, h⟩
         simp (config := { maxSteps := 2000000 }) only [go_sem, hG, hP, Nat.reduceEqDiff, ↓reduceIte, reduceCtorEq, Nat.reduceAdd, Nat.reduceSub, Nat.reduceMul, Nat.reduceLT, Nat.reduceLeDiff, Int.reduceAdd, Int.reduceSub, Int.reduceMul, Int.reduceLT, Int.reduceLE, Int.reduceEq, Int.reduceNeg, Int.reduceNe, Int.reduceGE, Int.reduceGT, Nat.reduceBEq, Int.reduceToNat]
         done)
      | (have w1 : wr .i64 ((a5.size : Int) + a2) = (a5.size : Int) + a2 := wrap_id (by omega) (by omega)
         have w2 : wr .i64 ((a5.size : Int) + a2 - a4) = (a5.size : Int) + a2 - a4 := wrap_id (by omega) (by omega)
         rw [w1, w2]
         by_cases e : (a5.size : Int) + a2 - a4 ≤ 20
         · have hq : ruleP ⟨a0, a1, a2, a3, a4, a5⟩ := ⟨by first | assumption | exact ⟨by assumption, by assumption⟩, by dsimp only; omega, by dsimp only; omega, by dsimp only; omega, by dsimp only; omega, by dsimp only; omega, by dsimp only; omega, by first | assumption | exact ⟨by assumption, by assumption⟩, by dsimp only; omega⟩
           rw [decide_eq_true hq] at h
           refine ⟨_, _, _, ?_, h⟩
           simp (config := { maxSteps := 2000000 }) only [go_sem, hG, hP, Nat.reduceEqDiff, ↓reduceIte, reduceCtorEq, Nat.reduceAdd, Nat.reduceSub, Nat.reduceMul, Nat.reduceLT, Nat.reduceLeDiff, Int.reduceAdd, Int.reduceSub, Int.reduceMul, Int.reduceLT, Int.reduceLE, Int.reduceEq, Int.reduceNeg, Int.reduceNe, Int.reduceGE, Int.reduceGT, Nat.reduceBEq, Int.reduceToNat]
           all_goals simp [e]
         · have hq : ¬ ruleP ⟨a0, a1, a2, a3, a4, a5⟩ := fun q => e q.2.2.2.2.2.2.2.2
           rw [decide_eq_false hq] at h
           refine ⟨_, _, _, ?_, h⟩
           simp (config := { maxSteps := 2000000 }) only [go_sem, hG, hP, Nat.reduceEqDiff, ↓reduceIte, reduceCtorEq, Nat.reduceAdd, Nat.reduceSub, Nat.reduceMul, Nat.reduceLT, Nat.reduceLeDiff, Int.reduceAdd, Int.reduceSub, Int.reduceMul, Int.reduceLT, Int.reduceLE, Int.reduceEq, Int.reduceNeg, Int.reduceNe, Int.reduceGE, Int.reduceGT, Nat.reduceBEq, Int.reduceToNat]
           all_goals simp [e])
      | trace_state
  · exact h.elim
def rulesP (l : List Rul) : Prop := (∀ i, i < l.length → ruleP (l.getD i Rulz) ∧ ∀ k, k < i → (l.getD k Rulz).pre ≠ (l.getD i Rulz).pre) ∧ l.length ≤ 60
noncomputable instance (l : List Rul) : Decidable (rulesP l) := Classical.propDecidable _
def spRulesOk : Spec := ⟨fun _ _ => [], fun args objs K => match args, objs with
  | [.rs .rule l], [] => (szRulAll l 140737488351232 ∧ l.length ≤ 1099511627776) ∧ K (.v (.bool (decide (rulesP l)))) [] 0
  | _, _ => False, false⟩
theorem spRulesOk_t {L : Hp} {a : List AVal} : Spec.take spRulesOk L a = [] := id rfl
theorem spRulesOk_k : Spec.keep spRulesOk = false := id rfl
theorem spRulesOk_f {l} {K : AVal → Hp → Nat → Prop} : Spec.f spRulesOk ([.rs .rule l]) ([]) K = ((szRulAll l 140737488351232 ∧ l.length ≤ 1099511627776) ∧ K (.v (.bool (decide (rulesP l)))) [] 0) := id rfl
theorem valid11 : Valid Tryd.prog 11 spRulesOk := by
  refine validI (Γ := lk [(34, spRule)]) Tryd.func11 bod11 low11 res11 (good_of ⟨⟨cal34, valid34⟩, trivial⟩) ?_
  intro E args objs K h hE hG hP
  simp only [spRulesOk] at h
  split at h
  · refine ⟨by simp [Tryd.ntmps11], ?_⟩
    rename_i l
    obtain ⟨⟨hs, hl⟩, h⟩ := h
    simp (config := { maxSteps := 2000000 }) only [go_sem, hG, hP, Nat.reduceEqDiff, ↓reduceIte, reduceCtorEq, Nat.reduceAdd, Nat.reduceSub, Nat.reduceMul, Nat.reduceLT, Nat.reduceLeDiff, Int.reduceAdd, Int.reduceSub, Int.reduceMul, Int.reduceLT, Int.reduceLE, Int.reduceEq, Int.reduceNeg, Int.reduceNe, Int.reduceGE, Int.reduceGT, Nat.reduceBEq, Int.reduceToNat]
    refine loopI hE (fun i : Nat => ⟨[(0, .rs .rule l), (3, .v (.int .i64 i))], [], 0, Tryd.f11.ntmps⟩) (fun i => i ≤ l.length ∧ ∀ j, j < i → ruleP (l.getD j Rulz) ∧ ∀ k, k < j → (l.getD k Rulz).pre ≠ (l.getD j Rulz).pre) (fun i => l.length - i) ⟨0, ⟨Nat.zero_le _, fun j hj => by omega⟩, SubS.weak ?_⟩ ?_
    · simp (config := { maxSteps := 2000000 }) only [go_sem, hG, hP, Nat.reduceEqDiff, ↓reduceIte, reduceCtorEq, Nat.reduceAdd, Nat.reduceSub, Nat.reduceMul, Nat.reduceLT, Nat.reduceLeDiff, Int.reduceAdd, Int.reduceSub, Int.reduceMul, Int.reduceLT, Int.reduceLE, Int.reduceEq, Int.reduceNeg, Int.reduceNe, Int.reduceGE, Int.reduceGT, Nat.reduceBEq, Int.reduceToNat]
      repeat' (first | with_reducible rfl | (refine And.intro ?_ ?_) | (refine congrArg (Value.int _) ?_; omega) | omega)
    · rintro i ⟨hi, hpre⟩
      dsimp only at hi hpre ⊢
      by_cases hi2 : i < l.length
      · have e1 : ((i : Int) < l.length) = True := by apply eq_true; omega
        obtain ⟨z1, z2⟩ := hs i hi2
        by_cases hr : ruleP (l.getD i Rulz)
        · have er : ruleP ⟨(l.getD i Rulz).pre, (l.getD i Rulz).least, (l.getD i Rulz).most, (l.getD i Rulz).route, (l.getD i Rulz).strip, (l.getD i Rulz).add⟩ := hr
          have er2 := eq_true er
          simp (config := { maxSteps := 2000000 }) only [go_sem, hG, hP, Nat.reduceEqDiff, ↓reduceIte, reduceCtorEq, Nat.reduceAdd, Nat.reduceSub, Nat.reduceMul, Nat.reduceLT, Nat.reduceLeDiff, Int.reduceAdd, Int.reduceSub, Int.reduceMul, Int.reduceLT, Int.reduceLE, Int.reduceEq, Int.reduceNeg, Int.reduceNe, Int.reduceGE, Int.reduceGT, Nat.reduceBEq, Int.reduceToNat,  e1, spRule_f, spRule_t, spRule_k, er2, z1, z2]
          (try simp (disch := omega) only [wrap_id])
          repeat (refine And.intro (by first | omega | (simp; done) | (simp; omega) | (unfold appRoom; omega)) ?_)
          refine loopI hE (fun k : Nat => ⟨[(0, .rs .rule l), (3, .v (.int .i64 i)), (4, .v (.int .i64 k))], [], 0, Tryd.f11.ntmps⟩) (fun k => k ≤ i ∧ ∀ j, j < k → (l.getD j Rulz).pre ≠ (l.getD i Rulz).pre) (fun k => i - k) ⟨0, ⟨Nat.zero_le _, fun j hj => by omega⟩, SubS.weak ?_⟩ ?_
          · simp (config := { maxSteps := 2000000 }) only [go_sem, hG, hP, Nat.reduceEqDiff, ↓reduceIte, reduceCtorEq, Nat.reduceAdd, Nat.reduceSub, Nat.reduceMul, Nat.reduceLT, Nat.reduceLeDiff, Int.reduceAdd, Int.reduceSub, Int.reduceMul, Int.reduceLT, Int.reduceLE, Int.reduceEq, Int.reduceNeg, Int.reduceNe, Int.reduceGE, Int.reduceGT, Nat.reduceBEq, Int.reduceToNat]
            repeat' (first | with_reducible rfl | (refine And.intro ?_ ?_) | (refine congrArg (Value.int _) ?_; omega) | omega)
          · rintro k ⟨hk, hpk⟩
            dsimp only at hk hpk ⊢
            by_cases hk2 : k < i
            · have e2 : ((k : Int) < i) = True := by apply eq_true; omega
              by_cases hq : (l.getD k Rulz).pre = (l.getD i Rulz).pre
              · have hq2 := eq_true hq
                have hn : ¬ rulesP l := fun e => (e.1 i hi2).2 k hk2 hq
                rw [decide_eq_false hn] at h
                simp (config := { maxSteps := 2000000 }) only [go_sem, hG, hP, Nat.reduceEqDiff, ↓reduceIte, reduceCtorEq, Nat.reduceAdd, Nat.reduceSub, Nat.reduceMul, Nat.reduceLT, Nat.reduceLeDiff, Int.reduceAdd, Int.reduceSub, Int.reduceMul, Int.reduceLT, Int.reduceLE, Int.reduceEq, Int.reduceNeg, Int.reduceNe, Int.reduceGE, Int.reduceGT, Nat.reduceBEq, Int.reduceToNat,  e2, hq2]
                (try simp (disch := omega) only [wrap_id])
                repeat' (first | (refine And.intro ?_ ?_) | (with_reducible intro _))
                all_goals first
                  | omega
                  | (refine ⟨_, _, _, ?_, h⟩; simp (config := { maxSteps := 2000000 }) only [go_sem, hG, hP, Nat.reduceEqDiff, ↓reduceIte, reduceCtorEq, Nat.reduceAdd, Nat.reduceSub, Nat.reduceMul, Nat.reduceLT, Nat.reduceLeDiff, Int.reduceAdd, Int.reduceSub, Int.reduceMul, Int.reduceLT, Int.reduceLE, Int.reduceEq, Int.reduceNeg, Int.reduceNe, Int.reduceGE, Int.reduceGT, Nat.reduceBEq, Int.reduceToNat]; done)
              · have hq2 := eq_false hq
                simp (config := { maxSteps := 2000000 }) only [go_sem, hG, hP, Nat.reduceEqDiff, ↓reduceIte, reduceCtorEq, Nat.reduceAdd, Nat.reduceSub, Nat.reduceMul, Nat.reduceLT, Nat.reduceLeDiff, Int.reduceAdd, Int.reduceSub, Int.reduceMul, Int.reduceLT, Int.reduceLE, Int.reduceEq, Int.reduceNeg, Int.reduceNe, Int.reduceGE, Int.reduceGT, Nat.reduceBEq, Int.reduceToNat,  e2, hq2]
                (try simp (disch := omega) only [wrap_id])
                repeat' (first | (refine And.intro ?_ ?_) | (with_reducible intro _))
                all_goals first
                  | omega
                  | (refine ⟨k + 1, ⟨⟨by omega, fun j hj => ?_⟩, by omega⟩, SubS.weak ?_⟩
                     · by_cases e : j < k
                       · exact hpk j e
                       · obtain rfl : j = k := by omega
                         exact hq
                     · simp (config := { maxSteps := 2000000 }) only [go_sem, hG, hP, Nat.reduceEqDiff, ↓reduceIte, reduceCtorEq, Nat.reduceAdd, Nat.reduceSub, Nat.reduceMul, Nat.reduceLT, Nat.reduceLeDiff, Int.reduceAdd, Int.reduceSub, Int.reduceMul, Int.reduceLT, Int.reduceLE, Int.reduceEq, Int.reduceNeg, Int.reduceNe, Int.reduceGE, Int.reduceGT, Nat.reduceBEq, Int.reduceToNat]
                       repeat' (first | with_reducible rfl | (refine And.intro ?_ ?_) | (refine congrArg (Value.int _) ?_; omega) | omega))
            · have e2 : ((k : Int) < i) = False := by apply eq_false; omega
              simp (config := { maxSteps := 2000000 }) only [go_sem, hG, hP, Nat.reduceEqDiff, ↓reduceIte, reduceCtorEq, Nat.reduceAdd, Nat.reduceSub, Nat.reduceMul, Nat.reduceLT, Nat.reduceLeDiff, Int.reduceAdd, Int.reduceSub, Int.reduceMul, Int.reduceLT, Int.reduceLE, Int.reduceEq, Int.reduceNeg, Int.reduceNe, Int.reduceGE, Int.reduceGT, Nat.reduceBEq, Int.reduceToNat,  e2]
              (try simp (disch := omega) only [wrap_id])
              repeat (refine And.intro (by first | omega | (simp; done) | (simp; omega) | (unfold appRoom; omega)) ?_)
              refine ⟨i + 1, ⟨⟨by omega, fun j hj => ?_⟩, by omega⟩, SubS.weak ?_⟩
              · by_cases e : j < i
                · exact hpre j e
                · obtain rfl : j = i := by omega
                  exact ⟨hr, fun k' hk' => hpk k' (by omega)⟩
              · simp (config := { maxSteps := 2000000 }) only [go_sem, hG, hP, Nat.reduceEqDiff, ↓reduceIte, reduceCtorEq, Nat.reduceAdd, Nat.reduceSub, Nat.reduceMul, Nat.reduceLT, Nat.reduceLeDiff, Int.reduceAdd, Int.reduceSub, Int.reduceMul, Int.reduceLT, Int.reduceLE, Int.reduceEq, Int.reduceNeg, Int.reduceNe, Int.reduceGE, Int.reduceGT, Nat.reduceBEq, Int.reduceToNat]
                repeat' (first | with_reducible rfl | (refine And.intro ?_ ?_) | (refine congrArg (Value.int _) ?_; omega) | omega)
        · have er : ¬ ruleP ⟨(l.getD i Rulz).pre, (l.getD i Rulz).least, (l.getD i Rulz).most, (l.getD i Rulz).route, (l.getD i Rulz).strip, (l.getD i Rulz).add⟩ := hr
          have er2 := eq_false er
          have hn : ¬ rulesP l := fun e => hr (e.1 i hi2).1
          rw [decide_eq_false hn] at h
          simp (config := { maxSteps := 2000000 }) only [go_sem, hG, hP, Nat.reduceEqDiff, ↓reduceIte, reduceCtorEq, Nat.reduceAdd, Nat.reduceSub, Nat.reduceMul, Nat.reduceLT, Nat.reduceLeDiff, Int.reduceAdd, Int.reduceSub, Int.reduceMul, Int.reduceLT, Int.reduceLE, Int.reduceEq, Int.reduceNeg, Int.reduceNe, Int.reduceGE, Int.reduceGT, Nat.reduceBEq, Int.reduceToNat,  e1, spRule_f, spRule_t, spRule_k, er2, z1, z2]
          (try simp (disch := omega) only [wrap_id])
          repeat (refine And.intro (by first | omega | (simp; done) | (simp; omega) | (unfold appRoom; omega)) ?_)
          refine ⟨_, _, _, ?_, h⟩
          simp (config := { maxSteps := 2000000 }) only [go_sem, hG, hP, Nat.reduceEqDiff, ↓reduceIte, reduceCtorEq, Nat.reduceAdd, Nat.reduceSub, Nat.reduceMul, Nat.reduceLT, Nat.reduceLeDiff, Int.reduceAdd, Int.reduceSub, Int.reduceMul, Int.reduceLT, Int.reduceLE, Int.reduceEq, Int.reduceNeg, Int.reduceNe, Int.reduceGE, Int.reduceGT, Nat.reduceBEq, Int.reduceToNat]
      · have e1 : ((i : Int) < l.length) = False := by apply eq_false; omega
        simp (config := { maxSteps := 2000000 }) only [go_sem, hG, hP, Nat.reduceEqDiff, ↓reduceIte, reduceCtorEq, Nat.reduceAdd, Nat.reduceSub, Nat.reduceMul, Nat.reduceLT, Nat.reduceLeDiff, Int.reduceAdd, Int.reduceSub, Int.reduceMul, Int.reduceLT, Int.reduceLE, Int.reduceEq, Int.reduceNeg, Int.reduceNe, Int.reduceGE, Int.reduceGT, Nat.reduceBEq, Int.reduceToNat,  e1]
        refine ⟨_, _, _, ?_, h⟩
        simp (config := { maxSteps := 2000000 }) only [go_sem, hG, hP, Nat.reduceEqDiff, ↓reduceIte, reduceCtorEq, Nat.reduceAdd, Nat.reduceSub, Nat.reduceMul, Nat.reduceLT, Nat.reduceLeDiff, Int.reduceAdd, Int.reduceSub, Int.reduceMul, Int.reduceLT, Int.reduceLE, Int.reduceEq, Int.reduceNeg, Int.reduceNe, Int.reduceGE, Int.reduceGT, Nat.reduceBEq, Int.reduceToNat]
        by_cases e : l.length ≤ 60
        · rw [decide_eq_true (show rulesP l from ⟨fun j hj => hpre j (by omega), e⟩)]; simp; omega
        · rw [decide_eq_false (show ¬ rulesP l from fun q => e q.2)]; simp; omega
  · exact h.elim
end Go.Proofs.YthghcialeghgoaaDoorE
