/- A part of a proof that a law of the given program holds for every input: no condition. -/
import Derived.WalkKit
import Derived.Lib.QuietBelow
import Derived.MapKept
import Derived.ChangeKeysEq
import Derived.Laws.Cover3
import Derived.WalkSpells

set_option linter.unusedSimpArgs false
set_option linter.unusedVariables false
/-! The kinds of data that the rows of this seat hold, and abstract values. -/
namespace Go.Proofs.YtnbfnpnephfjaaaE
open Go Go.RowKit

structure Lg where
  line : Int
  held : Bool
  deriving DecidableEq, Inhabited

structure Pop where
  kind : Int
  a : Int
  b : Int
  deriving DecidableEq, Inhabited

structure Cal where
  pk : Bool
  legs : List Lg
  deriving DecidableEq, Inhabited

inductive Ty where
  | int
  | byte
  | bool
  | leg
  | op
  | call
  deriving DecidableEq

@[reducible] def Ty.D : Ty → Type
  | .int => Int
  | .byte => Int
  | .bool => Bool
  | .leg => Lg
  | .op => Pop
  | .call => Cal

def sz : Ty → Nat
  | .int => 1
  | .byte => 1
  | .bool => 1
  | .leg => 2
  | .op => 3
  | .call => 2

/-- An abstract value. -/
inductive AVal where
  | v (x : Value)
  | ptr (m off : Nat)
  | elt (m s i f : Nat)
  | sub (m s lo len : Nat)
  | rs (t : Ty) (xs : List t.D)
  | re (t : Ty) (x : t.D) (f : Nat)
  | rp (t : Ty) (xs : List t.D)
  | mp (m : Nat)
  | arp (m n : Nat)
  | fs (m z b o lo n c : Nat)
  | fp (m z b o i f : Nat)
  | agg (cs : List AVal)
  | tup (cs : List AVal)
  | fn (f : Nat) (cs : List AVal)
  | junk

def enc : (t : Ty) → t.D → List AVal
  | .int, x => [.v (.int .i64 x)]
  | .byte, x => [.v (.int .u8 x)]
  | .bool, x => [.v (.bool x)]
  | .leg, x => [.v (.int .i64 x.line), .v (.bool x.held)]
  | .op, x => [.v (.int .i64 x.kind), .v (.int .i64 x.a), .v (.int .i64 x.b)]
  | .call, x => [.v (.bool x.pk), .rs .leg x.legs]

theorem enc_length (t : Ty) (x : t.D) : (enc t x).length = sz t := by cases t <;> rfl
theorem sz_le (t : Ty) : sz t ≤ 16 := by cases t <;> decide
theorem sz_pos (t : Ty) : 0 < sz t := by cases t <;> decide

def dec_intD : List AVal → Option Int
  | [.v (.int .i64 a0)] => some a0
  | _ => none
def dec_byteD : List AVal → Option Int
  | [.v (.int .u8 a0)] => some a0
  | _ => none
def dec_boolD : List AVal → Option Bool
  | [.v (.bool a0)] => some a0
  | _ => none
def dec_legD : List AVal → Option Lg
  | [.v (.int .i64 a0), .v (.bool a1)] => some ⟨a0, a1⟩
  | _ => none
def dec_opD : List AVal → Option Pop
  | [.v (.int .i64 a0), .v (.int .i64 a1), .v (.int .i64 a2)] => some ⟨a0, a1, a2⟩
  | _ => none
def dec_callD : List AVal → Option Cal
  | _ => none
def dec : (t : Ty) → List AVal → Option t.D
  | .int, cs => dec_intD cs
  | .byte, cs => dec_byteD cs
  | .bool, cs => dec_boolD cs
  | .leg, cs => dec_legD cs
  | .op, cs => dec_opD cs
  | .call, cs => dec_callD cs

theorem dec_enc (t : Ty) (cs : List AVal) (x : t.D) (h : dec t cs = some x) : enc t x = cs := by
  cases t
  · simp only [dec] at h; unfold dec_intD at h; split at h
    · cases h; rfl
    · cases h
  · simp only [dec] at h; unfold dec_byteD at h; split at h
    · cases h; rfl
    · cases h
  · simp only [dec] at h; unfold dec_boolD at h; split at h
    · cases h; rfl
    · cases h
  · simp only [dec] at h; unfold dec_legD at h; split at h
    · cases h; rfl
    · cases h
  · simp only [dec] at h; unfold dec_opD at h; split at h
    · cases h; rfl
    · cases h
  · simp [dec, dec_callD] at h

def dflt : (t : Ty) → t.D
  | .int => (0 : Int)
  | .byte => (0 : Int)
  | .bool => false
  | .leg => ⟨(0 : Int), false⟩
  | .op => ⟨(0 : Int), (0 : Int), (0 : Int)⟩
  | .call => ⟨false, []⟩
/-- The cells of a zero. -/
def zer : Ty → List Value
  | .int => [.int .i64 0]
  | .byte => [.int .u8 0]
  | .bool => [.bool false]
  | .leg => [.int .i64 0, .bool false]
  | .op => [.int .i64 0, .int .i64 0, .int .i64 0]
  | .call => [.bool false, .slice none 0 0]
/-- Rows of this kind hold no rows. -/
def flat : Ty → Bool
  | .call => false
  | _ => true
theorem zer_length (t : Ty) : (zer t).length = sz t := by cases t <;> rfl
theorem enc_dflt (t : Ty) (hf : flat t = true) : enc t (dflt t) = (zer t).map .v := by cases t <;> first | rfl | (simp [flat] at hf; done)

/-- The value's cells may each be stored. -/
def oneA : AVal → Bool
  | .v (.agg _) => false
  | .v (.tuple _) => false
  | .agg _ => false
  | .tup _ => false
  | .junk => false
  | _ => true
theorem enc_one (t : Ty) (x : t.D) : (enc t x).all oneA = true := by cases t <;> rfl

theorem enc_v (t : Ty) (hf : flat t = true) (x : t.D) (av : AVal) (h : av ∈ enc t x) : ∃ u, av = .v u := by
  cases t <;> simp [enc] at h <;> try (simp [flat] at hf; done)
  · exact ⟨_, h⟩
  · exact ⟨_, h⟩
  · exact ⟨_, h⟩
  · rcases h with rfl | rfl <;> exact ⟨_, rfl⟩
  · rcases h with rfl | rfl | rfl <;> exact ⟨_, rfl⟩

/-! Rows of rows: an element's head, and its inner row. -/
@[reducible] def inn : Ty → Ty
  | .int => .int
  | .byte => .byte
  | .bool => .bool
  | .leg => .leg
  | .op => .op
  | .call => .leg
def inl : (t : Ty) → t.D → List (inn t).D
  | .int, _ => []
  | .byte, _ => []
  | .bool, _ => []
  | .leg, _ => []
  | .op, _ => []
  | .call, x => x.legs
def setIn : (t : Ty) → t.D → List (inn t).D → t.D
  | .int, x, _ => x
  | .byte, x, _ => x
  | .bool, x, _ => x
  | .leg, x, _ => x
  | .op, x, _ => x
  | .call, x, l => ⟨x.pk, l⟩
def hdE : (t : Ty) → t.D → List AVal
  | .int, _ => []
  | .byte, _ => []
  | .bool, _ => []
  | .leg, _ => []
  | .op, _ => []
  | .call, x => [.v (.bool x.pk)]
def decH_callD : List AVal → Option Cal
  | [.v (.bool a0)] => some ⟨a0, []⟩
  | _ => none
def decH : (t : Ty) → List AVal → Option t.D
  | .int, _ => none
  | .byte, _ => none
  | .bool, _ => none
  | .leg, _ => none
  | .op, _ => none
  | .call, cs => decH_callD cs
theorem decH_hd (t : Ty) (cs : List AVal) (x : t.D) (h : decH t cs = some x) : hdE t x = cs := by
  cases t
  · simp [decH] at h
  · simp [decH] at h
  · simp [decH] at h
  · simp [decH] at h
  · simp [decH] at h
  · simp only [decH] at h; unfold decH_callD at h; split at h
    · cases h; rfl
    · cases h
theorem enc_nest (t : Ty) (h : flat t = false) (x : t.D) : enc t x = hdE t x ++ [.rs (inn t) (inl t x)] := by cases t <;> first | rfl | (simp [flat] at h; done)
theorem hd_length (t : Ty) (h : flat t = false) (x : t.D) : (hdE t x).length + 1 = sz t := by cases t <;> first | rfl | (simp [flat] at h; done)
theorem hd_v (t : Ty) (x : t.D) (av : AVal) (h : av ∈ hdE t x) : ∃ u, av = .v u ∧ oneA av = true := by
  cases t <;> simp [hdE] at h
  · subst h; exact ⟨_, rfl, rfl⟩
theorem inn_flat (t : Ty) : flat (inn t) = true ∨ flat t = true := by cases t <;> simp [flat, inn]
theorem set_hd (t : Ty) (x : t.D) (l : List (inn t).D) : hdE t (setIn t x l) = hdE t x := by cases t <;> rfl
theorem set_inl (t : Ty) (h : flat t = false) (x : t.D) (l : List (inn t).D) : inl t (setIn t x l) = l := by cases t <;> first | rfl | (simp [flat] at h; done)
theorem zer_nest (t : Ty) (h : flat t = false) : hdE t (dflt t) ++ [.v (.slice none 0 0)] = (zer t).map .v := by cases t <;> first | rfl | (simp [flat] at h; done)

/-- A list of one kind where one of the other is wanted. -/
def castK : (t t' : Ty) → List t'.D → (List t.D → Prop) → Prop
  | .int, .int, xs, K => K xs
  | .byte, .byte, xs, K => K xs
  | .bool, .bool, xs, K => K xs
  | .leg, .leg, xs, K => K xs
  | .op, .op, xs, K => K xs
  | .call, .call, xs, K => K xs
  | _, _, _, _ => False
theorem castK_eq {t t' : Ty} {xs : List t'.D} {K : List t.D → Prop} (h : castK t t' xs K) : t' = t := by
  cases t <;> cases t' <;> first | rfl | exact h.elim
theorem castK_same {t : Ty} {xs : List t.D} {K : List t.D → Prop} (h : castK t t xs K) : K xs := by
  cases t <;> exact h
/-! The rules of these, each a step that is written down. -/
theorem enc_int {x : Int} : enc .int x = [.v (.int .i64 x)] := id rfl
theorem dflt_int : dflt .int = ((0 : Int) : Int) := id rfl
theorem sz_int : sz .int = 1 := id rfl
theorem zer_int : zer .int = [.int .i64 0] := id rfl
theorem flat_int : flat .int = true := id rfl
theorem dec_int {a0 : Int} : dec .int [.v (.int .i64 a0)] = some (a0 : Int) := id rfl
theorem enc_byte {x : Int} : enc .byte x = [.v (.int .u8 x)] := id rfl
theorem dflt_byte : dflt .byte = ((0 : Int) : Int) := id rfl
theorem sz_byte : sz .byte = 1 := id rfl
theorem zer_byte : zer .byte = [.int .u8 0] := id rfl
theorem flat_byte : flat .byte = true := id rfl
theorem dec_byte {a0 : Int} : dec .byte [.v (.int .u8 a0)] = some (a0 : Int) := id rfl
theorem enc_bool {x : Bool} : enc .bool x = [.v (.bool x)] := id rfl
theorem dflt_bool : dflt .bool = (false : Bool) := id rfl
theorem sz_bool : sz .bool = 1 := id rfl
theorem zer_bool : zer .bool = [.bool false] := id rfl
theorem flat_bool : flat .bool = true := id rfl
theorem dec_bool {a0 : Bool} : dec .bool [.v (.bool a0)] = some (a0 : Bool) := id rfl
theorem enc_leg {x : Lg} : enc .leg x = [.v (.int .i64 x.line), .v (.bool x.held)] := id rfl
theorem dflt_leg : dflt .leg = (⟨(0 : Int), false⟩ : Lg) := id rfl
theorem sz_leg : sz .leg = 2 := id rfl
theorem zer_leg : zer .leg = [.int .i64 0, .bool false] := id rfl
theorem flat_leg : flat .leg = true := id rfl
theorem dec_leg {a0 : Int} {a1 : Bool} : dec .leg [.v (.int .i64 a0), .v (.bool a1)] = some (⟨a0, a1⟩ : Lg) := id rfl
theorem enc_op {x : Pop} : enc .op x = [.v (.int .i64 x.kind), .v (.int .i64 x.a), .v (.int .i64 x.b)] := id rfl
theorem dflt_op : dflt .op = (⟨(0 : Int), (0 : Int), (0 : Int)⟩ : Pop) := id rfl
theorem sz_op : sz .op = 3 := id rfl
theorem zer_op : zer .op = [.int .i64 0, .int .i64 0, .int .i64 0] := id rfl
theorem flat_op : flat .op = true := id rfl
theorem dec_op {a0 : Int} {a1 : Int} {a2 : Int} : dec .op [.v (.int .i64 a0), .v (.int .i64 a1), .v (.int .i64 a2)] = some (⟨a0, a1, a2⟩ : Pop) := id rfl
theorem enc_call {x : Cal} : enc .call x = [.v (.bool x.pk), .rs .leg x.legs] := id rfl
theorem dflt_call : dflt .call = (⟨false, []⟩ : Cal) := id rfl
theorem sz_call : sz .call = 2 := id rfl
theorem zer_call : zer .call = [.bool false, .slice none 0 0] := id rfl
theorem flat_call : flat .call = false := id rfl
theorem inn_call : inn .call = .leg := id rfl
theorem hdE_call {x : Cal} : hdE .call x = [.v (.bool x.pk)] := id rfl
theorem decH_call {a0 : Bool} : decH .call [.v (.bool a0)] = some (⟨a0, []⟩ : Cal) := id rfl
attribute [go_sem] flat_int enc_int dflt_int sz_int zer_int dec_int flat_byte enc_byte dflt_byte sz_byte zer_byte dec_byte flat_bool enc_bool dflt_bool sz_bool zer_bool dec_bool flat_leg enc_leg dflt_leg sz_leg zer_leg dec_leg flat_op enc_op dflt_op sz_op zer_op dec_op flat_call enc_call dflt_call sz_call zer_call inn_call hdE_call decH_call
end Go.Proofs.YtnbfnpnephfjaaaE
namespace Go.Proofs.YtnbfnpnephfjaaaE
def tyName : Ty → String
  | .int => ".int"
  | .byte => ".byte"
  | .bool => ".bool"
  | .leg => ".leg"
  | .op => ".op"
  | .call => ".call"
/-- The element types' kinds, by their numbers. -/
def tau : List (Nat × Ty) := [(3, .int), (5, .byte), (4, .bool), (39, .leg), (139, .leg), (48, .op), (45, .op), (42, .call), (109, .call)]
/-- Functions that turn what they are handed, called where an order is drawn. -/
def wildF : List Nat := [69,80]
theorem wildF_eq : wildF = [69,80] := id rfl
attribute [go_sem] wildF_eq
end Go.Proofs.YtnbfnpnephfjaaaE

/-! Abstract states, and when a frame and a world are of one. -/
namespace Go.Proofs.YtnbfnpnephfjaaaE
open Go Go.RowKit

def lk {α : Type _} : List (Nat × α) → Nat → Option α
  | [], _ => none
  | (i, x) :: r, k => if i = k then some x else lk r k

abbrev Nm := Nat → Option (Option (Nat × Nat × Nat))

/-- Blocks that may turn, and blocks that a read-only value is never of. -/
structure CR where
  chg : Nat → Prop
  unr : Nat → Prop
  le : ∀ b, chg b → unr b

/-- n cells at A read as vs in W, in no block of C. -/
def RdAt (W : World) (C : CR) (A : Option Addr) (n : Nat) (vs : Nat → Value) : Prop :=
  n = 0 ∨ ∃ ad : Addr, A = some ad ∧ ad.block < W.heap.size ∧ ¬ C.unr ad.block ∧ ∀ k, k < n → W.cell? (ad.add k) = some (vs k)

/-- What value an abstract value stands for. -/
inductive Den (W : World) (C : CR) (ρ : Nm) : AVal → Value → Prop
  | v (x : Value) : Den W C ρ (.v x) x
  | junk (x : Value) : Den W C ρ .junk x
  | ptr {m off b : Nat} : ρ m = some (some (b, 0, 0)) → Den W C ρ (.ptr m off) (.pointer (some ⟨b, off, none⟩))
  | elt {m s i f b o c : Nat} : ρ m = some (some (b, o, c)) → Den W C ρ (.elt m s i f) (.pointer (some ⟨b, o + i * s + f, none⟩))
  | sub {m s lo len b o c : Nat} {ad : Addr} : ρ m = some (some (b, o, c)) → lo + len ≤ c → (lo < c → ad = ⟨b, o + lo * s, none⟩) →
      Den W C ρ (.sub m s lo len) (.slice (some ad) len (c - lo))
  | sub0 {m s : Nat} : ρ m = some none → Den W C ρ (.sub m s 0 0) (.slice none 0 0)
  | rs {t : Ty} {xs : List t.D} {A : Option Addr} {c : Nat} (vs : Nat → Value) : RdAt W C A (xs.length * sz t) vs → xs.length ≤ c →
      (∀ (i f : Nat) (x : t.D) (av : AVal), xs[i]? = some x → (enc t x)[f]? = some av → Den W C ρ av (vs (i * sz t + f))) →
      Den W C ρ (.rs t xs) (.slice A xs.length c)
  | re {t : Ty} {x : t.D} {f : Nat} {ad : Addr} (vs : Nat → Value) : RdAt W C (some ad) (sz t - f) vs →
      (∀ (k : Nat) (av : AVal), (enc t x)[f + k]? = some av → Den W C ρ av (vs k)) → Den W C ρ (.re t x f) (.pointer (some ad))
  | rp {t : Ty} {xs : List t.D} {ad : Addr} (vs : Nat → Value) : RdAt W C (some ad) (xs.length * sz t) vs →
      (∀ (i f : Nat) (x : t.D) (av : AVal), xs[i]? = some x → (enc t x)[f]? = some av → Den W C ρ av (vs (i * sz t + f))) → Den W C ρ (.rp t xs) (.pointer (some ad))
  | mp {m b : Nat} : ρ m = some (some (b, 0, 0)) → Den W C ρ (.mp m) (.map (some b))
  | arp {m n b : Nat} : ρ m = some (some (b, 0, n)) → Den W C ρ (.arp m n) (.pointer (some ⟨b, 0, none⟩))
  | fs {m z b o lo n c : Nat} {ad : Addr} : lo + n ≤ c → (lo < c → ad = ⟨b, o + lo * z, none⟩) → Den W C ρ (.fs m z b o lo n c) (.slice (some ad) n (c - lo))
  | fp {m z b o i f : Nat} : Den W C ρ (.fp m z b o i f) (.pointer (some ⟨b, o + i * z + f, none⟩))
  | agg {cs : List AVal} (vs : List Value) : vs.length = cs.length →
      (∀ (k : Nat) (av : AVal) (u : Value), cs[k]? = some av → vs[k]? = some u → Den W C ρ av u) → Den W C ρ (.agg cs) (.agg ⟨vs⟩)
  | tup {cs : List AVal} (vs : List Value) : vs.length = cs.length →
      (∀ (k : Nat) (av : AVal) (u : Value), cs[k]? = some av → vs[k]? = some u → Den W C ρ av u) → Den W C ρ (.tup cs) (.tuple ⟨vs⟩)
  | fn {f : Nat} {cs : List AVal} (vs : List Value) : vs.length = cs.length →
      (∀ (k : Nat) (av : AVal) (u : Value), cs[k]? = some av → vs[k]? = some u → Den W C ρ av u) → Den W C ρ (.fn f cs) (.func (.func f) #[] ⟨vs⟩)

def DenL (W : World) (C : CR) (ρ : Nm) (cs : List AVal) (vs : List Value) : Prop :=
  vs.length = cs.length ∧ ∀ (k : Nat) (av : AVal) (u : Value), cs[k]? = some av → vs[k]? = some u → Den W C ρ av u

def Sub0 (ρ ρ' : Nm) : Prop := ∀ m x, ρ m = some x → ρ' m = some x
theorem Sub0.refl (ρ : Nm) : Sub0 ρ ρ := fun _ _ h => h
theorem Sub0.trans {a b c : Nm} (h : Sub0 a b) (k : Sub0 b c) : Sub0 a c := fun m x hx => k m x (h m x hx)

theorem Den.mono {W : World} {C : CR} {ρ ρ' : Nm} (hs : Sub0 ρ ρ') {av : AVal} {v : Value} (h : Den W C ρ av v) : Den W C ρ' av v := by
  induction h with
  | v x => exact .v x
  | junk x => exact .junk x
  | ptr h => exact .ptr (hs _ _ h)
  | elt h => exact .elt (hs _ _ h)
  | sub h h1 h2 => exact .sub (hs _ _ h) h1 h2
  | sub0 h => exact .sub0 (hs _ _ h)
  | rs vs h1 h2 _ ih => exact .rs vs h1 h2 ih
  | re vs h1 _ ih => exact .re vs h1 ih
  | rp vs h1 _ ih => exact .rp vs h1 ih
  | mp h => exact .mp (hs _ _ h)
  | arp h => exact .arp (hs _ _ h)
  | fs h1 h2 => exact .fs h1 h2
  | fp => exact .fp
  | agg vs h1 _ ih => exact .agg vs h1 ih
  | tup vs h1 _ ih => exact .tup vs h1 ih
  | fn vs h1 _ ih => exact .fn vs h1 ih
theorem DenL.mono {W : World} {C : CR} {ρ ρ' : Nm} (hs : Sub0 ρ ρ') {cs : List AVal} {vs : List Value} (h : DenL W C ρ cs vs) : DenL W C ρ' cs vs :=
  ⟨h.1, fun k av u h1 h2 => (h.2 k av u h1 h2).mono hs⟩

section
variable {W : World} {C : CR} {ρ : Nm}
theorem den_v {x v : Value} (h : Den W C ρ (.v x) v) : v = x := by cases h; rfl
theorem DenL.nil : DenL W C ρ [] [] := ⟨rfl, fun k av u h => by simp at h⟩
theorem DenL.cons {av : AVal} {v : Value} {cs : List AVal} {vs : List Value} (h : Den W C ρ av v) (k : DenL W C ρ cs vs) : DenL W C ρ (av :: cs) (v :: vs) := by
  refine ⟨by simp [k.1], fun i a u h1 h2 => ?_⟩
  cases i with
  | zero => simp at h1 h2; subst h1; subst h2; exact h
  | succ i => exact k.2 i a u (by simpa using h1) (by simpa using h2)
theorem DenL.cons_inv {av : AVal} {cs : List AVal} {vs : List Value} (h : DenL W C ρ (av :: cs) vs) : ∃ v vs', vs = v :: vs' ∧ Den W C ρ av v ∧ DenL W C ρ cs vs' := by
  obtain ⟨h1, h2⟩ := h
  cases vs with
  | nil => simp at h1
  | cons v vs' =>
    exact ⟨v, vs', rfl, h2 0 av v (by simp) (by simp), by simpa using h1, fun k a u h3 h4 => h2 (k + 1) a u (by simpa using h3) (by simpa using h4)⟩
theorem DenL.nil_inv {vs : List Value} (h : DenL W C ρ [] vs) : vs = [] := by have := h.1; simpa using this
theorem DenL.at {cs : List AVal} {vs : List Value} (h : DenL W C ρ cs vs) {k : Nat} {av : AVal} (hk : cs[k]? = some av) : ∃ u, vs[k]? = some u ∧ Den W C ρ av u := by
  have hl : k < vs.length := by
    have := (List.getElem?_eq_some_iff.1 hk).1
    have := h.1; omega
  exact ⟨vs[k], List.getElem?_eq_getElem hl, h.2 k av _ hk (List.getElem?_eq_getElem hl)⟩
theorem DenL.drop {cs : List AVal} {vs : List Value} (h : DenL W C ρ cs vs) (n : Nat) : DenL W C ρ (cs.drop n) (vs.drop n) :=
  ⟨by simp [h.1], fun k av u h1 h2 => h.2 (n + k) av u (by simpa using h1) (by simpa using h2)⟩
theorem DenL.take {cs : List AVal} {vs : List Value} (h : DenL W C ρ cs vs) (n : Nat) : DenL W C ρ (cs.take n) (vs.take n) :=
  ⟨by simp [h.1], fun k av u h1 h2 => by
    rw [List.getElem?_take] at h1 h2
    split at h1
    · rename_i hk; rw [if_pos hk] at h2; exact h.2 k av u h1 h2
    · cases h1⟩
theorem DenL.append {cs cs' : List AVal} {vs vs' : List Value} (h : DenL W C ρ cs vs) (k : DenL W C ρ cs' vs') : DenL W C ρ (cs ++ cs') (vs ++ vs') := by
  refine ⟨by simp [h.1, k.1], fun i av u h1 h2 => ?_⟩
  rw [List.getElem?_append] at h1 h2
  rw [h.1] at h2
  split at h1
  · rename_i hi; rw [if_pos hi] at h2; exact h.2 i av u h1 h2
  · rename_i hi; rw [if_neg hi] at h2; exact k.2 _ av u h1 h2
end

/-- A map's key: an integer, a string, integers in line. -/
inductive Key where
  | i (n : Int)
  | s (b : ByteArray)
  | a (l : List Int)
  deriving DecidableEq
/-- A map's keys' kind. -/
inductive KK where
  | int
  | str
  | arr (n : Nat)
  | pair
  deriving DecidableEq
/-- Where an element's inner row lies: block, first cell, length, room. -/
inductive Ref where
  | nil
  | own (b o n c : Nat)
  deriving DecidableEq, Inhabited
/-- An element of a row of rows: what stands at its head, and where its inner row lies. -/
structure NR (t : Ty) where
  x : t.D
  r : Ref
/-- The inner rows, by their blocks: first cell, room, elements. -/
abbrev Fam (t : Ty) := Nat → Option (Nat × Nat × List (inn t).D)
def fam0 (t : Ty) : Fam t := fun _ => none
def fput {t : Ty} (es : Fam t) (b : Nat) (y : Nat × Nat × List (inn t).D) : Fam t := fun k => if k = b then some y else es k
def fjoin {t : Ty} (es es' : Fam t) : Fam t := fun k => (es k).orElse fun _ => es' k
def refA (m z : Nat) : Ref → AVal
  | .nil => .v (.slice none 0 0)
  | .own b o n c => .fs m z b o 0 n c
def encN (t : Ty) (m : Nat) (e : NR t) : List AVal := hdE t e.x ++ [refA m (sz (inn t)) e.r]

/-- A row of rows. -/
structure NP (t : Ty) where
  xs : List (NR t)
  es : Fam t
  ys : List t.D
/-- A row of rows of one kind where one of the other is wanted. -/
def castP (t t' : Ty) (p : NP t') (K : NP t → Prop) : Prop := if h : t' = t then K (h ▸ p) else False
theorem castP_same {t : Ty} {p : NP t} {K : NP t → Prop} : castP t t p K = K p := by simp [castP]
theorem castP_eq {t t' : Ty} {p : NP t'} {K : NP t → Prop} (h : castP t t' p K) : t' = t := by
  unfold castP at h
  split at h
  · assumption
  · exact h.elim

/-- An object of the abstract heap. -/
inductive AObj where
  | box (cs : List AVal)
  | row (t : Ty) (xs : List t.D)
  | set (kk : KK) (mp : Bool) (es : List (Key × ByteArray))
  | nrow (t : Ty) (xs : List (NR t)) (es : Fam t) (ys : List t.D)

/-- The blocks of inner rows. -/
def FootO : AObj → Nat → Prop
  | .nrow _ _ es _, b => (es b).isSome = true
  | _, _ => False

/-- A map's key as the program holds it. -/
def keyV : Key → Value
  | .i n => .int .i64 n
  | .s b => .string b
  | .a l => .agg ⟨l.map (Value.int .i64)⟩
def okKey : KK → Key → Bool
  | .int, .i _ => true
  | .str, .s _ => true
  | .arr n, .a l => decide (l.length = n)
  | .pair, .a l => decide (l.length = 2)
  | _, _ => false
/-- A map's value: a string, or just true. -/
def valV (mp : Bool) (x : ByteArray) : Value := if mp = true then .string x else .bool true
def getM : List (Key × ByteArray) → Key → Option ByteArray
  | [], _ => none
  | (k', x) :: r, k => if k' = k then some x else getM r k
/-- The entries of a map say what es says (what stands first counts). -/
def MapOk (kk : KK) (mp : Bool) (es : List (Key × ByteArray)) (l : List MapEntry) : Prop :=
  (l.map (·.key)).Nodup ∧ (∀ e ∈ l, ∃ k x, okKey kk k = true ∧ e.key = keyV k ∧ e.val = valV mp x ∧ getM es k = some x) ∧
    ∀ k x, okKey kk k = true → getM es k = some x → ∃ e ∈ l, e.key = keyV k

abbrev Hp := List (Nat × AObj)

def mostLen : Nat := 9223372036854775807

/-- A row of elements in a block. -/
def Reads (W : World) (C : CR) (ρ : Nm) (w : World) (t : Ty) (b o c : Nat) (xs : List t.D) : Prop :=
  ∃ T vs, w.heap[b]? = some (.cells ⟨vs⟩ T (0, 0)) ∧ o + c * sz t ≤ vs.length ∧ xs.length ≤ c ∧ c ≤ mostLen ∧
    ∀ (i f : Nat) (x : t.D) (av : AVal), xs[i]? = some x → (enc t x)[f]? = some av → ∃ u, vs[o + i * sz t + f]? = some u ∧ Den W C ρ av u
/-- The cells of a row of rows. -/
def cellsN (t : Ty) (m : Nat) (xs : List (NR t)) (ys : List t.D) : List (List AVal) := xs.map (encN t m) ++ ys.map (enc t)
def FamOk (W : World) (C : CR) (ρ : Nm) (w : World) {t : Ty} (es : Fam t) : Prop := ∀ b o c zs, es b = some (o, c, zs) → Reads W C ρ w (inn t) b o c zs

def ObjOk (W : World) (C : CR) (ρ : Nm) (w : World) (m : Nat) : AObj → Prop
  | .box cs => ∃ b T vs, ρ m = some (some (b, 0, 0)) ∧ w.heap[b]? = some (.cells ⟨vs⟩ T (0, 0)) ∧ DenL W C ρ cs vs
  | .row t xs => (ρ m = some none ∧ xs = []) ∨ ∃ b o c T vs, ρ m = some (some (b, o, c)) ∧ w.heap[b]? = some (.cells ⟨vs⟩ T (0, 0)) ∧
      o + c * sz t ≤ vs.length ∧ xs.length ≤ c ∧ c ≤ mostLen ∧
      ∀ (i f : Nat) (x : t.D) (av : AVal), xs[i]? = some x → (enc t x)[f]? = some av → ∃ u, vs[o + i * sz t + f]? = some u ∧ Den W C ρ av u
  | .set kk mp es => ∃ b l c, ρ m = some (some (b, 0, 0)) ∧ w.heap[b]? = some (.map l c) ∧ MapOk kk mp es l.toList
  | .nrow t xs es ys => flat t = false ∧ ((ρ m = some none ∧ xs = [] ∧ ys = []) ∨ ∃ b o c T vs, ρ m = some (some (b, o, c)) ∧ w.heap[b]? = some (.cells ⟨vs⟩ T (0, 0)) ∧
      o + c * sz t ≤ vs.length ∧ xs.length + ys.length ≤ c ∧ c ≤ mostLen ∧ es b = none ∧
      ∀ (i f : Nat) (cs : List AVal) (av : AVal), (cellsN t m xs ys)[i]? = some cs → cs[f]? = some av → ∃ u, vs[o + i * sz t + f]? = some u ∧ Den W C ρ av u) ∧ FamOk W C ρ w es

structure HpOk (W : World) (C : CR) (ρ : Nm) (nx : Nat) (w : World) (L : Hp) : Prop where
  obj : ∀ m o, lk L m = some o → ObjOk W C ρ w m o
  apart : ∀ m o m' o' b x b' x', lk L m = some o → lk L m' = some o' → m ≠ m' → ρ m = some (some (b, x)) → ρ m' = some (some (b', x')) → b ≠ b'
  own : ∀ m o b x, lk L m = some o → ρ m = some (some (b, x)) → b < w.heap.size ∧ (W.heap.size ≤ b ∨ C.chg b)
  apartF : ∀ m o m' o' b, lk L m = some o → lk L m' = some o' → FootO o b → (∀ x, ρ m' ≠ some (some (b, x))) ∧ (m ≠ m' → ¬ FootO o' b)
  ownF : ∀ m o b, lk L m = some o → FootO o b → b < w.heap.size ∧ (W.heap.size ≤ b ∨ C.chg b)
  above : ∀ m, nx ≤ m → ρ m = none
  os : w.os = W.os
  tape : w.tape = W.tape
  output : w.output = W.output
  size : W.heap.size ≤ w.heap.size
  old : ∀ b, b < W.heap.size → ¬ C.chg b → w.heap[b]? = W.heap[b]?

structure S where
  σ : List (Nat × AVal)
  L : Hp
  nx : Nat
  n : Nat

structure FrOk (W : World) (C : CR) (ρ : Nm) (s : S) (a : Act) : Prop where
  slot : ∀ d av, lk s.σ d = some av → ∃ v, a.tmps[d]? = some v ∧ Den W C ρ av v
  size : a.tmps.size = s.n
  defers : a.defers = []

structure StOk (W : World) (C : CR) (ρ : Nm) (s : S) (a : Act) (w : World) : Prop where
  fr : FrOk W C ρ s a
  hp : HpOk W C ρ s.nx w s.L

def St (W : World) (C : CR) (s : S) (a : Act) (w : World) : Prop := ∃ ρ, StOk W C ρ s a w

theorem Reads.mono {W : World} {C : CR} {ρ ρ' : Nm} (hs : Sub0 ρ ρ') {w : World} {t : Ty} {b o c : Nat} {xs : List t.D} (h : Reads W C ρ w t b o c xs) : Reads W C ρ' w t b o c xs := by
  obtain ⟨T, vs, h2, h3, h4, h5, h6⟩ := h
  exact ⟨T, vs, h2, h3, h4, h5, fun i f x av hx ha => let ⟨u, h7, h8⟩ := h6 i f x av hx ha; ⟨u, h7, h8.mono hs⟩⟩
theorem Reads.world {W : World} {C : CR} {ρ : Nm} {w w' : World} {t : Ty} {b o c : Nat} {xs : List t.D} (h : Reads W C ρ w t b o c xs) (hb : w'.heap[b]? = w.heap[b]?) : Reads W C ρ w' t b o c xs := by
  obtain ⟨T, vs, h2, h3⟩ := h
  exact ⟨T, vs, hb.trans h2, h3⟩
theorem ObjOk.mono {W : World} {C : CR} {ρ ρ' : Nm} (hs : Sub0 ρ ρ') {w : World} {m : Nat} {o : AObj} (h : ObjOk W C ρ w m o) : ObjOk W C ρ' w m o := by
  cases o with
  | box cs => obtain ⟨b, T, vs, h1, h2, h3⟩ := h; exact ⟨b, T, vs, hs _ _ h1, h2, h3.mono hs⟩
  | row t xs =>
    rcases h with ⟨h1, h2⟩ | ⟨b, o, c, T, vs, h1, h2, h3, h4, h5, h6⟩
    · exact .inl ⟨hs _ _ h1, h2⟩
    · exact .inr ⟨b, o, c, T, vs, hs _ _ h1, h2, h3, h4, h5, fun i f x av hx ha => let ⟨u, h7, h8⟩ := h6 i f x av hx ha; ⟨u, h7, h8.mono hs⟩⟩
  | set kk mp es => obtain ⟨b, l, c, h1, h2, h3⟩ := h; exact ⟨b, l, c, hs _ _ h1, h2, h3⟩
  | nrow t xs es ys =>
    obtain ⟨h0, h, hf⟩ := h
    refine ⟨h0, ?_, fun b o c zs he => (hf b o c zs he).mono hs⟩
    rcases h with ⟨h1, h2⟩ | ⟨b, o, c, T, vs, h1, h2, h3, h4, h5, h5', h6⟩
    · exact .inl ⟨hs _ _ h1, h2⟩
    · exact .inr ⟨b, o, c, T, vs, hs _ _ h1, h2, h3, h4, h5, h5', fun i f x av hx ha => let ⟨u, h7, h8⟩ := h6 i f x av hx ha; ⟨u, h7, h8.mono hs⟩⟩

/-- The object lies in another world where its block is the same. -/
theorem ObjOk.world {W : World} {C : CR} {ρ : Nm} {w w' : World} {m : Nat} {o : AObj} (h : ObjOk W C ρ w m o)
    (hb : ∀ b x, ρ m = some (some (b, x)) → w'.heap[b]? = w.heap[b]?) (hF : ∀ b, FootO o b → w'.heap[b]? = w.heap[b]?) : ObjOk W C ρ w' m o := by
  cases o with
  | box cs => obtain ⟨b, T, vs, h1, h2, h3⟩ := h; exact ⟨b, T, vs, h1, (hb _ _ h1).trans h2, h3⟩
  | row t xs =>
    rcases h with ⟨h1, h2⟩ | ⟨b, o, c, T, vs, h1, h2, h3⟩
    · exact .inl ⟨h1, h2⟩
    · exact .inr ⟨b, o, c, T, vs, h1, (hb _ _ h1).trans h2, h3⟩
  | set kk mp es => obtain ⟨b, l, c, h1, h2, h3⟩ := h; exact ⟨b, l, c, h1, (hb _ _ h1).trans h2, h3⟩
  | nrow t xs es ys =>
    obtain ⟨h0, h, hf⟩ := h
    refine ⟨h0, ?_, fun b o c zs he => (hf b o c zs he).world (hF b (by simp [FootO, he]))⟩
    rcases h with ⟨h1, h2⟩ | ⟨b, o, c, T, vs, h1, h2, h3⟩
    · exact .inl ⟨h1, h2⟩
    · exact .inr ⟨b, o, c, T, vs, h1, (hb _ _ h1).trans h2, h3⟩

/-- Nothing that was there has turned. -/
theorem HpOk.below {W : World} {C : CR} {ρ : Nm} {nx : Nat} {w w' : World} {L : Hp} (h : HpOk W C ρ nx w L) (hb : Below w.heap.size w w') : HpOk W C ρ nx w' L where
  obj m o hm := (h.obj m o hm).world (fun b x hx => hb.block b (h.own m o b x hm hx).1) (fun b hf => hb.block b (h.ownF m o b hm hf).1)
  apart := h.apart
  own m o b x hm hx := ⟨Nat.lt_of_lt_of_le (h.own m o b x hm hx).1 hb.size, (h.own m o b x hm hx).2⟩
  apartF := h.apartF
  ownF m o b hm hf := ⟨Nat.lt_of_lt_of_le (h.ownF m o b hm hf).1 hb.size, (h.ownF m o b hm hf).2⟩
  above := h.above
  os := hb.os.trans h.os
  tape := hb.tape.trans h.tape
  output := hb.output.trans h.output
  size := Nat.le_trans h.size hb.size
  old b hlt hc := (hb.block b (Nat.lt_of_lt_of_le hlt h.size)).trans (h.old b hlt hc)

def S.ev (s : S) : Operand → AVal
  | .tmp t => (lk s.σ t).getD .junk
  | .const (.agg cs) => .agg (cs.toList.map .v)
  | .const x => .v x
  | .func f => .fn f []
  | .global g => .v (.pointer (some ⟨g, 0, none⟩))

def S.put (s : S) (d : Option Tmp) (av : AVal) : S :=
  match d with
  | some d => { s with σ := (d, av) :: s.σ }
  | none => s

theorem den_vs {W : World} {C : CR} {ρ : Nm} (l : List Value) : DenL W C ρ (l.map .v) l :=
  ⟨by simp, fun k av u h1 h2 => by simp [h2] at h1; subst h1; exact .v u⟩

theorem FrOk.ev {W : World} {C : CR} {ρ : Nm} {s : S} {a : Act} (h : FrOk W C ρ s a) (x : Operand) : Den W C ρ (s.ev x) (a.eval x) := by
  cases x with
  | tmp t =>
    simp only [S.ev, Act.eval]
    cases hl : lk s.σ t with
    | none => exact .junk _
    | some av =>
      obtain ⟨v, h1, h2⟩ := h.slot t av hl
      have : a.tmps.getD t undef = v := by simp [Array.getD_eq_getD_getElem?, h1]
      rw [this]; exact h2
  | const v =>
    simp only [Act.eval]
    cases v with
    | agg cs => exact .agg cs.toList (by simp) (den_vs (W := W) (C := C) (ρ := ρ) cs.toList).2
    | _ => exact .v _
  | global g => exact .v _
  | func f => exact .fn (cs := []) [] rfl (fun k av u h => by simp at h)

theorem FrOk.put {W : World} {C : CR} {ρ : Nm} {s : S} {a : Act} (h : FrOk W C ρ s a) {d : Option Tmp} (hd : ∀ t, d = some t → t < s.n) {av : AVal} {v : Value} (hv : Den W C ρ av v) :
    FrOk W C ρ (s.put d av) (a.put d v) := by
  cases d with
  | none => exact h
  | some d =>
    refine ⟨fun d' av' hl => ?_, by simp [Act.put, S.put, h.size], by simp [Act.put, h.defers]⟩
    simp only [S.put, lk] at hl
    have hlt : d < a.tmps.size := by rw [h.size]; exact hd d rfl
    by_cases e : d = d'
    · subst e
      rw [if_pos rfl] at hl
      cases hl
      exact ⟨v, by simp [Act.put, Array.getElem?_setIfInBounds, hlt], hv⟩
    · rw [if_neg e] at hl
      obtain ⟨v', h1, h2⟩ := h.slot d' av' hl
      exact ⟨v', by simp [Act.put, Array.getElem?_setIfInBounds, e, h1], h2⟩

theorem FrOk.mono {W : World} {C : CR} {ρ ρ' : Nm} (hs : Sub0 ρ ρ') {s s' : S} {a : Act} (h : FrOk W C ρ s a) (e1 : s'.σ = s.σ) (e2 : s'.n = s.n) : FrOk W C ρ' s' a :=
  ⟨fun d av hl => let ⟨v, h1, h2⟩ := h.slot d av (by rwa [e1] at hl); ⟨v, h1, h2.mono hs⟩, by rw [e2]; exact h.size, h.defers⟩
end Go.Proofs.YtnbfnpnephfjaaaE

/-! Operations that yield a value and leave the world alone. -/
namespace Go.Proofs.YtnbfnpnephfjaaaE
open Go Go.RowKit
set_option linter.unusedSimpArgs false
set_option linter.unusedVariables false

inductive IOp where
  | mov (x : Operand)
  | bin (op : BinOp) (x y : Operand)
  | beq (neg : Bool) (x y : Operand)
  | una (op : UnOp) (x : Operand)
  | cvi (k : IntKind) (x : Operand)
  | pick (c a b : Operand)
  | ext (x : Operand) (i : Nat)
  | load (n : Nat) (ag : Bool) (p : Operand)
  | nilc (x : Operand)
  | snil (neg : Bool) (x : Operand)
  | fadr (off : Nat) (p : Operand)
  | fld (off n : Nat) (ag : Bool) (x : Operand)
  | iadr (s : Nat) (x i : Operand)
  | iarr (s len : Nat) (p i : Operand)
  | idx (s len : Nat) (ag : Bool) (x i : Operand)
  | bld (z : List Value) (parts : List (Nat × Nat × Operand))
  | slc (s : Nat) (x : Operand) (lo hi : Option Operand)
  | len (x : Operand)
  | slen (x : Operand)
  | s2a (n : Nat) (x : Operand)
  | aeq (neg : Bool) (n : Nat) (x y : Operand)
  | mfn (f : Nat) (cap : List Operand)
  | box (x : Operand)
  | new (z : List Value)
  | store (n : Nat) (p x : Operand)
  | mk (t : Ty) (bytes : Nat) (x y : Operand)
  | blds (t : Ty) (len : Nat) (parts : List (Nat × Nat × Operand))
  | app (t : Ty) (bytes : Nat) (x y : Operand)
  | call (f : Nat) (args : List Operand)
  | callv (x : Operand) (args : List Operand)
  | cpy (t : Ty) (x y : Operand)
  | slca (s n : Nat) (x : Operand) (lo hi : Option Operand)
  | newr (t : Ty) (n : Nat)
  | b2s (t : Ty) (x : Operand)
  | slc3 (x lo hi mx : Operand)
  | heq (neg : Bool) (x y : Operand)
  | clr (t : Ty) (x : Operand)
  | sidx (x i : Operand)
  | sslc (x : Operand) (lo hi : Option Operand)
  | mmk (kk : KK) (mp : Bool)
  | mget (kk : KK) (mp ok : Bool) (m k : Operand)
  | mput (kk : KK) (mp : Bool) (m k v : Operand)

/-! Wrapping, under a name that is not looked into. -/
theorem wr_ex : ∃ f : IntKind → Int → Int, f = IntKind.wrap := ⟨_, rfl⟩
noncomputable def wr : IntKind → Int → Int := Classical.choose wr_ex
theorem wr_eq : wr = IntKind.wrap := Classical.choose_spec wr_ex

noncomputable def andV (k : IntKind) (a b : Int) : Int := wr k (BitVec.ofInt k.bits a &&& BitVec.ofInt k.bits b).toNat
noncomputable def orV (k : IntKind) (a b : Int) : Int := wr k (BitVec.ofInt k.bits a ||| BitVec.ofInt k.bits b).toNat
noncomputable def xorV (k : IntKind) (a b : Int) : Int := wr k (BitVec.ofInt k.bits a ^^^ BitVec.ofInt k.bits b).toNat
noncomputable def shlV (k : IntKind) (a b : Int) : Int := wr k (a * 2 ^ (min b.toNat k.bits))
def shrV (k : IntKind) (a b : Int) : Int := a.fdiv (2 ^ (min b.toNat k.bits))
/-- Two scalars under a binary operator. -/
def binV (op : BinOp) (x y : Value) (K : Value → Prop) : Prop :=
  match x, y with
  | .int k a, .int k' b =>
    match op with
    | .add => k = k' ∧ K (.int k (wr k (a + b)))
    | .sub => k = k' ∧ K (.int k (wr k (a - b)))
    | .mul => k = k' ∧ K (.int k (wr k (a * b)))
    | .quo => k = k' ∧ b ≠ 0 ∧ K (.int k (wr k (a.tdiv b)))
    | .rem => k = k' ∧ b ≠ 0 ∧ K (.int k (a.tmod b))
    | .and => k = k' ∧ K (.int k (andV k a b))
    | .or => k = k' ∧ K (.int k (orV k a b))
    | .xor => k = k' ∧ K (.int k (xorV k a b))
    | .eql => k = k' ∧ K (.bool (decide (a = b)))
    | .neq => k = k' ∧ K (.bool (decide (a ≠ b)))
    | .lss => k = k' ∧ K (.bool (decide (a < b)))
    | .leq => k = k' ∧ K (.bool (decide (a ≤ b)))
    | .gtr => k = k' ∧ K (.bool (decide (a > b)))
    | .geq => k = k' ∧ K (.bool (decide (a ≥ b)))
    | .shl => 0 ≤ b ∧ K (.int k (shlV k a b))
    | .shr => 0 ≤ b ∧ K (.int k (shrV k a b))
    | _ => False
  | .string a, .string b =>
    match op with
    | .eql => K (.bool (decide (a = b)))
    | .neq => K (.bool (decide (a ≠ b)))
    | .add => a.size + b.size ≤ 9223372036854775807 ∧ K (.string (a ++ b))
    | _ => False
  | _, _ => False

def cellsK (ag : Bool) (n : Nat) (l : List AVal) (K : AVal → Prop) : Prop :=
  if ag then l.length = n ∧ K (.agg l) else match l with
    | [x] => K x
    | _ => False

/-- The cells of a row's first elements. -/
def rowA (t : Ty) (xs : List t.D) (k : Nat) : List AVal := ((List.range k).map fun i => enc t (xs.getD i (dflt t))).flatten

/-- An implication of which the conclusion is looked at only when the premise is settled. -/
def impK (p q : Prop) : Prop := p → q
def someK {α : Type} (x : Option α) (K : α → Prop) : Prop := match x with
  | some y => K y
  | none => False
def dfltN (t : Ty) : NR t := ⟨dflt t, .nil⟩
def loadN (t : Ty) (m : Nat) (xs : List (NR t)) (ys : List t.D) (n : Nat) (ag : Bool) (s i f : Nat) (K : AVal → Prop) : Prop :=
  (s = sz t ∧ i < xs.length + ys.length ∧ f + n ≤ sz t) ∧ impK (i < xs.length) (cellsK ag n (((encN t m (xs.getD i (dfltN t))).drop f).take n) K) ∧
    impK (¬ i < xs.length) (cellsK ag n (((enc t (ys.getD (i - xs.length) (dflt t))).drop f).take n) K)
def loadF (t : Ty) (es : Fam t) (n : Nat) (ag : Bool) (z b o i f : Nat) (K : AVal → Prop) : Prop :=
  someK (es b) fun y => (y.1 = o ∧ z = sz (inn t) ∧ i < y.2.2.length ∧ f + n ≤ z) ∧ cellsK ag n (((enc (inn t) (y.2.2.getD i (dflt (inn t)))).drop f).take n) K

def loadP (L : Hp) (n : Nat) (ag : Bool) (p : AVal) (K : AVal → Prop) : Prop :=
  match p with
  | .ptr m off => match lk L m with
    | some (.box cs) => cellsK ag n ((cs.drop off).take n) K
    | _ => False
  | .elt m s i f => match lk L m with
    | some (.row t xs) => (s = sz t ∧ i < xs.length ∧ f + n ≤ sz t) ∧ cellsK ag n (((enc t (xs.getD i (dflt t))).drop f).take n) K
    | some (.nrow t xs es ys) => loadN t m xs ys n ag s i f K
    | _ => False
  | .fp m z b o i f => match lk L m with
    | some (.nrow t xs es ys) => loadF t es n ag z b o i f K
    | _ => False
  | .re t x f => f + n ≤ sz t ∧ cellsK ag n (((enc t x).drop f).take n) K
  | .rp t xs => cellsK ag n (xs.map (enc t)).flatten K
  | .arp m k => match lk L m with
    | some (.row t xs) => xs.length = k ∧ cellsK ag n (rowA t xs k) K
    | _ => False
  | _ => False

def cellsOf : AVal → List AVal
  | .agg cs => cs
  | .v (.agg cs) => cs.toList.map .v
  | .junk => []
  | av => [av]

def splice (l : List AVal) (off : Nat) (cs : List AVal) : List AVal := l.take off ++ cs ++ l.drop (off + cs.length)

def fillA (s : S) : List (Nat × Nat × Operand) → List AVal → (List AVal → Prop) → Prop
  | [], l, K => K l
  | (off, n, x) :: r, l, K => ((cellsOf (s.ev x)).length = n ∧ 0 < n ∧ off + n ≤ l.length) ∧ fillA s r (splice l off (cellsOf (s.ev x))) K

def atOff (i : Int) (f : Nat → Prop) : List Nat → Nat → Prop
  | [], _ => True
  | o :: r, j => impK (i = (j : Int)) (f o) ∧ atOff i f r (j + 1)

def offs (s len : Nat) : List Nat := (List.range len).map (· * s)

/-- Bytes in line. -/
def u8s : List AVal → Option (List Int)
  | [] => some []
  | .v (.int .u8 n) :: r => (u8s r).map (n :: ·)
  | _ => none
/-- Integers in line. -/
def i64s : List AVal → Option (List Int)
  | [] => some []
  | .v (.int .i64 n) :: r => (i64s r).map (n :: ·)
  | _ => none
def optI (s : S) (x : Option Operand) (d : Int) (K : Int → Prop) : Prop :=
  match x with
  | none => K d
  | some x => match s.ev x with
    | .v (.int _ n) => K n
    | _ => False

/-- A row goes on behind what a slice shows of it. -/
def roomK (L : Hp) (m l0 : Nat) (h : Int) : Prop :=
  match lk L m with
  | some (.row t xs) => (l0 : Int) + h ≤ (xs.length : Int)
  | some (.nrow t xs es ys) => (l0 : Int) + h ≤ (xs.length + ys.length : Nat)
  | _ => False

/-- A map's key. -/
def keyK (kk : KK) (av : AVal) (K : Key → Prop) : Prop :=
  match kk with
  | .int => match av with
    | .v (.int .i64 n) => K (.i n)
    | _ => False
  | .str => match av with
    | .v (.string b) => K (.s b)
    | _ => False
  | .arr n => match av with
    | .agg cs => match i64s cs with
      | some l => l.length = n ∧ K (.a l)
      | none => False
    | _ => False
  | .pair => match av with
    | .agg cs => match i64s cs with
      | some l => l.length = 2 ∧ K (.a l)
      | none => False
    | _ => False
def hasM (es : List (Key × ByteArray)) (k : Key) : Bool := (getM es k).isSome
def strM (es : List (Key × ByteArray)) (k : Key) : ByteArray := (getM es k).getD ⟨#[]⟩
/-- What looking a key up tells. -/
def mgetV (mp ok : Bool) (es : List (Key × ByteArray)) (k : Key) : AVal :=
  if ok = true then .tup [if mp = true then .v (.string (strM es k)) else .v (.bool (hasM es k)), .v (.bool (hasM es k))]
  else if mp = true then .v (.string (strM es k)) else .v (.bool (hasM es k))

/-- A string's byte. -/
def byteV (b : ByteArray) (k : Nat) : Int := (b.data.toList.getD k 0).toNat

def vst (s : S) (io : IOp) (K : AVal → Prop) : Prop :=
  match io with
  | .mov x => K (s.ev x)
  | .bin op x y => match s.ev x, s.ev y with
    | .v a, .v b => binV op a b fun r => K (.v r)
    | _, _ => False
  | .beq neg x y => match s.ev x, s.ev y with
    | .v (.bool a), .v (.bool b) => K (.v (.bool (if neg then !(a == b) else a == b)))
    | _, _ => False
  | .una op x => match op, s.ev x with
    | .not, .v (.bool b) => K (.v (.bool (!b)))
    | .neg, .v (.int k n) => K (.v (.int k (wr k (0 - n))))
    | _, _ => False
  | .cvi k x => match s.ev x with
    | .v (.int _ n) => K (.v (.int k (wr k n)))
    | _ => False
  | .pick c a b => match s.ev c with
    | .v (.bool t) => impK (t = true) (K (s.ev a)) ∧ impK (t = false) (K (s.ev b))
    | _ => False
  | .ext x i => match s.ev x with
    | .tup cs => match cs[i]? with
      | some av => K av
      | none => False
    | _ => False
  | .load n ag p => loadP s.L n ag (s.ev p) K
  | .nilc x => match s.ev x with
    | .ptr m off => K (.ptr m off)
    | .elt m z i f => K (.elt m z i f)
    | .re t x f => K (.re t x f)
    | .fp m z b o i f => K (.fp m z b o i f)
    | .fn f cs => K (.fn f cs)
    | _ => False
  | .fadr off p => match s.ev p with
    | .ptr m o => K (.ptr m (o + off))
    | .elt m z i f => K (.elt m z i (f + off))
    | .re t x f => K (.re t x (f + off))
    | .fp m z b o i f => K (.fp m z b o i (f + off))
    | _ => False
  | .fld off n ag x => match s.ev x with
    | .agg cs => cellsK ag n ((cs.drop off).take n) K
    | _ => False
  | .iadr z x i => match s.ev i with
    | .v (.int _ n) => match s.ev x with
      | .sub m z' lo len => (z = z' ∧ 0 ≤ n ∧ n < (len : Int)) ∧ K (.elt m z (lo + n.toNat) 0)
      | .rs t xs => (z = sz t ∧ 0 ≤ n ∧ n < (xs.length : Int)) ∧ K (.re t (xs.getD n.toNat (dflt t)) 0)
      | .fs m z' b o lo len c => (z = z' ∧ 0 ≤ n ∧ n < (len : Int)) ∧ K (.fp m z b o (lo + n.toNat) 0)
      | _ => False
    | _ => False
  | .iarr z len p i => match s.ev i with
    | .v (.int _ n) => match s.ev p with
      | .ptr m o => (0 ≤ n ∧ n < (len : Int)) ∧ atOff n (fun k => K (.ptr m (o + k))) (offs z len) 0
      | .re t x f => (0 ≤ n ∧ n < (len : Int)) ∧ atOff n (fun k => K (.re t x (f + k))) (offs z len) 0
      | .elt m z' i f => (0 ≤ n ∧ n < (len : Int)) ∧ atOff n (fun k => K (.elt m z' i (f + k))) (offs z len) 0
      | .arp m k => (0 ≤ n ∧ n < (len : Int)) ∧ K (.elt m z n.toNat 0)
      | _ => False
    | _ => False
  | .idx z len ag x i => match s.ev i with
    | .v (.int _ n) => match s.ev x with
      | .agg cs => (0 ≤ n ∧ n < (len : Int)) ∧ atOff n (fun k => cellsK ag z ((cs.drop k).take z) K) (offs z len) 0
      | _ => False
    | _ => False
  | .bld z parts => fillA s parts (z.map .v) fun l => K (.agg l)
  | .slc z x lo hi => match s.ev x with
    | .sub m z' l0 len => z = z' ∧ optI s lo 0 fun l => optI s hi len fun h => (0 ≤ l ∧ l ≤ h ∧ (h ≤ (len : Int) ∨ roomK s.L m l0 h)) ∧ K (.sub m z (l0 + l.toNat) (h - l).toNat)
    | .rs t xs => z = sz t ∧ optI s lo 0 fun l => optI s hi xs.length fun h => (0 ≤ l ∧ l ≤ h ∧ h ≤ (xs.length : Int)) ∧ K (.rs t ((xs.drop l.toNat).take (h - l).toNat))
    | .fs m z' b o l0 len c => z = z' ∧ optI s lo 0 fun l => optI s hi len fun h => (0 ≤ l ∧ l ≤ h ∧ h + (l0 : Int) ≤ (c : Int)) ∧ K (.fs m z b o (l0 + l.toNat) (h - l).toNat c)
    | _ => False
  | .slca z n x lo hi => match s.ev x with
    | .arp m k => k = n ∧ optI s lo 0 fun l => optI s hi n fun h => (0 ≤ l ∧ l ≤ h ∧ h ≤ (n : Int)) ∧ K (.sub m z l.toNat (h - l).toNat)
    | _ => False
  | .slc3 x lo hi mx => match s.ev x with
    | .sub m z' l0 len => optI s (some lo) 0 fun l => optI s (some hi) 0 fun h => optI s (some mx) 0 fun q => (0 ≤ l ∧ l ≤ h ∧ h ≤ q ∧ q ≤ (len : Int)) ∧ K .junk
    | .fs m z' b o l0 len c => optI s (some lo) 0 fun l => optI s (some hi) 0 fun h => optI s (some mx) 0 fun q => (0 ≤ l ∧ l ≤ h ∧ h ≤ q ∧ q ≤ (len : Int)) ∧ K .junk
    | _ => False
  | .len x => match s.ev x with
    | .sub _ _ _ len => K (.v (.int .i64 len))
    | .rs _ xs => K (.v (.int .i64 xs.length))
    | .fs _ _ _ _ _ len _ => K (.v (.int .i64 len))
    | .v (.slice none 0 0) => K (.v (.int .i64 0))
    | _ => False
  | .slen x => match s.ev x with
    | .v (.string b) => K (.v (.int .i64 b.size))
    | _ => False
  | .snil neg x => match s.ev x with
    | .sub _ _ _ len => ∀ b : Bool, (b = true → len = 0) → K (.v (.bool (if neg then !b else b)))
    | .rs _ xs => ∀ b : Bool, (b = true → xs = []) → K (.v (.bool (if neg then !b else b)))
    | .v (.slice none 0 0) => K (.v (.bool (if neg then false else true)))
    | .fs _ _ _ _ _ _ _ => K (.v (.bool (if neg then true else false)))
    | _ => False
  | .mfn f cap => K (.fn f (cap.map s.ev))
  | .aeq neg n x y => match s.ev x, s.ev y with
    | .agg cs, .agg cs' => match u8s cs, u8s cs' with
      | some l, some l' => (l.length = n ∧ l'.length = n) ∧ K (.v (.bool (if neg then !decide (l = l') else decide (l = l'))))
      | _, _ => False
    | _, _ => False
  | .heq neg x y => match s.ev x, s.ev y with
    | .agg cs, .agg cs' => match i64s cs, i64s cs' with
      | some l, some l' => (l.length = 4 ∧ l'.length = 4) ∧ K (.v (.bool (if neg then !decide (l = l') else decide (l = l'))))
      | _, _ => False
    | _, _ => False
  | .s2a n x => match s.ev x with
    | .rs t xs => (n ≤ xs.length ∧ 0 < n) ∧ K (.rp t (xs.take n))
    | _ => False
  | .sidx x i => match s.ev x with
    | .v (.string b) => match s.ev i with
      | .v (.int _ n) => (0 ≤ n ∧ n < (b.size : Int)) ∧ K (.v (.int .u8 (byteV b n.toNat)))
      | _ => False
    | _ => False
  | .sslc x lo hi => match s.ev x with
    | .v (.string b) => optI s lo 0 fun l => optI s hi b.size fun h => (0 ≤ l ∧ l ≤ h ∧ h ≤ (b.size : Int)) ∧ K (.v (.string (b.extract l.toNat h.toNat)))
    | _ => False
  | .mget kk mp ok m k => match s.ev m with
    | .mp n => match lk s.L n with
      | some (.set kk' mp' es) => (kk' = kk ∧ mp' = mp) ∧ keyK kk (s.ev k) fun key => K (mgetV mp ok es key)
      | _ => False
    | _ => False
  | _ => False

def cellsAt (P : Program) (t : TypeId) : Option (Nat × Bool) :=
  match P.info? t with
  | none => none
  | some i => match P.underlying t with
    | some (.struct _) => some (i.size, true)
    | some (.array _ _) => some (i.size, true)
    | some _ => some (1, false)
    | none => none

def elemSize (P : Program) (e : TypeId) : Option Nat := (P.info? e).map (·.size)

/-- The parts, by where they lie. -/
def partsAt (pl : Nat → Option (Nat × Nat)) : List (Nat × Operand) → Option (List (Nat × Nat × Operand))
  | [] => some []
  | (i, x) :: r => match pl i, partsAt pl r with
    | some (off, z), some ps => some ((off, z, x) :: ps)
    | _, _ => none

def placesOf (P : Program) (t : TypeId) : Option ((Nat → Option (Nat × Nat)) × Value) :=
  match P.info? t, P.underlying t with
  | some it, some (.array _ e) => match it.zero, P.info? e with
    | some z, some ie => some (fun i => some (i * ie.size, ie.size), z)
    | _, _ => none
  | some it, some (.struct fields) => match it.zero, fields.toList.mapM (fun f => (P.info? f.type).map fun i => (f.offset, i.size)) with
    | some z, some places => some ((places.toArray[·]?), z)
    | _, _ => none
  | _, _ => none

/-- A struct of two integers. -/
def pairInts (P : Program) (e : TypeId) : List Field → Bool
  | [f1, f2] => (match P.underlying f1.type, P.underlying f2.type with
    | some (.int .i64), some (.int .i64) => true
    | _, _ => false) && f1.offset == 0 && f2.offset == 1 && P.cellsOf f1.type == 1 && P.cellsOf f2.type == 1 && P.cellsOf e == 2 && f1.name != "_" && f2.name != "_" && !P.stoodInHeld e
  | _ => false

/-- A map's key type's kind. -/
def kkOf (P : Program) (k : TypeId) : Option KK :=
  match P.underlying k with
  | some (.int .i64) => some .int
  | some .string => some .str
  | some (.array n e) => match P.underlying e, P.info? e with
    | some (.int .i64), some _ => if P.cellsOf e = 1 then some (.arr n) else none
    | _, _ => none
  | some (.struct fs) => if pairInts P k fs.toList = true then some .pair else none
  | _ => none
/-- A map's elements: strings, or bools. -/
def elemMp (P : Program) (e : TypeId) : Option Bool :=
  match P.info? e with
  | some i => match i.zero with
    | some (.bool false) => some false
    | some (.string z) => if z.size = 0 then some true else none
    | _ => none
  | none => none
def mapOf (P : Program) (t : TypeId) : Option (KK × Bool) :=
  match P.underlying t with
  | some (.map k e) => match kkOf P k, elemMp P e with
    | some kk, some mp => some (kk, mp)
    | _, _ => none
  | _ => none

/-- The operation in the words of this file. -/
def lowV (P : Program) (o : Op) : Option IOp :=
  match o with
  | .move x => some (.mov x)
  | .assign x => some (.mov x)
  | .pick c a b => some (.pick c a b)
  | .extract x i => some (.ext x i)
  | .nilCheck x => some (.nilc x)
  | .unOp op _ x => some (.una op x)
  | .binOp op t x y _ => match P.underlying t with
    | some (.int _) => some (.bin op x y)
    | some .string => some (.bin op x y)
    | some (.slice _) => match y with
      | .const (.slice none 0 0) => match op with
        | .eql => some (.snil false x)
        | .neq => some (.snil true x)
        | _ => none
      | _ => none
    | some .bool => match op with
      | .eql => some (.beq false x y)
      | .neq => some (.beq true x y)
      | _ => none
    | some (.array n e) => match P.underlying e, elemSize P e with
      | some (.int .u8), some 1 => match op with
        | .eql => some (.aeq false n x y)
        | .neq => some (.aeq true n x y)
        | _ => none
      | some (.struct fs), some 2 => if n = 2 ∧ pairInts P e fs.toList = true then match op with
        | .eql => some (.heq false x y)
        | .neq => some (.heq true x y)
        | _ => none else none
      | _, _ => none
    | _ => none
  | .convert src d x => match P.underlying src, P.underlying d with
    | some _, some (.int k) => some (.cvi k x)
    | _, _ => none
  | .load t p => match cellsAt P t with
    | some (n, ag) => some (.load n ag p)
    | none => none
  | .fieldAddr t p f => match P.underlying t with
    | some (.struct fs) => match fs[f]? with
      | some fd => match elemSize P fd.type with
        | some (_ + 1) => some (.fadr fd.offset p)
        | _ => none
      | none => none
    | _ => none
  | .field t x f => match P.underlying t with
    | some (.struct fs) => match fs[f]? with
      | some fd => match cellsAt P fd.type with
        | some (n, ag) => some (.fld fd.offset n ag x)
        | none => none
      | none => none
    | _ => none
  | .indexAddr t x i => match P.underlying t with
    | some (.slice e) => match elemSize P e with
      | some z => some (.iadr z x i)
      | none => none
    | some (.array len e) => match elemSize P e with
      | some z => some (.iarr z len x i)
      | none => none
    | _ => none
  | .index t x i => match P.underlying t with
    | some (.array len e) => match cellsAt P e, elemSize P e with
      | some (n, ag), some z => if n = z then some (.idx z len ag x i) else none
      | _, _ => none
    | some .string => some (.sidx x i)
    | _ => none
  | .slice t x lo hi none => match P.underlying t with
    | some (.slice e) => match elemSize P e with
      | some z => some (.slc z x lo hi)
      | none => none
    | some .string => some (.sslc x lo hi)
    | some (.array n e) => match elemSize P e with
      | some z => some (.slca z n x lo hi)
      | none => none
    | _ => none
  | .slice t x (some lo) (some hi) (some mx) => match P.underlying t with
    | some (.slice e) => match elemSize P e with
      | some z => some (.slc3 x lo hi mx)
      | none => none
    | _ => none
  | .build t parts => match placesOf P t with
    | some (pl, z) => match partsAt pl parts.toList with
      | some ps => some (.bld z.cells.toList ps)
      | none => none
    | none => none
  | .makeFunc (.func f) ⟨[]⟩ cap => some (.mfn f cap.toList)
  | .call ⟨.builtin .len, ⟨[x]⟩, ⟨[t]⟩⟩ => match P.underlying t with
    | some (.slice _) => some (.len x)
    | some .string => some (.slen x)
    | _ => none
  | .sliceToArrayPointer arr x => match P.underlying arr with
    | some (.array n _) => some (.s2a n x)
    | _ => none
  | .lookup t x i ok => match mapOf P t with
    | some (kk, mp) => some (.mget kk mp ok x i)
    | none => none
  | _ => none
end Go.Proofs.YtnbfnpnephfjaaaE

/-! A key is looked for in a map of integers' keys. -/
namespace Go.Proofs.YtnbfnpnephfjaaaE
open Go Go.RowKit Go.MapKept
set_option linter.unusedSimpArgs false
set_option linter.unusedVariables false

section
variable {P : Program}
theorem pairInts_spec {e : TypeId} {l : List Field} (h : pairInts P e l = true) : ∃ f1 f2, l = [f1, f2] ∧ P.underlying f1.type = some (.int .i64) ∧ P.underlying f2.type = some (.int .i64) ∧ f1.offset = 0 ∧ f2.offset = 1 ∧
    P.cellsOf f1.type = 1 ∧ P.cellsOf f2.type = 1 ∧ P.cellsOf e = 2 ∧ f1.name ≠ "_" ∧ f2.name ≠ "_" ∧ P.stoodInHeld e = false := by
  unfold pairInts at h
  split at h
  · rename_i f1 f2
    simp only [Bool.and_eq_true, beq_iff_eq, bne_iff_ne, Bool.not_eq_true'] at h
    obtain ⟨⟨⟨⟨⟨⟨⟨⟨h0, h1⟩, h2⟩, h3⟩, h4⟩, h5⟩, h6⟩, h7⟩, h8⟩ := h
    split at h0
    · rename_i u1 u2
      exact ⟨f1, f2, rfl, u1, u2, h1, h2, h3, h4, h5, h6, h7, h8⟩
    · cases h0
  · cases h
end
/-- What looking for a key comes to. -/
def Finds (P : Program) (k : TypeId) (key : Value) (es : List MapEntry) : Prop := ∀ w : World, ∃ r, (Instr.findKey k key es).run P w = .ok r w ∧
  ((r = none ∧ ∀ e ∈ es, e.key ≠ key) ∨ ∃ i e, r = some (i, e.val) ∧ es[i]? = some e ∧ e.key = key)
theorem finds_int {P : Program} {k : TypeId} (hk : P.underlying k = some (.int .i64)) (x : Int) (es : List MapEntry) (he : ∀ e ∈ es, ∃ y, e.key = .int .i64 y) : Finds P k (.int .i64 x) es := by
  intro w
  have h1 : IsKey (.int .i64) (.int .i64 x) := by simp [IsKey]
  rcases findNow_spec h1 es 0 (fun e h => by obtain ⟨y, hy⟩ := he e h; rw [hy]; simp [IsKey]) with ⟨h2, h3⟩ | ⟨j, e, h2, h3, h4⟩
  · exact ⟨none, run_findKey hk h2, .inl ⟨rfl, h3⟩⟩
  · exact ⟨some (0 + j, e.val), run_findKey hk h2, .inr ⟨j, e, by rw [Nat.zero_add], h3, h4⟩⟩
theorem eqItems_i64 {P : Program} (w : World) (d : Nat) {e : TypeId} (he : P.underlying e = some (.int .i64)) (hc : P.cellsOf e = 1) (xs ys : List Int) : ∀ (is : List Nat), (∀ i ∈ is, i < xs.length ∧ i < ys.length) →
    (Op.eqItems (d + 1) e (P.cellsOf e) ⟨xs.map (Value.int .i64)⟩ ⟨ys.map (Value.int .i64)⟩ is).run P w = .ok (is.all fun i => xs[i]? == ys[i]?) w
  | [], _ => by simp [Op.eqItems]
  | i :: is, h => by
    obtain ⟨h1, h2⟩ := h i (List.mem_cons_self)
    have hp : P.plainKey e = true := by unfold Program.plainKey; rw [he]
    have p1 := run_part_plain (P := P) (w := w) hp (xs := ⟨xs.map (Value.int .i64)⟩) (off := i) (v := .int .i64 xs[i]) (by simp [h1])
    have p2 := run_part_plain (P := P) (w := w) hp (xs := ⟨ys.map (Value.int .i64)⟩) (off := i) (v := .int .i64 ys[i]) (by simp [h2])
    have ih := eqItems_i64 w d he hc xs ys is (fun j hj => h j (List.mem_cons_of_mem _ hj))
    simp only [Op.eqItems, Sem.run_bind, hc, Nat.mul_one, p1, p2, Result.andThen_ok, run_equalIn_int w d e .i64 .i64 xs[i] ys[i] he]
    rw [hc] at ih
    by_cases hh : xs[i] = ys[i]
    · simp [hh, ih, List.getElem?_eq_getElem h1, List.getElem?_eq_getElem h2]
    · simp [hh, List.getElem?_eq_getElem h1, List.getElem?_eq_getElem h2]
theorem arr_equal {P : Program} (w : World) {t e : TypeId} {n : Nat} {i : TypeInfo} (ht : P.underlying t = some (.array n e)) (he : P.underlying e = some (.int .i64)) (hc : P.cellsOf e = 1) (hi : P.info? e = some i) (xs ys : List Int) (hx : xs.length = n) (hy : ys.length = n) :
    (Op.equal t (.agg ⟨xs.map (Value.int .i64)⟩) (.agg ⟨ys.map (Value.int .i64)⟩)).run P w = .ok (decide (xs = ys)) w := by
  have h1 := run_equalIn_array (P := P) (w := w) 9999 ⟨xs.map (Value.int .i64)⟩ ⟨ys.map (Value.int .i64)⟩ ht hi
  have h2 := eqItems_i64 (P := P) w 9998 he hc xs ys (List.range n) (fun j hj => by have := List.mem_range.1 hj; omega)
  have h3 : ((List.range n).all fun j => xs[j]? == ys[j]?) = decide (xs = ys) := by
    by_cases hxy : xs = ys
    · subst hxy; simp
    · rw [decide_eq_false hxy, List.all_eq_false]
      apply Classical.byContradiction
      intro hno
      apply hxy
      apply List.ext_getElem?
      intro j
      by_cases hj : j < n
      · apply Classical.byContradiction
        intro hne
        exact hno ⟨j, List.mem_range.2 hj, by simpa using hne⟩
      · rw [List.getElem?_eq_none (by omega), List.getElem?_eq_none (by omega)]
  rw [← h3]; exact h1.trans h2
theorem check_arr {P : Program} (w : World) {k e : TypeId} {n : Nat} {i : TypeInfo} (hk : P.underlying k = some (.array n e)) (he : P.underlying e = some (.int .i64)) (hc : P.cellsOf e = 1) (hi : P.info? e = some i) (xs : List Int) (hx : xs.length = n) (em : Bool) (d : Nat) :
    (Instr.checkKey em (d + 2) k (.agg ⟨xs.map (Value.int .i64)⟩)).run P w = .ok () w := by
  unfold Instr.checkKey
  have hs : i.size = 1 := by unfold Program.cellsOf at hc; rw [hi] at hc; simpa using hc
  simp only [Sem.run_bind, run_underlying hk, Result.andThen_ok]
  simp only [Std.Legacy.Range.forIn_eq_forIn_range', Std.Legacy.Range.size, Nat.sub_zero, Nat.add_one_sub_one, Nat.div_one]
  have key : ∀ (l : List Nat), (∀ j ∈ l, j < n) → (forIn l PUnit.unit fun j _ => (do Instr.checkKey em (d + 1) e (← part e ⟨xs.map (Value.int .i64)⟩ (j * (← sizeOf e))); pure (ForInStep.yield PUnit.unit) : Sem (ForInStep PUnit))).run P w = .ok PUnit.unit w := by
    intro l
    induction l with
    | nil => intro _; simp
    | cons j r ih =>
      intro h
      have hj : j < xs.length := by rw [hx]; exact h j List.mem_cons_self
      have hp : P.plainKey e = true := by unfold Program.plainKey; rw [he]
      have p1 := run_part_plain (P := P) (w := w) hp (xs := ⟨xs.map (Value.int .i64)⟩) (off := j) (v := .int .i64 xs[j]) (by simp [hj])
      have c1 := run_checkKey (P := P) (w := w) (kt := e) (k := .int .i64 xs[j]) he (by simp [IsKey]) em d
      simp only [List.forIn_cons, Sem.run_bind, run_sizeOf w hi, Result.andThen_ok, hc, Nat.mul_one, p1, c1, Sem.run_pure]
      exact ih (fun j hj => h j (List.mem_cons_of_mem _ hj))
  have := key (List.range' 0 n) (fun j hj => by rw [List.mem_range'_1] at hj; omega)
  simp only [Sem.run_bind, bind_pure_comp] at this ⊢
  rw [this]; rfl
theorem finds_str {P : Program} {k : TypeId} (hk : P.underlying k = some .string) (x : ByteArray) (es : List MapEntry) (he : ∀ e ∈ es, ∃ y, e.key = .string y) : Finds P k (.string x) es := by
  intro w
  have h1 : IsKey .string (.string x) := by simp [IsKey]
  rcases findNow_spec h1 es 0 (fun e h => by obtain ⟨y, hy⟩ := he e h; rw [hy]; simp [IsKey]) with ⟨h2, h3⟩ | ⟨j, e, h2, h3, h4⟩
  · exact ⟨none, run_findKey hk h2, .inl ⟨rfl, h3⟩⟩
  · exact ⟨some (0 + j, e.val), run_findKey hk h2, .inr ⟨j, e, by rw [Nat.zero_add], h3, h4⟩⟩
theorem pair_equal {P : Program} (w : World) {e : TypeId} {fs : Array Field} (he : P.underlying e = some (.struct fs)) (hp : pairInts P e fs.toList = true) (r s r' s' : Int) :
    (Op.equal e (.agg #[.int .i64 r, .int .i64 s]) (.agg #[.int .i64 r', .int .i64 s'])).run P w = .ok (decide ([r, s] = [r', s'])) w := by
  obtain ⟨f1, f2, hl, u1, u2, o1, o2, z1, z2, hc, n1, n2, hst⟩ := pairInts_spec hp
  have hfs : fs = #[f1, f2] := by apply Array.toList_inj.1; rw [hl]
  subst hfs
  have hf : P.fieldsOf e = #[f1, f2] := by simp [Program.fieldsOf, he]
  have p1 : P.plainKey f1.type = true := by unfold Program.plainKey; rw [u1]
  have p2 : P.plainKey f2.type = true := by unfold Program.plainKey; rw [u2]
  have main : (Op.equalIn 10000 e (.agg #[.int .i64 r, .int .i64 s]) (.agg #[.int .i64 r', .int .i64 s'])).run P w = .ok (r == r' && s == s') w := by
    rw [run_equalIn_agg w 9999 e _ _ (by rw [hf]; exact he) hst, hf]
    have q1 := run_part_plain (P := P) (w := w) p1 (xs := #[.int .i64 r, .int .i64 s]) (off := 0) (v := .int .i64 r) (by simp)
    have q2 := run_part_plain (P := P) (w := w) p1 (xs := #[.int .i64 r', .int .i64 s']) (off := 0) (v := .int .i64 r') (by simp)
    have q3 := run_part_plain (P := P) (w := w) p2 (xs := #[.int .i64 r, .int .i64 s]) (off := 1) (v := .int .i64 s) (by simp)
    have q4 := run_part_plain (P := P) (w := w) p2 (xs := #[.int .i64 r', .int .i64 s']) (off := 1) (v := .int .i64 s') (by simp)
    have e1 : (Op.equalIn 9999 f1.type (.int .i64 r) (.int .i64 r')).run P w = .ok (r == r') w := run_equalIn_int (P := P) w 9998 f1.type .i64 .i64 r r' u1
    have e2 : (Op.equalIn 9999 f2.type (.int .i64 s) (.int .i64 s')).run P w = .ok (s == s') w := run_equalIn_int (P := P) w 9998 f2.type .i64 .i64 s s' u2
    cases h1 : (r == r') <;> cases h2 : (s == s') <;> simp [Op.eqFields, n1, n2, o1, o2, q1, q2, q3, q4, e1, e2, h1, h2]
  rw [show decide ([r, s] = [r', s']) = (r == r' && s == s') by by_cases k1 : r = r' <;> by_cases k2 : s = s' <;> simp [k1, k2]]
  exact main
/-- Where keys are asked for their equality one after the other. -/
theorem finds_ask {P : Program} {k : TypeId} {d : TypeDesc} (hk : P.underlying k = some d) {n : Nat} (xs : List Int) (hx : xs.length = n)
    (hnow : ∀ (e0 : MapEntry) (r : List MapEntry), Instr.findNow d (.agg ⟨xs.map (Value.int .i64)⟩) (e0 :: r) 0 = none)
    (heq : ∀ (w : World) (ys : List Int), ys.length = n → (Op.equal k (.agg ⟨xs.map (Value.int .i64)⟩) (.agg ⟨ys.map (Value.int .i64)⟩)).run P w = .ok (decide (xs = ys)) w) (es : List MapEntry)
    (hes : ∀ e ∈ es, ∃ ys : List Int, ys.length = n ∧ e.key = .agg ⟨ys.map (Value.int .i64)⟩) : Finds P k (.agg ⟨xs.map (Value.int .i64)⟩) es := by
  intro w
  have ask : ∀ (l : List MapEntry) (j : Nat), (∀ e ∈ l, ∃ ys : List Int, ys.length = n ∧ e.key = .agg ⟨ys.map (Value.int .i64)⟩) → ∃ r, (Instr.findAsking k (.agg ⟨xs.map (Value.int .i64)⟩) l j).run P w = .ok r w ∧
      ((r = none ∧ ∀ e ∈ l, e.key ≠ .agg ⟨xs.map (Value.int .i64)⟩) ∨ ∃ i e, r = some (j + i, e.val) ∧ l[i]? = some e ∧ e.key = .agg ⟨xs.map (Value.int .i64)⟩) := by
    intro l
    induction l with
    | nil => intro j _; exact ⟨none, by simp [Instr.findAsking], .inl ⟨rfl, fun e h => by cases h⟩⟩
    | cons e0 r ih =>
      intro j h
      obtain ⟨ys, hy, hkey⟩ := h e0 (List.mem_cons_self)
      have heq := heq w ys hy
      rw [← hkey] at heq
      by_cases hxy : xs = ys
      · subst hxy
        exact ⟨some (j, e0.val), by simp [Instr.findAsking, heq], .inr ⟨0, e0, rfl, rfl, hkey⟩⟩
      · obtain ⟨q, hq, hr⟩ := ih (j + 1) (fun e he => h e (List.mem_cons_of_mem _ he))
        refine ⟨q, by simp [Instr.findAsking, heq, hxy, hq], ?_⟩
        rcases hr with ⟨rfl, h2⟩ | ⟨i2, e2, rfl, h3, h4⟩
        · refine .inl ⟨rfl, fun e he => ?_⟩
          rcases List.mem_cons.1 he with rfl | he
          · intro e1
            rw [hkey] at e1
            simp only [Value.agg.injEq, Array.mk.injEq] at e1
            exact hxy (((List.map_inj_right (fun x y e => by injection e)).1 e1).symm)
          · exact h2 e he
        · exact .inr ⟨i2 + 1, e2, by rw [Nat.add_assoc, Nat.add_comm 1 i2], by simpa using h3, h4⟩
  cases es with
  | nil => exact ⟨none, by simp [Instr.findKey, run_underlying hk, Instr.findNow], .inl ⟨rfl, fun e h => by cases h⟩⟩
  | cons e0 r =>
    obtain ⟨q, hq, hr⟩ := ask (e0 :: r) 0 hes
    refine ⟨q, ?_, ?_⟩
    · simp [Instr.findKey, run_underlying hk, hnow e0 r, hq]
    · rcases hr with hr | ⟨i2, e2, h1, h2, h3⟩
      · exact .inl hr
      · exact .inr ⟨i2, e2, by rw [h1, Nat.zero_add], h2, h3⟩
theorem check_pair {P : Program} (w : World) {k : TypeId} {fs : Array Field} (hk : P.underlying k = some (.struct fs)) (hp : pairInts P k fs.toList = true) (r s : Int) (em : Bool) (d : Nat) :
    (Instr.checkKey em (d + 2) k (.agg #[.int .i64 r, .int .i64 s])).run P w = .ok () w := by
  obtain ⟨f1, f2, hl, u1, u2, o1, o2, z1, z2, hc, n1, n2, hst⟩ := pairInts_spec hp
  have hfs : fs = #[f1, f2] := by apply Array.toList_inj.1; rw [hl]
  subst hfs
  have p1 : P.plainKey f1.type = true := by unfold Program.plainKey; rw [u1]
  have p2 : P.plainKey f2.type = true := by unfold Program.plainKey; rw [u2]
  have q1 := run_part_plain (P := P) (w := w) p1 (xs := #[.int .i64 r, .int .i64 s]) (off := 0) (v := .int .i64 r) (by simp)
  have q3 := run_part_plain (P := P) (w := w) p2 (xs := #[.int .i64 r, .int .i64 s]) (off := 1) (v := .int .i64 s) (by simp)
  have c1 := run_checkKey (P := P) (w := w) (kt := f1.type) (k := .int .i64 r) u1 (by simp [IsKey]) em d
  have c2 := run_checkKey (P := P) (w := w) (kt := f2.type) (k := .int .i64 s) u2 (by simp [IsKey]) em d
  unfold Instr.checkKey
  simp [run_underlying hk, n1, n2, o1, o2, q1, q3, c1, c2]

theorem keyV_inj {kk : KK} {a b : Key} (ha : okKey kk a = true) (hb : okKey kk b = true) (h : keyV a = keyV b) : a = b := by
  cases a <;> cases b <;> simp_all [keyV]
  exact List.map_inj_right (fun x y e => by injection e) |>.1 h
theorem okKey_arr {n : Nat} {k : Key} (h : okKey (.arr n) k = true) : ∃ l : List Int, k = .a l ∧ l.length = n := by
  cases k <;> simp [okKey] at h
  exact ⟨_, rfl, h⟩
theorem okKey_pair {k : Key} (h : okKey .pair k = true) : ∃ a b : Int, k = .a [a, b] := by
  cases k <;> simp [okKey] at h
  rename_i l
  match l, h with
  | [a, b], _ => exact ⟨a, b, rfl⟩
theorem kk_finds {P : Program} {k : TypeId} {kk : KK} (hk : kkOf P k = some kk) {key : Key} (ho : okKey kk key = true) (es : List MapEntry) (hes : ∀ e ∈ es, ∃ k', okKey kk k' = true ∧ e.key = keyV k') : Finds P k (keyV key) es := by
  unfold kkOf at hk
  split at hk
  · rename_i hu; cases hk
    cases key <;> simp [okKey] at ho
    exact finds_int hu _ es (fun e he => by
      obtain ⟨k', h1, h2⟩ := hes e he
      cases k' <;> simp [okKey] at h1
      exact ⟨_, h2⟩)
  · rename_i hu; cases hk
    cases key <;> simp [okKey] at ho
    exact finds_str hu _ es (fun e he => by
      obtain ⟨k', h1, h2⟩ := hes e he
      cases k' <;> simp [okKey] at h1
      exact ⟨_, h2⟩)
  · rename_i n e hu
    split at hk
    · rename_i i he hi
      split at hk
      · rename_i hc; cases hk
        obtain ⟨l, rfl, hl⟩ := okKey_arr ho
        exact finds_ask hu l hl (fun e0 r => by simp [Instr.findNow, Instr.sameNow]) (fun w ys hy => arr_equal w hu he hc hi l ys hl hy) es (fun e he => by
          obtain ⟨k', h1, h2⟩ := hes e he
          obtain ⟨l', rfl, hl'⟩ := okKey_arr h1
          exact ⟨l', hl', h2⟩)
      · cases hk
    · cases hk
  · rename_i fs hu
    split at hk
    · rename_i hp; cases hk
      obtain ⟨a, b, rfl⟩ := okKey_pair ho
      exact finds_ask hu [a, b] rfl (fun e0 r => by simp [Instr.findNow, Instr.sameNow]) (fun w ys hy => by
        match ys, hy with
        | [c, d], _ => exact pair_equal w hu hp a b c d) es (fun e he => by
          obtain ⟨k', h1, h2⟩ := hes e he
          obtain ⟨c, d, rfl⟩ := okKey_pair h1
          exact ⟨[c, d], rfl, h2⟩)
    · cases hk
  · cases hk
theorem kk_check {P : Program} {k : TypeId} {kk : KK} (hk : kkOf P k = some kk) {key : Key} (ho : okKey kk key = true) (w : World) (em : Bool) : (Instr.checkKey em 10000 k (keyV key)).run P w = .ok () w := by
  unfold kkOf at hk
  split at hk
  · rename_i hu; cases hk
    cases key <;> simp [okKey] at ho
    exact run_checkKey hu (by simp [IsKey, keyV]) em 9999
  · rename_i hu; cases hk
    cases key <;> simp [okKey] at ho
    exact run_checkKey hu (by simp [IsKey, keyV]) em 9999
  · rename_i n e hu
    split at hk
    · rename_i i he hi
      split at hk
      · rename_i hc; cases hk
        obtain ⟨l, rfl, hl⟩ := okKey_arr ho
        exact check_arr w hu he hc hi l hl em 9998
      · cases hk
    · cases hk
  · rename_i fs hu
    split at hk
    · rename_i hp; cases hk
      obtain ⟨a, b, rfl⟩ := okKey_pair ho
      exact check_pair w hu hp a b em 9998
    · cases hk
  · cases hk
theorem kk_same (key : Key) : Instr.sameBits 10000 (keyV key) (keyV key) = true := by
  cases key with
  | i n => simp [keyV, Instr.sameBits]
  | s b => simp only [keyV, Instr.sameBits]; rw [beq_toListBytes]; simp
  | a l =>
    simp only [keyV, Instr.sameBits, beq_self_eq_true, Bool.true_and, List.all_eq_true]
    intro p hp
    have : p.1 = p.2 ∧ p.1 ∈ l.map (Value.int .i64) := by
      generalize l.map (Value.int .i64) = q at hp
      induction q with
      | nil => simp at hp
      | cons x q ih =>
        simp only [List.zip_cons_cons, List.mem_cons] at hp
        rcases hp with rfl | hp
        · simp
        · exact ⟨(ih hp).1, by simp [(ih hp).2]⟩
    obtain ⟨h1, h2⟩ := this
    obtain ⟨x, _, h3⟩ := List.mem_map.1 h2
    rw [← h1, ← h3]; simp [Instr.sameBits]
theorem kk_stays {P : Program} (key : Key) (w : World) : (Instr.keyThatStays (keyV key) (keyV key)).run P w = .ok (keyV key) w := by
  simp [Instr.keyThatStays, kk_same]

/-- A key is looked for. -/
theorem MapOk.find {P : Program} {k : TypeId} {kk : KK} {mp : Bool} {es : List (Key × ByteArray)} {l : List MapEntry} (h : MapOk kk mp es l) (hk : kkOf P k = some kk) {key : Key} (ho : okKey kk key = true) (w : World) :
    ((Instr.findKey k (keyV key) l).run P w = .ok none w ∧ getM es key = none ∧ ∀ e ∈ l, e.key ≠ keyV key) ∨
    ∃ i e x, (Instr.findKey k (keyV key) l).run P w = .ok (some (i, e.val)) w ∧ l[i]? = some e ∧ e.key = keyV key ∧ getM es key = some x ∧ e.val = valV mp x := by
  obtain ⟨h1, h2, h3⟩ := h
  obtain ⟨r, hr, hc⟩ := kk_finds hk ho l (fun e he => let ⟨k', x, h4, h5, _⟩ := h2 e he; ⟨k', h4, h5⟩) w
  rcases hc with ⟨rfl, hn⟩ | ⟨i, e, rfl, hi, he⟩
  · refine .inl ⟨hr, ?_, hn⟩
    cases hg : getM es key with
    | none => rfl
    | some x =>
      obtain ⟨e, he, hke⟩ := h3 key x ho hg
      exact absurd hke (hn e he)
  · obtain ⟨k', x, h4, h5, h6, h7⟩ := h2 e (List.mem_of_getElem? hi)
    obtain rfl : k' = key := keyV_inj h4 ho (by rw [← h5, he])
    exact .inr ⟨i, e, x, hr, hi, he, h7, h6⟩
theorem MapOk.nil {kk : KK} {mp : Bool} : MapOk kk mp [] [] := ⟨by simp, fun e h => by simp at h, fun k x _ h => by simp [getM] at h⟩
theorem MapOk.push {kk : KK} {mp : Bool} {es : List (Key × ByteArray)} {l : List MapEntry} (h : MapOk kk mp es l) {key : Key} (ho : okKey kk key = true) (hn : ∀ e ∈ l, e.key ≠ keyV key) (x : ByteArray) (b : Nat) :
    MapOk kk mp ((key, x) :: es) (l ++ [⟨keyV key, valV mp x, b⟩]) := by
  obtain ⟨h1, h2, h3⟩ := h
  refine ⟨?_, fun e he => ?_, fun k y hk hg => ?_⟩
  · rw [List.map_append]
    refine List.nodup_append.2 ⟨h1, by simp, ?_⟩
    intro a ha b hb
    simp only [List.map_cons, List.map_nil, List.mem_singleton] at hb
    subst hb
    obtain ⟨e, he, rfl⟩ := List.mem_map.1 ha
    exact hn e he
  · rcases List.mem_append.1 he with he | he
    · obtain ⟨k', y, h4, h5, h6, h7⟩ := h2 e he
      refine ⟨k', y, h4, h5, h6, ?_⟩
      simp only [getM]
      rw [if_neg]
      · exact h7
      · intro e1; subst e1; exact hn e he h5
    · simp at he; subst he
      exact ⟨key, x, ho, rfl, rfl, by simp [getM]⟩
  · simp only [getM] at hg
    split at hg
    · rename_i e1; subst e1; exact ⟨⟨keyV key, valV mp x, b⟩, by simp, rfl⟩
    · obtain ⟨e, he, hke⟩ := h3 k y hk hg
      exact ⟨e, by simp [he], hke⟩
theorem MapOk.modify {kk : KK} {mp : Bool} {es : List (Key × ByteArray)} {l : List MapEntry} (h : MapOk kk mp es l) {key : Key} (ho : okKey kk key = true) {i : Nat} {e : MapEntry} (hi : l[i]? = some e) (he : e.key = keyV key) (x : ByteArray) :
    MapOk kk mp ((key, x) :: es) (l.modify i fun e => { e with key := keyV key, val := valV mp x }) := by
  obtain ⟨h1, h2, h3⟩ := h
  have hkeys : (l.modify i fun e => { e with key := keyV key, val := valV mp x }).map (·.key) = l.map (·.key) := by
    apply List.ext_getElem?
    intro j
    simp only [List.getElem?_map, List.getElem?_modify]
    by_cases hij : i = j
    · subst hij; simp [hi, he]
    · simp [hij]
  have hil : i < l.length := (List.getElem?_eq_some_iff.1 hi).1
  refine ⟨by rw [hkeys]; exact h1, fun e' he' => ?_, fun k y hk hg => ?_⟩
  · obtain ⟨j, hj⟩ := List.getElem?_of_mem he'
    rw [List.getElem?_modify] at hj
    by_cases hij : i = j
    · subst hij
      simp [hi] at hj
      subst hj
      exact ⟨key, x, ho, rfl, rfl, by simp [getM]⟩
    · simp [hij] at hj
      obtain ⟨k', y, h4, h5, h6, h7⟩ := h2 e' (List.mem_of_getElem? hj)
      refine ⟨k', y, h4, h5, h6, ?_⟩
      simp only [getM]
      rw [if_neg]
      · exact h7
      · intro e1; subst e1
        have hjl : j < l.length := (List.getElem?_eq_some_iff.1 hj).1
        have a1 : (l.map (·.key))[i]? = some (keyV key) := by simp [hi, he]
        have a2 : (l.map (·.key))[j]? = some (keyV key) := by simp [hj, h5]
        exact hij ((List.getElem?_inj (by simpa using hil) h1).1 (a1.trans a2.symm))
  · have hm : keyV k ∈ (l.modify i fun e => { e with key := keyV key, val := valV mp x }).map (·.key) := by
      rw [hkeys]
      simp only [getM] at hg
      split at hg
      · rename_i e1; subst e1; rw [← he]; exact List.mem_map.2 ⟨e, List.mem_of_getElem? hi, rfl⟩
      · obtain ⟨e', he', hke⟩ := h3 k y hk hg
        rw [← hke]; exact List.mem_map.2 ⟨e', he', rfl⟩
    obtain ⟨e', h4, h5⟩ := List.mem_map.1 hm
    exact ⟨e', h4, h5⟩
end Go.Proofs.YtnbfnpnephfjaaaE

/-! Operations that yield a value: what they say is so. -/
namespace Go.Proofs.YtnbfnpnephfjaaaE
open Go Go.RowKit
set_option linter.unusedSimpArgs false
set_option linter.unusedVariables false

section
variable {P : Program} {W : World} {C : CR} {ρ : Nm}

/-- In every world that w has grown into, the operation yields v. -/
def Yl (ld : Bool) (P : Program) (o : Oper) (a : Act) (w : World) (v : Value) : Prop := ∀ w', (ld = true → Below w.heap.size w w') → (execOp a.eval o).run P w' = .ok (.value v) w'

def Res (ld : Bool) (P : Program) (W : World) (C : CR) (ρ : Nm) (o : Oper) (a : Act) (w : World) (K : AVal → Prop) : Prop :=
  ∃ av v, K av ∧ Den W C ρ av v ∧ Yl ld P o a w v

theorem ieq (m n : Int) : (m == n) = decide (m = n) := by by_cases e : m = n <;> simp [e]
theorem ineq (m n : Int) : (m != n) = decide (m ≠ n) := by by_cases e : m = n <;> simp [e, bne]

theorem bin_int (op : BinOp) (t : TypeId) (x y : Operand) (k k' : IntKind) (m n : Int) (K : Value → Prop) (h : binV op (.int k m) (.int k' n) K) :
    ∃ v, K v ∧ ∀ w : World, (do eqGuard op t x y (.int k m) (.int k' n); binOp op t (.int k m) (.int k' n) : Sem Value).run P w = .ok v w := by
  cases op <;> simp only [binV, andV, orV, xorV, shlV, shrV, wr_eq] at h <;>
    first
    | exact h.elim
    | (obtain ⟨rfl, h0, h⟩ := h; refine ⟨_, h, fun w => ?_⟩; simp [eqGuard, binOp, Op.intArith, Op.intDiv, Op.intBits, Op.intCmp, Op.shift, h0]; done)
    | (obtain ⟨rfl, h⟩ := h; refine ⟨_, h, fun w => ?_⟩; simp [eqGuard, binOp, Op.intArith, Op.intDiv, Op.intBits, Op.intCmp, Op.shift]; done)
    | (obtain ⟨h0, h⟩ := h; refine ⟨_, h, fun w => ?_⟩; simp [eqGuard, binOp, Op.intArith, Op.intDiv, Op.intBits, Op.intCmp, Op.shift, Int.not_lt.2 h0]; done)
    | (obtain ⟨rfl, h⟩ := h; refine ⟨_, h, fun w => ?_⟩; simp only [eqGuard, binOp, Op.intCmp, ieq, ineq]; simp; done)

theorem bytes_eq (a b : ByteArray) : (a.toList == b.toList) = decide (a = b) := by
  by_cases e : a = b
  · subst e; simp
  · rw [decide_eq_false e]
    simp only [beq_eq_false_iff_ne, ne_eq]
    intro h
    apply e
    rw [ByteArray.toList_eq, ByteArray.toList_eq] at h
    exact ByteArray.ext (Array.toList_inj.1 h)

theorem bin_str (op : BinOp) (t : TypeId) (x y : Operand) (m n : ByteArray) (K : Value → Prop) (h : binV op (.string m) (.string n) K) :
    ∃ v, K v ∧ ∀ w : World, (do eqGuard op t x y (.string m) (.string n); binOp op t (.string m) (.string n) : Sem Value).run P w = .ok v w := by
  cases op <;> simp only [binV, andV, orV, xorV, shlV, shrV, wr_eq] at h <;>
    first
    | exact h.elim
    | (refine ⟨_, h, fun w => ?_⟩; simp [eqGuard, binOp, Op.stringOp, bytes_eq]; done)
    | (obtain ⟨h0, h⟩ := h
       refine ⟨_, h, fun w => ?_⟩
       have h1 : ¬ ((m.size + n.size : Nat) : Int) > IntKind.i64.max := by
         have : IntKind.i64.max = 9223372036854775807 := by decide
         omega
       simp only [eqGuard, binOp, Op.stringOp, if_neg h1]
       simp)

theorem binV_v (op : BinOp) (t : TypeId) (x y : Operand) (a b : Value) (K : Value → Prop) (h : binV op a b K) :
    ∃ v, K v ∧ ∀ w : World, (do eqGuard op t x y a b; binOp op t a b : Sem Value).run P w = .ok v w := by
  cases a with
  | int k m => cases b with
    | int k' n => exact bin_int op t x y k k' m n K h
    | _ => exact h.elim
  | string m => cases b with
    | string n => exact bin_str op t x y m n K h
    | _ => exact h.elim
  | _ => simp [binV] at h

theorem cell_below {w w' : World} (hb : Below w.heap.size w w') {ad : Addr} {u : Value} (h : w.cell? ad = some u) : w'.cell? ad = some u := by
  rw [hb.cell (World.block_lt_of_cell? _ _ h)]; exact h

/-- n cells lie at ad in w and stand for cs. -/
def CellsAt (W : World) (C : CR) (ρ : Nm) (w : World) (ad : Addr) (cs : List AVal) : Prop :=
  ∃ vs, DenL W C ρ cs vs ∧ ∀ k u, vs[k]? = some u → w.cell? (ad.add k) = some u

theorem load_cells {t : TypeId} {n : Nat} {ag : Bool} (hc : cellsAt P t = some (n, ag)) {w : World} {ad : Addr} {cs : List AVal} (h : CellsAt W C ρ w ad cs)
    {K : AVal → Prop} (hk : cellsK ag n cs K) : ∃ av v, K av ∧ Den W C ρ av v ∧ ∀ w', Below w.heap.size w w' → (loadVar t ad).run P w' = .ok v w' := by
  obtain ⟨vs, hd, hv⟩ := h
  unfold cellsAt at hc
  cases hi : P.info? t with
  | none => simp [hi] at hc
  | some i =>
    simp only [hi] at hc
    have agg : ∀ (hu : (∃ fs, P.underlying t = some (.struct fs)) ∨ (∃ l e, P.underlying t = some (.array l e))), i.size = n → ag = true → ∃ av v, K av ∧ Den W C ρ av v ∧ ∀ w', Below w.heap.size w w' → (loadVar t ad).run P w' = .ok v w' := by
      intro hu hn ha
      subst hn; subst ha
      simp only [cellsK, if_true] at hk
      refine ⟨_, .agg ⟨vs⟩, hk.2, .agg vs hd.1 hd.2, fun w' hb => ?_⟩
      have hl : (loadCells ad i.size).run P w' = .ok ⟨vs⟩ w' := by
        have := run_loadCells_list (P := P) (w := w') ad vs (fun j v hj => cell_below hb (hv j v hj))
        rw [hd.1, hk.1] at this
        simpa using this
      rcases hu with ⟨fs, hu⟩ | ⟨l, e, hu⟩ <;> simp [loadVar, isAgg, sizeOf, underlying, typeInfo, hu, hi, hl]
    cases hu : P.underlying t with
    | none => simp [hu] at hc
    | some d =>
      simp only [hu] at hc
      cases d
      case struct fs => simp at hc; exact agg (.inl ⟨fs, hu⟩) hc.1 hc.2
      case array l e => simp at hc; exact agg (.inr ⟨l, e, hu⟩) hc.1 hc.2
      all_goals
        simp at hc
        obtain ⟨rfl, rfl⟩ := hc
        simp only [cellsK, Bool.false_eq_true, if_false] at hk
        split at hk
        · obtain ⟨u, vs', rfl, hu1, hu2⟩ := DenL.cons_inv hd
          refine ⟨_, u, hk, hu1, fun w' hb => ?_⟩
          have := cell_below hb (hv 0 u (by simp))
          rw [show ad.add 0 = ad from by simp [Addr.add]] at this
          simp [loadVar, isAgg, underlying, hu, run_load, this]
        · exact hk.elim

theorem add_none (b o k : Nat) : (⟨b, o, none⟩ : Addr).add k = ⟨b, o + k, none⟩ := by unfold Addr.add; split <;> simp_all
theorem add_add (ad : Addr) (j k : Nat) : (ad.add j).add k = ad.add (j + k) := by
  unfold Addr.add
  by_cases hj : j = 0
  · subst hj; simp
  · by_cases hk : k = 0
    · subst hk; simp [hj]
    · rw [if_neg hj, if_neg hk, if_neg (by omega)]; simp [Nat.add_assoc]

theorem cell_row {w : World} {b T : Nat} {vs : List Value} {fz : Nat × Nat} (h : w.heap[b]? = some (.cells ⟨vs⟩ T fz)) (o : Nat) : w.cell? ⟨b, o, none⟩ = vs[o]? := by
  simp [World.cell?, h]

theorem rd_world {w : World} {nx : Nat} {L : Hp} (hp : HpOk W C ρ nx w L) {A : Option Addr} {n : Nat} {vs : Nat → Value} (h : RdAt W C A n vs) {ad : Addr} (ha : A = some ad) {k : Nat} (hk : k < n) :
    w.cell? (ad.add k) = some (vs k) := by
  rcases h with h | ⟨ad', h1, h2, h3, h4⟩
  · omega
  · rw [ha] at h1; cases h1
    have hb : (ad.add k).block = ad.block := by unfold Addr.add; split <;> rfl
    rw [World.cell?_of_block (w := W) (hp.old (ad.add k).block (by rw [hb]; exact h2) (by rw [hb]; exact fun e => h3 (C.le _ e)))]
    exact h4 k hk

theorem mul_lt {i n c s : Nat} (h : i < n) (h' : n ≤ c) : i * s + s ≤ c * s := by
  have : (i + 1) * s ≤ c * s := Nat.mul_le_mul_right s (by omega)
  rw [Nat.add_mul, Nat.one_mul] at this; exact this

theorem getD_of {α : Type} {xs : List α} {i : Nat} (h : i < xs.length) (d : α) : xs[i]? = some (xs.getD i d) := by
  simp [List.getD, List.getElem?_eq_getElem h]

theorem flat_get (t : Ty) : ∀ (xs : List t.D) (k : Nat) (av : AVal), ((xs.map (enc t)).flatten)[k]? = some av → ∃ i f x, k = i * sz t + f ∧ i * sz t + f < xs.length * sz t ∧ xs[i]? = some x ∧ (enc t x)[f]? = some av
  | [], k, av, h => by simp at h
  | x :: r, k, av, h => by
    simp only [List.map_cons, List.flatten_cons] at h
    rw [List.getElem?_append, enc_length] at h
    split at h
    · rename_i hk
      exact ⟨0, k, x, by omega, by simp only [List.length_cons, Nat.add_mul]; omega, rfl, h⟩
    · rename_i hk
      obtain ⟨i, f, y, h1, h2, h3, h4⟩ := flat_get t r _ av h
      refine ⟨i + 1, f, y, by rw [Nat.add_mul]; omega, by simp only [List.length_cons, Nat.add_mul]; omega, by simpa using h3, h4⟩
theorem flat_len (t : Ty) : ∀ (xs : List t.D), ((xs.map (enc t)).flatten).length = xs.length * sz t
  | [] => by simp
  | x :: r => by simp only [List.map_cons, List.flatten_cons, List.length_append, enc_length, flat_len t r, List.length_cons, Nat.add_mul]; omega
theorem rowA_eq (t : Ty) (xs : List t.D) : rowA t xs xs.length = (xs.map (enc t)).flatten := by
  unfold rowA
  congr 1
  apply List.ext_getElem?
  intro i
  by_cases h : i < xs.length
  · simp [h, List.getD]
  · simp [h]
theorem someK_get {α : Type} {x : Option α} {K : α → Prop} (h : someK x K) : ∃ y, x = some y ∧ K y := by
  unfold someK at h
  split at h
  · exact ⟨_, rfl, h⟩
  · exact h.elim
theorem encN_length (t : Ty) (h : flat t = false) (m : Nat) (e : NR t) : (encN t m e).length = sz t := by
  unfold encN
  have := hd_length t h e.x
  simp; omega
theorem cellsN_own {t : Ty} {m : Nat} {xs : List (NR t)} {ys : List t.D} {i : Nat} (h : i < xs.length) : (cellsN t m xs ys)[i]? = some (encN t m (xs.getD i (dfltN t))) := by
  unfold cellsN
  rw [List.getElem?_append_left (by simpa using h), List.getElem?_map, getD_of h (dfltN t)]; rfl
theorem cellsN_rd {t : Ty} {m : Nat} {xs : List (NR t)} {ys : List t.D} {i : Nat} (h : ¬ i < xs.length) (h2 : i < xs.length + ys.length) : (cellsN t m xs ys)[i]? = some (enc t (ys.getD (i - xs.length) (dflt t))) := by
  unfold cellsN
  rw [List.getElem?_append_right (by simpa using h), List.length_map, List.getElem?_map, getD_of (by omega) (dflt t)]; rfl
/-- A part of an element's cells. -/
theorem cut_den {w : World} {b T o' : Nat} {vs : List Value} (h2 : w.heap[b]? = some (.cells ⟨vs⟩ T (0, 0))) {cs : List AVal} {f n : Nat} (hl : o' + cs.length ≤ vs.length) (hf : f + n ≤ cs.length)
    (hd : ∀ k av, cs[k]? = some av → ∃ u, vs[o' + k]? = some u ∧ Den W C ρ av u) : CellsAt W C ρ w ⟨b, o' + f, none⟩ ((cs.drop f).take n) := by
  refine ⟨(vs.drop (o' + f)).take n, ⟨?_, fun k av u h7 h8 => ?_⟩, fun k u hk => ?_⟩
  · simp only [List.length_take, List.length_drop]; omega
  · rw [List.getElem?_take] at h7 h8
    split at h7
    · rename_i hk
      rw [if_pos hk] at h8
      simp only [List.getElem?_drop] at h7 h8
      obtain ⟨u', h9, h10⟩ := hd (f + k) av h7
      rw [show o' + (f + k) = o' + f + k by omega, h8] at h9
      cases h9; exact h10
    · cases h7
  · rw [add_none, cell_row h2]
    rw [List.getElem?_take] at hk
    split at hk
    · simpa using hk
    · cases hk
theorem loadP_ok {s : S} {a : Act} {w : World} (hs : StOk W C ρ s a w) {n : Nat} {ag : Bool} {p : AVal} {v : Value} (hp : Den W C ρ p v) {K : AVal → Prop} (h : loadP s.L n ag p K) :
    ∃ ad cs, v = .pointer (some ad) ∧ CellsAt W C ρ w ad cs ∧ cellsK ag n cs K := by
  cases hp <;> simp only [loadP] at h
  case ptr m off b hm =>
    cases hl : lk s.L m with
    | none => simp [hl] at h
    | some o =>
      cases o with
      | row t xs => simp [hl] at h
      | set kk mp es => simp [hl] at h
      | nrow t xs es ys => simp [hl] at h
      | box cs =>
        simp only [hl] at h
        obtain ⟨b', T, vs, h1, h2, h3⟩ := hs.hp.obj m _ hl
        rw [hm] at h1; cases h1
        refine ⟨_, _, rfl, ⟨_, (h3.drop off).take n, fun k u hk => ?_⟩, h⟩
        rw [add_none, cell_row h2]
        rw [List.getElem?_take] at hk
        split at hk
        · simpa using hk
        · cases hk
  case elt m z i f b o c hm =>
    cases hl : lk s.L m with
    | none => simp [hl] at h
    | some ob =>
      cases ob with
      | box cs => simp [hl] at h
      | set kk mp es => simp [hl] at h
      | nrow t xs es ys =>
        simp only [hl, loadN, impK] at h
        obtain ⟨⟨rfl, hi, hf⟩, h1', h2'⟩ := h
        obtain ⟨hfl, hob, _⟩ := hs.hp.obj m _ hl
        rcases hob with ⟨h1, _⟩ | ⟨b', o', c', T, vs, h1, h2, h3, h4, h5, _, h6⟩
        · rw [hm] at h1; cases h1
        · rw [hm] at h1; cases h1
          have hmul := mul_lt (s := sz t) hi h4
          by_cases hlt : i < xs.length
          · have hx := cellsN_own (m := m) (ys := ys) hlt
            exact ⟨_, _, rfl, cut_den h2 (by rw [encN_length t hfl]; omega) (by rw [encN_length t hfl]; exact hf) (fun k av hk => h6 i k _ av hx hk), h1' hlt⟩
          · have hx := cellsN_rd (m := m) hlt hi
            exact ⟨_, _, rfl, cut_den h2 (by rw [enc_length]; omega) (by rw [enc_length]; exact hf) (fun k av hk => h6 i k _ av hx hk), h2' hlt⟩
      | row t xs =>
        simp only [hl] at h
        obtain ⟨⟨rfl, hi, hf⟩, h⟩ := h
        rcases hs.hp.obj m _ hl with ⟨h1, _⟩ | ⟨b', o', c', T, vs, h1, h2, h3, h4, h5, h6⟩
        · rw [hm] at h1; cases h1
        · rw [hm] at h1; cases h1
          have hx := getD_of hi (dflt t)
          have hmul := mul_lt (s := sz t) hi h4
          refine ⟨_, _, rfl, ⟨(vs.drop (o + i * sz t + f)).take n, ⟨?_, fun k av u h7 h8 => ?_⟩, fun k u hk => ?_⟩, h⟩
          · simp only [List.length_take, List.length_drop, enc_length]; omega
          · rw [List.getElem?_take] at h7 h8
            split at h7
            · rename_i hk
              rw [if_pos hk] at h8
              simp only [List.getElem?_drop] at h7 h8
              obtain ⟨u', h9, h10⟩ := h6 i (f + k) _ av hx h7
              rw [show o + i * sz t + (f + k) = o + i * sz t + f + k by omega, h8] at h9
              cases h9; exact h10
            · cases h7
          · rw [add_none, cell_row h2]
            rw [List.getElem?_take] at hk
            split at hk
            · simpa using hk
            · cases hk
  case re t x f ad vs hr hd =>
    obtain ⟨hf, h⟩ := h
    refine ⟨ad, _, rfl, ⟨((List.range (sz t - f)).map vs).take n, ⟨by simp [enc_length], fun k av u h7 h8 => ?_⟩, fun k u hk => ?_⟩, h⟩
    · rw [List.getElem?_take] at h7 h8
      split at h7
      · rename_i hk
        rw [if_pos hk] at h8
        rw [List.getElem?_drop] at h7
        have hlt := (List.getElem?_eq_some_iff.1 h7).1
        rw [enc_length] at hlt
        have hlt2 : k < sz t - f := by omega
        simp [hlt2] at h8
        subst h8; exact hd k av h7
      · cases h7
    · rw [List.getElem?_take] at hk
      split at hk
      · have hlt : k < sz t - f := by have := (List.getElem?_eq_some_iff.1 hk).1; simpa using this
        simp [hlt] at hk
        subst hk
        exact rd_world hs.hp hr rfl hlt
      · cases hk
  case rp t xs ad vs hr hd =>
    refine ⟨ad, _, rfl, ⟨(List.range (xs.length * sz t)).map vs, ⟨by rw [flat_len, List.length_map, List.length_range], fun k av u h7 h8 => ?_⟩, fun k u hk => ?_⟩, h⟩
    · obtain ⟨i, f, x, rfl, hlt, h3, h4⟩ := flat_get t xs k av h7
      simp [hlt] at h8
      subst h8; exact hd i f x av h3 h4
    · have hlt : k < xs.length * sz t := by have := (List.getElem?_eq_some_iff.1 hk).1; simpa using this
      simp [hlt] at hk
      subst hk
      exact rd_world hs.hp hr rfl hlt
  case arp m k b hm =>
    cases hl : lk s.L m with
    | none => simp [hl] at h
    | some ob =>
      cases ob with
      | box cs => simp [hl] at h
      | set kk mp es => simp [hl] at h
      | nrow t xs es ys => simp [hl] at h
      | row t xs =>
        simp only [hl] at h
        obtain ⟨rfl, h⟩ := h
        rcases hs.hp.obj m _ hl with ⟨h1, _⟩ | ⟨b', o', c', T, vs, h1, h2, h3, h4, h5, h6⟩
        · rw [hm] at h1; cases h1
        · rw [hm] at h1; cases h1
          rw [rowA_eq] at h
          refine ⟨_, _, rfl, ⟨vs.take (xs.length * sz t), ⟨by rw [flat_len, List.length_take]; omega, fun k av u h7 h8 => ?_⟩, fun k u hk => ?_⟩, h⟩
          · obtain ⟨i, f, x, rfl, hlt, h9, h10⟩ := flat_get t xs k av h7
            rw [List.getElem?_take, if_pos hlt] at h8
            obtain ⟨u', h11, h12⟩ := h6 i f x av h9 h10
            rw [Nat.zero_add, h8] at h11
            cases h11; exact h12
          · rw [add_none, cell_row h2]
            rw [List.getElem?_take] at hk
            split at hk
            · simpa using hk
            · cases hk
  case fp m z b o i f =>
    cases hl : lk s.L m with
    | none => simp [hl] at h
    | some ob =>
      cases ob with
      | box cs => simp [hl] at h
      | set kk mp es => simp [hl] at h
      | row t xs => simp [hl] at h
      | nrow t xs es ys =>
        simp only [hl, loadF] at h
        obtain ⟨⟨o', c', zs⟩, he, ⟨rfl, rfl, hi, hf⟩, hk⟩ := someK_get h
        obtain ⟨hfl, _, hfam⟩ := hs.hp.obj m _ hl
        obtain ⟨T, vs, h2, h3, h4, h5, h6⟩ := hfam b _ _ _ he
        dsimp only at hi hk he ⊢
        have hx := getD_of hi (dflt (inn t))
        have hmul := mul_lt (s := sz (inn t)) hi h4
        exact ⟨_, _, rfl, cut_den h2 (by rw [enc_length]; omega) (by rw [enc_length]; exact hf) (fun k av hk => h6 i k _ av hx hk), hk⟩
  all_goals exact h.elim
end
end Go.Proofs.YtnbfnpnephfjaaaE

/-! Operations that yield a value: each kind. -/
namespace Go.Proofs.YtnbfnpnephfjaaaE
open Go Go.RowKit
set_option linter.unusedSimpArgs false
set_option linter.unusedVariables false

section
variable {P : Program} {W : World} {C : CR} {ρ : Nm} {s : S} {a : Act} {w : World} {K : AVal → Prop} {o : Oper}

theorem res_run {ld : Bool} {v : Value} {av : AVal} (hk : K av) (hd : Den W C ρ av v) (h : ∀ w', (ld = true → Below w.heap.size w w') → (execOp a.eval o).run P w' = .ok (.value v) w') : Res ld P W C ρ o a w K :=
  ⟨av, v, hk, hd, h⟩

theorem ev_v (hs : StOk W C ρ s a w) {x : Operand} {v : Value} (h : s.ev x = .v v) : a.eval x = v := by
  have := hs.fr.ev x
  rw [h] at this
  exact den_v this

theorem bin_ok (hs : StOk W C ρ s a w) {op : BinOp} {t : TypeId} {x y : Operand} {yt : TypeId} (ho : o.op = .binOp op t x y yt) (h : vst s (.bin op x y) K) : Res false P W C ρ o a w K := by
  simp only [vst] at h
  split at h
  · rename_i m n hx hy
    obtain ⟨v, hk, hr⟩ := binV_v (P := P) op t x y m n _ h
    refine res_run hk (.v v) fun w' _ => ?_
    unfold execOp
    rw [ho]
    simp only [ev_v hs hx, ev_v hs hy]
    have := hr w'
    simp only [Sem.run_bind] at this ⊢
    rw [this]; simp
  · exact h.elim

theorem beq_ok (hs : StOk W C ρ s a w) {op : BinOp} {t : TypeId} {x y : Operand} {yt : TypeId} {neg : Bool} (ho : o.op = .binOp op t x y yt) (hop : op = if neg then .neq else .eql)
    (ht : P.underlying t = some .bool) (h : vst s (.beq neg x y) K) : Res false P W C ρ o a w K := by
  simp only [vst] at h
  split at h
  · rename_i m n hx hy
    refine res_run h (.v _) fun w' _ => ?_
    unfold execOp
    rw [ho]
    simp only [ev_v hs hx, ev_v hs hy]
    subst hop
    cases neg <;> simp [eqGuard, run_eql_bool, run_neq_bool, ht]
  · exact h.elim

theorem una_ok (hs : StOk W C ρ s a w) {op : UnOp} {t : TypeId} {x : Operand} (ho : o.op = .unOp op t x) (h : vst s (.una op x) K) : Res false P W C ρ o a w K := by
  simp only [vst, wr_eq] at h
  split at h
  · rename_i m hx
    refine res_run h (.v _) fun w' _ => ?_
    unfold execOp
    rw [ho]
    simp [ev_v hs hx, Op.unary]
  · rename_i m hx
    refine res_run h (.v _) fun w' _ => ?_
    unfold execOp
    rw [ho]
    simp [ev_v hs hx, Op.unary, Op.intArith]
  · exact h.elim

theorem cvi_ok (hs : StOk W C ρ s a w) {st d : TypeId} {x : Operand} {k : IntKind} (ho : o.op = .convert st d x) (hd : P.underlying d = some (.int k)) (hsrc : ∃ u, P.underlying st = some u) (h : vst s (.cvi k x) K) : Res false P W C ρ o a w K := by
  simp only [vst, wr_eq] at h
  obtain ⟨u, hu⟩ := hsrc
  split at h
  · rename_i m hx
    refine res_run h (.v _) fun w' _ => ?_
    unfold execOp
    rw [ho]
    cases u <;> simp [ev_v hs hx, convert, underlying, hd, hu, Conv.intToInt]
  · exact h.elim

theorem pick_ok (hs : StOk W C ρ s a w) {c x y : Operand} (ho : o.op = .pick c x y) (h : vst s (.pick c x y) K) : Res false P W C ρ o a w K := by
  simp only [vst] at h
  split at h
  · rename_i t hc
    cases t with
    | true =>
      refine res_run (h.1 rfl) (hs.fr.ev x) fun w' _ => ?_
      unfold execOp
      rw [ho]
      simp [ev_v hs hc, asBool]
    | false =>
      refine res_run (h.2 rfl) (hs.fr.ev y) fun w' _ => ?_
      unfold execOp
      rw [ho]
      simp [ev_v hs hc, asBool]
  · exact h.elim

theorem mov_ok (hs : StOk W C ρ s a w) {x : Operand} (ho : o.op = .move x ∨ o.op = .assign x) (h : vst s (.mov x) K) : Res false P W C ρ o a w K := by
  refine res_run h (hs.fr.ev x) fun w' _ => ?_
  unfold execOp
  rcases ho with ho | ho <;> rw [ho] <;> simp

theorem ext_ok (hs : StOk W C ρ s a w) {x : Operand} {i : Nat} (ho : o.op = .extract x i) (h : vst s (.ext x i) K) : Res false P W C ρ o a w K := by
  simp only [vst] at h
  split at h
  · rename_i cs hx
    split at h
    · rename_i av hav
      have hd := hs.fr.ev x
      rw [hx] at hd
      generalize hv : a.eval x = v at hd
      cases hd with
      | tup vs h1 h2 =>
        obtain ⟨u, hu, hu2⟩ := DenL.at ⟨h1, h2⟩ hav
        refine res_run h hu2 fun w' _ => ?_
        unfold execOp
        rw [ho]
        simp [hv, Instr.extract, hu]
    · exact h.elim
  · exact h.elim

theorem load_ok (hs : StOk W C ρ s a w) {t : TypeId} {p : Operand} {n : Nat} {ag : Bool} (ho : o.op = .load t p) (hc : cellsAt P t = some (n, ag)) (h : vst s (.load n ag p) K) : Res true P W C ρ o a w K := by
  simp only [vst] at h
  obtain ⟨ad, cs, hv, h1, h2⟩ := loadP_ok hs (hs.fr.ev p) h
  obtain ⟨av, v, hk, hd, hr⟩ := load_cells hc h1 h2
  refine res_run hk hd fun w' hb => ?_
  unfold execOp
  rw [ho]
  simp [hv, Instr.loadAt, Instr.sureAddr, hr w' (hb rfl)]

theorem nilc_ok (hs : StOk W C ρ s a w) {x : Operand} (ho : o.op = .nilCheck x) (h : vst s (.nilc x) K) : Res false P W C ρ o a w K := by
  simp only [vst] at h
  have hd := hs.fr.ev x
  split at h
  · rename_i hx
    rw [hx] at hd
    refine res_run h hd fun w' _ => ?_
    generalize hv : a.eval x = v at hd
    cases hd
    unfold execOp; rw [ho]; simp [hv]
  · rename_i hx
    rw [hx] at hd
    refine res_run h hd fun w' _ => ?_
    generalize hv : a.eval x = v at hd
    cases hd
    unfold execOp; rw [ho]; simp [hv]
  · rename_i hx
    rw [hx] at hd
    refine res_run h hd fun w' _ => ?_
    generalize hv : a.eval x = v at hd
    cases hd
    unfold execOp; rw [ho]; simp [hv]
  · rename_i hx
    rw [hx] at hd
    refine res_run h hd fun w' _ => ?_
    generalize hv : a.eval x = v at hd
    cases hd
    unfold execOp; rw [ho]; simp [hv]
  · rename_i hx
    rw [hx] at hd
    refine res_run h hd fun w' _ => ?_
    generalize hv : a.eval x = v at hd
    cases hd
    unfold execOp; rw [ho]; simp [hv]
  · exact h.elim

theorem re_drop {t : Ty} {x : t.D} {f : Nat} {ad : Addr} {vs : Nat → Value} (hr : RdAt W C (some ad) (sz t - f) vs) (hd : ∀ (k : Nat) (av : AVal), (enc t x)[f + k]? = some av → Den W C ρ av (vs k)) (off : Nat) :
    Den W C ρ (.re t x (f + off)) (.pointer (some (ad.add off))) := by
  refine .re (fun k => vs (off + k)) ?_ (fun k av hk => hd _ _ (by rw [← Nat.add_assoc]; exact hk))
  by_cases hlt : off < sz t - f
  · rcases hr with hr | ⟨ad', h1, h2, h3, h4⟩
    · omega
    · cases h1
      refine .inr ⟨_, rfl, ?_, ?_, fun k hk => ?_⟩
      · unfold Addr.add; split <;> exact h2
      · unfold Addr.add; split <;> exact h3
      · rw [add_add]; exact h4 _ (by omega)
  · exact .inl (by omega)

theorem fadr_ok (hs : StOk W C ρ s a w) {t : TypeId} {p : Operand} {f : Nat} {fs : Array Field} {fd : Field} {z : Nat} (ho : o.op = .fieldAddr t p f) (ht : P.underlying t = some (.struct fs)) (hf : fs[f]? = some fd)
    (hz : elemSize P fd.type = some (z + 1)) (h : vst s (.fadr fd.offset p) K) : Res false P W C ρ o a w K := by
  simp only [vst] at h
  have hd := hs.fr.ev p
  unfold elemSize at hz
  cases hi : P.info? fd.type with
  | none => simp [hi] at hz
  | some i =>
    simp [hi] at hz
    have run : ∀ ad : Addr, a.eval p = .pointer (some ad) → ∀ w', (execOp a.eval o).run P w' = .ok (.value (.pointer (some (ad.add fd.offset)))) w' := by
      intro ad hv w'
      unfold execOp; rw [ho]
      simp [hv, Instr.fieldAt, underlying, ht, hf, Instr.sureAddr, fieldPlace, sizeOf, typeInfo, hi, hz]
    split at h
    · rename_i m o' hx
      rw [hx] at hd
      generalize hv : a.eval p = v at hd
      cases hd with
      | ptr hm => exact res_run h (.ptr hm) fun w' _ => by rw [run _ hv w', add_none]
    · rename_i m z' i' f' hx
      rw [hx] at hd
      generalize hv : a.eval p = v at hd
      cases hd with
      | elt hm => exact res_run h (.elt hm) fun w' _ => by rw [run _ hv w', add_none, Nat.add_assoc]
    · rename_i t' x' f' hx
      rw [hx] at hd
      generalize hv : a.eval p = v at hd
      cases hd with
      | re vs hr hd => exact res_run h (re_drop hr hd _) fun w' _ => run _ hv w'
    · rename_i m z' b o i' f' hx
      rw [hx] at hd
      generalize hv : a.eval p = v at hd
      cases hd with
      | fp => exact res_run h .fp fun w' _ => by rw [run _ hv w', add_none, Nat.add_assoc]
    · exact h.elim

theorem fld_ok (hs : StOk W C ρ s a w) {t : TypeId} {x : Operand} {f : Nat} {fs : Array Field} {fd : Field} {n : Nat} {ag : Bool} (ho : o.op = .field t x f) (ht : P.underlying t = some (.struct fs)) (hf : fs[f]? = some fd)
    (hz : cellsAt P fd.type = some (n, ag)) (h : vst s (.fld fd.offset n ag x) K) : Res false P W C ρ o a w K := by
  simp only [vst] at h
  have hd := hs.fr.ev x
  split at h
  · rename_i cs hx
    rw [hx] at hd
    generalize hv : a.eval x = v at hd
    cases hd with
    | agg vs h1 h2 =>
      have hL : DenL W C ρ ((cs.drop fd.offset).take n) ((vs.drop fd.offset).take n) := (DenL.drop ⟨h1, h2⟩ _).take _
      obtain ⟨av, u, hk, hu, hr⟩ : ∃ av u, K av ∧ Den W C ρ av u ∧ ∀ w', (part fd.type ⟨vs⟩ fd.offset).run P w' = .ok u w' := part_ok hz hL h
      refine res_run hk hu fun w' _ => ?_
      unfold execOp; rw [ho]
      simp [hv, Instr.field, underlying, ht, hf, asAgg, hr w']
  · exact h.elim
where
  part_ok {t : TypeId} {n off : Nat} {ag : Bool} (hc : cellsAt P t = some (n, ag)) {vs : List Value} {cs : List AVal} (hL : DenL W C ρ cs ((vs.drop off).take n)) (hk : cellsK ag n cs K) :
      ∃ av u, K av ∧ Den W C ρ av u ∧ ∀ w', (part t ⟨vs⟩ off).run P w' = .ok u w' := by
    unfold cellsAt at hc
    cases hi : P.info? t with
    | none => simp [hi] at hc
    | some i =>
      simp only [hi] at hc
      have agg : ∀ (hu : (∃ fs, P.underlying t = some (.struct fs)) ∨ (∃ l e, P.underlying t = some (.array l e))), i.size = n → ag = true → ∃ av u, K av ∧ Den W C ρ av u ∧ ∀ w', (part t ⟨vs⟩ off).run P w' = .ok u w' := by
        intro hu hn ha
        subst hn; subst ha
        simp only [cellsK, if_true] at hk
        refine ⟨_, .agg ⟨_⟩, hk.2, .agg _ hL.1 hL.2, fun w' => ?_⟩
        have : (⟨vs⟩ : Array Value).extract off (off + i.size) = ⟨(vs.drop off).take i.size⟩ := by simp
        rcases hu with ⟨fs, hu⟩ | ⟨l, e, hu⟩ <;> simp [part, isAgg, sizeOf, underlying, typeInfo, hu, hi]
      cases hu : P.underlying t with
      | none => simp [hu] at hc
      | some d =>
        simp only [hu] at hc
        cases d
        case struct fs => simp at hc; exact agg (.inl ⟨fs, hu⟩) hc.1 hc.2
        case array l e => simp at hc; exact agg (.inr ⟨l, e, hu⟩) hc.1 hc.2
        all_goals
          simp at hc
          obtain ⟨rfl, rfl⟩ := hc
          simp only [cellsK, Bool.false_eq_true, if_false] at hk
          split at hk
          · obtain ⟨u, vs', he, hu1, hu2⟩ := DenL.cons_inv hL
            have h0 : vs[off]? = some u := by
              have : ((vs.drop off).take 1)[0]? = some u := by rw [he]; rfl
              simpa [List.getElem?_take] using this
            exact ⟨_, u, hk, hu1, fun w' => by simp [part, isAgg, underlying, hu, h0]⟩
          · exact hk.elim
end
end Go.Proofs.YtnbfnpnephfjaaaE

/-! Operations that yield a value: indexes, slices, builds; all of them together. -/
namespace Go.Proofs.YtnbfnpnephfjaaaE
open Go Go.RowKit
set_option linter.unusedSimpArgs false
set_option linter.unusedVariables false

section
variable {P : Program} {W : World} {C : CR} {ρ : Nm} {s : S} {a : Act} {w : World} {K : AVal → Prop} {o : Oper}

theorem atOff_get {f : Nat → Prop} {n : Int} : ∀ (l : List Nat) (j : Nat), atOff n f l j → ∀ k x, l[k]? = some x → n = ((j + k : Nat) : Int) → f x
  | [], _, _, k, x, h, _ => by simp at h
  | y :: l, j, h, k, x, hx, hn => by
    simp only [atOff] at h
    cases k with
    | zero => simp at hx; subst hx; exact h.1 (by simpa using hn)
    | succ k => exact atOff_get l (j + 1) h.2 k x (by simpa using hx) (by rw [hn]; congr 1; omega)
theorem offs_get {z len k : Nat} (h : k < len) : (offs z len)[k]? = some (k * z) := by simp [offs, h]
theorem atOff_of {f : Nat → Prop} {n : Int} {z len : Nat} (h : atOff n f (offs z len) 0) (h0 : 0 ≤ n) (h1 : n < (len : Int)) : f (n.toNat * z) :=
  atOff_get _ 0 h n.toNat _ (offs_get (by omega)) (by omega)

theorem re_at {t : Ty} {xs : List t.D} {ad : Addr} {vs : Nat → Value} (hr : RdAt W C (some ad) (xs.length * sz t) vs)
    (hd : ∀ (i f : Nat) (x : t.D) (av : AVal), xs[i]? = some x → (enc t x)[f]? = some av → Den W C ρ av (vs (i * sz t + f))) {i : Nat} (hi : i < xs.length) :
    Den W C ρ (.re t (xs.getD i (dflt t)) 0) (.pointer (some (ad.add (i * sz t)))) := by
  have hx := getD_of hi (dflt t)
  have hm := mul_lt (s := sz t) hi (Nat.le_refl _)
  refine .re (fun k => vs (i * sz t + k)) ?_ (fun k av hk => hd i k _ av hx (by simpa using hk))
  rcases hr with hr | ⟨ad', h1, h2, h3, h4⟩
  · have := sz_pos t; have := Nat.mul_pos (Nat.lt_of_le_of_lt (Nat.zero_le _) hi) this; omega
  · cases h1
    refine .inr ⟨_, rfl, ?_, ?_, fun k hk => ?_⟩
    · unfold Addr.add; split <;> exact h2
    · unfold Addr.add; split <;> exact h3
    · rw [add_add]; exact h4 _ (by omega)

theorem iadr_ok (hs : StOk W C ρ s a w) {t e : TypeId} {x i : Operand} {z : Nat} (ho : o.op = .indexAddr t x i) (ht : P.underlying t = some (.slice e)) (hz : elemSize P e = some z)
    (h : vst s (.iadr z x i) K) : Res false P W C ρ o a w K := by
  simp only [vst] at h
  have hd := hs.fr.ev x
  unfold elemSize at hz
  cases hi : P.info? e with
  | none => simp [hi] at hz
  | some inf =>
    simp [hi] at hz
    split at h
    · rename_i k n hiv
      have hin := ev_v hs hiv
      have run : ∀ (ad : Addr) (len c : Nat), a.eval x = .slice (some ad) len c → 0 ≤ n → n < (len : Int) → ∀ w', (execOp a.eval o).run P w' = .ok (.value (.pointer (some (ad.add (n.toNat * z))))) w' := by
        intro ad len c hv h0 h1 w'
        unfold execOp; rw [ho]
        simp [hv, hin, Instr.indexAt, underlying, ht, asIntOf, h0, h1, sizeOf, typeInfo, hi, hz]
      split at h
      · rename_i m z' lo len hx
        rw [hx] at hd
        obtain ⟨⟨rfl, h0, h1⟩, hk⟩ := h
        generalize hv : a.eval x = v at hd
        cases hd with
        | sub hm hle had =>
          have := had (by omega)
          subst this
          refine res_run hk (.elt hm) fun w' _ => ?_
          rw [run _ _ _ hv h0 h1 w', add_none, Nat.add_mul]
          simp [Nat.add_assoc]
        | sub0 hm => simp at h1; omega
      · rename_i t' xs hx
        rw [hx] at hd
        obtain ⟨⟨rfl, h0, h1⟩, hk⟩ := h
        generalize hv : a.eval x = v at hd
        cases hd with
        | rs vs hr hc hden =>
          have hlt : n.toNat < xs.length := by omega
          have : ∃ ad, _ := hr.resolve_left (by have := sz_pos t'; have := Nat.mul_pos (Nat.lt_of_le_of_lt (Nat.zero_le _) hlt) this; omega)
          obtain ⟨ad, rfl, _⟩ := this
          exact res_run hk (re_at hr hden hlt) fun w' _ => run _ _ _ hv h0 h1 w'
      · rename_i m z' b o' lo len c hx
        rw [hx] at hd
        obtain ⟨⟨rfl, h0, h1⟩, hk⟩ := h
        generalize hv : a.eval x = v at hd
        cases hd with
        | fs hle had =>
          have := had (by omega)
          subst this
          refine res_run hk .fp fun w' _ => ?_
          rw [run _ _ _ hv h0 h1 w', add_none, Nat.add_mul]
          simp [Nat.add_assoc]
      · exact h.elim
    · exact h.elim

theorem iarr_ok (hs : StOk W C ρ s a w) {t e : TypeId} {x i : Operand} {z len : Nat} (ho : o.op = .indexAddr t x i) (ht : P.underlying t = some (.array len e)) (hz : elemSize P e = some z)
    (h : vst s (.iarr z len x i) K) : Res false P W C ρ o a w K := by
  simp only [vst] at h
  have hd := hs.fr.ev x
  unfold elemSize at hz
  cases hi : P.info? e with
  | none => simp [hi] at hz
  | some inf =>
    simp [hi] at hz
    split at h
    · rename_i k n hiv
      have hin := ev_v hs hiv
      have run : ∀ (ad : Addr), a.eval x = .pointer (some ad) → 0 ≤ n → n < (len : Int) → ∀ w', (execOp a.eval o).run P w' = .ok (.value (.pointer (some (ad.add (n.toNat * z))))) w' := by
        intro ad hv h0 h1 w'
        unfold execOp; rw [ho]
        simp [hv, hin, Instr.indexAt, underlying, ht, asIntOf, h0, h1, sizeOf, typeInfo, hi, hz, Instr.sureAddr]
      split at h
      · rename_i m o' hx
        rw [hx] at hd
        generalize hv : a.eval x = v at hd
        cases hd with
        | ptr hm =>
          obtain ⟨⟨h0, h1⟩, hk⟩ := h
          exact res_run (atOff_of hk h0 h1) (.ptr hm) fun w' _ => by rw [run _ hv h0 h1 w', add_none]
      · rename_i t' x' f' hx
        rw [hx] at hd
        generalize hv : a.eval x = v at hd
        cases hd with
        | re vs hr hden =>
          obtain ⟨⟨h0, h1⟩, hk⟩ := h
          exact res_run (atOff_of hk h0 h1) (re_drop hr hden _) fun w' _ => run _ hv h0 h1 w'
      · rename_i m' z' i' f' hx
        rw [hx] at hd
        generalize hv : a.eval x = v at hd
        cases hd with
        | elt hm =>
          obtain ⟨⟨h0, h1⟩, hk⟩ := h
          exact res_run (atOff_of hk h0 h1) (.elt hm) fun w' _ => by rw [run _ hv h0 h1 w', add_none, Nat.add_assoc]
      · rename_i m' k' hx
        rw [hx] at hd
        generalize hv : a.eval x = v at hd
        cases hd with
        | arp hm =>
          obtain ⟨⟨h0, h1⟩, hk⟩ := h
          exact res_run hk (.elt hm) fun w' _ => by rw [run _ hv h0 h1 w', add_none]; simp
      · exact h.elim
    · exact h.elim

theorem idx_ok (hs : StOk W C ρ s a w) {t e : TypeId} {x i : Operand} {z len : Nat} {ag : Bool} (ho : o.op = .index t x i) (ht : P.underlying t = some (.array len e)) (hz : elemSize P e = some z)
    (hc : cellsAt P e = some (z, ag)) (h : vst s (.idx z len ag x i) K) : Res false P W C ρ o a w K := by
  simp only [vst] at h
  have hd := hs.fr.ev x
  unfold elemSize at hz
  cases hi : P.info? e with
  | none => simp [hi] at hz
  | some inf =>
    simp [hi] at hz
    split at h
    · rename_i k n hiv
      have hin := ev_v hs hiv
      split at h
      · rename_i cs hx
        rw [hx] at hd
        generalize hv : a.eval x = v at hd
        cases hd with
        | agg vs h1 h2 =>
          obtain ⟨⟨h3, h4⟩, hk⟩ := h
          have hk' := atOff_of hk h3 h4
          obtain ⟨av, u, hk2, hu, hr⟩ := fld_ok.part_ok (P := P) (K := K) hc ((DenL.drop ⟨h1, h2⟩ (n.toNat * z)).take z) hk'
          refine res_run hk2 hu fun w' _ => ?_
          unfold execOp; rw [ho]
          simp [hv, hin, Instr.index, underlying, ht, asIntOf, h3, h4, sizeOf, typeInfo, hi, hz, hr w']
      · exact h.elim
    · exact h.elim

theorem u8s_den : ∀ {cs : List AVal} {vs : List Value} {l : List Int}, DenL W C ρ cs vs → u8s cs = some l → vs = l.map (Value.int .u8)
  | [], vs, l, hd, h => by simp [u8s] at h; subst h; exact hd.nil_inv
  | x :: r, vs, l, hd, h => by
    obtain ⟨v, vs', rfl, h1, h2⟩ := hd.cons_inv
    unfold u8s at h
    split at h
    · cases ‹_ :: _ = [] › 
    · rename_i n r' e
      cases e
      rw [Option.map_eq_some_iff] at h
      obtain ⟨l', h3, rfl⟩ := h
      rw [den_v h1, u8s_den h2 h3]; rfl
    · cases h
theorem eqItems_u8 (w : World) (d : Nat) {e : TypeId} (he : P.underlying e = some (.int .u8)) (hc : P.cellsOf e = 1) (xs ys : List Int) : ∀ (is : List Nat), (∀ i ∈ is, i < xs.length ∧ i < ys.length) →
    (Op.eqItems (d + 1) e (P.cellsOf e) ⟨xs.map (Value.int .u8)⟩ ⟨ys.map (Value.int .u8)⟩ is).run P w = .ok (is.all fun i => xs[i]? == ys[i]?) w
  | [], _ => by simp [Op.eqItems]
  | i :: is, h => by
    obtain ⟨h1, h2⟩ := h i (List.mem_cons_self)
    have hp : P.plainKey e = true := by unfold Program.plainKey; rw [he]
    have p1 := run_part_plain (P := P) (w := w) hp (xs := ⟨xs.map (Value.int .u8)⟩) (off := i) (v := .int .u8 xs[i]) (by simp [h1])
    have p2 := run_part_plain (P := P) (w := w) hp (xs := ⟨ys.map (Value.int .u8)⟩) (off := i) (v := .int .u8 ys[i]) (by simp [h2])
    have ih := eqItems_u8 w d he hc xs ys is (fun j hj => h j (List.mem_cons_of_mem _ hj))
    simp only [Op.eqItems, Sem.run_bind, hc, Nat.mul_one, p1, p2, Result.andThen_ok, run_equalIn_int w d e .u8 .u8 xs[i] ys[i] he]
    rw [hc] at ih
    by_cases hh : xs[i] = ys[i]
    · simp [hh, ih, List.getElem?_eq_getElem h1, List.getElem?_eq_getElem h2]
    · simp [hh, List.getElem?_eq_getElem h1, List.getElem?_eq_getElem h2]
theorem aeq_run {t e : TypeId} {n : Nat} (ht : P.underlying t = some (.array n e)) (he : P.underlying e = some (.int .u8)) (hz : elemSize P e = some 1) {i : TypeInfo} (hi : P.info? e = some i) (xs ys : List Int) (hx : xs.length = n) (hy : ys.length = n) (w : World) (neg : Bool) (x y : Operand) :
    (do eqGuard (if neg then .neq else .eql) t x y (.agg ⟨xs.map (Value.int .u8)⟩) (.agg ⟨ys.map (Value.int .u8)⟩); binOp (if neg then .neq else .eql) t (.agg ⟨xs.map (Value.int .u8)⟩) (.agg ⟨ys.map (Value.int .u8)⟩) : Sem Value).run P w = .ok (.bool (if neg then !decide (xs = ys) else decide (xs = ys))) w := by
  have hc : P.cellsOf e = 1 := by
    unfold elemSize at hz; unfold Program.cellsOf; rw [hz]; rfl
  have hg : P.eqGuardType P.depth t = false := by
    unfold Program.depth
    simp [Program.eqGuardType, ht, he]
  have h1 := run_equalIn_array (P := P) (w := w) 9999 ⟨xs.map (Value.int .u8)⟩ ⟨ys.map (Value.int .u8)⟩ ht hi
  have h2 := eqItems_u8 (P := P) w 9998 he hc xs ys (List.range n) (fun j hj => by have := List.mem_range.1 hj; omega)
  have h3 : ((List.range n).all fun j => xs[j]? == ys[j]?) = decide (xs = ys) := by
    by_cases hxy : xs = ys
    · subst hxy; simp
    · rw [decide_eq_false hxy, List.all_eq_false]
      apply Classical.byContradiction
      intro hno
      apply hxy
      apply List.ext_getElem?
      intro j
      by_cases hj : j < n
      · apply Classical.byContradiction
        intro hne
        exact hno ⟨j, List.mem_range.2 hj, by simpa using hne⟩
      · rw [List.getElem?_eq_none (by omega), List.getElem?_eq_none (by omega)]
  have h4 : (Op.equal t (.agg ⟨xs.map (Value.int .u8)⟩) (.agg ⟨ys.map (Value.int .u8)⟩)).run P w = .ok (decide (xs = ys)) w := by
    rw [← h3]; exact h1.trans h2
  cases neg <;> simp [eqGuard, hg, binOp, h4]
theorem aeq_ok (hs : StOk W C ρ s a w) {op : BinOp} {t e : TypeId} {n : Nat} {x y : Operand} {yt : TypeId} {neg : Bool} (ho : o.op = .binOp op t x y yt) (hop : op = if neg then .neq else .eql)
    (ht : P.underlying t = some (.array n e)) (he : P.underlying e = some (.int .u8)) (hz : elemSize P e = some 1) (h : vst s (.aeq neg n x y) K) : Res false P W C ρ o a w K := by
  simp only [vst] at h
  have hdx := hs.fr.ev x
  have hdy := hs.fr.ev y
  split at h
  · rename_i cs cs' hx hy
    rw [hx] at hdx
    rw [hy] at hdy
    split at h
    · rename_i l l' hl hl'
      obtain ⟨⟨h1, h2⟩, hk⟩ := h
      generalize hv : a.eval x = v at hdx
      generalize hv' : a.eval y = v' at hdy
      cases hdx with
      | agg vs h3 h4 => cases hdy with
        | agg vs' h5 h6 =>
          have e1 := u8s_den ⟨h3, h4⟩ hl
          have e2 := u8s_den ⟨h5, h6⟩ hl'
          subst e1; subst e2
          have : ∃ i, P.info? e = some i := by
            unfold elemSize at hz
            cases hi : P.info? e with
            | none => rw [hi] at hz; cases hz
            | some i => exact ⟨i, rfl⟩
          obtain ⟨i, hi⟩ := this
          refine res_run hk (.v _) fun w' _ => ?_
          unfold execOp; rw [ho]
          subst hop
          have := aeq_run (P := P) ht he hz hi l l' h1 h2 w' neg x y
          simp only [hv, hv']
          simp only [Sem.run_bind] at this ⊢
          rw [this]; simp
    · exact h.elim
  · exact h.elim
theorem i64s_den : ∀ {cs : List AVal} {vs : List Value} {l : List Int}, DenL W C ρ cs vs → i64s cs = some l → vs = l.map (Value.int .i64)
  | [], vs, l, hd, h => by simp [i64s] at h; subst h; exact hd.nil_inv
  | x :: r, vs, l, hd, h => by
    obtain ⟨v, vs', rfl, h1, h2⟩ := hd.cons_inv
    unfold i64s at h
    split at h
    · cases ‹_ :: _ = [] › 
    · rename_i n r' e
      cases e
      rw [Option.map_eq_some_iff] at h
      obtain ⟨l', h3, rfl⟩ := h
      rw [den_v h1, i64s_den h2 h3]; rfl
    · cases h
theorem heq_run {t e : TypeId} {fs : Array Field} (ht : P.underlying t = some (.array 2 e)) (he : P.underlying e = some (.struct fs)) {i : TypeInfo} (hi : P.info? e = some i) (hp : pairInts P e fs.toList = true) (a b c d a' b' c' d' : Int) (w : World) (neg : Bool) (x y : Operand) :
    (do eqGuard (if neg then .neq else .eql) t x y (.agg ⟨[a, b, c, d].map (Value.int .i64)⟩) (.agg ⟨[a', b', c', d'].map (Value.int .i64)⟩); binOp (if neg then .neq else .eql) t (.agg ⟨[a, b, c, d].map (Value.int .i64)⟩) (.agg ⟨[a', b', c', d'].map (Value.int .i64)⟩) : Sem Value).run P w
      = .ok (.bool (if neg then !decide ([a, b, c, d] = [a', b', c', d']) else decide ([a, b, c, d] = [a', b', c', d']))) w := by
  obtain ⟨f1, f2, hl, u1, u2, o1, o2, z1, z2, hc, n1, n2, hst⟩ := pairInts_spec hp
  have hfs : fs = #[f1, f2] := by apply Array.toList_inj.1; rw [hl]
  subst hfs
  have hg : P.eqGuardType P.depth t = false := by
    unfold Program.depth
    obtain ⟨m, hm⟩ : ∃ m, 2 * (P.types.size + Made.depth) = m + 1 := ⟨2 * (P.types.size + Made.depth) - 1, by unfold Made.depth; omega⟩
    simp [Program.eqGuardType, ht, he, hm, u1, u2]
  have hf : P.fieldsOf e = #[f1, f2] := by simp [Program.fieldsOf, he]
  have p1 : P.plainKey f1.type = true := by unfold Program.plainKey; rw [u1]
  have p2 : P.plainKey f2.type = true := by unfold Program.plainKey; rw [u2]
  have two : ∀ (r s r' s' : Int), (Op.equalIn 9999 e (.agg #[.int .i64 r, .int .i64 s]) (.agg #[.int .i64 r', .int .i64 s'])).run P w = .ok (r == r' && s == s') w := by
    intro r s r' s'
    rw [run_equalIn_agg w 9998 e _ _ (by rw [hf]; exact he) hst, hf]
    have q1 := run_part_plain (P := P) (w := w) p1 (xs := #[.int .i64 r, .int .i64 s]) (off := 0) (v := .int .i64 r) (by simp)
    have q2 := run_part_plain (P := P) (w := w) p1 (xs := #[.int .i64 r', .int .i64 s']) (off := 0) (v := .int .i64 r') (by simp)
    have q3 := run_part_plain (P := P) (w := w) p2 (xs := #[.int .i64 r, .int .i64 s]) (off := 1) (v := .int .i64 s) (by simp)
    have q4 := run_part_plain (P := P) (w := w) p2 (xs := #[.int .i64 r', .int .i64 s']) (off := 1) (v := .int .i64 s') (by simp)
    have e1 : (Op.equalIn 9998 f1.type (.int .i64 r) (.int .i64 r')).run P w = .ok (r == r') w := run_equalIn_int (P := P) w 9997 f1.type .i64 .i64 r r' u1
    have e2 : (Op.equalIn 9998 f2.type (.int .i64 s) (.int .i64 s')).run P w = .ok (s == s') w := run_equalIn_int (P := P) w 9997 f2.type .i64 .i64 s s' u2
    cases h1 : (r == r') <;> cases h2 : (s == s') <;> simp [Op.eqFields, n1, n2, o1, o2, q1, q2, q3, q4, e1, e2, h1, h2]
  have h1 := run_equalIn_array (P := P) (w := w) 9999 ⟨[a, b, c, d].map (Value.int .i64)⟩ ⟨[a', b', c', d'].map (Value.int .i64)⟩ ht hi
  have h2 : (Op.eqItems 9999 e (P.cellsOf e) ⟨[a, b, c, d].map (Value.int .i64)⟩ ⟨[a', b', c', d'].map (Value.int .i64)⟩ (List.range 2)).run P w = .ok ((a == a' && b == b') && (c == c' && d == d')) w := by
    have pp : ∀ (r s t u : Int), (part e #[.int .i64 r, .int .i64 s, .int .i64 t, .int .i64 u] 0).run P w = .ok (.agg #[.int .i64 r, .int .i64 s]) w ∧ (part e #[.int .i64 r, .int .i64 s, .int .i64 t, .int .i64 u] 2).run P w = .ok (.agg #[.int .i64 t, .int .i64 u]) w := by
      intro r s t u
      constructor <;> simp [part, isAgg, run_underlying he, run_sizeOf w hi, hc]
    rw [show List.range 2 = [0, 1] from rfl]
    by_cases hh : (a == a' && b == b') = true
    · simp [Op.eqItems, hc, pp, two, hh]
      by_cases hh2 : (c == c' && d == d') = true <;> simp_all
    · simp [Op.eqItems, hc, pp, two, hh]
      try simp_all
  have h4 : (Op.equal t (.agg ⟨[a, b, c, d].map (Value.int .i64)⟩) (.agg ⟨[a', b', c', d'].map (Value.int .i64)⟩)).run P w = .ok (decide ([a, b, c, d] = [a', b', c', d'])) w := by
    rw [show decide ([a, b, c, d] = [a', b', c', d']) = ((a == a' && b == b') && (c == c' && d == d')) by
      by_cases k1 : a = a' <;> by_cases k2 : b = b' <;> by_cases k3 : c = c' <;> by_cases k4 : d = d' <;> simp [k1, k2, k3, k4]]
    exact h1.trans h2
  simp only [List.map_cons, List.map_nil] at h4 ⊢
  cases neg <;> simp [eqGuard, hg, binOp, h4]
theorem len4 {l : List Int} (h : l.length = 4) : ∃ a b c d, l = [a, b, c, d] := by
  match l, h with
  | [a, b, c, d], _ => exact ⟨a, b, c, d, rfl⟩
theorem heq_ok (hs : StOk W C ρ s a w) {op : BinOp} {t e : TypeId} {fs : Array Field} {x y : Operand} {yt : TypeId} {neg : Bool} (ho : o.op = .binOp op t x y yt) (hop : op = if neg then .neq else .eql)
    (ht : P.underlying t = some (.array 2 e)) (he : P.underlying e = some (.struct fs)) (hz : elemSize P e = some 2) (hp : pairInts P e fs.toList = true) (h : vst s (.heq neg x y) K) : Res false P W C ρ o a w K := by
  simp only [vst] at h
  have hdx := hs.fr.ev x
  have hdy := hs.fr.ev y
  split at h
  · rename_i cs cs' hx hy
    rw [hx] at hdx
    rw [hy] at hdy
    split at h
    · rename_i l l' hl hl'
      obtain ⟨⟨h1, h2⟩, hk⟩ := h
      generalize hv : a.eval x = v at hdx
      generalize hv' : a.eval y = v' at hdy
      cases hdx with
      | agg vs h3 h4 => cases hdy with
        | agg vs' h5 h6 =>
          have e1 := i64s_den ⟨h3, h4⟩ hl
          have e2 := i64s_den ⟨h5, h6⟩ hl'
          subst e1; subst e2
          obtain ⟨q1, q2, q3, q4, rfl⟩ := len4 h1
          obtain ⟨r1, r2, r3, r4, rfl⟩ := len4 h2
          have : ∃ i, P.info? e = some i := by
            unfold elemSize at hz
            cases hi : P.info? e with
            | none => rw [hi] at hz; cases hz
            | some i => exact ⟨i, rfl⟩
          obtain ⟨i, hi⟩ := this
          refine res_run hk (.v _) fun w' _ => ?_
          unfold execOp; rw [ho]
          subst hop
          have := heq_run (P := P) ht he hi hp q1 q2 q3 q4 r1 r2 r3 r4 w' neg x y
          simp only [hv, hv']
          simp only [Sem.run_bind] at this ⊢
          rw [this]; simp
    · exact h.elim
  · exact h.elim
theorem s2a_ok (hs : StOk W C ρ s a w) {arr e : TypeId} {n : Nat} {x : Operand} (ho : o.op = .sliceToArrayPointer arr x) (ht : P.underlying arr = some (.array n e)) (h : vst s (.s2a n x) K) : Res false P W C ρ o a w K := by
  simp only [vst] at h
  have hd := hs.fr.ev x
  split at h
  · rename_i t xs hx
    rw [hx] at hd
    obtain ⟨⟨hn, hn0⟩, hk⟩ := h
    generalize hv : a.eval x = v at hd
    cases hd with
    | @rs t' xs' A c vs hr hc hden =>
      cases A with
      | none =>
        rcases hr with hr | ⟨ad, h1, _⟩
        · rcases Nat.mul_eq_zero.1 hr with h | h
          · omega
          · exact absurd h (Nat.pos_iff_ne_zero.1 (sz_pos _))
        · cases h1
      | some ad =>
        refine res_run hk (.rp (ad := ad) vs ?_ fun i f x av h1 h2 => ?_) fun w' _ => ?_
        · rcases hr with hr | ⟨ad', h1, h2, h3, h4⟩
          · rcases Nat.mul_eq_zero.1 hr with h | h
            · omega
            · exact absurd h (Nat.pos_iff_ne_zero.1 (sz_pos _))
          · refine .inr ⟨ad', h1, h2, h3, fun k hk2 => h4 k (Nat.lt_of_lt_of_le hk2 (Nat.mul_le_mul_right _ (by rw [List.length_take]; omega)))⟩
        · rw [List.getElem?_take] at h1
          split at h1
          · exact hden i f x av h1 h2
          · cases h1
        · unfold execOp; rw [ho]
          have := run_arrayAt (P := P) (w := w') arr e n (some ad) xs.length c ht hn
          simp [hv, this]
  · exact h.elim
theorem snil_ok (hs : StOk W C ρ s a w) {op : BinOp} {t e : TypeId} {x : Operand} {yt : TypeId} {neg : Bool} (ho : o.op = .binOp op t x (.const (.slice none 0 0)) yt) (hop : op = if neg then .neq else .eql)
    (ht : P.underlying t = some (.slice e)) (h : vst s (.snil neg x) K) : Res false P W C ρ o a w K := by
  simp only [vst] at h
  have hd := hs.fr.ev x
  have run : ∀ A n c, a.eval x = .slice A n c → ∀ w', (execOp a.eval o).run P w' = .ok (.value (.bool (if neg then !A.isNone else A.isNone))) w' := by
    intro A n c hv w'
    unfold execOp; rw [ho]
    have h1 := Lib.run_eql_slice_nil (P := P) w' t e A n c 0 0 ht
    have h2 := run_neq_slice_nil_any (P := P) w' t e A n c 0 0 ht
    subst hop
    have hn : a.eval (.const (.slice none 0 0)) = .slice none 0 0 := rfl
    cases neg <;> simp [hv, hn, eqGuard, h1, h2]
  split at h
  · rename_i hx
    rw [hx] at hd
    generalize hv : a.eval x = v at hd
    cases hd with
    | sub _ _ _ => exact res_run (h false (by simp)) (.v _) fun w' _ => by rw [run _ _ _ hv w']; rfl
    | sub0 _ => exact res_run (h true (fun _ => rfl)) (.v _) fun w' _ => by rw [run _ _ _ hv w']; rfl
  · rename_i hx
    rw [hx] at hd
    generalize hv : a.eval x = v at hd
    cases hd with
    | @rs t' xs A c vs hr hc hden =>
      cases A with
      | none =>
        refine res_run (h true fun _ => ?_) (.v _) fun w' _ => by rw [run _ _ _ hv w']; rfl
        rcases hr with hr | ⟨ad, h1, _⟩
        · rcases Nat.mul_eq_zero.1 hr with h | h
          · exact List.length_eq_zero_iff.1 h
          · rename_i t1; exact absurd h (Nat.pos_iff_ne_zero.1 (sz_pos _))
        · cases h1
      | some ad => exact res_run (h false (by simp)) (.v _) fun w' _ => by rw [run _ _ _ hv w']; rfl
  · rename_i hx
    exact res_run h (.v _) fun w' _ => by rw [run _ _ _ (ev_v hs hx) w']; cases neg <;> rfl
  · rename_i hx
    rw [hx] at hd
    generalize hv : a.eval x = v at hd
    cases hd with
    | fs _ _ => exact res_run h (.v _) fun w' _ => by rw [run _ _ _ hv w']; cases neg <;> rfl
  · exact h.elim

theorem len_ok (hs : StOk W C ρ s a w) {t : TypeId} {x : Operand} (ho : o.op = .call ⟨.builtin .len, #[x], #[t]⟩) (ht : ∃ e, P.underlying t = some (.slice e))
    (h : vst s (.len x) K) : Res false P W C ρ o a w K := by
  simp only [vst] at h
  have hd := hs.fr.ev x
  obtain ⟨e, he⟩ := ht
  have run : ∀ A n c, a.eval x = .slice A n c → ∀ w', (execOp a.eval o).run P w' = .ok (.value (.int .i64 n)) w' := by
    intro A n c hv w'
    unfold execOp; rw [ho]
    simp [resolve, invoke, builtin, Builtin.len_, underlying, he, hv, goInt]
  split at h
  · rename_i hx
    rw [hx] at hd
    generalize hv : a.eval x = v at hd
    cases hd with
    | sub _ _ _ => exact res_run h (.v _) fun w' _ => run _ _ _ hv w'
    | sub0 _ => exact res_run h (.v _) fun w' _ => run _ _ _ hv w'
  · rename_i hx
    rw [hx] at hd
    generalize hv : a.eval x = v at hd
    cases hd with
    | rs _ _ _ _ => exact res_run h (.v _) fun w' _ => run _ _ _ hv w'
  · rename_i hx
    rw [hx] at hd
    generalize hv : a.eval x = v at hd
    cases hd with
    | fs _ _ => exact res_run h (.v _) fun w' _ => run _ _ _ hv w'
  · rename_i hx
    exact res_run h (.v _) fun w' _ => run _ _ _ (ev_v hs hx) w'
  · exact h.elim

theorem slen_ok (hs : StOk W C ρ s a w) {t : TypeId} {x : Operand} (ho : o.op = .call ⟨.builtin .len, #[x], #[t]⟩) (he : P.underlying t = some .string)
    (h : vst s (.slen x) K) : Res false P W C ρ o a w K := by
  simp only [vst] at h
  split at h
  · rename_i hx
    refine res_run h (.v _) fun w' _ => ?_
    unfold execOp; rw [ho]
    simp [resolve, invoke, builtin, Builtin.len_, underlying, he, ev_v hs hx, goInt]
  · exact h.elim

theorem mfn_ok (hs : StOk W C ρ s a w) {f : Nat} {cap : Array Operand} (ho : o.op = .makeFunc (.func f) #[] cap) (h : vst s (.mfn f cap.toList) K) : Res false P W C ρ o a w K := by
  simp only [vst] at h
  refine res_run h (.fn (cap.toList.map a.eval) (by simp) fun k av u h1 h2 => ?_) fun w' _ => ?_
  · simp only [List.getElem?_map, Option.map_eq_some_iff] at h1 h2
    obtain ⟨x, hx, rfl⟩ := h1
    obtain ⟨y, hy, rfl⟩ := h2
    rw [hx] at hy; cases hy
    exact hs.fr.ev x
  · unfold execOp; rw [ho]
    have : cap.map a.eval = ⟨cap.toList.map a.eval⟩ := by
      apply Array.toList_inj.1; simp
    simp [Instr.makeFunc, this]

theorem optI_ok (hs : StOk W C ρ s a w) {x : Option Operand} {d : Int} {K : Int → Prop} (h : optI s x d K) :
    ∃ n, K n ∧ ((x = none ∧ n = d) ∨ ∃ y k, x = some y ∧ a.eval y = .int k n) := by
  unfold optI at h
  split at h
  · exact ⟨d, h, .inl ⟨rfl, rfl⟩⟩
  · split at h
    · rename_i k n hx
      exact ⟨n, h, .inr ⟨_, k, rfl, ev_v hs hx⟩⟩
    · exact h.elim

theorem slice_run {t e : TypeId} {z : Nat} (ht : P.underlying t = some (.slice e)) (hz : elemSize P e = some z) (A : Option Addr) (n c : Nat) (hnc : n ≤ c) {lo hi : Option Operand} {l h : Int}
    (hl : (lo = none ∧ l = 0) ∨ ∃ y k, lo = some y ∧ a.eval y = .int k l) (hh : (hi = none ∧ h = (n : Int)) ∨ ∃ y k, hi = some y ∧ a.eval y = .int k h)
    (h0 : 0 ≤ l) (h1 : l ≤ h) (h2 : h ≤ (c : Int)) (w : World) :
    (Instr.sliceAt t (.slice A n c) (lo.map a.eval) (hi.map a.eval) none).run P w = .ok (.slice (if c = l.toNat then A else A.map (·.add (l.toNat * z))) (h - l).toNat (c - l.toNat)) w := by
  unfold elemSize at hz
  cases hi' : P.info? e with
  | none => simp [hi'] at hz
  | some inf =>
    simp [hi'] at hz
    have e1 : (h.toNat - l.toNat) = (h - l).toNat := by omega
    have f1 : ∀ k code, (Instr.sliceBound (.int k h) c code).run P w = .ok h.toNat w := fun k code => run_sliceBound w k h c code (by omega) (by omega)
    have f2 : ∀ k code, (Instr.sliceBound (.int k l) h.toNat code).run P w = .ok l.toNat w := fun k code => run_sliceBound w k l h.toNat code h0 (by omega)
    have hb : (Instr.sliceBounds true n c (lo.map a.eval) (hi.map a.eval) none).run P w = .ok (l.toNat, h.toNat, c) w := by
      rcases hh with ⟨rfl, rfl⟩ | ⟨y', k', rfl, hy'⟩
      · simp only [Int.toNat_natCast] at f2
        rcases hl with ⟨rfl, rfl⟩ | ⟨y, k, rfl, hy⟩
        · simp [Instr.sliceBounds]
        · simp [Instr.sliceBounds, hy, f2]
      · rcases hl with ⟨rfl, rfl⟩ | ⟨y, k, rfl, hy⟩
        · simp [Instr.sliceBounds, hy', f1]
        · simp [Instr.sliceBounds, hy', f1, hy, f2]
    simp [Instr.sliceAt, Instr.slice, underlying, ht, sizeOf, typeInfo, hi', hz, hb, e1]

theorem slca_ok (hs : StOk W C ρ s a w) {t e : TypeId} {x : Operand} {lo hi : Option Operand} {z n : Nat} (ho : o.op = .slice t x lo hi none) (ht : P.underlying t = some (.array n e)) (hz : elemSize P e = some z)
    (h : vst s (.slca z n x lo hi) K) : Res false P W C ρ o a w K := by
  simp only [vst] at h
  have hd := hs.fr.ev x
  unfold elemSize at hz
  cases hi' : P.info? e with
  | none => simp [hi'] at hz
  | some inf =>
    simp [hi'] at hz
    split at h
    · rename_i m k hx
      rw [hx] at hd
      obtain ⟨rfl, h⟩ := h
      obtain ⟨l, h, hl⟩ := optI_ok hs h
      obtain ⟨hh, h, hhi⟩ := optI_ok hs h
      obtain ⟨⟨h0, h1, h2⟩, hk⟩ := h
      generalize hv : a.eval x = v at hd
      cases hd with
      | @arp _ _ b hm =>
        have e1 : (hh.toNat - l.toNat) = (hh - l).toNat := by omega
        have f1 : ∀ w' k' code, (Instr.sliceBound (.int k' hh) k code).run P w' = .ok hh.toNat w' := fun w' k' code => run_sliceBound w' k' hh k code (by omega) (by omega)
        have f2 : ∀ w' k' code, (Instr.sliceBound (.int k' l) hh.toNat code).run P w' = .ok l.toNat w' := fun w' k' code => run_sliceBound w' k' l hh.toNat code h0 (by omega)
        have hb : ∀ w', (Instr.sliceBounds false k k (lo.map a.eval) (hi.map a.eval) none).run P w' = .ok (l.toNat, hh.toNat, k) w' := fun w' => by
          rcases hhi with ⟨rfl, rfl⟩ | ⟨y', k', rfl, hy'⟩
          · simp only [Int.toNat_natCast] at f2
            rcases hl with ⟨rfl, rfl⟩ | ⟨y, k2, rfl, hy⟩
            · simp [Instr.sliceBounds]
            · simp [Instr.sliceBounds, hy, f2]
          · rcases hl with ⟨rfl, rfl⟩ | ⟨y, k2, rfl, hy⟩
            · simp [Instr.sliceBounds, hy', f1]
            · simp [Instr.sliceBounds, hy', f1, hy, f2]
        have hr : ∀ w', (Instr.sliceAt t (.pointer (some ⟨b, 0, none⟩)) (lo.map a.eval) (hi.map a.eval) none).run P w' = .ok (.slice (some (if k = l.toNat then (⟨b, 0, none⟩ : Addr) else (⟨b, 0, none⟩ : Addr).add (l.toNat * z))) (hh - l).toNat (k - l.toNat)) w' := fun w' => by
          simp [Instr.sliceAt, underlying, ht, sizeOf, typeInfo, hi', hz, hb, e1, Instr.sureAddr]
        refine res_run hk ?_ fun w' _ => by
          unfold execOp; rw [ho]
          simp only [hv, Sem.run_bind, Option.map_none, hr w']
          rfl
        by_cases e2 : k = l.toNat
        · rw [if_pos e2]
          exact .sub hm (by omega) (fun hlt => by omega)
        · rw [if_neg e2]
          refine .sub hm (by omega) (fun hlt => ?_)
          rw [add_none]
    · exact h.elim

theorem slc_ok (hs : StOk W C ρ s a w) {t e : TypeId} {x : Operand} {lo hi : Option Operand} {z : Nat} (ho : o.op = .slice t x lo hi none) (ht : P.underlying t = some (.slice e)) (hz : elemSize P e = some z)
    (h : vst s (.slc z x lo hi) K) : Res false P W C ρ o a w K := by
  simp only [vst] at h
  have hd := hs.fr.ev x
  split at h
  · rename_i m z' l0 len hx
    rw [hx] at hd
    obtain ⟨rfl, h⟩ := h
    obtain ⟨l, h, hl⟩ := optI_ok hs h
    obtain ⟨hh, h, hhi⟩ := optI_ok hs h
    obtain ⟨⟨h0, h1, h2⟩, hk⟩ := h
    have hroom : roomK s.L m l0 hh → (ρ m = some none ∧ (l0 : Int) + hh ≤ 0) ∨ ∃ b o c, ρ m = some (some (b, o, c)) ∧ (l0 : Int) + hh ≤ (c : Int) := fun hr => by
      unfold roomK at hr
      split at hr
      · rename_i t xs hl
        rcases hs.hp.obj m _ hl with ⟨e1, e2⟩ | ⟨b', o'', c', T, vs, e1, _, _, e4, _⟩
        · subst e2; exact .inl ⟨e1, by simpa using hr⟩
        · exact .inr ⟨_, _, _, e1, by omega⟩
      · rename_i t xs es ys hl
        obtain ⟨_, e, _⟩ := hs.hp.obj m _ hl
        rcases e with ⟨e1, e2, e3⟩ | ⟨b', o'', c', T, vs, e1, _, _, e4, _⟩
        · subst e2; subst e3; exact .inl ⟨e1, by simpa using hr⟩
        · exact .inr ⟨_, _, _, e1, by omega⟩
      · exact hr.elim
    generalize hv : a.eval x = v at hd
    cases hd with
    | @sub _ _ _ _ b o' c ad hm hle had =>
      replace h2 : hh ≤ ((c - l0 : Nat) : Int) := by
        rcases h2 with h2 | h2
        · omega
        · rcases hroom h2 with ⟨e1, _⟩ | ⟨b', o'', c', e1, e4⟩
          · rw [hm] at e1; cases e1
          · rw [hm] at e1; cases e1; omega
      refine res_run hk ?_ fun w' _ => by
        unfold execOp; rw [ho]
        simp only [hv, Sem.run_bind, Option.map_none, slice_run ht hz _ _ _ (by omega : len ≤ c - l0) hl hhi h0 h1 h2 w']
        rfl
      by_cases e1 : c - l0 = l.toNat
      · rw [if_pos e1, show c - l0 - l.toNat = c - (l0 + l.toNat) by omega]
        exact .sub hm (by omega) (fun hlt => by omega)
      · rw [if_neg e1, show c - l0 - l.toNat = c - (l0 + l.toNat) by omega]
        refine .sub hm (by omega) (fun hlt => ?_)
        rw [had (by omega)]; show (⟨b, o' + l0 * z, none⟩ : Addr).add _ = _; rw [add_none, Nat.add_mul, Nat.add_assoc]
    | sub0 hm =>
      replace h2 : hh ≤ 0 := by
        rcases h2 with h2 | h2
        · simpa using h2
        · rcases hroom h2 with ⟨_, e2⟩ | ⟨b', o'', c', e1, _⟩
          · omega
          · rw [hm] at e1; cases e1
      have e1 : l = 0 := by omega
      have e2 : hh = 0 := by omega
      subst e1; subst e2
      refine res_run hk (by simpa using (.sub0 hm)) fun w' _ => by
        unfold execOp; rw [ho]
        simp only [hv, Sem.run_bind, Option.map_none, slice_run ht hz none 0 0 (Nat.le_refl 0) hl hhi h0 h1 (by omega) w']
        rfl
  · rename_i t' xs hx
    rw [hx] at hd
    obtain ⟨rfl, h⟩ := h
    obtain ⟨l, h, hl⟩ := optI_ok hs h
    obtain ⟨hh, h, hhi⟩ := optI_ok hs h
    obtain ⟨⟨h0, h1, h2⟩, hk⟩ := h
    generalize hv : a.eval x = v at hd
    cases hd with
    | @rs _ _ A c vs hr hc hden =>
      refine res_run hk ?_ fun w' _ => by
        unfold execOp; rw [ho]
        simp only [hv, Sem.run_bind, Option.map_none, slice_run ht hz _ _ _ hc hl hhi h0 h1 (by omega) w']
        rfl
      have hlen : ((xs.drop l.toNat).take (hh - l).toNat).length = (hh - l).toNat := by simp; omega
      have key := Den.rs (W := W) (C := C) (ρ := ρ) (t := t') (xs := (xs.drop l.toNat).take (hh - l).toNat) (A := if c = l.toNat then A else A.map (·.add (l.toNat * sz t'))) (c := c - l.toNat)
        (fun k => vs (l.toNat * sz t' + k)) ?_ (by rw [hlen]; omega) ?_
      · rw [hlen] at key; exact key
      · rw [hlen]
        rcases hr with hr | ⟨ad, rfl, h3, h4, h5⟩
        · left
          have : xs.length = 0 := by rcases Nat.mul_eq_zero.1 hr with h | h; exact h; have := sz_pos t'; omega
          rw [show (hh - l).toNat = 0 by omega]; simp
        · by_cases e1 : (hh - l).toNat = 0
          · left; rw [e1]; simp
          · right
            rw [if_neg (by omega)]
            have hm : l.toNat * sz t' + (hh - l).toNat * sz t' ≤ xs.length * sz t' := by
              rw [← Nat.add_mul]; exact Nat.mul_le_mul_right _ (by omega)
            refine ⟨_, rfl, ?_, ?_, fun k hk => ?_⟩
            · unfold Addr.add; split <;> exact h3
            · unfold Addr.add; split <;> exact h4
            · rw [add_add]; exact h5 _ (by omega)
      · intro i f x av hx2 hav
        have hx3 : xs[l.toNat + i]? = some x := by
          rw [List.getElem?_take] at hx2
          split at hx2
          · simpa using hx2
          · cases hx2
        have := hden (l.toNat + i) f x av hx3 hav
        rw [Nat.add_mul, Nat.add_assoc] at this
        exact this
  · rename_i m z' b o' l0 len c hx
    rw [hx] at hd
    obtain ⟨rfl, h⟩ := h
    obtain ⟨l, h, hl⟩ := optI_ok hs h
    obtain ⟨hh, h, hhi⟩ := optI_ok hs h
    obtain ⟨⟨h0, h1, h2⟩, hk⟩ := h
    generalize hv : a.eval x = v at hd
    cases hd with
    | @fs _ _ _ _ _ _ _ ad hle had =>
      refine res_run hk ?_ fun w' _ => by
        unfold execOp; rw [ho]
        simp only [hv, Sem.run_bind, Option.map_none, slice_run ht hz _ _ _ (by omega : len ≤ c - l0) hl hhi h0 h1 (by omega) w']
        rfl
      by_cases e1 : c - l0 = l.toNat
      · rw [if_pos e1, show c - l0 - l.toNat = c - (l0 + l.toNat) by omega]
        exact .fs (by omega) (fun hlt => by omega)
      · rw [if_neg e1, show c - l0 - l.toNat = c - (l0 + l.toNat) by omega]
        refine .fs (by omega) (fun hlt => ?_)
        rw [had (by omega)]; show (⟨b, o' + l0 * z, none⟩ : Addr).add _ = _; rw [add_none, Nat.add_mul, Nat.add_assoc]
  · exact h.elim

theorem slc3_ok (hs : StOk W C ρ s a w) {t e : TypeId} {x lo hi mx : Operand} {z : Nat} (ho : o.op = .slice t x (some lo) (some hi) (some mx)) (ht : P.underlying t = some (.slice e)) (hz : elemSize P e = some z)
    (h : vst s (.slc3 x lo hi mx) K) : Res false P W C ρ o a w K := by
  simp only [vst] at h
  have hd := hs.fr.ev x
  have go : ∀ {len : Nat}, (∃ A c, a.eval x = .slice A len c ∧ len ≤ c) → (optI s (some lo) 0 fun l => optI s (some hi) 0 fun h => optI s (some mx) 0 fun q => (0 ≤ l ∧ l ≤ h ∧ h ≤ q ∧ q ≤ (len : Int)) ∧ K .junk) → Res false P W C ρ o a w K := by
    intro len hAc h
    obtain ⟨l, h, hl⟩ := optI_ok hs h
    obtain ⟨hh, h, hhi⟩ := optI_ok hs h
    obtain ⟨q, h, hq⟩ := optI_ok hs h
    obtain ⟨⟨h0, h1, h2, h3⟩, hk⟩ := h
    have one : ∀ {y : Operand} {n : Int}, ((some y = none ∧ n = 0) ∨ ∃ y' k, some y = some y' ∧ a.eval y' = .int k n) → ∃ k, a.eval y = .int k n := fun h => by
      rcases h with ⟨h, _⟩ | ⟨y', k, e, h⟩
      · cases h
      · cases e; exact ⟨k, h⟩
    obtain ⟨kl, hl⟩ := one hl
    obtain ⟨kh, hhi⟩ := one hhi
    obtain ⟨kq, hq⟩ := one hq
    obtain ⟨A, c, hv, hlc⟩ := hAc
    unfold elemSize at hz
    cases hi' : P.info? e with
    | none => simp [hi'] at hz
    | some inf =>
      simp [hi'] at hz
      have f0 : ∀ code w', (Instr.sliceBound (.int kq q) c code).run P w' = .ok q.toNat w' := fun code w' => run_sliceBound w' kq q c code (by omega) (by omega)
      have f1 : ∀ code w', (Instr.sliceBound (.int kh hh) q.toNat code).run P w' = .ok hh.toNat w' := fun code w' => run_sliceBound w' kh hh q.toNat code (by omega) (by omega)
      have f2 : ∀ code w', (Instr.sliceBound (.int kl l) hh.toNat code).run P w' = .ok l.toNat w' := fun code w' => run_sliceBound w' kl l hh.toNat code h0 (by omega)
      refine res_run hk (.junk (.slice (if q.toNat = l.toNat then A else A.map (·.add (l.toNat * z))) (hh.toNat - l.toNat) (q.toNat - l.toNat))) fun w' _ => by
        unfold execOp; rw [ho]
        simp [Instr.sliceAt, Instr.slice, Instr.sliceBounds, hv, hl, hhi, hq, f0, f1, f2, underlying, ht, sizeOf, typeInfo, hi', hz]
  split at h
  · rename_i m z' l0 len hx
    rw [hx] at hd
    refine go ?_ h
    generalize a.eval x = v at hd
    cases hd with
    | @sub _ _ _ _ b o' c ad hm hle had => exact ⟨_, _, rfl, by omega⟩
    | sub0 hm => exact ⟨_, _, rfl, Nat.le_refl _⟩
  · rename_i m z' b o' l0 len c hx
    rw [hx] at hd
    refine go ?_ h
    generalize a.eval x = v at hd
    cases hd with
    | fs hle had => exact ⟨_, _, rfl, by omega⟩
  · exact h.elim

theorem cellsOf_den {av : AVal} {v : Value} (h : Den W C ρ av v) (hn : 0 < (cellsOf av).length) : DenL W C ρ (cellsOf av) v.cells.toList := by
  cases h with
  | junk x => simp [cellsOf] at hn
  | agg vs h1 h2 => exact ⟨h1, h2⟩
  | v => cases v with
    | agg cs => exact den_vs _
    | _ => exact DenL.cons (.v _) .nil
  | ptr h => exact DenL.cons (.ptr h) .nil
  | elt h => exact DenL.cons (.elt h) .nil
  | sub h h1 h2 => exact DenL.cons (.sub h h1 h2) .nil
  | sub0 h => exact DenL.cons (.sub0 h) .nil
  | rs vs h1 h2 h3 => exact DenL.cons (.rs vs h1 h2 h3) .nil
  | re vs h1 h2 => exact DenL.cons (.re vs h1 h2) .nil
  | rp vs h1 h2 => exact DenL.cons (.rp vs h1 h2) .nil
  | mp h => exact DenL.cons (.mp h) .nil
  | arp h => exact DenL.cons (.arp h) .nil
  | fs h1 h2 => exact DenL.cons (.fs h1 h2) .nil
  | fp => exact DenL.cons .fp .nil
  | tup vs h1 h2 => exact DenL.cons (.tup vs h1 h2) .nil
  | fn vs h1 h2 => exact DenL.cons (.fn vs h1 h2) .nil

def spliceV (l : List Value) (off : Nat) (cs : List Value) : List Value := l.take off ++ cs ++ l.drop (off + cs.length)

theorem splice_den {l cs : List AVal} {l' cs' : List Value} (h : DenL W C ρ l l') (k : DenL W C ρ cs cs') (off : Nat) : DenL W C ρ (splice l off cs) (spliceV l' off cs') := by
  unfold splice spliceV
  rw [k.1]
  exact ((h.take off).append k).append (h.drop _)

/-- Storing the cells one behind the other is splicing them in. -/
theorem foldl_splice (cs : List Value) : ∀ (l : Array Value) (off j : Nat), off + j + cs.length ≤ l.size →
    ((cs.zipIdx j).foldl (fun (b : Array Value) (c : Value × Nat) => b.setIfInBounds (off + c.2) c.1) l).toList = spliceV l.toList (off + j) cs := by
  induction cs with
  | nil => intro l off j h; simp [spliceV]
  | cons c cs ih =>
    intro l off j h
    simp only [List.zipIdx_cons, List.foldl_cons]
    simp only [List.length_cons] at h
    rw [ih _ off (j + 1) (by simp; omega)]
    unfold spliceV
    apply List.ext_getElem?
    intro k
    simp only [Array.toList_setIfInBounds, List.getElem?_append, List.getElem?_take, List.getElem?_drop, List.length_append, List.length_take, List.length_set, Array.length_toList, List.length_cons, List.getElem?_set, List.getElem?_cons]
    have hm : min (off + (j + 1)) l.size = off + j + 1 := by omega
    have hm' : min (off + j) l.size = off + j := by omega
    simp only [hm, hm']
    by_cases h1 : k < off + j
    · simp [h1, show k < off + j + 1 by omega, show k < off + (j + 1) by omega, show ¬ off + j = k by omega, show k < off + j + 1 + cs.length by omega, show k < off + j + (cs.length + 1) by omega]
    · by_cases h2 : k = off + j
      · subst h2
        simp [show off + j < off + j + 1 by omega, show off + j < off + (j + 1) by omega, show off + j < off + j + 1 + cs.length by omega, show off + j < l.size by omega, show off + j < off + j + (cs.length + 1) by omega]
      · by_cases h3 : k < off + j + 1 + cs.length
        · simp [h1, show ¬ k < off + j + 1 by omega, h3, show k < off + j + (cs.length + 1) by omega, show ¬ k - (off + j) = 0 by omega, show k - (off + j + 1) = k - (off + j) - 1 by omega]
        · simp [h1, show ¬ k < off + j + 1 by omega, h3, show ¬ k < off + j + (cs.length + 1) by omega, show ¬ off + j = off + (j + 1) + cs.length + (k - (off + j + 1 + cs.length)) by omega,
            show off + (j + 1) + cs.length + (k - (off + j + 1 + cs.length)) = off + j + (cs.length + 1) + (k - (off + j + (cs.length + 1))) by omega]
          intro hh; omega

theorem fill_cons (pl : Nat → Option (Nat × Nat)) (l : Array Value) (i off n : Nat) (v : Value) (r : List (Nat × Value)) (hp : pl i = some (off, n)) (hv : v.cells.size = n) (ho : off + n ≤ l.size) :
    Instr.fill pl l ((i, v) :: r) = Instr.fill pl ⟨spliceV l.toList off v.cells.toList⟩ r := by
  have key := foldl_splice v.cells.toList l off 0 (by simp [hv]; omega)
  have key2 : v.cells.zipIdx.foldl (fun cs (c, j) => cs.setIfInBounds (off + j) c) l = ⟨spliceV l.toList off v.cells.toList⟩ := by
    apply Array.toList_inj.1
    rw [← Array.foldl_toList]
    simpa using key
  simp only [Instr.fill, hp, hv]
  rw [if_neg (by simp; omega), key2]

theorem build_fill (hs : StOk W C ρ s a w) {K : List AVal → Prop} (pl : Nat → Option (Nat × Nat)) : ∀ (parts : List (Nat × Operand)) (ps : List (Nat × Nat × Operand)) (l : List AVal) (l' : Array Value),
    partsAt pl parts = some ps → DenL W C ρ l l'.toList → fillA s ps l K →
    ∃ m m', K m ∧ DenL W C ρ m m' ∧ Instr.fill pl l' (parts.map fun (i, x) => (i, a.eval x)) = some ⟨m'⟩
  | [], ps, l, l', hp, hd, h => by
    simp [partsAt] at hp
    subst hp
    exact ⟨l, l'.toList, h, hd, by simp [Instr.fill]⟩
  | (i, x) :: r, ps, l, l', hp, hd, h => by
    simp only [partsAt] at hp
    split at hp
    · rename_i off z ps' hz hps
      cases hp
      simp only [fillA] at h
      obtain ⟨⟨h1, h2, h3⟩, h⟩ := h
      have hx := cellsOf_den (hs.fr.ev x) (by omega)
      have hsz : (a.eval x).cells.size = z := by rw [← Array.length_toList, hx.1, h1]
      obtain ⟨m, m', hk, hm, hf'⟩ := build_fill hs pl r ps' _ ⟨spliceV l'.toList off (a.eval x).cells.toList⟩ hps (splice_den hd hx off) h
      refine ⟨m, m', hk, hm, ?_⟩
      rw [← hf']
      have hl : l'.toList.length = l.length := hd.1
      exact fill_cons pl l' i off z (a.eval x) _ hz hsz (by rw [← Array.length_toList, hl]; exact h3)
    · cases hp

theorem bld_ok (hs : StOk W C ρ s a w) {t : TypeId} {parts : Array (Nat × Operand)} {pl : Nat → Option (Nat × Nat)} {z : Value} {ps : List (Nat × Nat × Operand)} (ho : o.op = .build t parts)
    (hp : placesOf P t = some (pl, z)) (hps : partsAt pl parts.toList = some ps) (h : vst s (.bld z.cells.toList ps) K) : Res false P W C ρ o a w K := by
  simp only [vst] at h
  obtain ⟨m, m', hk, hm, hf⟩ := build_fill hs pl parts.toList ps _ z.cells hps (den_vs z.cells.toList) h
  have hb : P.built t (parts.map fun (i, x) => (i, a.eval x)).toList = some ⟨m'⟩ := by
    rw [Array.toList_map, ← hf]
    unfold placesOf at hp
    unfold Program.built
    split at hp
    · split at hp
      · cases hp; simp [*]
      · cases hp
    · split at hp
      · cases hp; simp [*]
      · cases hp
    · cases hp
  refine res_run hk (.agg m' hm.1 hm.2) fun w' _ => ?_
  unfold execOp; rw [ho]
  simp only [Sem.run_bind, run_build w' t _ _ hb, Result.andThen_ok, Sem.run_pure]

theorem byte_get {b : ByteArray} {k : Nat} (h : k < b.size) : b[k]? = some (b.data.toList.getD k 0) := by
  rw [getElem?_pos b k h]
  congr 1
  have h2 : k < b.data.size := h
  show b.data[k] = _
  rw [List.getD, Array.getElem?_toList, Array.getElem?_eq_getElem h2]; rfl
theorem sidx_ok (hs : StOk W C ρ s a w) {t : TypeId} {x i : Operand} (ho : o.op = .index t x i) (ht : P.underlying t = some .string) (h : vst s (.sidx x i) K) : Res false P W C ρ o a w K := by
  simp only [vst] at h
  split at h
  · rename_i b hx
    split at h
    · rename_i k n hi
      obtain ⟨⟨h0, h1⟩, hk⟩ := h
      have hlt : n.toNat < b.size := by omega
      refine res_run hk (.v _) fun w' _ => ?_
      unfold execOp; rw [ho]
      simp [Instr.index, asIntOf, ev_v hs hx, ev_v hs hi, run_underlying ht, h0, byte_get hlt, byteV]
    · exact h.elim
  · exact h.elim
theorem sslc_ok (hs : StOk W C ρ s a w) {t : TypeId} {x : Operand} {lo hi : Option Operand} (ho : o.op = .slice t x lo hi none) (ht : P.underlying t = some .string) (h : vst s (.sslc x lo hi) K) : Res false P W C ρ o a w K := by
  simp only [vst] at h
  split at h
  · rename_i b hx
    obtain ⟨l, h, hl⟩ := optI_ok hs h
    obtain ⟨q, h, hq⟩ := optI_ok hs h
    obtain ⟨⟨h0, h1, h2⟩, hk⟩ := h
    refine res_run hk (.v _) fun w' _ => ?_
    unfold execOp; rw [ho]
    have f1 : ∀ k code, (Instr.sliceBound (.int k q) b.size code).run P w' = .ok q.toNat w' := fun k code => run_sliceBound w' k q b.size code (by omega) (by omega)
    have f2 : ∀ k code, (Instr.sliceBound (.int k l) q.toNat code).run P w' = .ok l.toNat w' := fun k code => run_sliceBound w' k l q.toNat code h0 (by omega)
    have hb : (Instr.sliceBounds false b.size b.size (lo.map a.eval) (hi.map a.eval) none).run P w' = .ok (l.toNat, q.toNat, b.size) w' := by
      rcases hq with ⟨rfl, rfl⟩ | ⟨y', k', rfl, hy'⟩
      · simp only [Int.toNat_natCast] at f2
        rcases hl with ⟨rfl, rfl⟩ | ⟨y, k, rfl, hy⟩
        · simp [Instr.sliceBounds]
        · simp [Instr.sliceBounds, hy, f2]
      · rcases hl with ⟨rfl, rfl⟩ | ⟨y, k, rfl, hy⟩
        · simp [Instr.sliceBounds, hy', f1]
        · simp [Instr.sliceBounds, hy', f1, hy, f2]
    have hx' : a.eval x = .string b := ev_v hs hx
    simp [Instr.sliceAt, Instr.slice, hx', underlying, ht, hb]
  · exact h.elim

/-- A key's value, in the program's words. -/
theorem keyK_ok {kk : KK} {av : AVal} {v : Value} {K : Key → Prop} (hd : Den W C ρ av v) (h : keyK kk av K) : ∃ key, okKey kk key = true ∧ v = keyV key ∧ K key := by
  unfold keyK at h
  split at h
  · split at h
    · exact ⟨_, rfl, den_v hd, h⟩
    · exact h.elim
  · split at h
    · exact ⟨_, rfl, den_v hd, h⟩
    · exact h.elim
  · split at h
    · split at h
      · rename_i l hl
        cases hd with
        | agg vs h3 h4 =>
          have := i64s_den ⟨h3, h4⟩ hl
          subst this
          exact ⟨.a l, by simp [okKey, h.1], rfl, h.2⟩
      · exact h.elim
    · exact h.elim
  · split at h
    · split at h
      · rename_i l hl
        cases hd with
        | agg vs h3 h4 =>
          have := i64s_den ⟨h3, h4⟩ hl
          subst this
          exact ⟨.a l, by simp [okKey, h.1], rfl, h.2⟩
      · exact h.elim
    · exact h.elim
theorem mapOf_spec {t : TypeId} {kk : KK} {mp : Bool} (h : mapOf P t = some (kk, mp)) : ∃ k e i, P.underlying t = some (.map k e) ∧ kkOf P k = some kk ∧ P.info? e = some i ∧ i.zero = some (if mp = true then .string ⟨#[]⟩ else .bool false) := by
  unfold mapOf at h
  split at h
  · rename_i k e hu
    split at h
    · rename_i kk' mp' h1 h2
      cases h
      unfold elemMp at h2
      split at h2
      · rename_i i hi
        split at h2
        · rename_i hz; cases h2; exact ⟨k, e, i, hu, h1, hi, by simp [hz]⟩
        · rename_i z hz
          split at h2
          · rename_i h0; cases h2
            refine ⟨k, e, i, hu, h1, hi, ?_⟩
            rw [hz]
            have : z = ⟨#[]⟩ := by
              apply ByteArray.ext
              exact Array.eq_empty_of_size_eq_zero h0
            rw [this]; rfl
          · cases h2
        · cases h2
      · cases h2
    · cases h
  · cases h
theorem mget_ok (hs : StOk W C ρ s a w) {t : TypeId} {x i : Operand} {kk : KK} {mp ok : Bool} (ho : o.op = .lookup t x i ok) (hm : mapOf P t = some (kk, mp)) (h : vst s (.mget kk mp ok x i) K) : Res true P W C ρ o a w K := by
  obtain ⟨k, e, ie, hu, hk, hi, hz⟩ := mapOf_spec hm
  simp only [vst] at h
  have hdx := hs.fr.ev x
  have hdi := hs.fr.ev i
  split at h
  · rename_i n hx
    rw [hx] at hdx
    split at h
    · rename_i kk' mp' es hl
      obtain ⟨⟨rfl, rfl⟩, h⟩ := h
      obtain ⟨key, hok, hv, hK⟩ := keyK_ok hdi h
      generalize hvx : a.eval x = vx at hdx
      cases hdx with
      | @mp _ b hb =>
        obtain ⟨b', l, c, h1, h2, h3⟩ := hs.hp.obj n _ hl
        rw [hb] at h1; cases h1
        have hlt : b < w.heap.size := (Array.getElem?_eq_some_iff.1 h2).1
        have hdv : ∀ x : Option ByteArray, x = getM es key → Den W C ρ (mgetV mp' ok es key) (if ok = true then .tuple #[(match x with | some y => valV mp' y | none => if mp' = true then .string ⟨#[]⟩ else .bool false), .bool x.isSome] else (match x with | some y => valV mp' y | none => if mp' = true then .string ⟨#[]⟩ else .bool false)) := by
          rintro x rfl
          have one : Den W C ρ (if mp' = true then .v (.string (strM es key)) else .v (.bool (hasM es key))) (match getM es key with | some y => valV mp' y | none => if mp' = true then .string ⟨#[]⟩ else .bool false) := by
            cases hg : getM es key <;> cases mp' <;> simp [strM, hasM, hg, valV] <;> exact .v _
          unfold mgetV
          cases ok
          · simpa using one
          · simp only [if_true]
            refine .tup [_, _] rfl (DenL.cons one (DenL.cons (.v _) .nil)).2
        refine res_run hK (hdv _ rfl) fun w' hw' => ?_
        have h2' : w'.heap[b]? = some (.map l c) := ((hw' rfl).block b hlt).trans h2
        unfold execOp; rw [ho]
        simp only [hvx, hv]
        have hzv : (zeroValue e).run P w' = .ok (if mp' = true then .string ⟨#[]⟩ else .bool false) w' := by simp [zeroValue, typeInfo, hi, hz]
        rcases h3.find hk hok w' with ⟨h4, h5, _⟩ | ⟨j, e0, y, h4, h5, h6, h7, h8⟩
        · cases ok <;> simp [Instr.lookup, run_underlying hu, MapKept.run_getObj_map h2', kk_check hk hok, h4, hzv, h5]
        · cases ok <;> simp [Instr.lookup, run_underlying hu, MapKept.run_getObj_map h2', kk_check hk hok, h4, h7, h8]
    · exact h.elim
  · exact h.elim

def isLd : IOp → Bool
  | .load _ _ _ => true
  | .mget _ _ _ _ _ => true
  | _ => false

theorem vst_ok (hs : StOk W C ρ s a w) {io : IOp} (hl : lowV P o.op = some io) (h : vst s io K) : Res (isLd io) P W C ρ o a w K := by
  generalize ho : o.op = op at hl
  unfold lowV at hl
  split at hl
  · cases hl; exact mov_ok hs (.inl ho) h
  · cases hl; exact mov_ok hs (.inr ho) h
  · cases hl; exact pick_ok hs ho h
  · cases hl; exact ext_ok hs ho h
  · cases hl; exact nilc_ok hs ho h
  · cases hl; exact una_ok hs ho h
  · split at hl
    · cases hl; exact bin_ok hs ho h
    · cases hl; exact bin_ok hs ho h
    · rename_i hu
      split at hl
      · split at hl
        · cases hl; exact snil_ok hs ho rfl hu h
        · cases hl; exact snil_ok hs ho rfl hu h
        · cases hl
      · cases hl
    · rename_i hu
      split at hl
      · cases hl; exact beq_ok hs ho rfl hu h
      · cases hl; exact beq_ok hs ho rfl hu h
      · cases hl
    · rename_i hu
      split at hl
      · rename_i he hz
        split at hl
        · cases hl; exact aeq_ok hs ho rfl hu he hz h
        · cases hl; exact aeq_ok hs ho rfl hu he hz h
        · cases hl
      · rename_i he hz
        split at hl
        · rename_i hn
          obtain ⟨rfl, hp⟩ := hn
          split at hl
          · cases hl; exact heq_ok hs ho rfl hu he hz hp h
          · cases hl; exact heq_ok hs ho rfl hu he hz hp h
          · cases hl
        · cases hl
      · cases hl
    · cases hl
  · split at hl
    · rename_i k hs1 hu
      cases hl
      exact cvi_ok hs ho hu ⟨_, hs1⟩ h
    · cases hl
  · split at hl
    · rename_i hc; cases hl; exact load_ok hs ho hc h
    · cases hl
  · split at hl
    · rename_i hu
      split at hl
      · rename_i hf
        split at hl
        · rename_i hz; cases hl; exact fadr_ok hs ho hu hf hz h
        · cases hl
      · cases hl
    · cases hl
  · split at hl
    · rename_i hu
      split at hl
      · rename_i hf
        split at hl
        · rename_i hz; cases hl; exact fld_ok hs ho hu hf hz h
        · cases hl
      · cases hl
    · cases hl
  · split at hl
    · rename_i hu
      split at hl
      · rename_i hz; cases hl; exact iadr_ok hs ho hu hz h
      · cases hl
    · rename_i hu
      split at hl
      · rename_i hz; cases hl; exact iarr_ok hs ho hu hz h
      · cases hl
    · cases hl
  · split at hl
    · rename_i hu
      split at hl
      · rename_i hc hz
        split at hl
        · rename_i e; subst e; cases hl; exact idx_ok hs ho hu hz hc h
        · cases hl
      · cases hl
    · rename_i hu; cases hl; exact sidx_ok hs ho hu h
    · cases hl
  · split at hl
    · rename_i hu
      split at hl
      · rename_i hz; cases hl; exact slc_ok hs ho hu hz h
      · cases hl
    · rename_i hu; cases hl; exact sslc_ok hs ho hu h
    · rename_i hu
      split at hl
      · rename_i hz; cases hl; exact slca_ok hs ho hu hz h
      · cases hl
    · cases hl
  · split at hl
    · rename_i hu
      split at hl
      · rename_i hz; cases hl; exact slc3_ok hs ho hu hz h
      · cases hl
    · cases hl
  · split at hl
    · rename_i hp
      split at hl
      · rename_i hps; cases hl; exact bld_ok hs ho hp hps h
      · cases hl
    · cases hl
  · cases hl; exact mfn_ok hs ho h
  · split at hl
    · rename_i hu; cases hl; exact len_ok hs ho ⟨_, hu⟩ h
    · rename_i hu; cases hl; exact slen_ok hs ho hu h
    · cases hl
  · split at hl
    · rename_i hu; cases hl; exact s2a_ok hs ho hu h
    · cases hl
  · split at hl
    · rename_i hm; cases hl; exact mget_ok hs ho hm h
    · cases hl
  · cases hl
end
end Go.Proofs.YtnbfnpnephfjaaaE

/-! Operations that make or change memory. -/
namespace Go.Proofs.YtnbfnpnephfjaaaE
open Go Go.RowKit
set_option linter.unusedSimpArgs false
set_option linter.unusedVariables false

def upd : Hp → Nat → AObj → Hp
  | [], _, _ => []
  | (i, x) :: r, k, o => if i = k then (i, o) :: r else (i, x) :: upd r k o
def era : Hp → Nat → Hp
  | [], _ => []
  | (i, x) :: r, k => if i = k then era r k else (i, x) :: era r k

theorem lk_upd {o : AObj} {j : Nat} : ∀ (L : Hp) {k : Nat}, lk (upd L k o) j = if j = k then (lk L k).map fun _ => o else lk L j
  | [], k => by simp [upd, lk]
  | (i, x) :: r, k => by
    simp only [upd]
    by_cases h : i = k
    · subst h
      by_cases hj : i = j
      · subst hj; simp [lk]
      · simp [lk, hj, Ne.symm hj]
    · simp only [h, if_false, lk]
      by_cases hj : i = j
      · subst hj; simp [h]
      · simp only [hj, if_false]; rw [lk_upd r]
theorem lk_era {j k : Nat} : ∀ (L : Hp), lk (era L k) j = if j = k then none else lk L j
  | [] => by simp [era, lk]
  | (i, x) :: r => by
    simp only [era]
    by_cases h : i = k
    · subst h
      rw [if_pos rfl, lk_era r]
      by_cases hj : j = i
      · simp [hj]
      · simp [lk, hj, Ne.symm hj]
    · simp only [h, if_false, lk]
      by_cases hj : i = j
      · subst hj; simp [h]
      · simp only [hj, if_false]; exact lk_era r

def nset (ρ : Nm) (n : Nat) (v : Option (Nat × Nat × Nat)) : Nm := fun m => if m = n then some v else ρ m
theorem nset_sub {ρ : Nm} {n : Nat} (h : ρ n = none) (v : Option (Nat × Nat × Nat)) : Sub0 ρ (nset ρ n v) := fun m x hx => by
  unfold nset
  by_cases e : m = n
  · subst e; rw [h] at hx; cases hx
  · rw [if_neg e]; exact hx
theorem nset_same (ρ : Nm) (n : Nat) (v : Option (Nat × Nat × Nat)) : nset ρ n v n = some v := by simp [nset]

section
variable {W : World} {C : CR} {ρ : Nm}

/-- A block of an object. -/
def Foot (ρ : Nm) (m : Nat) (o : AObj) (b : Nat) : Prop := (∃ x, ρ m = some (some (b, x))) ∨ FootO o b
theorem HpOk.foot_apart {nx : Nat} {w : World} {L : Hp} (h : HpOk W C ρ nx w L) {m m' : Nat} {o o' : AObj} (hm : lk L m = some o) (hm' : lk L m' = some o') (hne : m ≠ m') {b : Nat} (h1 : Foot ρ m o b) (h2 : Foot ρ m' o' b) : False := by
  rcases h1 with ⟨x, h1⟩ | h1 <;> rcases h2 with ⟨x', h2⟩ | h2
  · exact h.apart m o m' o' b x b x' hm hm' hne h1 h2 rfl
  · exact (h.apartF m' o' m o b hm' hm h2).1 x h1
  · exact (h.apartF m o m' o' b hm hm' h1).1 x' h2
  · exact (h.apartF m o m' o' b hm hm' h1).2 hne h2
theorem HpOk.foot_own {nx : Nat} {w : World} {L : Hp} (h : HpOk W C ρ nx w L) {m : Nat} {o : AObj} (hm : lk L m = some o) {b : Nat} (h1 : Foot ρ m o b) : b < w.heap.size ∧ (W.heap.size ≤ b ∨ C.chg b) := by
  rcases h1 with ⟨x, h1⟩ | h1
  · exact h.own m o b x hm h1
  · exact h.ownF m o b hm h1

/-- Some objects are kept, one is new (in blocks of its own, or where one that is given up lay). -/
theorem HpOk.ext' {nx : Nat} {w w' : World} {L E : Hp} (h : HpOk W C ρ nx w L) {v : Option (Nat × Nat × Nat)} {o : AObj}
    (hE : ∀ k ob, lk E k = some ob → lk L k = some ob)
    (os : w'.os = w.os) (tape : w'.tape = w.tape) (output : w'.output = w.output) (size : w.heap.size ≤ w'.heap.size)
    (keep : ∀ k ob b, lk E k = some ob → Foot ρ k ob b → w'.heap[b]? = w.heap[b]? ∧ (∀ x', v ≠ some (b, x')) ∧ ¬ FootO o b)
    (old : ∀ b, b < W.heap.size → ¬ C.chg b → w'.heap[b]? = w.heap[b]?)
    (hv : ∀ b x, v = some (b, x) → b < w'.heap.size ∧ (W.heap.size ≤ b ∨ C.chg b))
    (hvF : ∀ b, FootO o b → (b < w'.heap.size ∧ (W.heap.size ≤ b ∨ C.chg b)) ∧ ∀ x, v ≠ some (b, x))
    (ho : ObjOk W C (nset ρ nx v) w' nx o) : HpOk W C (nset ρ nx v) (nx + 1) w' ((nx, o) :: E) := by
  have hnx : ρ nx = none := h.above nx (Nat.le_refl _)
  have hs := nset_sub hnx v
  have hlt : ∀ k y, (nset ρ nx v) k = some y → k ≠ nx → ρ k = some y := fun k y hy hne => by
    unfold nset at hy; rwa [if_neg hne] at hy
  have hlk : ∀ m ob, lk ((nx, o) :: E) m = some ob → (m = nx ∧ ob = o) ∨ (m ≠ nx ∧ lk E m = some ob) := fun m ob hm => by
    simp only [lk] at hm
    by_cases e : nx = m
    · rw [if_pos e] at hm; cases hm; exact .inl ⟨e.symm, rfl⟩
    · rw [if_neg e] at hm; exact .inr ⟨fun h => e h.symm, hm⟩
  have hft : ∀ m ob b, m ≠ nx → Foot (nset ρ nx v) m ob b → Foot ρ m ob b := fun m ob b hne hf => by
    rcases hf with ⟨x, hx⟩ | hf
    · exact .inl ⟨x, hlt m _ hx hne⟩
    · exact .inr hf
  have hfn : ∀ b, Foot (nset ρ nx v) nx o b → (∃ x, v = some (b, x)) ∨ FootO o b := fun b hf => by
    rcases hf with ⟨x, hx⟩ | hf
    · rw [nset_same] at hx; exact .inl ⟨x, by simpa using hx⟩
    · exact .inr hf
  have hap : ∀ m ob m' ob' b, lk ((nx, o) :: E) m = some ob → lk ((nx, o) :: E) m' = some ob' → m ≠ m' → Foot (nset ρ nx v) m ob b → Foot (nset ρ nx v) m' ob' b → False := fun m ob m' ob' b hm hm' hne h1 h2 => by
    rcases hlk m ob hm with ⟨rfl, rfl⟩ | ⟨hne1, hmE⟩ <;> rcases hlk m' ob' hm' with ⟨rfl, rfl⟩ | ⟨hne2, hmE'⟩
    · exact hne rfl
    · obtain ⟨_, k1, k2⟩ := keep _ _ b hmE' (hft _ _ _ hne2 h2)
      rcases hfn b h1 with ⟨x, e⟩ | e
      · exact k1 x e
      · exact k2 e
    · obtain ⟨_, k1, k2⟩ := keep _ _ b hmE (hft _ _ _ hne1 h1)
      rcases hfn b h2 with ⟨x, e⟩ | e
      · exact k1 x e
      · exact k2 e
    · exact h.foot_apart (hE _ _ hmE) (hE _ _ hmE') hne (hft _ _ _ hne1 h1) (hft _ _ _ hne2 h2)
  have how : ∀ m ob b, lk ((nx, o) :: E) m = some ob → Foot (nset ρ nx v) m ob b → b < w'.heap.size ∧ (W.heap.size ≤ b ∨ C.chg b) := fun m ob b hm hf => by
    rcases hlk m ob hm with ⟨rfl, rfl⟩ | ⟨hne, hm⟩
    · rcases hfn b hf with ⟨x, e⟩ | e
      · exact hv b x e
      · exact (hvF b e).1
    · have := h.foot_own (hE _ _ hm) (hft _ _ _ hne hf)
      exact ⟨Nat.lt_of_lt_of_le this.1 size, this.2⟩
  refine ⟨fun m ob hm => ?_, fun m ob m' ob' b x b' x' hm hm' hne h1 h2 => ?_, fun m ob b x hm hx => how m ob b hm (.inl ⟨x, hx⟩), fun m ob m' ob' b hm hm' hf => ⟨fun x hx => ?_, fun hne hf' => hap m ob m' ob' b hm hm' hne (.inr hf) (.inr hf')⟩, fun m ob b hm hf => how m ob b hm (.inr hf),
    fun m hm => ?_, os.trans h.os, tape.trans h.tape, output.trans h.output, Nat.le_trans h.size size, fun b hb hc => (old b hb hc).trans (h.old b hb hc)⟩
  · rcases hlk m ob hm with ⟨rfl, rfl⟩ | ⟨hne, hm⟩
    · exact ho
    · exact ((h.obj m ob (hE _ _ hm)).world (fun b x hx => (keep m ob b hm (.inl ⟨x, hx⟩)).1) (fun b hf => (keep m ob b hm (.inr hf)).1)).mono hs
  · intro e; subst e
    exact hap m ob m' ob' b hm hm' hne (.inl ⟨x, h1⟩) (.inl ⟨x', h2⟩)
  · by_cases e : m = m'
    · subst e
      rw [hm] at hm'; cases hm'
      rcases hlk m ob hm with ⟨rfl, rfl⟩ | ⟨hne, hm⟩
      · rw [nset_same] at hx; exact (hvF b hf).2 x (by simpa using hx)
      · exact (h.apartF m ob m ob b (hE _ _ hm) (hE _ _ hm) hf).1 x (hlt m _ hx hne)
    · exact hap m ob m' ob' b hm hm' e (.inr hf) (.inl ⟨x, hx⟩)
  · unfold nset
    rw [if_neg (by omega)]
    exact h.above m (by omega)
theorem HpOk.ext {nx : Nat} {w w' : World} {L E : Hp} (h : HpOk W C ρ nx w L) {v : Option (Nat × Nat × Nat)} {o : AObj}
    (hE : ∀ k ob, lk E k = some ob → lk L k = some ob)
    (os : w'.os = w.os) (tape : w'.tape = w.tape) (output : w'.output = w.output) (size : w.heap.size ≤ w'.heap.size)
    (keep : ∀ k ob b, lk E k = some ob → Foot ρ k ob b → w'.heap[b]? = w.heap[b]? ∧ ∀ x', v ≠ some (b, x'))
    (old : ∀ b, b < W.heap.size → ¬ C.chg b → w'.heap[b]? = w.heap[b]?)
    (hv : ∀ b x, v = some (b, x) → b < w'.heap.size ∧ (W.heap.size ≤ b ∨ C.chg b))
    (ho : ObjOk W C (nset ρ nx v) w' nx o) (hF : ∀ b, ¬ FootO o b := by exact fun _ h => h) : HpOk W C (nset ρ nx v) (nx + 1) w' ((nx, o) :: E) :=
  h.ext' hE os tape output size (fun k ob b h1 h2 => ⟨(keep k ob b h1 h2).1, (keep k ob b h1 h2).2, hF b⟩) old hv (fun b hf => absurd hf (hF b)) ho

/-- A new block. -/
theorem HpOk.alloc {nx : Nat} {w : World} {L : Hp} (h : HpOk W C ρ nx w L) {ob : Obj} {w1 : World} (hw1 : Below w.heap.size w w1) (hsz : w1.heap.size = w.heap.size) {y : Nat × Nat} {o : AObj}
    (ho : ObjOk W C (nset ρ nx (some (w.heap.size, y))) (w1.alloc ob) nx o) (hF : ∀ b, ¬ FootO o b := by exact fun _ h => h) : HpOk W C (nset ρ nx (some (w.heap.size, y))) (nx + 1) (w1.alloc ob) ((nx, o) :: L) := by
  have hb := hw1.alloc (by omega) ob
  refine h.ext (fun _ _ hk => hk) hb.os hb.tape hb.output hb.size (fun k ob' b hk hx => ?_) (fun b hlt hc => hb.block b (Nat.lt_of_lt_of_le hlt h.size)) (fun b x e => ?_) ho hF
  · have := (h.foot_own hk hx).1
    exact ⟨hb.block b this, fun x' e => by cases e; omega⟩
  · cases e; exact ⟨by simp [hsz], .inl h.size⟩

/-- One object is turned into another one, others are given up. -/
theorem HpOk.turn {nx : Nat} {w w' : World} {L E : Hp} (h : HpOk W C ρ nx w L) (hE : ∀ k ob, lk E k = some ob → lk L k = some ob) {m : Nat} {o o' : AObj} (hm : lk E m = some o)
    (os : w'.os = w.os) (tape : w'.tape = w.tape) (output : w'.output = w.output) (size : w.heap.size ≤ w'.heap.size)
    (keep : ∀ k ob b, lk E k = some ob → k ≠ m → Foot ρ k ob b → w'.heap[b]? = w.heap[b]? ∧ ¬ FootO o' b)
    (old : ∀ b, b < W.heap.size → ¬ C.chg b → w'.heap[b]? = w.heap[b]?)
    (hF : ∀ b, FootO o' b → (b < w'.heap.size ∧ (W.heap.size ≤ b ∨ C.chg b)) ∧ ∀ x, ρ m ≠ some (some (b, x)))
    (ho : ObjOk W C ρ w' m o') : HpOk W C ρ nx w' (upd E m o') := by
  have hl : ∀ k ob, lk (upd E m o') k = some ob → (k = m ∧ ob = o') ∨ (k ≠ m ∧ lk E k = some ob) := fun k ob hk => by
    rw [lk_upd] at hk
    by_cases e : k = m
    · rw [if_pos e, hm] at hk; simp at hk; exact .inl ⟨e, hk.symm⟩
    · rw [if_neg e] at hk; exact .inr ⟨e, hk⟩
  have hap : ∀ k ob k' ob' b, lk (upd E m o') k = some ob → lk (upd E m o') k' = some ob' → k ≠ k' → Foot ρ k ob b → Foot ρ k' ob' b → False := fun k ob k' ob' b hk hk' hne h1 h2 => by
    rcases hl k ob hk with ⟨rfl, rfl⟩ | ⟨n1, e1⟩ <;> rcases hl k' ob' hk' with ⟨rfl, rfl⟩ | ⟨n2, e2⟩
    · exact hne rfl
    · rcases h1 with h1 | h1
      · exact h.foot_apart (hE _ _ hm) (hE _ _ e2) hne (.inl h1) h2
      · exact (keep _ _ b e2 n2 h2).2 h1
    · rcases h2 with h2 | h2
      · exact h.foot_apart (hE _ _ e1) (hE _ _ hm) hne h1 (.inl h2)
      · exact (keep _ _ b e1 n1 h1).2 h2
    · exact h.foot_apart (hE _ _ e1) (hE _ _ e2) hne h1 h2
  have how : ∀ k ob b, lk (upd E m o') k = some ob → Foot ρ k ob b → b < w'.heap.size ∧ (W.heap.size ≤ b ∨ C.chg b) := fun k ob b hk hf => by
    rcases hl k ob hk with ⟨rfl, rfl⟩ | ⟨n1, e1⟩
    · rcases hf with ⟨x, hx⟩ | hf
      · have := h.own k o b x (hE _ _ hm) hx
        exact ⟨Nat.lt_of_lt_of_le this.1 size, this.2⟩
      · exact (hF b hf).1
    · have := h.foot_own (hE _ _ e1) hf
      exact ⟨Nat.lt_of_lt_of_le this.1 size, this.2⟩
  refine ⟨fun k ob hk => ?_, fun k ob k' ob' b x b' x' hk hk' hne h1 h2 => ?_, fun k ob b x hk hx => how k ob b hk (.inl ⟨x, hx⟩), fun k ob k' ob' b hk hk' hf => ⟨fun x hx => ?_, fun hne hf' => hap k ob k' ob' b hk hk' hne (.inr hf) (.inr hf')⟩, fun k ob b hk hf => how k ob b hk (.inr hf),
    h.above, os.trans h.os, tape.trans h.tape, output.trans h.output, Nat.le_trans h.size size, fun b hb hc => (old b hb hc).trans (h.old b hb hc)⟩
  · rcases hl k ob hk with ⟨rfl, rfl⟩ | ⟨n1, e1⟩
    · exact ho
    · exact (h.obj k ob (hE _ _ e1)).world (fun b x hx => (keep k ob b e1 n1 (.inl ⟨x, hx⟩)).1) (fun b hf => (keep k ob b e1 n1 (.inr hf)).1)
  · intro e; subst e
    exact hap k ob k' ob' b hk hk' hne (.inl ⟨x, h1⟩) (.inl ⟨x', h2⟩)
  · by_cases e : k = k'
    · subst e
      rw [hk] at hk'; cases hk'
      rcases hl k ob hk with ⟨rfl, rfl⟩ | ⟨n1, e1⟩
      · exact (hF b hf).2 x hx
      · exact (h.apartF k ob k ob b (hE _ _ e1) (hE _ _ e1) hf).1 x hx
    · exact hap k ob k' ob' b hk hk' e (.inr hf) (.inl ⟨x, hx⟩)

/-- One object is changed where it lies. -/
theorem HpOk.change' {nx : Nat} {w w' : World} {L : Hp} (h : HpOk W C ρ nx w L) {m b : Nat} {o o' : AObj} (hm : lk L m = some o) (hb : Foot ρ m o b)
    (os : w'.os = w.os) (tape : w'.tape = w.tape) (output : w'.output = w.output) (size : w'.heap.size = w.heap.size) (keep : ∀ k, k ≠ b → w'.heap[k]? = w.heap[k]?)
    (hF : ∀ k, FootO o' k → FootO o k) (ho : ObjOk W C ρ w' m o') : HpOk W C ρ nx w' (upd L m o') := by
  refine h.turn (fun _ _ hk => hk) hm os tape output (by rw [size]; exact Nat.le_refl _) (fun k ob c hk hne hf => ⟨keep c (fun e => ?_), fun hf' => h.foot_apart hk hm hne hf (.inr (hF _ hf'))⟩) (fun c hc hcc => keep c (fun e => ?_))
    (fun c hf => ⟨by rw [size]; exact h.ownF m o c hm (hF _ hf), (h.apartF m o m o c hm hm (hF _ hf)).1⟩) ho
  · subst e; exact h.foot_apart hk hm hne hf hb
  · subst e
    rcases (h.foot_own hm hb).2 with h5 | h5
    · omega
    · exact hcc h5
theorem HpOk.change {nx : Nat} {w w' : World} {L : Hp} (h : HpOk W C ρ nx w L) {m b : Nat} {x : Nat × Nat} {o o' : AObj} (hm : lk L m = some o) (hb : ρ m = some (some (b, x)))
    (os : w'.os = w.os) (tape : w'.tape = w.tape) (output : w'.output = w.output) (size : w'.heap.size = w.heap.size) (keep : ∀ k, k ≠ b → w'.heap[k]? = w.heap[k]?)
    (ho : ObjOk W C ρ w' m o') (hF : ∀ k, FootO o' k → FootO o k := by exact fun _ h => h.elim) : HpOk W C ρ nx w' (upd L m o') :=
  h.change' hm (.inl ⟨x, hb⟩) os tape output size keep hF ho

theorem one_of {av : AVal} {v : Value} (h : Den W C ρ av v) (ho : oneA av = true) : v.oneCell' = true := by
  cases h <;> first | (simp [oneA] at ho; done) | rfl | skip
  cases v <;> first | (simp [oneA] at ho; done) | rfl

theorem ones_of {cs : List AVal} {vs : List Value} (h : DenL W C ρ cs vs) (ho : cs.all oneA = true) : ∀ u ∈ vs, u.oneCell' = true := fun u hu => by
  obtain ⟨k, hk, rfl⟩ := List.getElem_of_mem hu
  have hk' : k < cs.length := by have := h.1; omega
  have := h.2 k cs[k] vs[k] (List.getElem?_eq_getElem hk') (List.getElem?_eq_getElem hk)
  exact one_of this (List.all_eq_true.1 ho _ (List.getElem_mem hk'))
end
end Go.Proofs.YtnbfnpnephfjaaaE

/-! Operations that make or change memory: what they say is so. -/
namespace Go.Proofs.YtnbfnpnephfjaaaE
open Go Go.RowKit
set_option linter.unusedSimpArgs false
set_option linter.unusedVariables false

def S.add (s : S) (o : AObj) : S := { s with L := (s.nx, o) :: s.L, nx := s.nx + 1 }
def S.hp (s : S) (L : Hp) : S := { s with L := L }

def decN (t : Ty) : Nat → List AVal → Option (List t.D)
  | 0, [] => some []
  | 0, _ :: _ => none
  | n + 1, l => match dec t (l.take (sz t)), decN t n (l.drop (sz t)) with
    | some x, some xs => some (x :: xs)
    | _, _ => none

/-- The rows that a slice value reads as. -/
def rowsK (t : Ty) (L : Hp) (y : AVal) (K : List t.D → Prop) : Prop :=
  match y with
  | .rs t' xs => castK t t' xs K
  | .sub m z lo len => match lk L m with
    | some (.row t' xs) => (z = sz t' ∧ lo + len ≤ xs.length) ∧ castK t t' ((xs.drop lo).take len) K
    | _ => False
  | .fs m z b o lo n c => match lk L m with
    | some (.nrow tn xs es yn) => someK (es b) fun q => (q.1 = o ∧ z = sz (inn tn) ∧ lo + n ≤ q.2.2.length) ∧ castK t (inn tn) ((q.2.2.drop lo).take n) K
    | _ => False
  | .v (.slice none 0 0) => K []
  | _ => False

def appRoom : Nat := 70368744177664

/-- What stays behind the appended elements of a row that is appended to itself. -/
def selK (sf : Bool) (p q : Prop) : Prop := if sf = true then p ∨ q else q
/-- A row of which a part is cleared (a cleared end is passed over). -/
def clrL {α : Type} (xs : List α) (d : α) (lo len : Nat) : List α := if lo + len = xs.length then xs.take lo else xs.take lo ++ List.replicate len d ++ xs.drop (lo + len)
/-- A row into which another one is copied. -/
def cpyL {α : Type} (xs ys : List α) (lo len : Nat) : List α := xs.take lo ++ ys.take (min len ys.length) ++ xs.drop (lo + min len ys.length)
def selfB : AVal → AVal → Bool
  | .sub m _ _ _, .sub m' _ _ _ => decide (m = m')
  | _, _ => false

/-- Bytes as a string. -/
def bstr (l : List Int) : ByteArray := l.foldl (fun r n => r.push (UInt8.ofNat n.toNat)) ByteArray.empty
def appK (t : Ty) (bytes : Nat) (sf : Bool) (s : S) (x : AVal) (ys : List t.D) (K : AVal → S → Prop) : Prop :=
  match x with
  | .v (.slice none 0 0) => ys.length * bytes ≤ appRoom ∧ K (.sub s.nx (sz t) 0 ys.length) (s.add (.row t ys))
  | .sub m z lo len => match lk s.L m with
    | some (.row t' xs) => castK t t' xs fun xs => (z = sz t ∧ lo + len ≤ xs.length ∧ (len + ys.length) * bytes ≤ appRoom) ∧
        (lo + len = xs.length ∨ lo + len + ys.length ≤ xs.length) ∧
        selK sf (K (.sub s.nx (sz t) 0 (len + ys.length)) ((s.hp (era s.L m)).add (.row t ((xs.drop lo).take len ++ ys ++ xs.drop (lo + len + ys.length)))))
          (K (.sub s.nx (sz t) 0 (len + ys.length)) ((s.hp (era s.L m)).add (.row t ((xs.drop lo).take len ++ ys ++ []))))
    | _ => False
  | _ => False

/-! Rows of rows. -/
def lastA : List AVal → Option AVal
  | [] => none
  | x :: r => match r with
    | [] => some x
    | _ :: _ => lastA r
def initA : List AVal → List AVal
  | [] => []
  | x :: r => match r with
    | [] => []
    | _ :: _ => x :: initA r
/-- What an inner row that is handed in is told by. -/
def Abs {t : Ty} (es : Fam t) (zs : List (inn t).D) (n : Nat) (r : Ref) (es' : Fam t) : Prop :=
  (r = .nil ∧ n = 0 ∧ es' = es) ∨ ∃ b o c, r = .own b o n c ∧ es b = none ∧ n ≤ zs.length ∧ zs.length ≤ c ∧ es' = fput es b (o, c, zs)
def innK (t : Ty) (m : Nat) (L : Hp) (es : Fam t) (av : AVal) (K : Ref → Fam t → Hp → Prop) : Prop :=
  match av with
  | .fs m' z b o lo n c => (z = sz (inn t) ∧ lo = 0) ∧ K (.own b o n c) es L
  | .v (.slice none 0 0) => K .nil es L
  | .sub m2 z lo n => match lk L m2 with
    | some (.row t2 zs) => castK (inn t) t2 zs fun zs => (m2 ≠ m ∧ z = sz (inn t) ∧ lo = 0 ∧ n ≤ zs.length) ∧ ∀ r es', Abs es zs n r es' → K r es' (era L m2)
    | _ => False
  | _ => False
def nstoreK (t : Ty) (m : Nat) (L : Hp) (xs : List (NR t)) (es : Fam t) (ys : List t.D) (i f : Nat) (cs : List AVal) (K : Hp → Prop) : Prop :=
  if f + cs.length < sz t then i < xs.length ∧ someK (decH t (splice (hdE t (xs.getD i (dfltN t)).x) f cs)) fun x' => K (upd L m (.nrow t (xs.set i ⟨x', (xs.getD i (dfltN t)).r⟩) es ys))
  else (f + cs.length = sz t ∧ i < xs.length + ys.length) ∧ someK (lastA cs) fun av => innK t m L es av fun r es' L' =>
    impK (i < xs.length) (someK (decH t (splice (hdE t (xs.getD i (dfltN t)).x) f (initA cs))) fun x' => K (upd L' m (.nrow t (xs.set i ⟨x', r⟩) es' ys))) ∧
    impK (¬ i < xs.length) (i = xs.length ∧ someK (decH t (splice (hdE t (ys.getD 0 (dflt t))) f (initA cs))) fun x' => K (upd L' m (.nrow t (xs ++ [⟨x', r⟩]) es' ys.tail)))
def fstoreK (t : Ty) (m : Nat) (L : Hp) (xs : List (NR t)) (es : Fam t) (ys : List t.D) (z b o i f : Nat) (cs : List AVal) (K : Hp → Prop) : Prop :=
  someK (es b) fun y => (y.1 = o ∧ z = sz (inn t) ∧ i < y.2.2.length ∧ f + cs.length ≤ z) ∧ someK (dec (inn t) (splice (enc (inn t) (y.2.2.getD i (dflt (inn t)))) f cs)) fun x' =>
    K (upd L m (.nrow t xs (fput es b (o, y.2.1, y.2.2.set i x')) ys))
def bldN (t : Ty) (s : S) (len : Nat) (l : List AVal) (K : AVal → S → Prop) : Prop :=
  match len with
  | 0 => K (.sub s.nx (sz t) 0 0) (s.add (.nrow t [] (fam0 t) []))
  | 1 => someK (lastA l) fun av => innK t s.nx s.L (fam0 t) av fun r es' L' => someK (decH t (initA l)) fun x' => K (.sub s.nx (sz t) 0 1) ((s.hp L').add (.nrow t [⟨x', r⟩] es' []))
  | _ => False
def appF (t : Ty) (bytes : Nat) (s : S) (m z b o lo n c : Nat) (ys : List t.D) (K : AVal → S → Prop) : Prop :=
  match lk s.L m with
  | some (.nrow tn xs es yn) => someK (es b) fun q => (z = sz (inn tn) ∧ q.1 = o ∧ q.2.1 = c ∧ lo + n ≤ q.2.2.length ∧ (n + ys.length) * bytes ≤ appRoom) ∧ castK (inn tn) t ys fun ys =>
      impK (n + ys.length ≤ c - lo) (K (.fs m z b o lo (n + ys.length) c) (s.hp (upd s.L m (.nrow tn xs (fput es b (o, c, q.2.2.take (lo + n) ++ ys ++ q.2.2.drop (lo + n + ys.length))) yn)))) ∧
      impK (¬ n + ys.length ≤ c - lo) (∀ b' c', es b' = none → n + ys.length ≤ c' → K (.fs m z b' 0 0 (n + ys.length) c') (s.hp (upd s.L m (.nrow tn xs (fput es b' (0, c', (q.2.2.drop lo).take n ++ ys)) yn))))
  | _ => False
def clrF (t : Ty) (s : S) (m z b o lo n c : Nat) (K : AVal → S → Prop) : Prop :=
  match lk s.L m with
  | some (.nrow tn xs es yn) => someK (es b) fun q => (t = inn tn ∧ z = sz (inn tn) ∧ q.1 = o ∧ q.2.1 = c ∧ lo + n ≤ q.2.2.length) ∧
      K .junk (s.hp (upd s.L m (.nrow tn xs (fput es b (o, c, clrL q.2.2 (dflt (inn tn)) lo n)) yn)))
  | _ => False
/-- A row of rows as it stands in a slice from its beginning: its elements, where its inner rows lie, and what is left when it is given up. -/
def baseN (t : Ty) (L : Hp) (x : AVal) (K : Option Nat → List (NR t) → Nat → Fam t → Hp → Prop) : Prop :=
  match x with
  | .v (.slice none 0 0) => K none [] 0 (fam0 t) L
  | .sub m z lo len => match lk L m with
    | some (.nrow t' xs es ys) => castP t t' ⟨xs, es, ys⟩ fun p => (z = sz t ∧ lo = 0 ∧ len ≤ p.xs.length ∧ p.ys = []) ∧ K (some m) p.xs len p.es (era L m)
    | _ => False
  | _ => False
def appN (t : Ty) (bytes : Nat) (s : S) (x y : AVal) (K : AVal → S → Prop) : Prop :=
  baseN t s.L x fun m xs len es L => match y with
  | .rs t' ys => castK t t' ys fun ys => ((len + ys.length) * bytes ≤ appRoom ∧ len = xs.length) ∧ K (.sub s.nx (sz t) 0 (len + ys.length)) ((s.hp L).add (.nrow t xs es ys))
  | .sub m2 z2 lo2 len2 => if m = some m2 then
      (z2 = sz t ∧ lo2 + len2 ≤ xs.length ∧ (len + len2) * bytes ≤ appRoom ∧ len + len2 ≤ xs.length) ∧
        selK true (K (.sub s.nx (sz t) 0 (len + len2)) ((s.hp L).add (.nrow t (xs.take len ++ (xs.drop lo2).take len2 ++ xs.drop (len + len2)) es [])))
          (K (.sub s.nx (sz t) 0 (len + len2)) ((s.hp L).add (.nrow t (xs.take len ++ (xs.drop lo2).take len2 ++ []) es [])))
    else match lk L m2 with
      | some (.nrow t' xs2 es2 ys2) => castP t t' ⟨xs2, es2, ys2⟩ fun p => (z2 = sz t ∧ lo2 + len2 ≤ p.xs.length ∧ p.ys = [] ∧ (len + len2) * bytes ≤ appRoom ∧ len = xs.length) ∧
          ((∀ b, es b ≠ none → p.es b = none) → K (.sub s.nx (sz t) 0 (len + len2)) ((s.hp (era L m2)).add (.nrow t (xs ++ (p.xs.drop lo2).take len2) (fjoin es p.es) [])))
      | _ => False
  | _ => False
def clrN (t : Ty) (s : S) (x : AVal) (K : AVal → S → Prop) : Prop :=
  match x with
  | .sub m z lo len => match lk s.L m with
    | some (.nrow t' xs es ys) => castP t t' ⟨xs, es, ys⟩ fun p => (z = sz t ∧ lo + len = p.xs.length ∧ p.ys = []) ∧ K .junk (s.hp (upd s.L m (.nrow t (p.xs.take lo) p.es [])))
    | _ => False
  | _ => False

def valK (mp : Bool) (av : AVal) (K : ByteArray → Prop) : Prop :=
  if mp = true then match av with
    | .v (.string x) => K x
    | _ => False
  else match av with
    | .v (.bool b) => b = true ∧ K ⟨#[]⟩
    | _ => False

def wst (s : S) (io : IOp) (K : AVal → S → Prop) : Prop :=
  match io with
  | .mmk kk mp => K (.mp s.nx) (s.add (.set kk mp []))
  | .mput kk mp m k v => match s.ev m with
    | .mp n => match lk s.L n with
      | some (.set kk' mp' es) => (kk' = kk ∧ mp' = mp) ∧ keyK kk (s.ev k) fun key => valK mp (s.ev v) fun x => K .junk (s.hp (upd s.L n (.set kk mp ((key, x) :: es))))
      | _ => False
    | _ => False
  | .box x => 0 < (cellsOf (s.ev x)).length ∧ K (.ptr s.nx 0) (s.add (.box (cellsOf (s.ev x))))
  | .new z => K (.ptr s.nx 0) (s.add (.box (z.map .v)))
  | .b2s t x => rowsK t s.L (s.ev x) fun ys => sz t = 1 ∧ someK (u8s (ys.map (enc t)).flatten) fun l => K (.v (.string (bstr l))) s
  | .newr t n => (n ≤ 1000 ∧ flat t = true) ∧ K (.arp s.nx n) (s.add (.row t (List.replicate n (dflt t))))
  | .cpy t x y => rowsK t s.L (s.ev y) fun ys => match s.ev x with
    | .sub m z lo len => match lk s.L m with
      | some (.row t' xs) => castK t t' xs fun xs => (z = sz t ∧ lo + len ≤ xs.length) ∧ K (.v (.int .i64 (min len ys.length : Nat))) (s.hp (upd s.L m (.row t (cpyL xs ys lo len))))
      | _ => False
    | _ => False
  | .store n p x => ((cellsOf (s.ev x)).length = n ∧ 0 < n ∧ (cellsOf (s.ev x)).all oneA = true) ∧ match s.ev p with
    | .ptr m off => match lk s.L m with
      | some (.box old) => off + n ≤ old.length ∧ K .junk (s.hp (upd s.L m (.box (splice old off (cellsOf (s.ev x))))))
      | _ => False
    | .elt m z i f => match lk s.L m with
      | some (.row t xs) => (z = sz t ∧ i < xs.length ∧ f + n ≤ sz t) ∧ someK (dec t (splice (enc t (xs.getD i (dflt t))) f (cellsOf (s.ev x)))) fun y =>
          K .junk (s.hp (upd s.L m (.row t (xs.set i y))))
      | some (.nrow t xs es ys) => z = sz t ∧ nstoreK t m s.L xs es ys i f (cellsOf (s.ev x)) fun L => K .junk (s.hp L)
      | _ => False
    | .fp m z b o i f => match lk s.L m with
      | some (.nrow t xs es ys) => fstoreK t m s.L xs es ys z b o i f (cellsOf (s.ev x)) fun L => K .junk (s.hp L)
      | _ => False
    | .arp m k => match lk s.L m with
      | some (.row t xs) => (xs.length = k ∧ n = k * sz t) ∧ someK (decN t k (cellsOf (s.ev x))) fun ys => K .junk (s.hp (upd s.L m (.row t ys)))
      | _ => False
    | _ => False
  | .mk t bytes x y => match s.ev x, s.ev y with
    | .v (.int _ n), .v (.int _ n') => (n = n' ∧ 0 ≤ n ∧ n * bytes ≤ appRoom ∧ n ≤ 9223372036854775807) ∧ if flat t = true then K (.sub s.nx (sz t) 0 n.toNat) (s.add (.row t (List.replicate n.toNat (dflt t)))) else K (.sub s.nx (sz t) 0 n.toNat) (s.add (.nrow t (List.replicate n.toNat (dfltN t)) (fam0 t) []))
    | _, _ => False
  | .blds t len parts => len ≤ 1000 ∧ fillA s parts ((List.replicate len (zer t)).flatten.map .v) fun l => l.all oneA = true ∧ if flat t = true then someK (decN t len l) fun xs => K (.sub s.nx (sz t) 0 len) (s.add (.row t xs)) else bldN t s len l K
  | .app t bytes x y => if flat t = true then rowsK t s.L (s.ev y) fun ys => match s.ev x with
      | .fs m z b o lo n c => appF t bytes s m z b o lo n c ys K
      | av => appK t bytes (selfB av (s.ev y)) s av ys K
    else appN t bytes s (s.ev x) (s.ev y) K
  | .clr t x => if flat t = false then clrN t s (s.ev x) K else match s.ev x with
    | .fs m z b o lo n c => clrF t s m z b o lo n c K
    | .sub m z lo len => match lk s.L m with
      | some (.row t' xs) => castK t t' xs fun xs => (z = sz t ∧ lo + len ≤ xs.length) ∧ K .junk (s.hp (upd s.L m (.row t (clrL xs (dflt t) lo len))))
      | _ => False
    | _ => False
  | _ => False

def sameV : Value → Value → Bool
  | .int k n, .int k' n' => k == k' && n == n'
  | .bool a, .bool b => a == b
  | .string a, .string b => a.data.toList == b.data.toList
  | .slice none 0 0, .slice none 0 0 => true
  | _, _ => false
theorem sameV_eq {a b : Value} (h : sameV a b = true) : a = b := by
  unfold sameV at h
  split at h
  · simp at h; rw [h.1, h.2]
  · simp at h; rw [h]
  · rename_i x y
    simp at h
    congr 1
    exact ByteArray.ext h
  · rfl
  · cases h
def sameVs : List Value → List Value → Bool
  | [], [] => true
  | a :: x, b :: y => sameV a b && sameVs x y
  | _, _ => false
theorem sameVs_eq : ∀ {a b : List Value}, sameVs a b = true → a = b
  | [], [], _ => rfl
  | [], _ :: _, h => by simp [sameVs] at h
  | _ :: _, [], h => by simp [sameVs] at h
  | a :: x, b :: y, h => by
    simp [sameVs] at h
    rw [sameV_eq h.1, sameVs_eq h.2]

/-- An element type's kind: its size, its zero's cells, its bytes. -/
def kindOf (P : Program) (τ : List (Nat × Ty)) (e : TypeId) : Option (Ty × Nat) :=
  match lk τ e, P.info? e with
  | some t, some i => match i.zero with
    | some z => if i.size = sz t ∧ sameVs z.cells.toList (zer t) = true ∧ 0 < i.bytes then some (t, i.bytes) else none
    | none => none
  | _, _ => none

theorem kindOf_spec {P : Program} {τ : List (Nat × Ty)} {e : TypeId} {t : Ty} {b : Nat} (h : kindOf P τ e = some (t, b)) :
    ∃ i z, P.info? e = some i ∧ i.zero = some z ∧ i.size = sz t ∧ z.cells.toList = zer t ∧ 0 < i.bytes ∧ i.bytes = b := by
  unfold kindOf at h
  split at h
  · rename_i t' i h1 h2
    split at h
    · rename_i z hz
      split at h
      · rename_i hc
        cases h
        exact ⟨i, z, h2, hz, hc.1, sameVs_eq hc.2.1, hc.2.2, rfl⟩
      · cases h
    · cases h
  · cases h

def lowW (P : Program) (τ : List (Nat × Ty)) (o : Op) : Option IOp :=
  match o with
  | .box _ x => some (.box x)
  | .alloc t => match P.info? t with
    | some i => match i.zero with
      | some z => match lk τ (t + 1000000) with
        | some ty => if sameVs z.cells.toList (List.replicate (z.cells.size / sz ty) (zer ty)).flatten = true then some (.newr ty (z.cells.size / sz ty)) else none
        | none => some (.new z.cells.toList)
      | none => none
    | none => none
  | .store t p x => match P.info? t with
    | some i => some (.store i.size p x)
    | none => none
  | .makeSlice t x y => match P.underlying t with
    | some (.slice e) => match kindOf P τ e with
      | some (ty, b) => some (.mk ty b x y)
      | none => none
    | _ => none
  | .buildSlice t len parts => match P.underlying t with
    | some (.slice e) => match kindOf P τ e with
      | some (ty, _) => match partsAt (fun i => some (i * sz ty, sz ty)) parts.toList with
        | some ps => some (.blds ty len ps)
        | none => none
      | none => none
    | _ => none
  | .call ⟨.builtin .clear, ⟨[x]⟩, ⟨[t]⟩⟩ => match P.underlying t with
    | some (.slice e) => match kindOf P τ e with
      | some (ty, _) => some (.clr ty x)
      | none => none
    | _ => none
  | .call ⟨.builtin .copy, ⟨[x, y]⟩, ⟨[t, t']⟩⟩ => if t = t' then match P.underlying t with
    | some (.slice e) => match kindOf P τ e with
      | some (ty, _) => some (.cpy ty x y)
      | none => none
    | _ => none else none
  | .call ⟨.builtin .append, ⟨[x, y]⟩, ⟨[t, t']⟩⟩ => if t = t' then match P.underlying t with
    | some (.slice e) => match kindOf P τ e with
      | some (ty, b) => some (.app ty b x y)
      | none => none
    | _ => none else none
  | .convert src d x => match P.underlying src, P.underlying d with
    | some (.slice e), some .string => match P.underlying e, kindOf P τ e with
      | some (.int .u8), some (ty, _) => some (.b2s ty x)
      | _, _ => none
    | _, _ => none
  | .makeMap t none => match mapOf P t with
    | some (kk, mp) => some (.mmk kk mp)
    | none => none
  | .makeMap t (some (.const (.int _ _))) => match mapOf P t with
    | some (kk, mp) => some (.mmk kk mp)
    | none => none
  | .mapUpdate t m k x => match mapOf P t with
    | some (kk, mp) => some (.mput kk mp m k x)
    | none => none
  | .insert t m k x => match mapOf P t with
    | some (kk, mp) => some (.mput kk mp m k x)
    | none => none
  | _ => none

section
variable {P : Program} {W : World} {C : CR} {ρ : Nm} {s : S} {a : Act} {w : World} {o : Oper} {K : AVal → S → Prop}

/-- The operation comes to an end, in a state of which K speaks. -/
def WRes (mild : Bool) (P : Program) (W : World) (C : CR) (ρ : Nm) (s : S) (a : Act) (w : World) (o : Oper) (K : AVal → S → Prop) : Prop :=
  ∃ av v s' w' ρ', K av s' ∧ ((execOp a.eval o).run P w = .ok (.value v) w' ∨ ((execOp a.eval o).run P w = .ok .skip w' ∧ v = undef)) ∧ Sub0 ρ ρ' ∧ Den W C ρ' av v ∧
    s'.σ = s.σ ∧ s'.n = s.n ∧ HpOk W C ρ' s'.nx w' s'.L ∧ (mild = true → Below w.heap.size w w')

theorem box_ok (hs : StOk W C ρ s a w) {t : TypeId} {x : Operand} (ho : o.op = .box t x) (h : wst s (.box x) K) : WRes true P W C ρ s a w o K := by
  simp only [wst] at h
  have hd := cellsOf_den (hs.fr.ev x) h.1
  have hn := nset_sub (hs.hp.above s.nx (Nat.le_refl _)) (some (w.heap.size, 0, 0))
  refine ⟨_, .pointer (some ⟨w.heap.size, 0, none⟩), _, w.alloc (.cells (a.eval x).cells t), nset ρ s.nx (some (w.heap.size, 0, 0)), h.2, .inl ?_, hn, .ptr (nset_same _ _ _), rfl, rfl, ?_, fun _ => (Below.refl _ _).alloc (Nat.le_refl _) _⟩
  · unfold execOp; rw [ho]
    simp [Instr.box, newVar, newRow]
  · exact hs.hp.alloc (Below.refl _ _) rfl ⟨w.heap.size, t, (a.eval x).cells.toList, nset_same _ _ _, by rw [heap_alloc_new], hd.mono hn⟩

theorem new_ok (hs : StOk W C ρ s a w) {t : TypeId} {i : TypeInfo} {z : Value} (ho : o.op = .alloc t) (hi : P.info? t = some i) (hz : i.zero = some z) (h : wst s (.new z.cells.toList) K) : WRes true P W C ρ s a w o K := by
  simp only [wst] at h
  have hn := nset_sub (hs.hp.above s.nx (Nat.le_refl _)) (some (w.heap.size, 0, 0))
  refine ⟨_, .pointer (some ⟨w.heap.size, 0, none⟩), _, w.alloc (.cells z.cells t), nset ρ s.nx (some (w.heap.size, 0, 0)), h, .inl ?_, hn, .ptr (nset_same _ _ _), rfl, rfl, ?_, fun _ => (Below.refl _ _).alloc (Nat.le_refl _) _⟩
  · unfold execOp; rw [ho]
    simp [Instr.alloc, newVar, newRow, zeroValue, typeInfo, hi, hz]
  · exact hs.hp.alloc (Below.refl _ _) rfl ⟨w.heap.size, t, z.cells.toList, nset_same _ _ _, by rw [heap_alloc_new], den_vs _⟩

theorem heap_setRow_same (w : World) (g : Nat) (cs : Array Value) {cur : Array Value} {t : TypeId} (h : w.heap[g]? = some (.cells cur t (0, 0))) : (w.setRow g cs).heap[g]? = some (.cells cs t (0, 0)) := by
  simp [World.setRow, Array.getElem?_modify, h]
theorem heap_setRow_other (w : World) (g k : Nat) (cs : Array Value) (h : k ≠ g) : (w.setRow g cs).heap[k]? = w.heap[k]? := by
  simp only [World.setRow, Array.getElem?_modify]
  rw [if_neg (by omega)]

theorem get_splice {l cs : List Value} {off k : Nat} (h : off + cs.length ≤ l.length) : (spliceV l off cs)[k]? = if off ≤ k ∧ k < off + cs.length then cs[k - off]? else l[k]? := by
  unfold spliceV
  simp only [List.getElem?_append, List.length_append, List.length_take, List.getElem?_take, List.getElem?_drop]
  have hm : min off l.length = off := by omega
  simp only [hm]
  by_cases h1 : k < off
  · have e1 : k < off + cs.length := by omega
    have e2 : ¬ (off ≤ k ∧ k < off + cs.length) := by omega
    simp [h1, e1]
    intro hh; omega
  · by_cases h2 : k < off + cs.length
    · have e2 : off ≤ k ∧ k < off + cs.length := by omega
      simp [h1, h2, e2]
    · have e2 : ¬ (off ≤ k ∧ k < off + cs.length) := by omega
      have e3 : off + cs.length + (k - (off + cs.length)) = k := by omega
      simp [h2, e2, e3]

/-- A list of values reads as rows. -/
def RowsAt (W : World) (C : CR) (ρ : Nm) (t : Ty) (xs : List t.D) (news : List Value) : Prop :=
  news.length = xs.length * sz t ∧ ∀ (i f : Nat) (x : t.D) (av : AVal), xs[i]? = some x → (enc t x)[f]? = some av → ∃ u, news[i * sz t + f]? = some u ∧ Den W C ρ av u

theorem RowsAt.mono {ρ' : Nm} (hs : Sub0 ρ ρ') {t : Ty} {xs : List t.D} {news : List Value} (h : RowsAt W C ρ t xs news) : RowsAt W C ρ' t xs news :=
  ⟨h.1, fun i f x av h1 h2 => let ⟨u, h3, h4⟩ := h.2 i f x av h1 h2; ⟨u, h3, h4.mono hs⟩⟩

theorem RowsAt.append {t : Ty} {xs ys : List t.D} {l m : List Value} (h : RowsAt W C ρ t xs l) (k : RowsAt W C ρ t ys m) : RowsAt W C ρ t (xs ++ ys) (l ++ m) := by
  refine ⟨by simp [h.1, k.1, Nat.add_mul], fun i f x av h1 h2 => ?_⟩
  have hf : f < sz t := by have := (List.getElem?_eq_some_iff.1 h2).1; rwa [enc_length] at this
  rw [List.getElem?_append] at h1
  split at h1
  · rename_i hi
    obtain ⟨u, h3, h4⟩ := h.2 i f x av h1 h2
    exact ⟨u, by rw [List.getElem?_append_left (by have := (List.getElem?_eq_some_iff.1 h3).1; exact this)]; exact h3, h4⟩
  · rename_i hi
    obtain ⟨u, h3, h4⟩ := k.2 _ f x av h1 h2
    refine ⟨u, ?_, h4⟩
    have e : i * sz t = xs.length * sz t + (i - xs.length) * sz t := by rw [← Nat.add_mul]; congr 1; omega
    rw [List.getElem?_append_right (by rw [h.1]; omega), h.1, ← h3]
    congr 1; omega

theorem RowsAt.one {t : Ty} {xs : List t.D} {news : List Value} (h : RowsAt W C ρ t xs news) : ∀ u ∈ news, u.oneCell' = true := by
  intro u hu
  obtain ⟨k, hk, rfl⟩ := List.getElem_of_mem hu
  have hz := sz_pos t
  have hlt : k / sz t < xs.length := by rw [Nat.div_lt_iff_lt_mul hz, ← h.1]; exact hk
  have hm : k % sz t < (enc t xs[k / sz t]).length := by rw [enc_length]; exact Nat.mod_lt _ hz
  obtain ⟨u, h1, h2⟩ := h.2 (k / sz t) (k % sz t) xs[k / sz t] _ (List.getElem?_eq_getElem hlt) (List.getElem?_eq_getElem hm)
  rw [Nat.div_add_mod'] at h1
  have e : news[k] = u := by rw [List.getElem?_eq_getElem hk] at h1; exact Option.some.inj h1
  rw [e]
  exact one_of h2 (List.all_eq_true.1 (enc_one t _) _ (List.getElem_mem hm))

theorem decN_rows (t : Ty) : ∀ (n : Nat) (l : List AVal) (xs : List t.D) (vs : List Value), decN t n l = some xs → DenL W C ρ l vs → RowsAt W C ρ t xs vs ∧ xs.length = n
  | 0, [], xs, vs, h, hd => by
    simp [decN] at h; subst h
    have := hd.1
    exact ⟨⟨by simpa using this, fun i f x av h1 => by simp at h1⟩, rfl⟩
  | 0, _ :: _, xs, vs, h, hd => by simp [decN] at h
  | n + 1, l, xs, vs, h, hd => by
    simp only [decN] at h
    split at h
    · rename_i x xs' hx hxs
      cases h
      have he := dec_enc _ _ _ hx
      have hl : sz t ≤ l.length := by
        have := congrArg List.length he
        rw [enc_length, List.length_take] at this; omega
      obtain ⟨ih, ihl⟩ := decN_rows t n (l.drop (sz t)) xs' (vs.drop (sz t)) hxs (hd.drop _)
      have h1 : RowsAt W C ρ t [x] (vs.take (sz t)) := by
        have hd' := hd.take (sz t)
        rw [← he] at hd'
        refine ⟨by have := hd'.1; rw [this, enc_length]; simp, fun i f x' av h1 h2 => ?_⟩
        cases i with
        | zero =>
          simp at h1; subst h1
          simpa using hd'.at h2
        | succ i => simp at h1
      have := h1.append ih
      rw [List.take_append_drop] at this
      exact ⟨this, by simp [ihl]⟩
    · cases h

/-- One element's cells are written over. -/
theorem cells_set {vs cv : List Value} {z o' i f : Nat} {CL : List (List AVal)} {c' : List AVal} (hi : i < CL.length) (hlen : ∀ c ∈ CL, c.length = z) (hb : o' + CL.length * z ≤ vs.length) (hf : f + cv.length ≤ z) (hc' : c'.length = z)
    (hread : ∀ (j g : Nat) (c : List AVal) (av : AVal), CL[j]? = some c → c[g]? = some av → ∃ u, vs[o' + j * z + g]? = some u ∧ Den W C ρ av u)
    (hnew : ∀ rv, DenL W C ρ (CL.getD i []) rv → DenL W C ρ c' (spliceV rv f cv)) :
    ∀ (j g : Nat) (c : List AVal) (av : AVal), (CL.set i c')[j]? = some c → c[g]? = some av → ∃ u, (spliceV vs (o' + i * z + f) cv)[o' + j * z + g]? = some u ∧ Den W C ρ av u := by
  intro j g c av hj hg
  have hmul := mul_lt (s := z) hi (Nat.le_refl _)
  have hbound : o' + i * z + f + cv.length ≤ vs.length := by omega
  rw [get_splice hbound]
  rw [List.getElem?_set] at hj
  by_cases e : i = j
  · subst e
    rw [if_pos rfl, if_pos hi] at hj
    cases hj
    have hg' : g < z := by have := (List.getElem?_eq_some_iff.1 hg).1; omega
    have hco := getD_of hi ([] : List AVal)
    have hcl : (CL.getD i []).length = z := hlen _ (by
      have := List.mem_of_getElem? hco
      simpa using this)
    have hrv : DenL W C ρ (CL.getD i []) ((vs.drop (o' + i * z)).take z) := by
      refine ⟨by rw [hcl, List.length_take, List.length_drop]; omega, fun k av' u hk hu => ?_⟩
      obtain ⟨u', h8, h9⟩ := hread i k _ av' hco hk
      rw [List.getElem?_take] at hu
      split at hu
      · rw [List.getElem?_drop, h8] at hu; cases hu; exact h9
      · cases hu
    obtain ⟨u, hu, hu2⟩ := (hnew _ hrv).at hg
    rw [get_splice (by rw [List.length_take, List.length_drop]; omega)] at hu
    refine ⟨u, ?_, hu2⟩
    by_cases e2 : f ≤ g ∧ g < f + cv.length
    · rw [if_pos (by omega), show o' + i * z + g - (o' + i * z + f) = g - f by omega]
      rw [if_pos e2] at hu; exact hu
    · rw [if_neg (by omega)]
      rw [if_neg e2] at hu
      rw [List.getElem?_take, if_pos hg', List.getElem?_drop] at hu
      exact hu
  · rw [if_neg e] at hj
    obtain ⟨u, h8, h9⟩ := hread j g c av hj hg
    have hg' : g < z := by have := (List.getElem?_eq_some_iff.1 hg).1; rw [hlen c (List.mem_of_getElem? hj)] at this; exact this
    refine ⟨u, ?_, h9⟩
    rw [if_neg]
    · exact h8
    · rcases Nat.lt_or_gt_of_ne e with e | e
      · have := Nat.mul_le_mul_right z (show i + 1 ≤ j by omega)
        rw [Nat.add_mul, Nat.one_mul] at this; omega
      · have := Nat.mul_le_mul_right z (show j + 1 ≤ i by omega)
        rw [Nat.add_mul, Nat.one_mul] at this; omega
theorem cellsN_len {t : Ty} (h : flat t = false) {m : Nat} {xs : List (NR t)} {ys : List t.D} : ∀ c ∈ cellsN t m xs ys, c.length = sz t := fun c hc => by
  unfold cellsN at hc
  rw [List.mem_append, List.mem_map, List.mem_map] at hc
  rcases hc with ⟨e, _, rfl⟩ | ⟨e, _, rfl⟩
  · exact encN_length t h m e
  · exact enc_length t e
theorem cellsN_length {t : Ty} {m : Nat} {xs : List (NR t)} {ys : List t.D} : (cellsN t m xs ys).length = xs.length + ys.length := by simp [cellsN]
theorem cellsN_set {t : Ty} {m : Nat} {xs : List (NR t)} {ys : List t.D} {i : Nat} (h : i < xs.length) (e : NR t) : cellsN t m (xs.set i e) ys = (cellsN t m xs ys).set i (encN t m e) := by
  unfold cellsN
  rw [List.set_append_left _ _ (by simpa using h), List.map_set]
theorem cellsN_next {t : Ty} {m : Nat} {xs : List (NR t)} {ys : List t.D} (h : 0 < ys.length) (e : NR t) : cellsN t m (xs ++ [e]) ys.tail = (cellsN t m xs ys).set xs.length (encN t m e) := by
  unfold cellsN
  rw [List.set_append_right _ _ (by simp)]
  cases ys with
  | nil => simp at h
  | cons y r => simp
theorem last_init : ∀ {cs : List AVal} {av : AVal}, lastA cs = some av → cs = initA cs ++ [av]
  | [x], av, h => by simp [lastA] at h; subst h; rfl
  | x :: y :: r, av, h => by
    have h2 : lastA (y :: r) = some av := h
    have := last_init h2
    show x :: y :: r = x :: (initA (y :: r)) ++ [av]
    rw [List.cons_append, ← this]
theorem last_get {cs : List AVal} {av : AVal} (h : lastA cs = some av) : cs[(initA cs).length]? = some av :=
  (congrArg (fun l : List AVal => l[(initA cs).length]?) (last_init h)).trans (by simp)
theorem splice_init {hd cs : List AVal} {a : AVal} {f : Nat} (h : f + cs.length < hd.length + 1) : splice (hd ++ [a]) f cs = splice hd f cs ++ [a] := by
  unfold splice
  rw [List.take_append_of_le_length (by omega), List.drop_append_of_le_length (by omega)]
  simp
theorem splice_last {hd cs : List AVal} {a b : AVal} {f : Nat} (h : f + cs.length = hd.length) : splice (hd ++ [a]) f (cs ++ [b]) = splice hd f cs ++ [b] := by
  unfold splice
  rw [List.take_append_of_le_length (by omega), List.drop_of_length_le (by simp; omega), List.drop_of_length_le (by omega)]
  simp
theorem DenL.last {cs : List AVal} {a a' : AVal} {vs : List Value} (h : DenL W C ρ (cs ++ [a]) vs) (hd : ∀ u, Den W C ρ a u → vs[cs.length]? = some u → Den W C ρ a' u) : DenL W C ρ (cs ++ [a']) vs := by
  refine ⟨by have := h.1; simpa using this, fun k av u h1 h2 => ?_⟩
  by_cases e : k < cs.length
  · exact h.2 k av u (by rw [List.getElem?_append_left e] at h1 ⊢; exact h1) h2
  · have hl := h.1
    have hk : k = cs.length := by
      have := (List.getElem?_eq_some_iff.1 h1).1
      simp at this; omega
    subst hk
    simp at h1; subst h1
    exact hd u (h.2 _ a u (by simp) h2) h2
theorem initA_len : ∀ {cs : List AVal} {av : AVal}, lastA cs = some av → (initA cs).length + 1 = cs.length := fun {cs av} h => by
  have := congrArg List.length (last_init h)
  simp at this; omega
/-- An inner row is handed in. -/
theorem innK_ok {nx : Nat} {w : World} {L : Hp} (hp : HpOk W C ρ nx w L) {t : Ty} (hfl : flat t = false) {m : Nat} {es : Fam t} (hes : FamOk W C ρ w es) (hesF : ∀ b, (es b).isSome = true → ∀ m2 o2, m2 ≠ m → lk L m2 = some o2 → ∀ x, ρ m2 ≠ some (some (b, x)))
    {av : AVal} {u : Value} (hd : Den W C ρ av u) {K : Ref → Fam t → Hp → Prop} (h : innK t m L es av K) :
    ∃ r es' L', K r es' L' ∧ Den W C ρ (refA m (sz (inn t)) r) u ∧ FamOk W C ρ w es' ∧ (∀ k ob, lk L' k = some ob → lk L k = some ob) ∧ lk L' m = lk L m ∧
      ∀ b, (es' b).isSome = true → (es b).isSome = true ∨ ∃ m2 o2 x, m2 ≠ m ∧ lk L m2 = some o2 ∧ ρ m2 = some (some (b, x)) ∧ lk L' m2 = none := by
  unfold innK at h
  split at h
  · obtain ⟨⟨rfl, rfl⟩, h⟩ := h
    refine ⟨_, _, _, h, ?_, hes, fun _ _ hk => hk, rfl, fun b hb => .inl hb⟩
    cases hd with
    | fs h1 h2 => exact .fs h1 h2
  · exact ⟨_, _, _, h, hd, hes, fun _ _ hk => hk, rfl, fun b hb => .inl hb⟩
  · rename_i m2 z lo n
    split at h
    · rename_i t2 zs hl
      obtain rfl := castK_eq h
      replace h := castK_same h
      obtain ⟨⟨hne, rfl, rfl, hn⟩, hK⟩ := h
      have hera : ∀ k ob, lk (era L m2) k = some ob → lk L k = some ob := fun k ob hk => by
        rw [lk_era] at hk; split at hk
        · cases hk
        · exact hk
      have hm' : lk (era L m2) m = lk L m := by rw [lk_era, if_neg (fun e => hne e.symm)]
      cases hd with
      | @sub _ _ _ _ b o' c ad hm hle had =>
        rcases hp.obj m2 _ hl with ⟨h1, _⟩ | ⟨b', o'', c', T, vs, h1, h2, h3, h4, h5, h6⟩
        · rw [hm] at h1; cases h1
        · rw [hm] at h1; cases h1
          have hesb : es b = none := by
            cases he : es b with
            | none => rfl
            | some y => exact absurd hm (hesF b (by rw [he]; rfl) m2 _ hne hl _)
          refine ⟨_, _, _, hK (.own b o' n c) (fput es b (o', c, zs)) (.inr ⟨b, o', c, rfl, hesb, hn, h4, rfl⟩), .fs hle had, fun b1 o1 c1 zs1 he => ?_, hera, hm', fun b1 hb1 => ?_⟩
          · unfold fput at he
            by_cases e : b1 = b
            · subst e
              rw [if_pos rfl] at he
              cases he
              exact ⟨T, vs, h2, h3, h4, h5, h6⟩
            · rw [if_neg e] at he
              exact hes b1 o1 c1 zs1 he
          · unfold fput at hb1
            by_cases e : b1 = b
            · subst e
              exact .inr ⟨m2, _, _, hne, hl, hm, by rw [lk_era, if_pos rfl]⟩
            · rw [if_neg e] at hb1; exact .inl hb1
      | sub0 hm => exact ⟨_, _, _, hK .nil es (.inl ⟨rfl, rfl, rfl⟩), .v _, hes, hera, hm', fun b hb => .inl hb⟩
    · exact h.elim
  · exact h.elim

theorem store_ok (hs : StOk W C ρ s a w) {t : TypeId} {i : TypeInfo} {p x : Operand} (ho : o.op = .store t p x) (hi : P.info? t = some i) (h : wst s (.store i.size p x) K) : WRes false P W C ρ s a w o K := by
  simp only [wst] at h
  obtain ⟨⟨hlen, hpos, hone⟩, h⟩ := h
  have hd := cellsOf_den (hs.fr.ev x) (by omega)
  have h1 := ones_of hd hone
  have hsz : (a.eval x).cells.size = i.size := by rw [← Array.length_toList, hd.1, hlen]
  have run : ∀ (b o' T : Nat) (vs : List Value), a.eval p = .pointer (some ⟨b, o', none⟩) → w.heap[b]? = some (.cells ⟨vs⟩ T (0, 0)) → o' + i.size ≤ vs.length →
      (execOp a.eval o).run P w = .ok .skip (w.setRow b ⟨spliceV vs o' (a.eval x).cells.toList⟩) := by
    intro b o' T vs hp hb hl
    have hst := run_storeCells_at P b o' T (a.eval x).cells.toList 0 ⟨vs⟩ w hb (by simp [hsz]; omega) h1
    simp only [Nat.add_zero] at hst
    unfold execOp; rw [ho]
    simp only [Instr.storeAt, hp, Instr.sureAddr, storeVar, sizeOf, typeInfo]
    simp [hi, hsz, hst, spliceV]
  have hp := hs.fr.ev p
  split at h
  · rename_i m off hx
    rw [hx] at hp
    generalize hv : a.eval p = v at hp
    cases hp with
    | @ptr _ _ b hm =>
      cases hl : lk s.L m with
      | none => simp [hl] at h
      | some ob =>
        cases ob with
        | row t xs => simp [hl] at h
        | set kk mp es => simp [hl] at h
        | nrow t xs es ys => simp [hl] at h
        | box old =>
          simp only [hl] at h
          obtain ⟨hle, hk⟩ := h
          obtain ⟨b', T, vs, h2, h3, h4⟩ := hs.hp.obj m _ hl
          rw [hm] at h2; cases h2
          have hvl := h4.1
          refine ⟨_, undef, _, _, ρ, hk, .inr ⟨run _ _ _ _ hv h3 (by omega), rfl⟩, Sub0.refl _, .junk _, rfl, rfl, ?_, fun e => by cases e⟩
          refine hs.hp.change hl hm rfl rfl rfl (by simp) (fun k hk => heap_setRow_other _ _ _ _ hk) ⟨b, T, _, hm, heap_setRow_same _ _ _ h3, splice_den h4 hd off⟩
  · rename_i m z j f hx
    rw [hx] at hp
    generalize hv : a.eval p = v at hp
    cases hp with
    | @elt _ _ _ _ b o' c hm =>
      cases hl : lk s.L m with
      | none => simp [hl] at h
      | some ob =>
        cases ob with
        | box cs => simp [hl] at h
        | set kk mp es => simp [hl] at h
        | nrow t xs es ys =>
          simp only [hl] at h
          obtain ⟨rfl, h⟩ := h
          obtain ⟨hfl, hob, hfam⟩ := hs.hp.obj m _ hl
          rcases hob with ⟨h2, _⟩ | ⟨b', o'', c', T, vs, h2, h3, h4, h5, h6, h6', h7⟩
          · rw [hm] at h2; cases h2
          · rw [hm] at h2; cases h2
            have hcl : (a.eval x).cells.toList.length = i.size := by rw [Array.length_toList]; exact hsz
            have hown := hs.hp.own m _ b _ hl hm
            have hCL := cellsN_length (m := m) (xs := xs) (ys := ys)
            have hmulc : (xs.length + ys.length) * sz t ≤ c * sz t := Nat.mul_le_mul_right _ h5
            -- the heap behind the store
            have fin : ∀ (L' : Hp) (xs' : List (NR t)) (es' : Fam t) (ys' : List t.D) (cn : List AVal), j < xs.length + ys.length → f + (a.eval x).cells.toList.length ≤ sz t → cn.length = sz t → cellsN t m xs' ys' = (cellsN t m xs ys).set j cn →
                (∀ rv, DenL W C ρ ((cellsN t m xs ys).getD j []) rv → DenL W C ρ cn (spliceV rv f (a.eval x).cells.toList)) → FamOk W C ρ w es' →
                (∀ k ob, lk L' k = some ob → lk s.L k = some ob) → lk L' m = lk s.L m → (∀ b, (es' b).isSome = true → (es b).isSome = true ∨ ∃ m2 o2 x, m2 ≠ m ∧ lk s.L m2 = some o2 ∧ ρ m2 = some (some (b, x)) ∧ lk L' m2 = none) →
                K .junk (s.hp (upd L' m (.nrow t xs' es' ys'))) → WRes false P W C ρ s a w o K := by
              intro L' xs' es' ys' cn hj hf hcn hcells hnew hfam' hL' hLm hes' hK
              have hmul := mul_lt (s := sz t) hj h5
              have hlen' : xs'.length + ys'.length = xs.length + ys.length := by
                have := congrArg List.length hcells
                rwa [List.length_set, cellsN_length, cellsN_length] at this
              have hnm : ∀ b1, (es' b1).isSome = true → b1 ≠ b := fun b1 hb1 e => by
                subst e
                rcases hes' b1 hb1 with h | ⟨m2, o2, x2, hne, hl2, hx2, _⟩
                · rw [h6'] at h; cases h
                · exact hs.hp.apart m2 o2 m _ b1 _ b1 _ hl2 hl hne hx2 hm rfl
              refine ⟨_, undef, _, w.setRow b ⟨spliceV vs (o' + j * sz t + f) (a.eval x).cells.toList⟩, ρ, hK, .inr ⟨run _ _ _ _ hv h3 (by omega), rfl⟩, Sub0.refl _, .junk _, rfl, rfl, ?_, fun e => by cases e⟩
              refine hs.hp.turn hL' (hLm.trans hl) rfl rfl rfl (by simp) (fun k ob b1 hk hne hf1 => ⟨heap_setRow_other _ _ _ _ (fun e => ?_), fun hf2 => ?_⟩) (fun b1 hb1 hc1 => heap_setRow_other _ _ _ _ (fun e => ?_)) (fun b1 hf1 => ⟨?_, fun x1 hx1 => ?_⟩) ⟨hfl, .inr ⟨b, o', c, T, _, hm, heap_setRow_same _ _ _ h3, ?_, by omega, h6, ?_, ?_⟩, fun b1 o1 c1 zs1 he1 => ?_⟩
              · subst e; exact hs.hp.foot_apart (hL' _ _ hk) hl hne hf1 (.inl ⟨_, hm⟩)
              · rcases hes' b1 hf2 with h | ⟨m2, o2, x2, hne2, hl2, hx2, hn2⟩
                · exact hs.hp.foot_apart (hL' _ _ hk) hl hne hf1 (.inr h)
                · exact hs.hp.foot_apart (hL' _ _ hk) hl2 (fun e => by subst e; rw [hn2] at hk; cases hk) hf1 (.inl ⟨_, hx2⟩)
              · subst e
                rcases hown.2 with h | h
                · omega
                · exact hc1 h
              · rcases hes' b1 hf1 with h | ⟨m2, o2, x2, hne2, hl2, hx2, hn2⟩
                · have := hs.hp.ownF m _ b1 hl h
                  exact ⟨by simpa using this.1, this.2⟩
                · have := hs.hp.own m2 o2 b1 _ hl2 hx2
                  exact ⟨by simpa using this.1, this.2⟩
              · rw [hm] at hx1; cases hx1; exact hnm _ hf1 rfl
              · simp only [spliceV, List.length_append, List.length_take, List.length_drop]; omega
              · cases he : es' b with
                | none => rfl
                | some y => exact absurd rfl (hnm b (by rw [he]; rfl))
              · rw [hcells]
                exact cells_set (by rw [hCL]; exact hj) (cellsN_len hfl) (by rw [hCL]; omega) hf hcn h7 hnew
              · exact (hfam' b1 o1 c1 zs1 he1).world (heap_setRow_other _ _ _ _ (hnm b1 (by rw [he1]; rfl)))
            have hcsl : (cellsOf (s.ev x)).length = (a.eval x).cells.toList.length := hd.1.symm
            unfold nstoreK at h
            split at h
            · rename_i hlt
              obtain ⟨hj, h⟩ := h
              obtain ⟨x', hx', hK⟩ := someK_get h
              have hhd := decH_hd _ _ _ hx'
              refine fin s.L _ es ys (encN t m ⟨x', (xs.getD j (dfltN t)).r⟩) (by omega) (by omega) (encN_length t hfl m _) (cellsN_set hj _) (fun rv hrv => ?_) hfam (fun _ _ hk => hk) rfl (fun b hb => .inl hb) hK
              have e1 : (cellsN t m xs ys).getD j [] = encN t m (xs.getD j (dfltN t)) := by
                have := cellsN_own (m := m) (ys := ys) hj
                simp only [List.getD, this]; rfl
              rw [e1] at hrv
              have := splice_den hrv hd f
              have hl1 := hd_length t hfl (xs.getD j (dfltN t)).x
              unfold encN at this ⊢
              rwa [splice_init (by omega), ← hhd] at this
            · obtain ⟨⟨hlt, hj⟩, h⟩ := h
              obtain ⟨av, hav, h⟩ := someK_get h
              have hcs := last_init hav
              have hil := initA_len hav
              obtain ⟨u, hu, hdu⟩ : ∃ u, (a.eval x).cells.toList[(initA (cellsOf (s.ev x))).length]? = some u ∧ Den W C ρ av u := hd.at (last_get hav)
              obtain ⟨r, es', L', h, hdr, hfam', hL', hLm, hes'⟩ := innK_ok hs.hp hfl hfam (fun b1 hb1 m2 o2 hne hl2 x2 hx2 => (hs.hp.apartF m _ m2 o2 b1 hl hl2 hb1).1 x2 hx2) hdu h
              have hnew : ∀ (x0 : t.D) (a0 : AVal) (x' : t.D), hdE t x' = splice (hdE t x0) f (initA (cellsOf (s.ev x))) → ∀ rv, DenL W C ρ (hdE t x0 ++ [a0]) rv → DenL W C ρ (encN t m ⟨x', r⟩) (spliceV rv f (a.eval x).cells.toList) := by
                intro x0 a0 x' hhd rv hrv
                have hl1 := hd_length t hfl x0
                have h9 := splice_den hrv hd f
                rw [hcs, splice_last (by omega), ← hhd] at h9
                unfold encN
                refine h9.last fun u1 _ hu1 => ?_
                have hl2 := hd_length t hfl x'
                have hrl : rv.length = sz t := by have := hrv.1; simp at this; omega
                rw [get_splice (by omega), if_pos (by omega), show (hdE t x').length - f = (initA (cellsOf (s.ev x))).length by omega, hu] at hu1
                cases hu1
                exact hdr
              by_cases hji : j < xs.length
              · obtain ⟨x', hx', hK⟩ := someK_get (h.1 hji)
                have hhd := decH_hd _ _ _ hx'
                refine fin L' _ es' ys (encN t m ⟨x', r⟩) hj (by omega) (encN_length t hfl m _) (cellsN_set hji _) ?_ hfam' hL' hLm hes' hK
                have e1 : (cellsN t m xs ys).getD j [] = encN t m (xs.getD j (dfltN t)) := by
                  have := cellsN_own (m := m) (ys := ys) hji
                  simp only [List.getD, this]; rfl
                rw [e1]
                exact hnew _ _ _ hhd
              · obtain ⟨hjx, h⟩ := h.2 hji
                obtain ⟨x', hx', hK⟩ := someK_get h
                have hhd := decH_hd _ _ _ hx'
                have hjs : j = xs.length := hjx
                refine fin L' _ es' ys.tail (encN t m ⟨x', r⟩) hj (by omega) (encN_length t hfl m _) (by rw [hjs]; exact cellsN_next (by omega) _) ?_ hfam' hL' hLm hes' hK
                have e1 : (cellsN t m xs ys).getD j [] = hdE t (ys.getD 0 (dflt t)) ++ [.rs (inn t) (inl t (ys.getD 0 (dflt t)))] := by
                  have := cellsN_rd (t := t) (m := m) (xs := xs) (ys := ys) (i := j) hji hj
                  rw [show j - xs.length = 0 by omega] at this
                  rw [← enc_nest t hfl]
                  simp only [List.getD, this]; rfl
                rw [e1]
                exact hnew _ _ _ hhd
        | row t xs =>
          simp only [hl] at h
          obtain ⟨⟨rfl, hj, hf⟩, h⟩ := h
          unfold someK at h
          split at h
          · rename_i y hy
            have hey := dec_enc _ _ _ hy
            rcases hs.hp.obj m _ hl with ⟨h2, _⟩ | ⟨b', o'', c', T, vs, h2, h3, h4, h5, h6, h7⟩
            · rw [hm] at h2; cases h2
            · rw [hm] at h2; cases h2
              have hmul := mul_lt (s := sz t) hj h5
              have hcl : (a.eval x).cells.toList.length = i.size := by rw [Array.length_toList]; exact hsz
              have hbound : o' + j * sz t + f + (a.eval x).cells.toList.length ≤ vs.length := by rw [hcl]; omega
              refine ⟨_, undef, _, _, ρ, h, .inr ⟨run _ _ _ _ hv h3 (by omega), rfl⟩, Sub0.refl _, .junk _, rfl, rfl, ?_, fun e => by cases e⟩
              refine hs.hp.change hl hm rfl rfl rfl (by simp) (fun k hk => heap_setRow_other _ _ _ _ hk) (.inr ⟨b, o', c, T, _, hm, heap_setRow_same _ _ _ h3, ?_, by simp; exact h5, h6, ?_⟩)
              · simp only [spliceV, List.length_append, List.length_take, List.length_drop]; omega
              · intro i' f' x' av hx' hav
                rw [get_splice hbound]
                rw [List.getElem?_set] at hx'
                by_cases e : j = i'
                · subst e
                  rw [if_pos rfl, if_pos hj] at hx'
                  cases hx'
                  rw [hey] at hav
                  have hxo := getD_of hj (dflt t)
                  have hf' : f' < sz t := by
                    have := (List.getElem?_eq_some_iff.1 hav).1
                    simp [splice, enc_length] at this; omega
                  have hsp := splice_den (W := W) (C := C) (ρ := ρ) (l := enc t (xs.getD j (dflt t))) (l' := (vs.drop (o' + j * sz t)).take (sz t)) ?_ hd f
                  · obtain ⟨u, hu, hu2⟩ := hsp.at hav
                    rw [get_splice (by simp; omega)] at hu
                    refine ⟨u, ?_, hu2⟩
                    by_cases e2 : f ≤ f' ∧ f' < f + (a.eval x).cells.toList.length
                    · rw [if_pos (by omega), show o' + j * sz t + f' - (o' + j * sz t + f) = f' - f by omega]
                      rw [if_pos e2] at hu; exact hu
                    · rw [if_neg (by omega)]
                      rw [if_neg e2] at hu
                      rw [List.getElem?_take, if_pos hf', List.getElem?_drop] at hu
                      exact hu
                  · refine ⟨by simp [enc_length]; omega, fun k av' u hk hu => ?_⟩
                    obtain ⟨u', h8, h9⟩ := h7 j k _ av' hxo hk
                    rw [List.getElem?_take] at hu
                    split at hu
                    · rw [List.getElem?_drop, h8] at hu; cases hu; exact h9
                    · cases hu
                · rw [if_neg e] at hx'
                  obtain ⟨u, h8, h9⟩ := h7 i' f' x' av hx' hav
                  have hf' : f' < sz t := by
                    have := (List.getElem?_eq_some_iff.1 hav).1
                    rwa [enc_length] at this
                  refine ⟨u, ?_, h9⟩
                  rw [if_neg]
                  · exact h8
                  · rw [hcl]
                    rcases Nat.lt_or_gt_of_ne e with e | e
                    · have := Nat.mul_le_mul_right (sz t) (show j + 1 ≤ i' by omega)
                      rw [Nat.add_mul, Nat.one_mul] at this; omega
                    · have := Nat.mul_le_mul_right (sz t) (show i' + 1 ≤ j by omega)
                      rw [Nat.add_mul, Nat.one_mul] at this; omega
          · exact h.elim
  · rename_i m z b o' j f hx
    rw [hx] at hp
    generalize hv : a.eval p = v at hp
    cases hp with
    | fp =>
      cases hl : lk s.L m with
      | none => simp [hl] at h
      | some ob =>
        cases ob with
        | box cs => simp [hl] at h
        | set kk mp es => simp [hl] at h
        | row t xs => simp [hl] at h
        | nrow t xs es ys =>
          simp only [hl, fstoreK] at h
          obtain ⟨⟨o1, c, zs⟩, he, ⟨rfl, rfl, hj, hf⟩, hk1⟩ := someK_get h
          obtain ⟨y, hy, hK⟩ := someK_get hk1
          have hey := dec_enc _ _ _ hy
          obtain ⟨hfl, hob, hfam⟩ := hs.hp.obj m _ hl
          obtain ⟨T, vs, h2, h3, h4, h5, h6⟩ := hfam b _ _ _ he
          dsimp only at hj hK hey h2 h3 ⊢
          have hcl : (a.eval x).cells.toList.length = i.size := by rw [Array.length_toList]; exact hsz
          have hcsl : (cellsOf (s.ev x)).length = (a.eval x).cells.toList.length := hd.1.symm
          have hmul := mul_lt (s := sz (inn t)) hj h4
          have hbne : ∀ x1, ρ m ≠ some (some (b, x1)) := (hs.hp.apartF m _ m _ b hl hl (by simp [FootO, he])).1
          refine ⟨_, undef, _, _, ρ, hK, .inr ⟨run _ _ _ _ hv h2 (by omega), rfl⟩, Sub0.refl _, .junk _, rfl, rfl, ?_, fun e => by cases e⟩
          refine hs.hp.change' hl (b := b) (.inr (by simp [FootO, he])) rfl rfl rfl (by simp) (fun k hk => heap_setRow_other _ _ _ _ hk) (fun k hk => ?_) ⟨hfl, ?_, fun b1 o2 c2 zs2 he2 => ?_⟩
          · show (es k).isSome = true
            have hk : (fput es b _ k).isSome = true := hk
            unfold fput at hk
            split at hk
            · rename_i e; subst e; rw [he]; rfl
            · exact hk
          · rcases hob with h8 | ⟨b', o'', c', T', vs', h8, h9, h10, h11, h12, h13, h14⟩
            · exact .inl h8
            · have hne : b' ≠ b := fun e => hbne _ (e ▸ h8)
              refine .inr ⟨b', o'', c', T', vs', h8, (heap_setRow_other _ _ _ _ hne).trans h9, h10, h11, h12, ?_, h14⟩
              unfold fput
              rw [if_neg hne]; exact h13
          · unfold fput at he2
            by_cases e : b1 = b
            · subst e
              rw [if_pos rfl] at he2
              cases he2
              refine ⟨T, _, heap_setRow_same _ _ _ h2, ?_, by simpa using h4, h5, fun i1 f1 x1 av1 h15 h16 => ?_⟩
              · simp only [spliceV, List.length_append, List.length_take, List.length_drop]; omega
              · refine cells_set (CL := zs.map (enc (inn t))) (z := sz (inn t)) (c' := enc (inn t) y) (by simpa using hj) (fun c hc => by rw [List.mem_map] at hc; obtain ⟨q, _, rfl⟩ := hc; exact enc_length _ _)
                  (by rw [List.length_map]; have := Nat.mul_le_mul_right (sz (inn t)) h4; omega) (by omega) (enc_length _ _) (fun j1 g1 c1 av2 h17 h18 => ?_) (fun rv hrv => ?_) i1 f1 (enc (inn t) x1) av1 ?_ h16
                · rw [List.getElem?_map, Option.map_eq_some_iff] at h17
                  obtain ⟨q, h19, rfl⟩ := h17
                  exact h6 j1 g1 q av2 h19 h18
                · have e1 : (zs.map (enc (inn t))).getD j [] = enc (inn t) (zs.getD j (dflt (inn t))) := by
                    simp [List.getD, hj]
                  rw [e1] at hrv
                  rw [hey]
                  exact splice_den hrv hd f
                · rw [← List.map_set, List.getElem?_map, h15]; rfl
            · rw [if_neg e] at he2
              exact (hfam b1 o2 c2 zs2 he2).world (heap_setRow_other _ _ _ _ e)
  · rename_i m k hx
    rw [hx] at hp
    generalize hv : a.eval p = v at hp
    cases hp with
    | @arp _ _ b hm =>
      cases hl : lk s.L m with
      | none => simp [hl] at h
      | some ob =>
        cases ob with
        | nrow t xs es ys => simp [hl] at h
        | box cs => simp [hl] at h
        | set kk mp es => simp [hl] at h
        | row t xs =>
          simp only [hl] at h
          obtain ⟨⟨rfl, hn⟩, h⟩ := h
          unfold someK at h
          split at h
          · rename_i ys hy
            obtain ⟨hr, hyl⟩ := decN_rows t _ _ _ _ hy hd
            rcases hs.hp.obj m _ hl with ⟨h2, _⟩ | ⟨b', o'', c', T, vs, h2, h3, h4, h5, h6, h7⟩
            · rw [hm] at h2; cases h2
            · rw [hm] at h2; cases h2
              have hcl : (a.eval x).cells.toList.length = i.size := by rw [Array.length_toList]; exact hsz
              refine ⟨_, undef, _, _, ρ, h, .inr ⟨run _ _ _ _ hv h3 (by omega), rfl⟩, Sub0.refl _, .junk _, rfl, rfl, ?_, fun e => by cases e⟩
              refine hs.hp.change hl hm rfl rfl rfl (by simp) (fun k hk => heap_setRow_other _ _ _ _ hk) (.inr ⟨b, 0, xs.length, T, _, hm, heap_setRow_same _ _ _ h3, ?_, by omega, h6, ?_⟩)
              · simp only [spliceV, List.length_append, List.length_take, List.length_drop]; omega
              · intro i' f' x' av hx' hav
                obtain ⟨u, h8, h9⟩ := hr.2 i' f' x' av hx' hav
                refine ⟨u, ?_, h9⟩
                have hlt := (List.getElem?_eq_some_iff.1 h8).1
                rw [get_splice (by omega), if_pos (by omega), ← h8]
                congr 1; omega
          · exact h.elim
  · exact h.elim
end
end Go.Proofs.YtnbfnpnephfjaaaE

/-! make, slice literals, append: what they say is so. -/
namespace Go.Proofs.YtnbfnpnephfjaaaE
open Go Go.RowKit
set_option linter.unusedSimpArgs false
set_option linter.unusedVariables false

section
variable {P : Program} {W : World} {C : CR} {ρ : Nm} {s : S} {a : Act} {w : World} {o : Oper} {K : AVal → S → Prop}

/-- A row object of a block of its own. -/
theorem row_new {nx : Nat} {w : World} {L : Hp} (h : HpOk W C ρ nx w L) {w1 : World} (hw1 : Below w.heap.size w w1) (hsz : w1.heap.size = w.heap.size) {t : Ty} {xs : List t.D} {c e : Nat} {news rest : List Value}
    (hr : RowsAt W C ρ t xs news) (hrest : (news ++ rest).length = c * sz t) (hle : xs.length ≤ c) (hc : c ≤ mostLen) :
    HpOk W C (nset ρ nx (some (w.heap.size, 0, c))) (nx + 1) (w1.alloc (.cells ⟨news ++ rest⟩ e)) ((nx, .row t xs) :: L) := by
  have hn := nset_sub (h.above nx (Nat.le_refl _)) (some (w.heap.size, 0, c))
  refine h.alloc hw1 hsz (.inr ⟨w.heap.size, 0, c, e, _, nset_same _ _ _, by rw [← hsz, heap_alloc_new], by omega, hle, hc, fun i f x av h1 h2 => ?_⟩)
  obtain ⟨u, h3, h4⟩ := hr.2 i f x av h1 h2
  exact ⟨u, by rw [Nat.zero_add, List.getElem?_append_left (List.getElem?_eq_some_iff.1 h3).1]; exact h3, h4.mono hn⟩

/-- A list of values reads as elements' cells. -/
def RowsC (W : World) (C : CR) (ρ : Nm) (z : Nat) (CL : List (List AVal)) (news : List Value) : Prop :=
  news.length = CL.length * z ∧ ∀ (i f : Nat) (cs : List AVal) (av : AVal), CL[i]? = some cs → cs[f]? = some av → ∃ u, news[i * z + f]? = some u ∧ Den W C ρ av u
theorem RowsC.mono {ρ' : Nm} (hs : Sub0 ρ ρ') {z : Nat} {CL : List (List AVal)} {news : List Value} (h : RowsC W C ρ z CL news) : RowsC W C ρ' z CL news :=
  ⟨h.1, fun i f x av h1 h2 => let ⟨u, h3, h4⟩ := h.2 i f x av h1 h2; ⟨u, h3, h4.mono hs⟩⟩
theorem RowsC.append {z : Nat} {CL CM : List (List AVal)} {l m : List Value} (hz : ∀ c ∈ CL, c.length = z) (h : RowsC W C ρ z CL l) (k : RowsC W C ρ z CM m) : RowsC W C ρ z (CL ++ CM) (l ++ m) := by
  refine ⟨by simp [h.1, k.1, Nat.add_mul], fun i f x av h1 h2 => ?_⟩
  rw [List.getElem?_append] at h1
  split at h1
  · rename_i hi
    obtain ⟨u, h3, h4⟩ := h.2 i f x av h1 h2
    exact ⟨u, by rw [List.getElem?_append_left (by have := (List.getElem?_eq_some_iff.1 h3).1; exact this)]; exact h3, h4⟩
  · rename_i hi
    obtain ⟨u, h3, h4⟩ := k.2 _ f x av h1 h2
    refine ⟨u, ?_, h4⟩
    have e : i * z = CL.length * z + (i - CL.length) * z := by rw [← Nat.add_mul]; congr 1; omega
    rw [List.getElem?_append_right (by rw [h.1]; omega), h.1, ← h3]
    congr 1; omega
theorem rows_rowsC {t : Ty} {xs : List t.D} {news : List Value} (h : RowsAt W C ρ t xs news) : RowsC W C ρ (sz t) (xs.map (enc t)) news := by
  refine ⟨by rw [h.1, List.length_map], fun i f cs av h1 h2 => ?_⟩
  rw [List.getElem?_map, Option.map_eq_some_iff] at h1
  obtain ⟨x, h3, rfl⟩ := h1
  exact h.2 i f x av h3 h2
theorem RowsC.one {z : Nat} (hz0 : 0 < z) {CL : List (List AVal)} {news : List Value} (hz : ∀ c ∈ CL, c.length = z) (ho : ∀ c ∈ CL, c.all oneA = true) (h : RowsC W C ρ z CL news) : ∀ u ∈ news, u.oneCell' = true := by
  intro u hu
  obtain ⟨k, hk, rfl⟩ := List.getElem_of_mem hu
  have hlt : k / z < CL.length := by rw [Nat.div_lt_iff_lt_mul hz0, ← h.1]; exact hk
  have hm : k % z < (CL[k / z]).length := by rw [hz _ (List.getElem_mem hlt)]; exact Nat.mod_lt _ hz0
  obtain ⟨u, h1, h2⟩ := h.2 (k / z) (k % z) _ _ (List.getElem?_eq_getElem hlt) (List.getElem?_eq_getElem hm)
  rw [Nat.div_add_mod'] at h1
  have e : news[k] = u := by rw [List.getElem?_eq_getElem hk] at h1; exact Option.some.inj h1
  rw [e]
  exact one_of h2 (List.all_eq_true.1 (ho _ (List.getElem_mem hlt)) _ (List.getElem_mem hm))
theorem encN_one (t : Ty) (m : Nat) (e : NR t) : (encN t m e).all oneA = true := by
  rw [List.all_eq_true]
  intro av h
  unfold encN at h
  rw [List.mem_append] at h
  rcases h with h | h
  · obtain ⟨u, rfl, h⟩ := hd_v t e.x av h; exact h
  · rw [List.mem_singleton] at h
    subst h
    cases e.r <;> rfl
theorem cellsN_one {t : Ty} {m : Nat} {xs : List (NR t)} {ys : List t.D} : ∀ c ∈ cellsN t m xs ys, c.all oneA = true := fun c hc => by
  unfold cellsN at hc
  rw [List.mem_append, List.mem_map, List.mem_map] at hc
  rcases hc with ⟨e, _, rfl⟩ | ⟨e, _, rfl⟩
  · exact encN_one t m e
  · exact enc_one t e
/-- An element's cells are of another object's number. -/
theorem encN_den {t : Ty} {m m' : Nat} {e : NR t} {f : Nat} {av : AVal} {u : Value} (h : (encN t m e)[f]? = some av) : ∃ av', (encN t m' e)[f]? = some av' ∧ (Den W C ρ av u → Den W C ρ av' u) := by
  unfold encN at h ⊢
  by_cases hf : f < (hdE t e.x).length
  · rw [List.getElem?_append_left hf] at h ⊢
    exact ⟨av, h, id⟩
  · have hf2 : f = (hdE t e.x).length := by have := (List.getElem?_eq_some_iff.1 h).1; simp at this; omega
    subst hf2
    simp at h ⊢
    subst h
    cases e.r with
    | nil => exact id
    | own b o n c => intro hd; cases hd with | fs h1 h2 => exact .fs h1 h2
theorem encN_den' {t : Ty} {m m' : Nat} {e : NR t} {f : Nat} {av : AVal} (h : (encN t m e)[f]? = some av) {w : World} {p : Nat → Option Value} (k : ∀ m2 av2, (encN t m2 e)[f]? = some av2 → m2 = m' → ∃ u, p f = some u ∧ Den W C ρ av2 u) : ∃ u, p f = some u ∧ Den W C ρ av u := by
  obtain ⟨av', h1, _⟩ := encN_den (W := W) (C := C) (ρ := ρ) (m' := m') (u := undef) h
  obtain ⟨u, h2, h3⟩ := k m' av' h1 rfl
  obtain ⟨av2, h4, h5⟩ := encN_den (W := W) (C := C) (ρ := ρ) (m' := m) (u := u) h1
  rw [h] at h4; cases h4
  exact ⟨u, h2, h5 h3⟩

/-- A row of rows in a block of its own; what its inner rows lay in is given up. -/
theorem nrow_new {nx : Nat} {w : World} {L E : Hp} (h : HpOk W C ρ nx w L) (hE : ∀ k ob, lk E k = some ob → lk L k = some ob) {w1 : World} (hw1 : Below w.heap.size w w1) (hsz : w1.heap.size = w.heap.size) {t : Ty} (hfl : flat t = false)
    {xs : List (NR t)} {es : Fam t} {ys : List t.D} {c e : Nat} {news rest : List Value} (hr : RowsC W C ρ (sz t) (cellsN t nx xs ys) news) (hrest : (news ++ rest).length = c * sz t) (hle : xs.length + ys.length ≤ c) (hc : c ≤ mostLen)
    (hfam : FamOk W C ρ w es) (hF : ∀ b, (es b).isSome = true → ∃ m o, lk L m = some o ∧ lk E m = none ∧ Foot ρ m o b) :
    HpOk W C (nset ρ nx (some (w.heap.size, 0, c))) (nx + 1) (w1.alloc (.cells ⟨news ++ rest⟩ e)) ((nx, .nrow t xs es ys) :: E) := by
  have hn := nset_sub (h.above nx (Nat.le_refl _)) (some (w.heap.size, 0, c))
  have hb := hw1.alloc (by omega) (.cells ⟨news ++ rest⟩ e)
  have hlt : ∀ b, (es b).isSome = true → b < w.heap.size := fun b hs => let ⟨m, o, h1, _, h3⟩ := hF b hs; (h.foot_own h1 h3).1
  refine h.ext' hE hb.os hb.tape hb.output hb.size (fun k ob b hk hf => ⟨hb.block b (h.foot_own (hE _ _ hk) hf).1, fun x' e => ?_, fun hfo => ?_⟩) (fun b hl hc => hb.block b (Nat.lt_of_lt_of_le hl h.size)) (fun b x e => by cases e; exact ⟨by simp [hsz], .inl h.size⟩)
    (fun b hfo => ?_) ⟨hfl, .inr ⟨w.heap.size, 0, c, e, _, nset_same _ _ _, by rw [← hsz, heap_alloc_new], by omega, hle, hc, ?_, fun i f cs av h1 h2 => ?_⟩, fun b o c' zs he => ((hfam b o c' zs he).mono hn).world (hb.block b (hlt b (by rw [he]; rfl)))⟩
  · have := (h.foot_own (hE _ _ hk) hf).1
    cases e; omega
  · obtain ⟨m, o, h1, h2, h3⟩ := hF b hfo
    exact h.foot_apart (hE _ _ hk) h1 (fun e => by subst e; rw [h2] at hk; cases hk) hf h3
  · obtain ⟨m, o, h1, h2, h3⟩ := hF b hfo
    have := h.foot_own h1 h3
    exact ⟨⟨Nat.lt_of_lt_of_le this.1 hb.size, this.2⟩, fun x e => by cases e; omega⟩
  · cases he : es w.heap.size with
    | none => rfl
    | some y => have := hlt w.heap.size (by rw [he]; rfl); omega
  · obtain ⟨u, h3, h4⟩ := hr.2 i f cs av h1 h2
    exact ⟨u, by rw [Nat.zero_add, List.getElem?_append_left (List.getElem?_eq_some_iff.1 h3).1]; exact h3, h4.mono hn⟩

theorem made_cells (t : Ty) {z : Array Value} (hz : z.toList = zer t) (n : Nat) : RowsC W C ρ (sz t) (List.replicate n ((zer t).map .v)) (madeCells z (n * sz t)).toList := by
  have hzs : z.size = sz t := by
    have := congrArg List.length hz
    rw [Array.length_toList, zer_length] at this
    exact this
  refine ⟨by simp [madeCells], fun i f x av h1 h2 => ?_⟩
  rw [List.getElem?_replicate] at h1
  split at h1
  · rename_i hi
    cases h1
    have hf : f < sz t := by have := (List.getElem?_eq_some_iff.1 h2).1; rwa [List.length_map, zer_length] at this
    rw [List.getElem?_map, Option.map_eq_some_iff] at h2
    obtain ⟨u, h3, rfl⟩ := h2
    have hm := mul_lt (s := sz t) hi (Nat.le_refl _)
    have hlt : i * sz t + f < n * sz t := by omega
    refine ⟨u, ?_, .v u⟩
    have hmod : (i * sz t + f) % sz t = f := by rw [Nat.add_comm, Nat.add_mul_mod_self_right, Nat.mod_eq_of_lt hf]
    have hzf : z[f]! = u := by
      rw [← hz] at h3
      have : z[f]? = some u := by simpa using h3
      simp [getElem!_def, this]
    simp [madeCells, hlt, hzs, hmod, hzf]
  · cases h1
theorem made_rows (t : Ty) (hfl : flat t = true) {z : Array Value} (hz : z.toList = zer t) (n : Nat) : RowsAt W C ρ t (List.replicate n (dflt t)) (madeCells z (n * sz t)).toList := by
  have h := made_cells (W := W) (C := C) (ρ := ρ) t hz n
  refine ⟨by rw [h.1]; simp, fun i f x av h1 h2 => ?_⟩
  rw [List.getElem?_replicate] at h1
  split at h1
  · rename_i hi
    cases h1
    rw [enc_dflt t hfl] at h2
    exact h.2 i f _ av (by rw [List.getElem?_replicate, if_pos hi]) h2
  · cases h1
theorem cells_dflt (t : Ty) (hfl : flat t = false) (m n : Nat) : cellsN t m (List.replicate n (dfltN t)) [] = List.replicate n ((zer t).map .v) := by
  unfold cellsN
  rw [List.map_nil, List.append_nil, List.map_replicate]
  congr 1
  exact zer_nest t hfl

theorem mk_ok (hs : StOk W C ρ s a w) {τ : List (Nat × Ty)} {t e : TypeId} {ty : Ty} {b : Nat} {x y : Operand} (ho : o.op = .makeSlice t x y) (ht : P.underlying t = some (.slice e)) (hk : kindOf P τ e = some (ty, b))
    (h : wst s (.mk ty b x y) K) : WRes true P W C ρ s a w o K := by
  simp only [wst] at h
  obtain ⟨i, z, hi, hz, hsz, hzz, hb, rfl⟩ := kindOf_spec hk
  split at h
  · rename_i k n k' n' hx hy
    obtain ⟨⟨rfl, h0, h1, h2⟩, h⟩ := h
    have hr := run_make (P := P) w t e i z ht hi hz k k' n n h0 (Int.le_refl _) (by unfold appRoom at h1; rw [Int.mul_comm]; omega) h2
    have hrun : (execOp a.eval o).run P w = .ok (.value (.slice (some ⟨w.heap.size, 0, none⟩) n.toNat n.toNat)) (w.alloc (.cells (madeCells z.cells (n.toNat * i.size)) e)) := by
      unfold execOp; rw [ho]
      simp only [ev_v hs hx, ev_v hs hy, Sem.run_bind, hr, Result.andThen_ok, Sem.run_pure]
    have hden := Den.sub (W := W) (C := C) (ρ := nset ρ s.nx (some (w.heap.size, 0, n.toNat))) (m := s.nx) (s := sz ty) (lo := 0) (len := n.toNat) (ad := ⟨w.heap.size, 0, none⟩) (nset_same _ _ _) (by omega) (fun _ => by simp)
    split at h
    · rename_i hfl
      refine ⟨_, _, _, _, _, h, .inl hrun, nset_sub (hs.hp.above s.nx (Nat.le_refl _)) (some (w.heap.size, 0, n.toNat)), by simpa using hden, rfl, rfl, ?_, fun _ => (Below.refl _ _).alloc (Nat.le_refl _) _⟩
      have hm := made_rows (W := W) (C := C) (ρ := ρ) ty hfl hzz n.toNat
      have := row_new hs.hp (Below.refl _ _) rfl (e := e) (c := n.toNat) (rest := []) hm (by simp [madeCells]) (by simp) (by unfold mostLen; omega)
      rw [hsz]
      simpa [S.add] using this
    · rename_i hfl
      have hfl : flat ty = false := by simpa using hfl
      refine ⟨_, _, _, _, _, h, .inl hrun, nset_sub (hs.hp.above s.nx (Nat.le_refl _)) (some (w.heap.size, 0, n.toNat)), by simpa using hden, rfl, rfl, ?_, fun _ => (Below.refl _ _).alloc (Nat.le_refl _) _⟩
      have hm := made_cells (W := W) (C := C) (ρ := ρ) ty hzz n.toNat
      rw [← cells_dflt ty hfl s.nx] at hm
      have := nrow_new hs.hp (fun _ _ hk => hk) (Below.refl _ _) rfl hfl (e := e) (c := n.toNat) (rest := []) (es := fam0 ty) hm (by simp [madeCells]) (by simp) (by unfold mostLen; omega) (fun b o c zs he => by cases he) (fun b hb => by cases hb)
      rw [hsz]
      simpa [S.add] using this
  · exact h.elim


theorem range_zero_cells (t : Ty) {z : Array Value} (hz : z.toList = zer t) (n : Nat) : ((Array.range (n * sz t)).map fun x => z[x % z.size]!).toList = (List.replicate n (zer t)).flatten := by
  have hzs : z.size = sz t := by
    have := congrArg List.length hz
    rw [Array.length_toList, zer_length] at this
    exact this
  induction n with
  | zero => simp
  | succ n ih =>
    rw [List.replicate_succ', List.flatten_append]
    simp only [Array.toList_map, Array.toList_range] at ih ⊢
    rw [Nat.add_mul, Nat.one_mul, List.range_add, List.map_append, ih]
    congr 1
    simp only [List.flatten_cons, List.flatten_nil, List.append_nil, List.map_map]
    rw [← hz]
    apply List.ext_getElem?
    intro k
    by_cases hk : k < sz t
    · have hmod : (n * sz t + k) % sz t = k := by rw [Nat.add_comm, Nat.add_mul_mod_self_right, Nat.mod_eq_of_lt hk]
      have hk' : k < z.size := by omega
      simp [hk, hzs, hmod, hk', getElem!_def]
    · have hk' : ¬ k < z.size := by omega
      simp [hk, hk']

theorem splice_len {l cs : List AVal} {off : Nat} (h : off + cs.length ≤ l.length) : (splice l off cs).length = l.length := by
  unfold splice
  simp only [List.length_append, List.length_take, List.length_drop]; omega
theorem fillA_len {s : S} {K : List AVal → Prop} : ∀ {ps : List (Nat × Nat × Operand)} {l : List AVal}, fillA s ps l K → fillA s ps l fun m => m.length = l.length ∧ K m
  | [], l, h => ⟨rfl, h⟩
  | (off, n, x) :: r, l, h => by
    simp only [fillA] at h ⊢
    obtain ⟨⟨h1, h2, h3⟩, h⟩ := h
    have := fillA_len h
    rw [splice_len (by omega)] at this
    exact ⟨⟨h1, h2, h3⟩, this⟩
theorem blds_ok (hs : StOk W C ρ s a w) {τ : List (Nat × Ty)} {t e : TypeId} {ty : Ty} {b len : Nat} {parts : Array (Nat × Operand)} {ps : List (Nat × Nat × Operand)} (ho : o.op = .buildSlice t len parts) (ht : P.underlying t = some (.slice e))
    (hk : kindOf P τ e = some (ty, b)) (hps : partsAt (fun i => some (i * sz ty, sz ty)) parts.toList = some ps) (h : wst s (.blds ty len ps) K) : WRes true P W C ρ s a w o K := by
  simp only [wst] at h
  obtain ⟨i, z, hi, hz, hsz, hzz, hb, rfl⟩ := kindOf_spec hk
  obtain ⟨hlen, h⟩ := h
  replace h := fillA_len h
  have hz0 : (if len * sz ty = 0 then (pure #[] : Sem (Array Value)) else do pure (← zeroValue e).cells).run P w = .ok (if len * sz ty = 0 then #[] else z.cells) w := by
    split <;> simp [zeroValue, typeInfo, hi, hz]
  have hcells : ((Array.range (len * sz ty)).map fun x => (if len * sz ty = 0 then #[] else z.cells)[x % (if len * sz ty = 0 then (#[] : Array Value) else z.cells).size]!).toList = (List.replicate len (zer ty)).flatten := by
    by_cases h0 : len * sz ty = 0
    · have : len = 0 := by rcases Nat.mul_eq_zero.1 h0 with h | h; exact h; have := sz_pos ty; omega
      subst this; simp
    · simp only [h0, if_false]; exact range_zero_cells ty hzz len
  obtain ⟨m, m', hk', hm, hf⟩ := build_fill hs _ parts.toList ps _ ((Array.range (len * sz ty)).map fun x => (if len * sz ty = 0 then #[] else z.cells)[x % (if len * sz ty = 0 then (#[] : Array Value) else z.cells).size]!) hps (by rw [hcells]; exact den_vs _) h
  obtain ⟨hml, hone, hk'⟩ := hk'
  have hml : m.length = len * sz ty := by rw [hml]; simp [zer_length]
  have hsz48 : ¬ (len * sz ty > 2 ^ 24) := by
    have : sz ty ≤ 16 := sz_le ty
    have := Nat.mul_le_mul hlen this
    omega
  have hrun : (execOp a.eval o).run P w = .ok (.value (.slice (some ⟨w.heap.size, 0, none⟩) len len)) (w.alloc (.cells ⟨m'⟩ e)) := by
    unfold execOp; rw [ho]
    have hsize : (sizeOf e).run P w = .ok (sz ty) w := by simp [sizeOf, typeInfo, hi, hsz]
    have hzv : (zeroValue e).run P w = .ok z w := by simp [zeroValue, typeInfo, hi, hz]
    simp only [Instr.buildSlice, Sem.run_bind, run_underlying ht, hsize, Result.andThen_ok, hsz48, if_false, Sem.run_pure]
    by_cases h0 : len * sz ty = 0
    · simp only [h0, if_true] at hf ⊢
      simp only [Array.toList_map] at hf ⊢
      simp only [Sem.run_bind, Sem.run_pure, Result.andThen_ok, hf]
      simp [newRow]
    · simp only [h0, if_false] at hf ⊢
      simp only [Array.toList_map] at hf ⊢
      simp only [Sem.run_bind, hzv, Sem.run_pure, Result.andThen_ok, hf]
      simp [newRow]
  have hden := Den.sub (W := W) (C := C) (ρ := nset ρ s.nx (some (w.heap.size, 0, len))) (m := s.nx) (s := sz ty) (lo := 0) (len := len) (ad := ⟨w.heap.size, 0, none⟩) (nset_same _ _ _) (by omega) (fun _ => by simp)
  have hns := nset_sub (hs.hp.above s.nx (Nat.le_refl _)) (some (w.heap.size, 0, len))
  have hbel : Below w.heap.size w (w.alloc (.cells ⟨m'⟩ e)) := (Below.refl _ _).alloc (Nat.le_refl _) _
  split at hk'
  · obtain ⟨xs, hxs, hK⟩ := someK_get hk'
    obtain ⟨hrows, hxl⟩ := decN_rows ty len m xs m' hxs hm
    refine ⟨_, _, _, _, _, hK, .inl hrun, hns, by simpa using hden, rfl, rfl, ?_, fun _ => hbel⟩
    have := row_new hs.hp (Below.refl _ _) rfl (e := e) (c := len) (rest := []) hrows (by simp [hrows.1, hxl]) (by omega) (by unfold mostLen; omega)
    simpa [S.add] using this
  · rename_i hfl
    have hfl : flat ty = false := by simpa using hfl
    have hmn : lk s.L s.nx = none := by
      cases hl : lk s.L s.nx with
      | none => rfl
      | some ob =>
        have h1 := hs.hp.obj _ _ hl
        have h2 := hs.hp.above s.nx (Nat.le_refl _)
        cases ob with
        | box cs => obtain ⟨b, T, vs, h3, _⟩ := h1; rw [h2] at h3; cases h3
        | row t xs => rcases h1 with ⟨h3, _⟩ | ⟨b, o, c, T, vs, h3, _⟩ <;> rw [h2] at h3 <;> cases h3
        | set kk mp es => obtain ⟨b, l, c, h3, _⟩ := h1; rw [h2] at h3; cases h3
        | nrow t xs es ys => rcases h1.2.1 with ⟨h3, _⟩ | ⟨b, o, c, T, vs, h3, _⟩ <;> rw [h2] at h3 <;> cases h3
    unfold bldN at hk'
    split at hk'
    · refine ⟨_, _, _, _, _, hk', .inl hrun, hns, by simpa using hden, rfl, rfl, ?_, fun _ => hbel⟩
      have hm0 : m' = [] := by have := hm.1; rw [hml] at this; simpa using this
      have := nrow_new hs.hp (fun _ _ hk => hk) (Below.refl _ _) rfl hfl (e := e) (c := 0) (news := []) (rest := m') (xs := []) (ys := []) (es := fam0 ty) ⟨by simp [cellsN], fun i f cs av h => by simp [cellsN] at h⟩ (by simp [hm0]) (by simp) (by unfold mostLen; omega) (fun b o c zs he => by cases he) (fun b hb => by cases hb)
      simpa [S.add] using this
    · obtain ⟨av, hav, hk'⟩ := someK_get hk'
      obtain ⟨u, hu, hdu⟩ := hm.at (last_get hav)
      obtain ⟨r, es', L', hk', hdr, hfam', hL', hLm, hes'⟩ := innK_ok (nx := s.nx) (m := s.nx) (es := fam0 ty) hs.hp hfl (fun b o c zs he => by cases he) (fun b hb => by cases hb) hdu hk'
      obtain ⟨x', hx', hK⟩ := someK_get hk'
      have hhd := decH_hd _ _ _ hx'
      refine ⟨_, _, _, _, _, hK, .inl hrun, hns, by simpa using hden, rfl, rfl, ?_, fun _ => hbel⟩
      have hcl := initA_len hav
      have hm2 := hm
      rw [last_init hav] at hm2
      have hm3 : DenL W C ρ (encN ty s.nx ⟨x', r⟩) m' := by
        unfold encN
        rw [hhd]
        exact hm2.last fun u1 _ hu1 => by rw [hu] at hu1; cases hu1; exact hdr
      have hmlen : m'.length = sz ty := by have := hm.1; rw [this, hml]; omega
      have := nrow_new hs.hp hL' (Below.refl _ _) rfl hfl (e := e) (c := 1) (news := m') (rest := []) (xs := [⟨x', r⟩]) (ys := []) (es := es') ⟨by simp [cellsN, hmlen], fun i f cs av2 h1 h2 => by
          have h3 : i = 0 := by have := (List.getElem?_eq_some_iff.1 h1).1; simp [cellsN] at this; omega
          subst h3
          simp [cellsN] at h1
          subst h1
          simpa using hm3.at h2⟩ (by simp [hmlen]) (by simp) (by unfold mostLen; omega) hfam' (fun b hb => by
          rcases hes' b hb with h | ⟨m2, o2, x2, _, h1, h2, h3⟩
          · cases h
          · exact ⟨m2, o2, h1, h3, .inl ⟨x2, h2⟩⟩)
      simpa [S.add, S.hp] using this
    · exact hk'.elim
end
end Go.Proofs.YtnbfnpnephfjaaaE
