/- A part of a proof that a law of the given program holds for every input: no condition. -/
import Derived.WalkKit
import Derived.Lib.QuietBelow
import Derived.MapKept
import Derived.ChangeKeysEq
import Derived.Laws.Cover3
import Derived.WalkSpells
import Derived.Laws.BytesString

set_option linter.unusedSimpArgs false
set_option linter.unusedVariables false
/-! The kinds of data that the rows of this seat hold, and abstract values. -/
namespace Go.Proofs.YthghcialeghgoaaDoorE
open Go Go.RowKit

structure Rul where
  pre : ByteArray
  least : Int
  most : Int
  route : Int
  strip : Int
  add : ByteArray
  deriving Inhabited

structure Prt where
  num : ByteArray
  to : ByteArray
  deriving Inhabited

structure Prs where
  tick : Int
  dig : ByteArray
  deriving Inhabited

inductive Ty where
  | int
  | byte
  | bool
  | str
  | rule
  | prt
  | prs
  deriving DecidableEq

@[reducible] def Ty.D : Ty → Type
  | .int => Int
  | .byte => Int
  | .bool => Bool
  | .str => ByteArray
  | .rule => Rul
  | .prt => Prt
  | .prs => Prs

def sz : Ty → Nat
  | .int => 1
  | .byte => 1
  | .bool => 1
  | .str => 1
  | .rule => 6
  | .prt => 2
  | .prs => 2

/-- An abstract value. -/
inductive AVal where
  | v (x : Value)
  | ptr (m off : Nat)
  | elt (m s i f : Nat)
  | sub (m s lo len : Nat)
  | rs (t : Ty) (xs : List t.D)
  | re (t : Ty) (x : t.D) (f : Nat)
  | rp (t : Ty) (xs : List t.D)
  | mp (m : Nat)
  | arp (m n : Nat)
  | agg (cs : List AVal)
  | tup (cs : List AVal)
  | fn (f : Nat) (cs : List AVal)
  | junk

def enc : (t : Ty) → t.D → List AVal
  | .int, x => [.v (.int .i64 x)]
  | .byte, x => [.v (.int .u8 x)]
  | .bool, x => [.v (.bool x)]
  | .str, x => [.v (.string x)]
  | .rule, x => [.v (.string x.pre), .v (.int .i64 x.least), .v (.int .i64 x.most), .v (.int .i64 x.route), .v (.int .i64 x.strip), .v (.string x.add)]
  | .prt, x => [.v (.string x.num), .v (.string x.to)]
  | .prs, x => [.v (.int .i64 x.tick), .v (.string x.dig)]

theorem enc_length (t : Ty) (x : t.D) : (enc t x).length = sz t := by cases t <;> rfl
theorem sz_le (t : Ty) : sz t ≤ 16 := by cases t <;> decide
theorem sz_pos (t : Ty) : 0 < sz t := by cases t <;> decide

def dec_intD : List AVal → Option Int
  | [.v (.int .i64 a0)] => some a0
  | _ => none
def dec_byteD : List AVal → Option Int
  | [.v (.int .u8 a0)] => some a0
  | _ => none
def dec_boolD : List AVal → Option Bool
  | [.v (.bool a0)] => some a0
  | _ => none
def dec_strD : List AVal → Option ByteArray
  | [.v (.string a0)] => some a0
  | _ => none
def dec_ruleD : List AVal → Option Rul
  | [.v (.string a0), .v (.int .i64 a1), .v (.int .i64 a2), .v (.int .i64 a3), .v (.int .i64 a4), .v (.string a5)] => some ⟨a0, a1, a2, a3, a4, a5⟩
  | _ => none
def dec_prtD : List AVal → Option Prt
  | [.v (.string a0), .v (.string a1)] => some ⟨a0, a1⟩
  | _ => none
def dec_prsD : List AVal → Option Prs
  | [.v (.int .i64 a0), .v (.string a1)] => some ⟨a0, a1⟩
  | _ => none
def dec : (t : Ty) → List AVal → Option t.D
  | .int, cs => dec_intD cs
  | .byte, cs => dec_byteD cs
  | .bool, cs => dec_boolD cs
  | .str, cs => dec_strD cs
  | .rule, cs => dec_ruleD cs
  | .prt, cs => dec_prtD cs
  | .prs, cs => dec_prsD cs

theorem dec_enc (t : Ty) (cs : List AVal) (x : t.D) (h : dec t cs = some x) : enc t x = cs := by
  cases t
  · simp only [dec] at h; unfold dec_intD at h; split at h
    · cases h; rfl
    · cases h
  · simp only [dec] at h; unfold dec_byteD at h; split at h
    · cases h; rfl
    · cases h
  · simp only [dec] at h; unfold dec_boolD at h; split at h
    · cases h; rfl
    · cases h
  · simp only [dec] at h; unfold dec_strD at h; split at h
    · cases h; rfl
    · cases h
  · simp only [dec] at h; unfold dec_ruleD at h; split at h
    · cases h; rfl
    · cases h
  · simp only [dec] at h; unfold dec_prtD at h; split at h
    · cases h; rfl
    · cases h
  · simp only [dec] at h; unfold dec_prsD at h; split at h
    · cases h; rfl
    · cases h

def dflt : (t : Ty) → t.D
  | .int => (0 : Int)
  | .byte => (0 : Int)
  | .bool => false
  | .str => (⟨#[]⟩ : ByteArray)
  | .rule => ⟨(⟨#[]⟩ : ByteArray), (0 : Int), (0 : Int), (0 : Int), (0 : Int), (⟨#[]⟩ : ByteArray)⟩
  | .prt => ⟨(⟨#[]⟩ : ByteArray), (⟨#[]⟩ : ByteArray)⟩
  | .prs => ⟨(0 : Int), (⟨#[]⟩ : ByteArray)⟩
/-- The cells of a zero. -/
def zer : Ty → List Value
  | .int => [.int .i64 0]
  | .byte => [.int .u8 0]
  | .bool => [.bool false]
  | .str => [.string ⟨#[]⟩]
  | .rule => [.string ⟨#[]⟩, .int .i64 0, .int .i64 0, .int .i64 0, .int .i64 0, .string ⟨#[]⟩]
  | .prt => [.string ⟨#[]⟩, .string ⟨#[]⟩]
  | .prs => [.int .i64 0, .string ⟨#[]⟩]
theorem enc_dflt (t : Ty) : enc t (dflt t) = (zer t).map .v := by cases t <;> rfl

/-- The value's cells may each be stored. -/
def oneA : AVal → Bool
  | .v (.agg _) => false
  | .v (.tuple _) => false
  | .agg _ => false
  | .tup _ => false
  | .junk => false
  | _ => true
theorem enc_one (t : Ty) (x : t.D) : (enc t x).all oneA = true := by cases t <;> rfl

theorem enc_v (t : Ty) (x : t.D) (av : AVal) (h : av ∈ enc t x) : ∃ u, av = .v u := by
  cases t <;> simp [enc] at h
  · exact ⟨_, h⟩
  · exact ⟨_, h⟩
  · exact ⟨_, h⟩
  · exact ⟨_, h⟩
  · rcases h with rfl | rfl | rfl | rfl | rfl | rfl <;> exact ⟨_, rfl⟩
  · rcases h with rfl | rfl <;> exact ⟨_, rfl⟩
  · rcases h with rfl | rfl <;> exact ⟨_, rfl⟩

/-- A list of one kind where one of the other is wanted. -/
def castK : (t t' : Ty) → List t'.D → (List t.D → Prop) → Prop
  | .int, .int, xs, K => K xs
  | .byte, .byte, xs, K => K xs
  | .bool, .bool, xs, K => K xs
  | .str, .str, xs, K => K xs
  | .rule, .rule, xs, K => K xs
  | .prt, .prt, xs, K => K xs
  | .prs, .prs, xs, K => K xs
  | _, _, _, _ => False
theorem castK_eq {t t' : Ty} {xs : List t'.D} {K : List t.D → Prop} (h : castK t t' xs K) : t' = t := by
  cases t <;> cases t' <;> first | rfl | exact h.elim
theorem castK_same {t : Ty} {xs : List t.D} {K : List t.D → Prop} (h : castK t t xs K) : K xs := by
  cases t <;> exact h
/-! The rules of these, each a step that is written down. -/
theorem enc_int {x : Int} : enc .int x = [.v (.int .i64 x)] := id rfl
theorem dflt_int : dflt .int = ((0 : Int) : Int) := id rfl
theorem sz_int : sz .int = 1 := id rfl
theorem zer_int : zer .int = [.int .i64 0] := id rfl
theorem dec_int {a0 : Int} : dec .int [.v (.int .i64 a0)] = some (a0 : Int) := id rfl
theorem enc_byte {x : Int} : enc .byte x = [.v (.int .u8 x)] := id rfl
theorem dflt_byte : dflt .byte = ((0 : Int) : Int) := id rfl
theorem sz_byte : sz .byte = 1 := id rfl
theorem zer_byte : zer .byte = [.int .u8 0] := id rfl
theorem dec_byte {a0 : Int} : dec .byte [.v (.int .u8 a0)] = some (a0 : Int) := id rfl
theorem enc_bool {x : Bool} : enc .bool x = [.v (.bool x)] := id rfl
theorem dflt_bool : dflt .bool = (false : Bool) := id rfl
theorem sz_bool : sz .bool = 1 := id rfl
theorem zer_bool : zer .bool = [.bool false] := id rfl
theorem dec_bool {a0 : Bool} : dec .bool [.v (.bool a0)] = some (a0 : Bool) := id rfl
theorem enc_str {x : ByteArray} : enc .str x = [.v (.string x)] := id rfl
theorem dflt_str : dflt .str = ((⟨#[]⟩ : ByteArray) : ByteArray) := id rfl
theorem sz_str : sz .str = 1 := id rfl
theorem zer_str : zer .str = [.string ⟨#[]⟩] := id rfl
theorem dec_str {a0 : ByteArray} : dec .str [.v (.string a0)] = some (a0 : ByteArray) := id rfl
theorem enc_rule {x : Rul} : enc .rule x = [.v (.string x.pre), .v (.int .i64 x.least), .v (.int .i64 x.most), .v (.int .i64 x.route), .v (.int .i64 x.strip), .v (.string x.add)] := id rfl
theorem dflt_rule : dflt .rule = (⟨(⟨#[]⟩ : ByteArray), (0 : Int), (0 : Int), (0 : Int), (0 : Int), (⟨#[]⟩ : ByteArray)⟩ : Rul) := id rfl
theorem sz_rule : sz .rule = 6 := id rfl
theorem zer_rule : zer .rule = [.string ⟨#[]⟩, .int .i64 0, .int .i64 0, .int .i64 0, .int .i64 0, .string ⟨#[]⟩] := id rfl
theorem dec_rule {a0 : ByteArray} {a1 : Int} {a2 : Int} {a3 : Int} {a4 : Int} {a5 : ByteArray} : dec .rule [.v (.string a0), .v (.int .i64 a1), .v (.int .i64 a2), .v (.int .i64 a3), .v (.int .i64 a4), .v (.string a5)] = some (⟨a0, a1, a2, a3, a4, a5⟩ : Rul) := id rfl
theorem enc_prt {x : Prt} : enc .prt x = [.v (.string x.num), .v (.string x.to)] := id rfl
theorem dflt_prt : dflt .prt = (⟨(⟨#[]⟩ : ByteArray), (⟨#[]⟩ : ByteArray)⟩ : Prt) := id rfl
theorem sz_prt : sz .prt = 2 := id rfl
theorem zer_prt : zer .prt = [.string ⟨#[]⟩, .string ⟨#[]⟩] := id rfl
theorem dec_prt {a0 : ByteArray} {a1 : ByteArray} : dec .prt [.v (.string a0), .v (.string a1)] = some (⟨a0, a1⟩ : Prt) := id rfl
theorem enc_prs {x : Prs} : enc .prs x = [.v (.int .i64 x.tick), .v (.string x.dig)] := id rfl
theorem dflt_prs : dflt .prs = (⟨(0 : Int), (⟨#[]⟩ : ByteArray)⟩ : Prs) := id rfl
theorem sz_prs : sz .prs = 2 := id rfl
theorem zer_prs : zer .prs = [.int .i64 0, .string ⟨#[]⟩] := id rfl
theorem dec_prs {a0 : Int} {a1 : ByteArray} : dec .prs [.v (.int .i64 a0), .v (.string a1)] = some (⟨a0, a1⟩ : Prs) := id rfl
attribute [go_sem] enc_int dflt_int sz_int zer_int dec_int enc_byte dflt_byte sz_byte zer_byte dec_byte enc_bool dflt_bool sz_bool zer_bool dec_bool enc_str dflt_str sz_str zer_str dec_str enc_rule dflt_rule sz_rule zer_rule dec_rule enc_prt dflt_prt sz_prt zer_prt dec_prt enc_prs dflt_prs sz_prs zer_prs dec_prs
end Go.Proofs.YthghcialeghgoaaDoorE
namespace Go.Proofs.YthghcialeghgoaaDoorE
def tyName : Ty → String
  | .int => ".int"
  | .byte => ".byte"
  | .bool => ".bool"
  | .str => ".str"
  | .rule => ".rule"
  | .prt => ".prt"
  | .prs => ".prs"
/-- The element types' kinds, by their numbers. -/
def tau : List (Nat × Ty) := [(3, .int), (5, .byte), (4, .bool), (9, .str), (66, .rule), (51, .rule), (74, .prt), (42, .prt), (93, .prs), (59, .prs)]
/-- Functions that turn what they are handed, called where an order is drawn. -/
def wildF : List Nat := [45, 46, 67]
theorem wildF_eq : wildF = [45, 46, 67] := id rfl
attribute [go_sem] wildF_eq
end Go.Proofs.YthghcialeghgoaaDoorE

/-! Abstract states, and when a frame and a world are of one. -/
namespace Go.Proofs.YthghcialeghgoaaDoorE
open Go Go.RowKit

def lk {α : Type _} : List (Nat × α) → Nat → Option α
  | [], _ => none
  | (i, x) :: r, k => if i = k then some x else lk r k

abbrev Nm := Nat → Option (Option (Nat × Nat × Nat))

/-- Blocks that may turn, and blocks that a read-only value is never of. -/
structure CR where
  chg : Nat → Prop
  unr : Nat → Prop
  le : ∀ b, chg b → unr b

/-- n cells at A read as vs in W, in no block of C. -/
def RdAt (W : World) (C : CR) (A : Option Addr) (n : Nat) (vs : Nat → Value) : Prop :=
  n = 0 ∨ ∃ ad : Addr, A = some ad ∧ ad.block < W.heap.size ∧ ¬ C.unr ad.block ∧ ∀ k, k < n → W.cell? (ad.add k) = some (vs k)

/-- What value an abstract value stands for. -/
inductive Den (W : World) (C : CR) (ρ : Nm) : AVal → Value → Prop
  | v (x : Value) : Den W C ρ (.v x) x
  | junk (x : Value) : Den W C ρ .junk x
  | ptr {m off b : Nat} : ρ m = some (some (b, 0, 0)) → Den W C ρ (.ptr m off) (.pointer (some ⟨b, off, none⟩))
  | elt {m s i f b o c : Nat} : ρ m = some (some (b, o, c)) → Den W C ρ (.elt m s i f) (.pointer (some ⟨b, o + i * s + f, none⟩))
  | sub {m s lo len b o c : Nat} {ad : Addr} : ρ m = some (some (b, o, c)) → lo + len ≤ c → (lo < c → ad = ⟨b, o + lo * s, none⟩) →
      Den W C ρ (.sub m s lo len) (.slice (some ad) len (c - lo))
  | sub0 {m s : Nat} : ρ m = some none → Den W C ρ (.sub m s 0 0) (.slice none 0 0)
  | rs {t : Ty} {xs : List t.D} {A : Option Addr} {c : Nat} (vs : Nat → Value) : RdAt W C A (xs.length * sz t) vs → xs.length ≤ c →
      (∀ (i f : Nat) (x : t.D) (av : AVal), xs[i]? = some x → (enc t x)[f]? = some av → Den W C ρ av (vs (i * sz t + f))) →
      Den W C ρ (.rs t xs) (.slice A xs.length c)
  | re {t : Ty} {x : t.D} {f : Nat} {ad : Addr} (vs : Nat → Value) : RdAt W C (some ad) (sz t - f) vs →
      (∀ (k : Nat) (av : AVal), (enc t x)[f + k]? = some av → Den W C ρ av (vs k)) → Den W C ρ (.re t x f) (.pointer (some ad))
  | rp {t : Ty} {xs : List t.D} {ad : Addr} (vs : Nat → Value) : RdAt W C (some ad) (xs.length * sz t) vs →
      (∀ (i f : Nat) (x : t.D) (av : AVal), xs[i]? = some x → (enc t x)[f]? = some av → Den W C ρ av (vs (i * sz t + f))) → Den W C ρ (.rp t xs) (.pointer (some ad))
  | mp {m b : Nat} : ρ m = some (some (b, 0, 0)) → Den W C ρ (.mp m) (.map (some b))
  | arp {m n b : Nat} : ρ m = some (some (b, 0, n)) → Den W C ρ (.arp m n) (.pointer (some ⟨b, 0, none⟩))
  | agg {cs : List AVal} (vs : List Value) : vs.length = cs.length →
      (∀ (k : Nat) (av : AVal) (u : Value), cs[k]? = some av → vs[k]? = some u → Den W C ρ av u) → Den W C ρ (.agg cs) (.agg ⟨vs⟩)
  | tup {cs : List AVal} (vs : List Value) : vs.length = cs.length →
      (∀ (k : Nat) (av : AVal) (u : Value), cs[k]? = some av → vs[k]? = some u → Den W C ρ av u) → Den W C ρ (.tup cs) (.tuple ⟨vs⟩)
  | fn {f : Nat} {cs : List AVal} (vs : List Value) : vs.length = cs.length →
      (∀ (k : Nat) (av : AVal) (u : Value), cs[k]? = some av → vs[k]? = some u → Den W C ρ av u) → Den W C ρ (.fn f cs) (.func (.func f) #[] ⟨vs⟩)

def DenL (W : World) (C : CR) (ρ : Nm) (cs : List AVal) (vs : List Value) : Prop :=
  vs.length = cs.length ∧ ∀ (k : Nat) (av : AVal) (u : Value), cs[k]? = some av → vs[k]? = some u → Den W C ρ av u

def Sub0 (ρ ρ' : Nm) : Prop := ∀ m x, ρ m = some x → ρ' m = some x
theorem Sub0.refl (ρ : Nm) : Sub0 ρ ρ := fun _ _ h => h
theorem Sub0.trans {a b c : Nm} (h : Sub0 a b) (k : Sub0 b c) : Sub0 a c := fun m x hx => k m x (h m x hx)

theorem Den.mono {W : World} {C : CR} {ρ ρ' : Nm} (hs : Sub0 ρ ρ') {av : AVal} {v : Value} (h : Den W C ρ av v) : Den W C ρ' av v := by
  induction h with
  | v x => exact .v x
  | junk x => exact .junk x
  | ptr h => exact .ptr (hs _ _ h)
  | elt h => exact .elt (hs _ _ h)
  | sub h h1 h2 => exact .sub (hs _ _ h) h1 h2
  | sub0 h => exact .sub0 (hs _ _ h)
  | rs vs h1 h2 _ ih => exact .rs vs h1 h2 ih
  | re vs h1 _ ih => exact .re vs h1 ih
  | rp vs h1 _ ih => exact .rp vs h1 ih
  | mp h => exact .mp (hs _ _ h)
  | arp h => exact .arp (hs _ _ h)
  | agg vs h1 _ ih => exact .agg vs h1 ih
  | tup vs h1 _ ih => exact .tup vs h1 ih
  | fn vs h1 _ ih => exact .fn vs h1 ih
theorem DenL.mono {W : World} {C : CR} {ρ ρ' : Nm} (hs : Sub0 ρ ρ') {cs : List AVal} {vs : List Value} (h : DenL W C ρ cs vs) : DenL W C ρ' cs vs :=
  ⟨h.1, fun k av u h1 h2 => (h.2 k av u h1 h2).mono hs⟩

section
variable {W : World} {C : CR} {ρ : Nm}
theorem den_v {x v : Value} (h : Den W C ρ (.v x) v) : v = x := by cases h; rfl
theorem DenL.nil : DenL W C ρ [] [] := ⟨rfl, fun k av u h => by simp at h⟩
theorem DenL.cons {av : AVal} {v : Value} {cs : List AVal} {vs : List Value} (h : Den W C ρ av v) (k : DenL W C ρ cs vs) : DenL W C ρ (av :: cs) (v :: vs) := by
  refine ⟨by simp [k.1], fun i a u h1 h2 => ?_⟩
  cases i with
  | zero => simp at h1 h2; subst h1; subst h2; exact h
  | succ i => exact k.2 i a u (by simpa using h1) (by simpa using h2)
theorem DenL.cons_inv {av : AVal} {cs : List AVal} {vs : List Value} (h : DenL W C ρ (av :: cs) vs) : ∃ v vs', vs = v :: vs' ∧ Den W C ρ av v ∧ DenL W C ρ cs vs' := by
  obtain ⟨h1, h2⟩ := h
  cases vs with
  | nil => simp at h1
  | cons v vs' =>
    exact ⟨v, vs', rfl, h2 0 av v (by simp) (by simp), by simpa using h1, fun k a u h3 h4 => h2 (k + 1) a u (by simpa using h3) (by simpa using h4)⟩
theorem DenL.nil_inv {vs : List Value} (h : DenL W C ρ [] vs) : vs = [] := by have := h.1; simpa using this
theorem DenL.at {cs : List AVal} {vs : List Value} (h : DenL W C ρ cs vs) {k : Nat} {av : AVal} (hk : cs[k]? = some av) : ∃ u, vs[k]? = some u ∧ Den W C ρ av u := by
  have hl : k < vs.length := by
    have := (List.getElem?_eq_some_iff.1 hk).1
    have := h.1; omega
  exact ⟨vs[k], List.getElem?_eq_getElem hl, h.2 k av _ hk (List.getElem?_eq_getElem hl)⟩
theorem DenL.drop {cs : List AVal} {vs : List Value} (h : DenL W C ρ cs vs) (n : Nat) : DenL W C ρ (cs.drop n) (vs.drop n) :=
  ⟨by simp [h.1], fun k av u h1 h2 => h.2 (n + k) av u (by simpa using h1) (by simpa using h2)⟩
theorem DenL.take {cs : List AVal} {vs : List Value} (h : DenL W C ρ cs vs) (n : Nat) : DenL W C ρ (cs.take n) (vs.take n) :=
  ⟨by simp [h.1], fun k av u h1 h2 => by
    rw [List.getElem?_take] at h1 h2
    split at h1
    · rename_i hk; rw [if_pos hk] at h2; exact h.2 k av u h1 h2
    · cases h1⟩
theorem DenL.append {cs cs' : List AVal} {vs vs' : List Value} (h : DenL W C ρ cs vs) (k : DenL W C ρ cs' vs') : DenL W C ρ (cs ++ cs') (vs ++ vs') := by
  refine ⟨by simp [h.1, k.1], fun i av u h1 h2 => ?_⟩
  rw [List.getElem?_append] at h1 h2
  rw [h.1] at h2
  split at h1
  · rename_i hi; rw [if_pos hi] at h2; exact h.2 i av u h1 h2
  · rename_i hi; rw [if_neg hi] at h2; exact k.2 _ av u h1 h2
end

/-- A map's key: an integer, a string, integers in line. -/
inductive Key where
  | i (n : Int)
  | s (b : ByteArray)
  | a (l : List Int)
  deriving DecidableEq
/-- A map's keys' kind. -/
inductive KK where
  | int
  | str
  | arr (n : Nat)
  | pair
  deriving DecidableEq
/-- An object of the abstract heap. -/
inductive AObj where
  | box (cs : List AVal)
  | row (t : Ty) (xs : List t.D)
  | set (kk : KK) (mp : Bool) (es : List (Key × ByteArray))

/-- A map's key as the program holds it. -/
def keyV : Key → Value
  | .i n => .int .i64 n
  | .s b => .string b
  | .a l => .agg ⟨l.map (Value.int .i64)⟩
def okKey : KK → Key → Bool
  | .int, .i _ => true
  | .str, .s _ => true
  | .arr n, .a l => decide (l.length = n)
  | .pair, .a l => decide (l.length = 2)
  | _, _ => false
/-- A map's value: a string, or just true. -/
def valV (mp : Bool) (x : ByteArray) : Value := if mp = true then .string x else .bool true
def getM : List (Key × ByteArray) → Key → Option ByteArray
  | [], _ => none
  | (k', x) :: r, k => if k' = k then some x else getM r k
/-- The entries of a map say what es says (what stands first counts). -/
def MapOk (kk : KK) (mp : Bool) (es : List (Key × ByteArray)) (l : List MapEntry) : Prop :=
  (l.map (·.key)).Nodup ∧ (∀ e ∈ l, ∃ k x, okKey kk k = true ∧ e.key = keyV k ∧ e.val = valV mp x ∧ getM es k = some x) ∧
    ∀ k x, okKey kk k = true → getM es k = some x → ∃ e ∈ l, e.key = keyV k

abbrev Hp := List (Nat × AObj)

def mostLen : Nat := 9223372036854775807

def ObjOk (W : World) (C : CR) (ρ : Nm) (w : World) (m : Nat) : AObj → Prop
  | .box cs => ∃ b T vs, ρ m = some (some (b, 0, 0)) ∧ w.heap[b]? = some (.cells ⟨vs⟩ T (0, 0)) ∧ DenL W C ρ cs vs
  | .row t xs => (ρ m = some none ∧ xs = []) ∨ ∃ b o c T vs, ρ m = some (some (b, o, c)) ∧ w.heap[b]? = some (.cells ⟨vs⟩ T (0, 0)) ∧
      o + c * sz t ≤ vs.length ∧ xs.length ≤ c ∧ c ≤ mostLen ∧
      ∀ (i f : Nat) (x : t.D) (av : AVal), xs[i]? = some x → (enc t x)[f]? = some av → ∃ u, vs[o + i * sz t + f]? = some u ∧ Den W C ρ av u
  | .set kk mp es => ∃ b l c, ρ m = some (some (b, 0, 0)) ∧ w.heap[b]? = some (.map l c) ∧ MapOk kk mp es l.toList

structure HpOk (W : World) (C : CR) (ρ : Nm) (nx : Nat) (w : World) (L : Hp) : Prop where
  obj : ∀ m o, lk L m = some o → ObjOk W C ρ w m o
  apart : ∀ m o m' o' b x b' x', lk L m = some o → lk L m' = some o' → m ≠ m' → ρ m = some (some (b, x)) → ρ m' = some (some (b', x')) → b ≠ b'
  own : ∀ m o b x, lk L m = some o → ρ m = some (some (b, x)) → b < w.heap.size ∧ (W.heap.size ≤ b ∨ C.chg b)
  above : ∀ m, nx ≤ m → ρ m = none
  os : w.os = W.os
  tape : w.tape = W.tape
  output : w.output = W.output
  size : W.heap.size ≤ w.heap.size
  old : ∀ b, b < W.heap.size → ¬ C.chg b → w.heap[b]? = W.heap[b]?

structure S where
  σ : List (Nat × AVal)
  L : Hp
  nx : Nat
  n : Nat

structure FrOk (W : World) (C : CR) (ρ : Nm) (s : S) (a : Act) : Prop where
  slot : ∀ d av, lk s.σ d = some av → ∃ v, a.tmps[d]? = some v ∧ Den W C ρ av v
  size : a.tmps.size = s.n
  defers : a.defers = []

structure StOk (W : World) (C : CR) (ρ : Nm) (s : S) (a : Act) (w : World) : Prop where
  fr : FrOk W C ρ s a
  hp : HpOk W C ρ s.nx w s.L

def St (W : World) (C : CR) (s : S) (a : Act) (w : World) : Prop := ∃ ρ, StOk W C ρ s a w

theorem ObjOk.mono {W : World} {C : CR} {ρ ρ' : Nm} (hs : Sub0 ρ ρ') {w : World} {m : Nat} {o : AObj} (h : ObjOk W C ρ w m o) : ObjOk W C ρ' w m o := by
  cases o with
  | box cs => obtain ⟨b, T, vs, h1, h2, h3⟩ := h; exact ⟨b, T, vs, hs _ _ h1, h2, h3.mono hs⟩
  | row t xs =>
    rcases h with ⟨h1, h2⟩ | ⟨b, o, c, T, vs, h1, h2, h3, h4, h5, h6⟩
    · exact .inl ⟨hs _ _ h1, h2⟩
    · exact .inr ⟨b, o, c, T, vs, hs _ _ h1, h2, h3, h4, h5, fun i f x av hx ha => let ⟨u, h7, h8⟩ := h6 i f x av hx ha; ⟨u, h7, h8.mono hs⟩⟩
  | set kk mp es => obtain ⟨b, l, c, h1, h2, h3⟩ := h; exact ⟨b, l, c, hs _ _ h1, h2, h3⟩

/-- The object lies in another world where its block is the same. -/
theorem ObjOk.world {W : World} {C : CR} {ρ : Nm} {w w' : World} {m : Nat} {o : AObj} (h : ObjOk W C ρ w m o)
    (hb : ∀ b x, ρ m = some (some (b, x)) → w'.heap[b]? = w.heap[b]?) : ObjOk W C ρ w' m o := by
  cases o with
  | box cs => obtain ⟨b, T, vs, h1, h2, h3⟩ := h; exact ⟨b, T, vs, h1, (hb _ _ h1).trans h2, h3⟩
  | row t xs =>
    rcases h with ⟨h1, h2⟩ | ⟨b, o, c, T, vs, h1, h2, h3⟩
    · exact .inl ⟨h1, h2⟩
    · exact .inr ⟨b, o, c, T, vs, h1, (hb _ _ h1).trans h2, h3⟩
  | set kk mp es => obtain ⟨b, l, c, h1, h2, h3⟩ := h; exact ⟨b, l, c, h1, (hb _ _ h1).trans h2, h3⟩

/-- Nothing that was there has turned. -/
theorem HpOk.below {W : World} {C : CR} {ρ : Nm} {nx : Nat} {w w' : World} {L : Hp} (h : HpOk W C ρ nx w L) (hb : Below w.heap.size w w') : HpOk W C ρ nx w' L where
  obj m o hm := (h.obj m o hm).world fun b x hx => hb.block b (h.own m o b x hm hx).1
  apart := h.apart
  own m o b x hm hx := ⟨Nat.lt_of_lt_of_le (h.own m o b x hm hx).1 hb.size, (h.own m o b x hm hx).2⟩
  above := h.above
  os := hb.os.trans h.os
  tape := hb.tape.trans h.tape
  output := hb.output.trans h.output
  size := Nat.le_trans h.size hb.size
  old b hlt hc := (hb.block b (Nat.lt_of_lt_of_le hlt h.size)).trans (h.old b hlt hc)

def S.ev (s : S) : Operand → AVal
  | .tmp t => (lk s.σ t).getD .junk
  | .const (.agg cs) => .agg (cs.toList.map .v)
  | .const x => .v x
  | .func f => .fn f []
  | .global g => .v (.pointer (some ⟨g, 0, none⟩))

def S.put (s : S) (d : Option Tmp) (av : AVal) : S :=
  match d with
  | some d => { s with σ := (d, av) :: s.σ }
  | none => s

theorem den_vs {W : World} {C : CR} {ρ : Nm} (l : List Value) : DenL W C ρ (l.map .v) l :=
  ⟨by simp, fun k av u h1 h2 => by simp [h2] at h1; subst h1; exact .v u⟩

theorem FrOk.ev {W : World} {C : CR} {ρ : Nm} {s : S} {a : Act} (h : FrOk W C ρ s a) (x : Operand) : Den W C ρ (s.ev x) (a.eval x) := by
  cases x with
  | tmp t =>
    simp only [S.ev, Act.eval]
    cases hl : lk s.σ t with
    | none => exact .junk _
    | some av =>
      obtain ⟨v, h1, h2⟩ := h.slot t av hl
      have : a.tmps.getD t undef = v := by simp [Array.getD_eq_getD_getElem?, h1]
      rw [this]; exact h2
  | const v =>
    simp only [Act.eval]
    cases v with
    | agg cs => exact .agg cs.toList (by simp) (den_vs (W := W) (C := C) (ρ := ρ) cs.toList).2
    | _ => exact .v _
  | global g => exact .v _
  | func f => exact .fn (cs := []) [] rfl (fun k av u h => by simp at h)

theorem FrOk.put {W : World} {C : CR} {ρ : Nm} {s : S} {a : Act} (h : FrOk W C ρ s a) {d : Option Tmp} (hd : ∀ t, d = some t → t < s.n) {av : AVal} {v : Value} (hv : Den W C ρ av v) :
    FrOk W C ρ (s.put d av) (a.put d v) := by
  cases d with
  | none => exact h
  | some d =>
    refine ⟨fun d' av' hl => ?_, by simp [Act.put, S.put, h.size], by simp [Act.put, h.defers]⟩
    simp only [S.put, lk] at hl
    have hlt : d < a.tmps.size := by rw [h.size]; exact hd d rfl
    by_cases e : d = d'
    · subst e
      rw [if_pos rfl] at hl
      cases hl
      exact ⟨v, by simp [Act.put, Array.getElem?_setIfInBounds, hlt], hv⟩
    · rw [if_neg e] at hl
      obtain ⟨v', h1, h2⟩ := h.slot d' av' hl
      exact ⟨v', by simp [Act.put, Array.getElem?_setIfInBounds, e, h1], h2⟩

theorem FrOk.mono {W : World} {C : CR} {ρ ρ' : Nm} (hs : Sub0 ρ ρ') {s s' : S} {a : Act} (h : FrOk W C ρ s a) (e1 : s'.σ = s.σ) (e2 : s'.n = s.n) : FrOk W C ρ' s' a :=
  ⟨fun d av hl => let ⟨v, h1, h2⟩ := h.slot d av (by rwa [e1] at hl); ⟨v, h1, h2.mono hs⟩, by rw [e2]; exact h.size, h.defers⟩
end Go.Proofs.YthghcialeghgoaaDoorE

/-! Operations that yield a value and leave the world alone. -/
namespace Go.Proofs.YthghcialeghgoaaDoorE
open Go Go.RowKit
set_option linter.unusedSimpArgs false
set_option linter.unusedVariables false

inductive IOp where
  | mov (x : Operand)
  | bin (op : BinOp) (x y : Operand)
  | beq (neg : Bool) (x y : Operand)
  | una (op : UnOp) (x : Operand)
  | cvi (k : IntKind) (x : Operand)
  | pick (c a b : Operand)
  | ext (x : Operand) (i : Nat)
  | load (n : Nat) (ag : Bool) (p : Operand)
  | nilc (x : Operand)
  | snil (neg : Bool) (x : Operand)
  | fadr (off : Nat) (p : Operand)
  | fld (off n : Nat) (ag : Bool) (x : Operand)
  | iadr (s : Nat) (x i : Operand)
  | iarr (s len : Nat) (p i : Operand)
  | idx (s len : Nat) (ag : Bool) (x i : Operand)
  | bld (z : List Value) (parts : List (Nat × Nat × Operand))
  | slc (s : Nat) (x : Operand) (lo hi : Option Operand)
  | len (x : Operand)
  | slen (x : Operand)
  | s2a (n : Nat) (x : Operand)
  | aeq (neg : Bool) (n : Nat) (x y : Operand)
  | mfn (f : Nat) (cap : List Operand)
  | box (x : Operand)
  | new (z : List Value)
  | store (n : Nat) (p x : Operand)
  | mk (t : Ty) (bytes : Nat) (x y : Operand)
  | blds (t : Ty) (len : Nat) (parts : List (Nat × Nat × Operand))
  | app (t : Ty) (bytes : Nat) (x y : Operand)
  | call (f : Nat) (args : List Operand)
  | callv (x : Operand) (args : List Operand)
  | cpy (t : Ty) (x y : Operand)
  | slca (s n : Nat) (x : Operand) (lo hi : Option Operand)
  | newr (t : Ty) (n : Nat)
  | b2s (t : Ty) (x : Operand)
  | slc3 (x lo hi mx : Operand)
  | heq (neg : Bool) (x y : Operand)
  | clr (t : Ty) (x : Operand)
  | sidx (x i : Operand)
  | sslc (x : Operand) (lo hi : Option Operand)
  | mmk (kk : KK) (mp : Bool)
  | mget (kk : KK) (mp ok : Bool) (m k : Operand)
  | mput (kk : KK) (mp : Bool) (m k v : Operand)

/-! Wrapping, under a name that is not looked into. -/
theorem wr_ex : ∃ f : IntKind → Int → Int, f = IntKind.wrap := ⟨_, rfl⟩
noncomputable def wr : IntKind → Int → Int := Classical.choose wr_ex
theorem wr_eq : wr = IntKind.wrap := Classical.choose_spec wr_ex

noncomputable def andV (k : IntKind) (a b : Int) : Int := wr k (BitVec.ofInt k.bits a &&& BitVec.ofInt k.bits b).toNat
noncomputable def orV (k : IntKind) (a b : Int) : Int := wr k (BitVec.ofInt k.bits a ||| BitVec.ofInt k.bits b).toNat
noncomputable def xorV (k : IntKind) (a b : Int) : Int := wr k (BitVec.ofInt k.bits a ^^^ BitVec.ofInt k.bits b).toNat
noncomputable def shlV (k : IntKind) (a b : Int) : Int := wr k (a * 2 ^ (min b.toNat k.bits))
def shrV (k : IntKind) (a b : Int) : Int := a.fdiv (2 ^ (min b.toNat k.bits))
/-- Two scalars under a binary operator. -/
def binV (op : BinOp) (x y : Value) (K : Value → Prop) : Prop :=
  match x, y with
  | .int k a, .int k' b =>
    match op with
    | .add => k = k' ∧ K (.int k (wr k (a + b)))
    | .sub => k = k' ∧ K (.int k (wr k (a - b)))
    | .mul => k = k' ∧ K (.int k (wr k (a * b)))
    | .quo => k = k' ∧ b ≠ 0 ∧ K (.int k (wr k (a.tdiv b)))
    | .rem => k = k' ∧ b ≠ 0 ∧ K (.int k (a.tmod b))
    | .and => k = k' ∧ K (.int k (andV k a b))
    | .or => k = k' ∧ K (.int k (orV k a b))
    | .xor => k = k' ∧ K (.int k (xorV k a b))
    | .eql => k = k' ∧ K (.bool (decide (a = b)))
    | .neq => k = k' ∧ K (.bool (decide (a ≠ b)))
    | .lss => k = k' ∧ K (.bool (decide (a < b)))
    | .leq => k = k' ∧ K (.bool (decide (a ≤ b)))
    | .gtr => k = k' ∧ K (.bool (decide (a > b)))
    | .geq => k = k' ∧ K (.bool (decide (a ≥ b)))
    | .shl => 0 ≤ b ∧ K (.int k (shlV k a b))
    | .shr => 0 ≤ b ∧ K (.int k (shrV k a b))
    | _ => False
  | .string a, .string b =>
    match op with
    | .eql => K (.bool (decide (a = b)))
    | .neq => K (.bool (decide (a ≠ b)))
    | .add => a.size + b.size ≤ 9223372036854775807 ∧ K (.string (a ++ b))
    | _ => False
  | _, _ => False

def cellsK (ag : Bool) (n : Nat) (l : List AVal) (K : AVal → Prop) : Prop :=
  if ag then l.length = n ∧ K (.agg l) else match l with
    | [x] => K x
    | _ => False

/-- The cells of a row's first elements. -/
def rowA (t : Ty) (xs : List t.D) (k : Nat) : List AVal := ((List.range k).map fun i => enc t (xs.getD i (dflt t))).flatten

def loadP (L : Hp) (n : Nat) (ag : Bool) (p : AVal) (K : AVal → Prop) : Prop :=
  match p with
  | .ptr m off => match lk L m with
    | some (.box cs) => cellsK ag n ((cs.drop off).take n) K
    | _ => False
  | .elt m s i f => match lk L m with
    | some (.row t xs) => (s = sz t ∧ i < xs.length ∧ f + n ≤ sz t) ∧ cellsK ag n (((enc t (xs.getD i (dflt t))).drop f).take n) K
    | _ => False
  | .re t x f => f + n ≤ sz t ∧ cellsK ag n (((enc t x).drop f).take n) K
  | .rp t xs => cellsK ag n (xs.map (enc t)).flatten K
  | .arp m k => match lk L m with
    | some (.row t xs) => xs.length = k ∧ cellsK ag n (rowA t xs k) K
    | _ => False
  | _ => False

def cellsOf : AVal → List AVal
  | .agg cs => cs
  | .v (.agg cs) => cs.toList.map .v
  | .junk => []
  | av => [av]

def splice (l : List AVal) (off : Nat) (cs : List AVal) : List AVal := l.take off ++ cs ++ l.drop (off + cs.length)

def fillA (s : S) : List (Nat × Nat × Operand) → List AVal → (List AVal → Prop) → Prop
  | [], l, K => K l
  | (off, n, x) :: r, l, K => ((cellsOf (s.ev x)).length = n ∧ 0 < n ∧ off + n ≤ l.length) ∧ fillA s r (splice l off (cellsOf (s.ev x))) K

/-- An implication of which the conclusion is looked at only when the premise is settled. -/
def impK (p q : Prop) : Prop := p → q
def atOff (i : Int) (f : Nat → Prop) : List Nat → Nat → Prop
  | [], _ => True
  | o :: r, j => impK (i = (j : Int)) (f o) ∧ atOff i f r (j + 1)

def offs (s len : Nat) : List Nat := (List.range len).map (· * s)

/-- Bytes in line. -/
def u8s : List AVal → Option (List Int)
  | [] => some []
  | .v (.int .u8 n) :: r => (u8s r).map (n :: ·)
  | _ => none
/-- Integers in line. -/
def i64s : List AVal → Option (List Int)
  | [] => some []
  | .v (.int .i64 n) :: r => (i64s r).map (n :: ·)
  | _ => none
def optI (s : S) (x : Option Operand) (d : Int) (K : Int → Prop) : Prop :=
  match x with
  | none => K d
  | some x => match s.ev x with
    | .v (.int _ n) => K n
    | _ => False

/-- A row goes on behind what a slice shows of it. -/
def roomK (L : Hp) (m l0 : Nat) (h : Int) : Prop :=
  match lk L m with
  | some (.row t xs) => (l0 : Int) + h ≤ (xs.length : Int)
  | _ => False

/-- A map's key. -/
def keyK (kk : KK) (av : AVal) (K : Key → Prop) : Prop :=
  match kk with
  | .int => match av with
    | .v (.int .i64 n) => K (.i n)
    | _ => False
  | .str => match av with
    | .v (.string b) => K (.s b)
    | _ => False
  | .arr n => match av with
    | .agg cs => match i64s cs with
      | some l => l.length = n ∧ K (.a l)
      | none => False
    | _ => False
  | .pair => match av with
    | .agg cs => match i64s cs with
      | some l => l.length = 2 ∧ K (.a l)
      | none => False
    | _ => False
def hasM (es : List (Key × ByteArray)) (k : Key) : Bool := (getM es k).isSome
def strM (es : List (Key × ByteArray)) (k : Key) : ByteArray := (getM es k).getD ⟨#[]⟩
/-- What looking a key up tells. -/
def mgetV (mp ok : Bool) (es : List (Key × ByteArray)) (k : Key) : AVal :=
  if ok = true then .tup [if mp = true then .v (.string (strM es k)) else .v (.bool (hasM es k)), .v (.bool (hasM es k))]
  else if mp = true then .v (.string (strM es k)) else .v (.bool (hasM es k))

/-- A string's byte. -/
def byteV (b : ByteArray) (k : Nat) : Int := (b.data.toList.getD k 0).toNat

def vst (s : S) (io : IOp) (K : AVal → Prop) : Prop :=
  match io with
  | .mov x => K (s.ev x)
  | .bin op x y => match s.ev x, s.ev y with
    | .v a, .v b => binV op a b fun r => K (.v r)
    | _, _ => False
  | .beq neg x y => match s.ev x, s.ev y with
    | .v (.bool a), .v (.bool b) => K (.v (.bool (if neg then !(a == b) else a == b)))
    | _, _ => False
  | .una op x => match op, s.ev x with
    | .not, .v (.bool b) => K (.v (.bool (!b)))
    | .neg, .v (.int k n) => K (.v (.int k (wr k (0 - n))))
    | _, _ => False
  | .cvi k x => match s.ev x with
    | .v (.int _ n) => K (.v (.int k (wr k n)))
    | _ => False
  | .pick c a b => match s.ev c with
    | .v (.bool t) => impK (t = true) (K (s.ev a)) ∧ impK (t = false) (K (s.ev b))
    | _ => False
  | .ext x i => match s.ev x with
    | .tup cs => match cs[i]? with
      | some av => K av
      | none => False
    | _ => False
  | .load n ag p => loadP s.L n ag (s.ev p) K
  | .nilc x => match s.ev x with
    | .ptr m off => K (.ptr m off)
    | .elt m z i f => K (.elt m z i f)
    | .re t x f => K (.re t x f)
    | .fn f cs => K (.fn f cs)
    | _ => False
  | .fadr off p => match s.ev p with
    | .ptr m o => K (.ptr m (o + off))
    | .elt m z i f => K (.elt m z i (f + off))
    | .re t x f => K (.re t x (f + off))
    | _ => False
  | .fld off n ag x => match s.ev x with
    | .agg cs => cellsK ag n ((cs.drop off).take n) K
    | _ => False
  | .iadr z x i => match s.ev i with
    | .v (.int _ n) => match s.ev x with
      | .sub m z' lo len => (z = z' ∧ 0 ≤ n ∧ n < (len : Int)) ∧ K (.elt m z (lo + n.toNat) 0)
      | .rs t xs => (z = sz t ∧ 0 ≤ n ∧ n < (xs.length : Int)) ∧ K (.re t (xs.getD n.toNat (dflt t)) 0)
      | _ => False
    | _ => False
  | .iarr z len p i => match s.ev i with
    | .v (.int _ n) => match s.ev p with
      | .ptr m o => (0 ≤ n ∧ n < (len : Int)) ∧ atOff n (fun k => K (.ptr m (o + k))) (offs z len) 0
      | .re t x f => (0 ≤ n ∧ n < (len : Int)) ∧ atOff n (fun k => K (.re t x (f + k))) (offs z len) 0
      | .elt m z' i f => (0 ≤ n ∧ n < (len : Int)) ∧ atOff n (fun k => K (.elt m z' i (f + k))) (offs z len) 0
      | .arp m k => (0 ≤ n ∧ n < (len : Int)) ∧ K (.elt m z n.toNat 0)
      | _ => False
    | _ => False
  | .idx z len ag x i => match s.ev i with
    | .v (.int _ n) => match s.ev x with
      | .agg cs => (0 ≤ n ∧ n < (len : Int)) ∧ atOff n (fun k => cellsK ag z ((cs.drop k).take z) K) (offs z len) 0
      | _ => False
    | _ => False
  | .bld z parts => fillA s parts (z.map .v) fun l => K (.agg l)
  | .slc z x lo hi => match s.ev x with
    | .sub m z' l0 len => z = z' ∧ optI s lo 0 fun l => optI s hi len fun h => (0 ≤ l ∧ l ≤ h ∧ (h ≤ (len : Int) ∨ roomK s.L m l0 h)) ∧ K (.sub m z (l0 + l.toNat) (h - l).toNat)
    | .rs t xs => z = sz t ∧ optI s lo 0 fun l => optI s hi xs.length fun h => (0 ≤ l ∧ l ≤ h ∧ h ≤ (xs.length : Int)) ∧ K (.rs t ((xs.drop l.toNat).take (h - l).toNat))
    | _ => False
  | .slca z n x lo hi => match s.ev x with
    | .arp m k => k = n ∧ optI s lo 0 fun l => optI s hi n fun h => (0 ≤ l ∧ l ≤ h ∧ h ≤ (n : Int)) ∧ K (.sub m z l.toNat (h - l).toNat)
    | _ => False
  | .slc3 x lo hi mx => match s.ev x with
    | .sub m z' l0 len => optI s (some lo) 0 fun l => optI s (some hi) 0 fun h => optI s (some mx) 0 fun q => (0 ≤ l ∧ l ≤ h ∧ h ≤ q ∧ q ≤ (len : Int)) ∧ K .junk
    | _ => False
  | .len x => match s.ev x with
    | .sub _ _ _ len => K (.v (.int .i64 len))
    | .rs _ xs => K (.v (.int .i64 xs.length))
    | .v (.slice none 0 0) => K (.v (.int .i64 0))
    | _ => False
  | .slen x => match s.ev x with
    | .v (.string b) => K (.v (.int .i64 b.size))
    | _ => False
  | .snil neg x => match s.ev x with
    | .sub _ _ _ len => ∀ b : Bool, (b = true → len = 0) → K (.v (.bool (if neg then !b else b)))
    | .rs _ xs => ∀ b : Bool, (b = true → xs = []) → K (.v (.bool (if neg then !b else b)))
    | .v (.slice none 0 0) => K (.v (.bool (if neg then false else true)))
    | _ => False
  | .mfn f cap => K (.fn f (cap.map s.ev))
  | .aeq neg n x y => match s.ev x, s.ev y with
    | .agg cs, .agg cs' => match u8s cs, u8s cs' with
      | some l, some l' => (l.length = n ∧ l'.length = n) ∧ K (.v (.bool (if neg then !decide (l = l') else decide (l = l'))))
      | _, _ => False
    | _, _ => False
  | .heq neg x y => match s.ev x, s.ev y with
    | .agg cs, .agg cs' => match i64s cs, i64s cs' with
      | some l, some l' => (l.length = 4 ∧ l'.length = 4) ∧ K (.v (.bool (if neg then !decide (l = l') else decide (l = l'))))
      | _, _ => False
    | _, _ => False
  | .s2a n x => match s.ev x with
    | .rs t xs => (n ≤ xs.length ∧ 0 < n) ∧ K (.rp t (xs.take n))
    | _ => False
  | .sidx x i => match s.ev x with
    | .v (.string b) => match s.ev i with
      | .v (.int _ n) => (0 ≤ n ∧ n < (b.size : Int)) ∧ K (.v (.int .u8 (byteV b n.toNat)))
      | _ => False
    | _ => False
  | .sslc x lo hi => match s.ev x with
    | .v (.string b) => optI s lo 0 fun l => optI s hi b.size fun h => (0 ≤ l ∧ l ≤ h ∧ h ≤ (b.size : Int)) ∧ K (.v (.string (b.extract l.toNat h.toNat)))
    | _ => False
  | .mget kk mp ok m k => match s.ev m with
    | .mp n => match lk s.L n with
      | some (.set kk' mp' es) => (kk' = kk ∧ mp' = mp) ∧ keyK kk (s.ev k) fun key => K (mgetV mp ok es key)
      | _ => False
    | _ => False
  | _ => False

def cellsAt (P : Program) (t : TypeId) : Option (Nat × Bool) :=
  match P.info? t with
  | none => none
  | some i => match P.underlying t with
    | some (.struct _) => some (i.size, true)
    | some (.array _ _) => some (i.size, true)
    | some _ => some (1, false)
    | none => none

def elemSize (P : Program) (e : TypeId) : Option Nat := (P.info? e).map (·.size)

/-- The parts, by where they lie. -/
def partsAt (pl : Nat → Option (Nat × Nat)) : List (Nat × Operand) → Option (List (Nat × Nat × Operand))
  | [] => some []
  | (i, x) :: r => match pl i, partsAt pl r with
    | some (off, z), some ps => some ((off, z, x) :: ps)
    | _, _ => none

def placesOf (P : Program) (t : TypeId) : Option ((Nat → Option (Nat × Nat)) × Value) :=
  match P.info? t, P.underlying t with
  | some it, some (.array _ e) => match it.zero, P.info? e with
    | some z, some ie => some (fun i => some (i * ie.size, ie.size), z)
    | _, _ => none
  | some it, some (.struct fields) => match it.zero, fields.toList.mapM (fun f => (P.info? f.type).map fun i => (f.offset, i.size)) with
    | some z, some places => some ((places.toArray[·]?), z)
    | _, _ => none
  | _, _ => none

/-- A struct of two integers. -/
def pairInts (P : Program) (e : TypeId) : List Field → Bool
  | [f1, f2] => (match P.underlying f1.type, P.underlying f2.type with
    | some (.int .i64), some (.int .i64) => true
    | _, _ => false) && f1.offset == 0 && f2.offset == 1 && P.cellsOf f1.type == 1 && P.cellsOf f2.type == 1 && P.cellsOf e == 2 && f1.name != "_" && f2.name != "_" && !P.stoodInHeld e
  | _ => false

/-- A map's key type's kind. -/
def kkOf (P : Program) (k : TypeId) : Option KK :=
  match P.underlying k with
  | some (.int .i64) => some .int
  | some .string => some .str
  | some (.array n e) => match P.underlying e, P.info? e with
    | some (.int .i64), some _ => if P.cellsOf e = 1 then some (.arr n) else none
    | _, _ => none
  | some (.struct fs) => if pairInts P k fs.toList = true then some .pair else none
  | _ => none
/-- A map's elements: strings, or bools. -/
def elemMp (P : Program) (e : TypeId) : Option Bool :=
  match P.info? e with
  | some i => match i.zero with
    | some (.bool false) => some false
    | some (.string z) => if z.size = 0 then some true else none
    | _ => none
  | none => none
def mapOf (P : Program) (t : TypeId) : Option (KK × Bool) :=
  match P.underlying t with
  | some (.map k e) => match kkOf P k, elemMp P e with
    | some kk, some mp => some (kk, mp)
    | _, _ => none
  | _ => none

/-- The operation in the words of this file. -/
def lowV (P : Program) (o : Op) : Option IOp :=
  match o with
  | .move x => some (.mov x)
  | .assign x => some (.mov x)
  | .pick c a b => some (.pick c a b)
  | .extract x i => some (.ext x i)
  | .nilCheck x => some (.nilc x)
  | .unOp op _ x => some (.una op x)
  | .binOp op t x y _ => match P.underlying t with
    | some (.int _) => some (.bin op x y)
    | some .string => some (.bin op x y)
    | some (.slice _) => match y with
      | .const (.slice none 0 0) => match op with
        | .eql => some (.snil false x)
        | .neq => some (.snil true x)
        | _ => none
      | _ => none
    | some .bool => match op with
      | .eql => some (.beq false x y)
      | .neq => some (.beq true x y)
      | _ => none
    | some (.array n e) => match P.underlying e, elemSize P e with
      | some (.int .u8), some 1 => match op with
        | .eql => some (.aeq false n x y)
        | .neq => some (.aeq true n x y)
        | _ => none
      | some (.struct fs), some 2 => if n = 2 ∧ pairInts P e fs.toList = true then match op with
        | .eql => some (.heq false x y)
        | .neq => some (.heq true x y)
        | _ => none else none
      | _, _ => none
    | _ => none
  | .convert src d x => match P.underlying src, P.underlying d with
    | some _, some (.int k) => some (.cvi k x)
    | _, _ => none
  | .load t p => match cellsAt P t with
    | some (n, ag) => some (.load n ag p)
    | none => none
  | .fieldAddr t p f => match P.underlying t with
    | some (.struct fs) => match fs[f]? with
      | some fd => match elemSize P fd.type with
        | some (_ + 1) => some (.fadr fd.offset p)
        | _ => none
      | none => none
    | _ => none
  | .field t x f => match P.underlying t with
    | some (.struct fs) => match fs[f]? with
      | some fd => match cellsAt P fd.type with
        | some (n, ag) => some (.fld fd.offset n ag x)
        | none => none
      | none => none
    | _ => none
  | .indexAddr t x i => match P.underlying t with
    | some (.slice e) => match elemSize P e with
      | some z => some (.iadr z x i)
      | none => none
    | some (.array len e) => match elemSize P e with
      | some z => some (.iarr z len x i)
      | none => none
    | _ => none
  | .index t x i => match P.underlying t with
    | some (.array len e) => match cellsAt P e, elemSize P e with
      | some (n, ag), some z => if n = z then some (.idx z len ag x i) else none
      | _, _ => none
    | some .string => some (.sidx x i)
    | _ => none
  | .slice t x lo hi none => match P.underlying t with
    | some (.slice e) => match elemSize P e with
      | some z => some (.slc z x lo hi)
      | none => none
    | some .string => some (.sslc x lo hi)
    | some (.array n e) => match elemSize P e with
      | some z => some (.slca z n x lo hi)
      | none => none
    | _ => none
  | .slice t x (some lo) (some hi) (some mx) => match P.underlying t with
    | some (.slice e) => match elemSize P e with
      | some z => some (.slc3 x lo hi mx)
      | none => none
    | _ => none
  | .build t parts => match placesOf P t with
    | some (pl, z) => match partsAt pl parts.toList with
      | some ps => some (.bld z.cells.toList ps)
      | none => none
    | none => none
  | .makeFunc (.func f) ⟨[]⟩ cap => some (.mfn f cap.toList)
  | .call ⟨.builtin .len, ⟨[x]⟩, ⟨[t]⟩⟩ => match P.underlying t with
    | some (.slice _) => some (.len x)
    | some .string => some (.slen x)
    | _ => none
  | .sliceToArrayPointer arr x => match P.underlying arr with
    | some (.array n _) => some (.s2a n x)
    | _ => none
  | .lookup t x i ok => match mapOf P t with
    | some (kk, mp) => some (.mget kk mp ok x i)
    | none => none
  | _ => none
end Go.Proofs.YthghcialeghgoaaDoorE

/-! A key is looked for in a map of integers' keys. -/
namespace Go.Proofs.YthghcialeghgoaaDoorE
open Go Go.RowKit Go.MapKept
set_option linter.unusedSimpArgs false
set_option linter.unusedVariables false

section
variable {P : Program}
theorem pairInts_spec {e : TypeId} {l : List Field} (h : pairInts P e l = true) : ∃ f1 f2, l = [f1, f2] ∧ P.underlying f1.type = some (.int .i64) ∧ P.underlying f2.type = some (.int .i64) ∧ f1.offset = 0 ∧ f2.offset = 1 ∧
    P.cellsOf f1.type = 1 ∧ P.cellsOf f2.type = 1 ∧ P.cellsOf e = 2 ∧ f1.name ≠ "_" ∧ f2.name ≠ "_" ∧ P.stoodInHeld e = false := by
  unfold pairInts at h
  split at h
  · rename_i f1 f2
    simp only [Bool.and_eq_true, beq_iff_eq, bne_iff_ne, Bool.not_eq_true'] at h
    obtain ⟨⟨⟨⟨⟨⟨⟨⟨h0, h1⟩, h2⟩, h3⟩, h4⟩, h5⟩, h6⟩, h7⟩, h8⟩ := h
    split at h0
    · rename_i u1 u2
      exact ⟨f1, f2, rfl, u1, u2, h1, h2, h3, h4, h5, h6, h7, h8⟩
    · cases h0
  · cases h
end
/-- What looking for a key comes to. -/
def Finds (P : Program) (k : TypeId) (key : Value) (es : List MapEntry) : Prop := ∀ w : World, ∃ r, (Instr.findKey k key es).run P w = .ok r w ∧
  ((r = none ∧ ∀ e ∈ es, e.key ≠ key) ∨ ∃ i e, r = some (i, e.val) ∧ es[i]? = some e ∧ e.key = key)
theorem finds_int {P : Program} {k : TypeId} (hk : P.underlying k = some (.int .i64)) (x : Int) (es : List MapEntry) (he : ∀ e ∈ es, ∃ y, e.key = .int .i64 y) : Finds P k (.int .i64 x) es := by
  intro w
  have h1 : IsKey (.int .i64) (.int .i64 x) := by simp [IsKey]
  rcases findNow_spec h1 es 0 (fun e h => by obtain ⟨y, hy⟩ := he e h; rw [hy]; simp [IsKey]) with ⟨h2, h3⟩ | ⟨j, e, h2, h3, h4⟩
  · exact ⟨none, run_findKey hk h2, .inl ⟨rfl, h3⟩⟩
  · exact ⟨some (0 + j, e.val), run_findKey hk h2, .inr ⟨j, e, by rw [Nat.zero_add], h3, h4⟩⟩
theorem eqItems_i64 {P : Program} (w : World) (d : Nat) {e : TypeId} (he : P.underlying e = some (.int .i64)) (hc : P.cellsOf e = 1) (xs ys : List Int) : ∀ (is : List Nat), (∀ i ∈ is, i < xs.length ∧ i < ys.length) →
    (Op.eqItems (d + 1) e (P.cellsOf e) ⟨xs.map (Value.int .i64)⟩ ⟨ys.map (Value.int .i64)⟩ is).run P w = .ok (is.all fun i => xs[i]? == ys[i]?) w
  | [], _ => by simp [Op.eqItems]
  | i :: is, h => by
    obtain ⟨h1, h2⟩ := h i (List.mem_cons_self)
    have hp : P.plainKey e = true := by unfold Program.plainKey; rw [he]
    have p1 := run_part_plain (P := P) (w := w) hp (xs := ⟨xs.map (Value.int .i64)⟩) (off := i) (v := .int .i64 xs[i]) (by simp [h1])
    have p2 := run_part_plain (P := P) (w := w) hp (xs := ⟨ys.map (Value.int .i64)⟩) (off := i) (v := .int .i64 ys[i]) (by simp [h2])
    have ih := eqItems_i64 w d he hc xs ys is (fun j hj => h j (List.mem_cons_of_mem _ hj))
    simp only [Op.eqItems, Sem.run_bind, hc, Nat.mul_one, p1, p2, Result.andThen_ok, run_equalIn_int w d e .i64 .i64 xs[i] ys[i] he]
    rw [hc] at ih
    by_cases hh : xs[i] = ys[i]
    · simp [hh, ih, List.getElem?_eq_getElem h1, List.getElem?_eq_getElem h2]
    · simp [hh, List.getElem?_eq_getElem h1, List.getElem?_eq_getElem h2]
theorem arr_equal {P : Program} (w : World) {t e : TypeId} {n : Nat} {i : TypeInfo} (ht : P.underlying t = some (.array n e)) (he : P.underlying e = some (.int .i64)) (hc : P.cellsOf e = 1) (hi : P.info? e = some i) (xs ys : List Int) (hx : xs.length = n) (hy : ys.length = n) :
    (Op.equal t (.agg ⟨xs.map (Value.int .i64)⟩) (.agg ⟨ys.map (Value.int .i64)⟩)).run P w = .ok (decide (xs = ys)) w := by
  have h1 := run_equalIn_array (P := P) (w := w) 9999 ⟨xs.map (Value.int .i64)⟩ ⟨ys.map (Value.int .i64)⟩ ht hi
  have h2 := eqItems_i64 (P := P) w 9998 he hc xs ys (List.range n) (fun j hj => by have := List.mem_range.1 hj; omega)
  have h3 : ((List.range n).all fun j => xs[j]? == ys[j]?) = decide (xs = ys) := by
    by_cases hxy : xs = ys
    · subst hxy; simp
    · rw [decide_eq_false hxy, List.all_eq_false]
      apply Classical.byContradiction
      intro hno
      apply hxy
      apply List.ext_getElem?
      intro j
      by_cases hj : j < n
      · apply Classical.byContradiction
        intro hne
        exact hno ⟨j, List.mem_range.2 hj, by simpa using hne⟩
      · rw [List.getElem?_eq_none (by omega), List.getElem?_eq_none (by omega)]
  rw [← h3]; exact h1.trans h2
theorem check_arr {P : Program} (w : World) {k e : TypeId} {n : Nat} {i : TypeInfo} (hk : P.underlying k = some (.array n e)) (he : P.underlying e = some (.int .i64)) (hc : P.cellsOf e = 1) (hi : P.info? e = some i) (xs : List Int) (hx : xs.length = n) (em : Bool) (d : Nat) :
    (Instr.checkKey em (d + 2) k (.agg ⟨xs.map (Value.int .i64)⟩)).run P w = .ok () w := by
  unfold Instr.checkKey
  have hs : i.size = 1 := by unfold Program.cellsOf at hc; rw [hi] at hc; simpa using hc
  simp only [Sem.run_bind, run_underlying hk, Result.andThen_ok]
  simp only [Std.Legacy.Range.forIn_eq_forIn_range', Std.Legacy.Range.size, Nat.sub_zero, Nat.add_one_sub_one, Nat.div_one]
  have key : ∀ (l : List Nat), (∀ j ∈ l, j < n) → (forIn l PUnit.unit fun j _ => (do Instr.checkKey em (d + 1) e (← part e ⟨xs.map (Value.int .i64)⟩ (j * (← sizeOf e))); pure (ForInStep.yield PUnit.unit) : Sem (ForInStep PUnit))).run P w = .ok PUnit.unit w := by
    intro l
    induction l with
    | nil => intro _; simp
    | cons j r ih =>
      intro h
      have hj : j < xs.length := by rw [hx]; exact h j List.mem_cons_self
      have hp : P.plainKey e = true := by unfold Program.plainKey; rw [he]
      have p1 := run_part_plain (P := P) (w := w) hp (xs := ⟨xs.map (Value.int .i64)⟩) (off := j) (v := .int .i64 xs[j]) (by simp [hj])
      have c1 := run_checkKey (P := P) (w := w) (kt := e) (k := .int .i64 xs[j]) he (by simp [IsKey]) em d
      simp only [List.forIn_cons, Sem.run_bind, run_sizeOf w hi, Result.andThen_ok, hc, Nat.mul_one, p1, c1, Sem.run_pure]
      exact ih (fun j hj => h j (List.mem_cons_of_mem _ hj))
  have := key (List.range' 0 n) (fun j hj => by rw [List.mem_range'_1] at hj; omega)
  simp only [Sem.run_bind, bind_pure_comp] at this ⊢
  rw [this]; rfl
theorem finds_str {P : Program} {k : TypeId} (hk : P.underlying k = some .string) (x : ByteArray) (es : List MapEntry) (he : ∀ e ∈ es, ∃ y, e.key = .string y) : Finds P k (.string x) es := by
  intro w
  have h1 : IsKey .string (.string x) := by simp [IsKey]
  rcases findNow_spec h1 es 0 (fun e h => by obtain ⟨y, hy⟩ := he e h; rw [hy]; simp [IsKey]) with ⟨h2, h3⟩ | ⟨j, e, h2, h3, h4⟩
  · exact ⟨none, run_findKey hk h2, .inl ⟨rfl, h3⟩⟩
  · exact ⟨some (0 + j, e.val), run_findKey hk h2, .inr ⟨j, e, by rw [Nat.zero_add], h3, h4⟩⟩
theorem pair_equal {P : Program} (w : World) {e : TypeId} {fs : Array Field} (he : P.underlying e = some (.struct fs)) (hp : pairInts P e fs.toList = true) (r s r' s' : Int) :
    (Op.equal e (.agg #[.int .i64 r, .int .i64 s]) (.agg #[.int .i64 r', .int .i64 s'])).run P w = .ok (decide ([r, s] = [r', s'])) w := by
  obtain ⟨f1, f2, hl, u1, u2, o1, o2, z1, z2, hc, n1, n2, hst⟩ := pairInts_spec hp
  have hfs : fs = #[f1, f2] := by apply Array.toList_inj.1; rw [hl]
  subst hfs
  have hf : P.fieldsOf e = #[f1, f2] := by simp [Program.fieldsOf, he]
  have p1 : P.plainKey f1.type = true := by unfold Program.plainKey; rw [u1]
  have p2 : P.plainKey f2.type = true := by unfold Program.plainKey; rw [u2]
  have main : (Op.equalIn 10000 e (.agg #[.int .i64 r, .int .i64 s]) (.agg #[.int .i64 r', .int .i64 s'])).run P w = .ok (r == r' && s == s') w := by
    rw [run_equalIn_agg w 9999 e _ _ (by rw [hf]; exact he) hst, hf]
    have q1 := run_part_plain (P := P) (w := w) p1 (xs := #[.int .i64 r, .int .i64 s]) (off := 0) (v := .int .i64 r) (by simp)
    have q2 := run_part_plain (P := P) (w := w) p1 (xs := #[.int .i64 r', .int .i64 s']) (off := 0) (v := .int .i64 r') (by simp)
    have q3 := run_part_plain (P := P) (w := w) p2 (xs := #[.int .i64 r, .int .i64 s]) (off := 1) (v := .int .i64 s) (by simp)
    have q4 := run_part_plain (P := P) (w := w) p2 (xs := #[.int .i64 r', .int .i64 s']) (off := 1) (v := .int .i64 s') (by simp)
    have e1 : (Op.equalIn 9999 f1.type (.int .i64 r) (.int .i64 r')).run P w = .ok (r == r') w := run_equalIn_int (P := P) w 9998 f1.type .i64 .i64 r r' u1
    have e2 : (Op.equalIn 9999 f2.type (.int .i64 s) (.int .i64 s')).run P w = .ok (s == s') w := run_equalIn_int (P := P) w 9998 f2.type .i64 .i64 s s' u2
    cases h1 : (r == r') <;> cases h2 : (s == s') <;> simp [Op.eqFields, n1, n2, o1, o2, q1, q2, q3, q4, e1, e2, h1, h2]
  rw [show decide ([r, s] = [r', s']) = (r == r' && s == s') by by_cases k1 : r = r' <;> by_cases k2 : s = s' <;> simp [k1, k2]]
  exact main
/-- Where keys are asked for their equality one after the other. -/
theorem finds_ask {P : Program} {k : TypeId} {d : TypeDesc} (hk : P.underlying k = some d) {n : Nat} (xs : List Int) (hx : xs.length = n)
    (hnow : ∀ (e0 : MapEntry) (r : List MapEntry), Instr.findNow d (.agg ⟨xs.map (Value.int .i64)⟩) (e0 :: r) 0 = none)
    (heq : ∀ (w : World) (ys : List Int), ys.length = n → (Op.equal k (.agg ⟨xs.map (Value.int .i64)⟩) (.agg ⟨ys.map (Value.int .i64)⟩)).run P w = .ok (decide (xs = ys)) w) (es : List MapEntry)
    (hes : ∀ e ∈ es, ∃ ys : List Int, ys.length = n ∧ e.key = .agg ⟨ys.map (Value.int .i64)⟩) : Finds P k (.agg ⟨xs.map (Value.int .i64)⟩) es := by
  intro w
  have ask : ∀ (l : List MapEntry) (j : Nat), (∀ e ∈ l, ∃ ys : List Int, ys.length = n ∧ e.key = .agg ⟨ys.map (Value.int .i64)⟩) → ∃ r, (Instr.findAsking k (.agg ⟨xs.map (Value.int .i64)⟩) l j).run P w = .ok r w ∧
      ((r = none ∧ ∀ e ∈ l, e.key ≠ .agg ⟨xs.map (Value.int .i64)⟩) ∨ ∃ i e, r = some (j + i, e.val) ∧ l[i]? = some e ∧ e.key = .agg ⟨xs.map (Value.int .i64)⟩) := by
    intro l
    induction l with
    | nil => intro j _; exact ⟨none, by simp [Instr.findAsking], .inl ⟨rfl, fun e h => by cases h⟩⟩
    | cons e0 r ih =>
      intro j h
      obtain ⟨ys, hy, hkey⟩ := h e0 (List.mem_cons_self)
      have heq := heq w ys hy
      rw [← hkey] at heq
      by_cases hxy : xs = ys
      · subst hxy
        exact ⟨some (j, e0.val), by simp [Instr.findAsking, heq], .inr ⟨0, e0, rfl, rfl, hkey⟩⟩
      · obtain ⟨q, hq, hr⟩ := ih (j + 1) (fun e he => h e (List.mem_cons_of_mem _ he))
        refine ⟨q, by simp [Instr.findAsking, heq, hxy, hq], ?_⟩
        rcases hr with ⟨rfl, h2⟩ | ⟨i2, e2, rfl, h3, h4⟩
        · refine .inl ⟨rfl, fun e he => ?_⟩
          rcases List.mem_cons.1 he with rfl | he
          · intro e1
            rw [hkey] at e1
            simp only [Value.agg.injEq, Array.mk.injEq] at e1
            exact hxy (((List.map_inj_right (fun x y e => by injection e)).1 e1).symm)
          · exact h2 e he
        · exact .inr ⟨i2 + 1, e2, by rw [Nat.add_assoc, Nat.add_comm 1 i2], by simpa using h3, h4⟩
  cases es with
  | nil => exact ⟨none, by simp [Instr.findKey, run_underlying hk, Instr.findNow], .inl ⟨rfl, fun e h => by cases h⟩⟩
  | cons e0 r =>
    obtain ⟨q, hq, hr⟩ := ask (e0 :: r) 0 hes
    refine ⟨q, ?_, ?_⟩
    · simp [Instr.findKey, run_underlying hk, hnow e0 r, hq]
    · rcases hr with hr | ⟨i2, e2, h1, h2, h3⟩
      · exact .inl hr
      · exact .inr ⟨i2, e2, by rw [h1, Nat.zero_add], h2, h3⟩
theorem check_pair {P : Program} (w : World) {k : TypeId} {fs : Array Field} (hk : P.underlying k = some (.struct fs)) (hp : pairInts P k fs.toList = true) (r s : Int) (em : Bool) (d : Nat) :
    (Instr.checkKey em (d + 2) k (.agg #[.int .i64 r, .int .i64 s])).run P w = .ok () w := by
  obtain ⟨f1, f2, hl, u1, u2, o1, o2, z1, z2, hc, n1, n2, hst⟩ := pairInts_spec hp
  have hfs : fs = #[f1, f2] := by apply Array.toList_inj.1; rw [hl]
  subst hfs
  have p1 : P.plainKey f1.type = true := by unfold Program.plainKey; rw [u1]
  have p2 : P.plainKey f2.type = true := by unfold Program.plainKey; rw [u2]
  have q1 := run_part_plain (P := P) (w := w) p1 (xs := #[.int .i64 r, .int .i64 s]) (off := 0) (v := .int .i64 r) (by simp)
  have q3 := run_part_plain (P := P) (w := w) p2 (xs := #[.int .i64 r, .int .i64 s]) (off := 1) (v := .int .i64 s) (by simp)
  have c1 := run_checkKey (P := P) (w := w) (kt := f1.type) (k := .int .i64 r) u1 (by simp [IsKey]) em d
  have c2 := run_checkKey (P := P) (w := w) (kt := f2.type) (k := .int .i64 s) u2 (by simp [IsKey]) em d
  unfold Instr.checkKey
  simp [run_underlying hk, n1, n2, o1, o2, q1, q3, c1, c2]

theorem keyV_inj {kk : KK} {a b : Key} (ha : okKey kk a = true) (hb : okKey kk b = true) (h : keyV a = keyV b) : a = b := by
  cases a <;> cases b <;> simp_all [keyV]
  exact List.map_inj_right (fun x y e => by injection e) |>.1 h
theorem okKey_arr {n : Nat} {k : Key} (h : okKey (.arr n) k = true) : ∃ l : List Int, k = .a l ∧ l.length = n := by
  cases k <;> simp [okKey] at h
  exact ⟨_, rfl, h⟩
theorem okKey_pair {k : Key} (h : okKey .pair k = true) : ∃ a b : Int, k = .a [a, b] := by
  cases k <;> simp [okKey] at h
  rename_i l
  match l, h with
  | [a, b], _ => exact ⟨a, b, rfl⟩
theorem kk_finds {P : Program} {k : TypeId} {kk : KK} (hk : kkOf P k = some kk) {key : Key} (ho : okKey kk key = true) (es : List MapEntry) (hes : ∀ e ∈ es, ∃ k', okKey kk k' = true ∧ e.key = keyV k') : Finds P k (keyV key) es := by
  unfold kkOf at hk
  split at hk
  · rename_i hu; cases hk
    cases key <;> simp [okKey] at ho
    exact finds_int hu _ es (fun e he => by
      obtain ⟨k', h1, h2⟩ := hes e he
      cases k' <;> simp [okKey] at h1
      exact ⟨_, h2⟩)
  · rename_i hu; cases hk
    cases key <;> simp [okKey] at ho
    exact finds_str hu _ es (fun e he => by
      obtain ⟨k', h1, h2⟩ := hes e he
      cases k' <;> simp [okKey] at h1
      exact ⟨_, h2⟩)
  · rename_i n e hu
    split at hk
    · rename_i i he hi
      split at hk
      · rename_i hc; cases hk
        obtain ⟨l, rfl, hl⟩ := okKey_arr ho
        exact finds_ask hu l hl (fun e0 r => by simp [Instr.findNow, Instr.sameNow]) (fun w ys hy => arr_equal w hu he hc hi l ys hl hy) es (fun e he => by
          obtain ⟨k', h1, h2⟩ := hes e he
          obtain ⟨l', rfl, hl'⟩ := okKey_arr h1
          exact ⟨l', hl', h2⟩)
      · cases hk
    · cases hk
  · rename_i fs hu
    split at hk
    · rename_i hp; cases hk
      obtain ⟨a, b, rfl⟩ := okKey_pair ho
      exact finds_ask hu [a, b] rfl (fun e0 r => by simp [Instr.findNow, Instr.sameNow]) (fun w ys hy => by
        match ys, hy with
        | [c, d], _ => exact pair_equal w hu hp a b c d) es (fun e he => by
          obtain ⟨k', h1, h2⟩ := hes e he
          obtain ⟨c, d, rfl⟩ := okKey_pair h1
          exact ⟨[c, d], rfl, h2⟩)
    · cases hk
  · cases hk
theorem kk_check {P : Program} {k : TypeId} {kk : KK} (hk : kkOf P k = some kk) {key : Key} (ho : okKey kk key = true) (w : World) (em : Bool) : (Instr.checkKey em 10000 k (keyV key)).run P w = .ok () w := by
  unfold kkOf at hk
  split at hk
  · rename_i hu; cases hk
    cases key <;> simp [okKey] at ho
    exact run_checkKey hu (by simp [IsKey, keyV]) em 9999
  · rename_i hu; cases hk
    cases key <;> simp [okKey] at ho
    exact run_checkKey hu (by simp [IsKey, keyV]) em 9999
  · rename_i n e hu
    split at hk
    · rename_i i he hi
      split at hk
      · rename_i hc; cases hk
        obtain ⟨l, rfl, hl⟩ := okKey_arr ho
        exact check_arr w hu he hc hi l hl em 9998
      · cases hk
    · cases hk
  · rename_i fs hu
    split at hk
    · rename_i hp; cases hk
      obtain ⟨a, b, rfl⟩ := okKey_pair ho
      exact check_pair w hu hp a b em 9998
    · cases hk
  · cases hk
theorem kk_same (key : Key) : Instr.sameBits 10000 (keyV key) (keyV key) = true := by
  cases key with
  | i n => simp [keyV, Instr.sameBits]
  | s b => simp only [keyV, Instr.sameBits]; rw [beq_toListBytes]; simp
  | a l =>
    simp only [keyV, Instr.sameBits, beq_self_eq_true, Bool.true_and, List.all_eq_true]
    intro p hp
    have : p.1 = p.2 ∧ p.1 ∈ l.map (Value.int .i64) := by
      generalize l.map (Value.int .i64) = q at hp
      induction q with
      | nil => simp at hp
      | cons x q ih =>
        simp only [List.zip_cons_cons, List.mem_cons] at hp
        rcases hp with rfl | hp
        · simp
        · exact ⟨(ih hp).1, by simp [(ih hp).2]⟩
    obtain ⟨h1, h2⟩ := this
    obtain ⟨x, _, h3⟩ := List.mem_map.1 h2
    rw [← h1, ← h3]; simp [Instr.sameBits]
theorem kk_stays {P : Program} (key : Key) (w : World) : (Instr.keyThatStays (keyV key) (keyV key)).run P w = .ok (keyV key) w := by
  simp [Instr.keyThatStays, kk_same]

/-- A key is looked for. -/
theorem MapOk.find {P : Program} {k : TypeId} {kk : KK} {mp : Bool} {es : List (Key × ByteArray)} {l : List MapEntry} (h : MapOk kk mp es l) (hk : kkOf P k = some kk) {key : Key} (ho : okKey kk key = true) (w : World) :
    ((Instr.findKey k (keyV key) l).run P w = .ok none w ∧ getM es key = none ∧ ∀ e ∈ l, e.key ≠ keyV key) ∨
    ∃ i e x, (Instr.findKey k (keyV key) l).run P w = .ok (some (i, e.val)) w ∧ l[i]? = some e ∧ e.key = keyV key ∧ getM es key = some x ∧ e.val = valV mp x := by
  obtain ⟨h1, h2, h3⟩ := h
  obtain ⟨r, hr, hc⟩ := kk_finds hk ho l (fun e he => let ⟨k', x, h4, h5, _⟩ := h2 e he; ⟨k', h4, h5⟩) w
  rcases hc with ⟨rfl, hn⟩ | ⟨i, e, rfl, hi, he⟩
  · refine .inl ⟨hr, ?_, hn⟩
    cases hg : getM es key with
    | none => rfl
    | some x =>
      obtain ⟨e, he, hke⟩ := h3 key x ho hg
      exact absurd hke (hn e he)
  · obtain ⟨k', x, h4, h5, h6, h7⟩ := h2 e (List.mem_of_getElem? hi)
    obtain rfl : k' = key := keyV_inj h4 ho (by rw [← h5, he])
    exact .inr ⟨i, e, x, hr, hi, he, h7, h6⟩
theorem MapOk.nil {kk : KK} {mp : Bool} : MapOk kk mp [] [] := ⟨by simp, fun e h => by simp at h, fun k x _ h => by simp [getM] at h⟩
theorem MapOk.push {kk : KK} {mp : Bool} {es : List (Key × ByteArray)} {l : List MapEntry} (h : MapOk kk mp es l) {key : Key} (ho : okKey kk key = true) (hn : ∀ e ∈ l, e.key ≠ keyV key) (x : ByteArray) (b : Nat) :
    MapOk kk mp ((key, x) :: es) (l ++ [⟨keyV key, valV mp x, b⟩]) := by
  obtain ⟨h1, h2, h3⟩ := h
  refine ⟨?_, fun e he => ?_, fun k y hk hg => ?_⟩
  · rw [List.map_append]
    refine List.nodup_append.2 ⟨h1, by simp, ?_⟩
    intro a ha b hb
    simp only [List.map_cons, List.map_nil, List.mem_singleton] at hb
    subst hb
    obtain ⟨e, he, rfl⟩ := List.mem_map.1 ha
    exact hn e he
  · rcases List.mem_append.1 he with he | he
    · obtain ⟨k', y, h4, h5, h6, h7⟩ := h2 e he
      refine ⟨k', y, h4, h5, h6, ?_⟩
      simp only [getM]
      rw [if_neg]
      · exact h7
      · intro e1; subst e1; exact hn e he h5
    · simp at he; subst he
      exact ⟨key, x, ho, rfl, rfl, by simp [getM]⟩
  · simp only [getM] at hg
    split at hg
    · rename_i e1; subst e1; exact ⟨⟨keyV key, valV mp x, b⟩, by simp, rfl⟩
    · obtain ⟨e, he, hke⟩ := h3 k y hk hg
      exact ⟨e, by simp [he], hke⟩
theorem MapOk.modify {kk : KK} {mp : Bool} {es : List (Key × ByteArray)} {l : List MapEntry} (h : MapOk kk mp es l) {key : Key} (ho : okKey kk key = true) {i : Nat} {e : MapEntry} (hi : l[i]? = some e) (he : e.key = keyV key) (x : ByteArray) :
    MapOk kk mp ((key, x) :: es) (l.modify i fun e => { e with key := keyV key, val := valV mp x }) := by
  obtain ⟨h1, h2, h3⟩ := h
  have hkeys : (l.modify i fun e => { e with key := keyV key, val := valV mp x }).map (·.key) = l.map (·.key) := by
    apply List.ext_getElem?
    intro j
    simp only [List.getElem?_map, List.getElem?_modify]
    by_cases hij : i = j
    · subst hij; simp [hi, he]
    · simp [hij]
  have hil : i < l.length := (List.getElem?_eq_some_iff.1 hi).1
  refine ⟨by rw [hkeys]; exact h1, fun e' he' => ?_, fun k y hk hg => ?_⟩
  · obtain ⟨j, hj⟩ := List.getElem?_of_mem he'
    rw [List.getElem?_modify] at hj
    by_cases hij : i = j
    · subst hij
      simp [hi] at hj
      subst hj
      exact ⟨key, x, ho, rfl, rfl, by simp [getM]⟩
    · simp [hij] at hj
      obtain ⟨k', y, h4, h5, h6, h7⟩ := h2 e' (List.mem_of_getElem? hj)
      refine ⟨k', y, h4, h5, h6, ?_⟩
      simp only [getM]
      rw [if_neg]
      · exact h7
      · intro e1; subst e1
        have hjl : j < l.length := (List.getElem?_eq_some_iff.1 hj).1
        have a1 : (l.map (·.key))[i]? = some (keyV key) := by simp [hi, he]
        have a2 : (l.map (·.key))[j]? = some (keyV key) := by simp [hj, h5]
        exact hij ((List.getElem?_inj (by simpa using hil) h1).1 (a1.trans a2.symm))
  · have hm : keyV k ∈ (l.modify i fun e => { e with key := keyV key, val := valV mp x }).map (·.key) := by
      rw [hkeys]
      simp only [getM] at hg
      split at hg
      · rename_i e1; subst e1; rw [← he]; exact List.mem_map.2 ⟨e, List.mem_of_getElem? hi, rfl⟩
      · obtain ⟨e', he', hke⟩ := h3 k y hk hg
        rw [← hke]; exact List.mem_map.2 ⟨e', he', rfl⟩
    obtain ⟨e', h4, h5⟩ := List.mem_map.1 hm
    exact ⟨e', h4, h5⟩
end Go.Proofs.YthghcialeghgoaaDoorE

/-! Operations that yield a value: what they say is so. -/
namespace Go.Proofs.YthghcialeghgoaaDoorE
open Go Go.RowKit
set_option linter.unusedSimpArgs false
set_option linter.unusedVariables false

section
variable {P : Program} {W : World} {C : CR} {ρ : Nm}

/-- In every world that w has grown into, the operation yields v. -/
def Yl (ld : Bool) (P : Program) (o : Oper) (a : Act) (w : World) (v : Value) : Prop := ∀ w', (ld = true → Below w.heap.size w w') → (execOp a.eval o).run P w' = .ok (.value v) w'

def Res (ld : Bool) (P : Program) (W : World) (C : CR) (ρ : Nm) (o : Oper) (a : Act) (w : World) (K : AVal → Prop) : Prop :=
  ∃ av v, K av ∧ Den W C ρ av v ∧ Yl ld P o a w v

theorem ieq (m n : Int) : (m == n) = decide (m = n) := by by_cases e : m = n <;> simp [e]
theorem ineq (m n : Int) : (m != n) = decide (m ≠ n) := by by_cases e : m = n <;> simp [e, bne]

theorem bin_int (op : BinOp) (t : TypeId) (x y : Operand) (k k' : IntKind) (m n : Int) (K : Value → Prop) (h : binV op (.int k m) (.int k' n) K) :
    ∃ v, K v ∧ ∀ w : World, (do eqGuard op t x y (.int k m) (.int k' n); binOp op t (.int k m) (.int k' n) : Sem Value).run P w = .ok v w := by
  cases op <;> simp only [binV, andV, orV, xorV, shlV, shrV, wr_eq] at h <;>
    first
    | exact h.elim
    | (obtain ⟨rfl, h0, h⟩ := h; refine ⟨_, h, fun w => ?_⟩; simp [eqGuard, binOp, Op.intArith, Op.intDiv, Op.intBits, Op.intCmp, Op.shift, h0]; done)
    | (obtain ⟨rfl, h⟩ := h; refine ⟨_, h, fun w => ?_⟩; simp [eqGuard, binOp, Op.intArith, Op.intDiv, Op.intBits, Op.intCmp, Op.shift]; done)
    | (obtain ⟨h0, h⟩ := h; refine ⟨_, h, fun w => ?_⟩; simp [eqGuard, binOp, Op.intArith, Op.intDiv, Op.intBits, Op.intCmp, Op.shift, Int.not_lt.2 h0]; done)
    | (obtain ⟨rfl, h⟩ := h; refine ⟨_, h, fun w => ?_⟩; simp only [eqGuard, binOp, Op.intCmp, ieq, ineq]; simp; done)

theorem bytes_eq (a b : ByteArray) : (a.toList == b.toList) = decide (a = b) := by
  by_cases e : a = b
  · subst e; simp
  · rw [decide_eq_false e]
    simp only [beq_eq_false_iff_ne, ne_eq]
    intro h
    apply e
    rw [ByteArray.toList_eq, ByteArray.toList_eq] at h
    exact ByteArray.ext (Array.toList_inj.1 h)

theorem bin_str (op : BinOp) (t : TypeId) (x y : Operand) (m n : ByteArray) (K : Value → Prop) (h : binV op (.string m) (.string n) K) :
    ∃ v, K v ∧ ∀ w : World, (do eqGuard op t x y (.string m) (.string n); binOp op t (.string m) (.string n) : Sem Value).run P w = .ok v w := by
  cases op <;> simp only [binV, andV, orV, xorV, shlV, shrV, wr_eq] at h <;>
    first
    | exact h.elim
    | (refine ⟨_, h, fun w => ?_⟩; simp [eqGuard, binOp, Op.stringOp, bytes_eq]; done)
    | (obtain ⟨h0, h⟩ := h
       refine ⟨_, h, fun w => ?_⟩
       have h1 : ¬ ((m.size + n.size : Nat) : Int) > IntKind.i64.max := by
         have : IntKind.i64.max = 9223372036854775807 := by decide
         omega
       simp only [eqGuard, binOp, Op.stringOp, if_neg h1]
       simp)

theorem binV_v (op : BinOp) (t : TypeId) (x y : Operand) (a b : Value) (K : Value → Prop) (h : binV op a b K) :
    ∃ v, K v ∧ ∀ w : World, (do eqGuard op t x y a b; binOp op t a b : Sem Value).run P w = .ok v w := by
  cases a with
  | int k m => cases b with
    | int k' n => exact bin_int op t x y k k' m n K h
    | _ => exact h.elim
  | string m => cases b with
    | string n => exact bin_str op t x y m n K h
    | _ => exact h.elim
  | _ => simp [binV] at h

theorem cell_below {w w' : World} (hb : Below w.heap.size w w') {ad : Addr} {u : Value} (h : w.cell? ad = some u) : w'.cell? ad = some u := by
  rw [hb.cell (World.block_lt_of_cell? _ _ h)]; exact h

/-- n cells lie at ad in w and stand for cs. -/
def CellsAt (W : World) (C : CR) (ρ : Nm) (w : World) (ad : Addr) (cs : List AVal) : Prop :=
  ∃ vs, DenL W C ρ cs vs ∧ ∀ k u, vs[k]? = some u → w.cell? (ad.add k) = some u

theorem load_cells {t : TypeId} {n : Nat} {ag : Bool} (hc : cellsAt P t = some (n, ag)) {w : World} {ad : Addr} {cs : List AVal} (h : CellsAt W C ρ w ad cs)
    {K : AVal → Prop} (hk : cellsK ag n cs K) : ∃ av v, K av ∧ Den W C ρ av v ∧ ∀ w', Below w.heap.size w w' → (loadVar t ad).run P w' = .ok v w' := by
  obtain ⟨vs, hd, hv⟩ := h
  unfold cellsAt at hc
  cases hi : P.info? t with
  | none => simp [hi] at hc
  | some i =>
    simp only [hi] at hc
    have agg : ∀ (hu : (∃ fs, P.underlying t = some (.struct fs)) ∨ (∃ l e, P.underlying t = some (.array l e))), i.size = n → ag = true → ∃ av v, K av ∧ Den W C ρ av v ∧ ∀ w', Below w.heap.size w w' → (loadVar t ad).run P w' = .ok v w' := by
      intro hu hn ha
      subst hn; subst ha
      simp only [cellsK, if_true] at hk
      refine ⟨_, .agg ⟨vs⟩, hk.2, .agg vs hd.1 hd.2, fun w' hb => ?_⟩
      have hl : (loadCells ad i.size).run P w' = .ok ⟨vs⟩ w' := by
        have := run_loadCells_list (P := P) (w := w') ad vs (fun j v hj => cell_below hb (hv j v hj))
        rw [hd.1, hk.1] at this
        simpa using this
      rcases hu with ⟨fs, hu⟩ | ⟨l, e, hu⟩ <;> simp [loadVar, isAgg, sizeOf, underlying, typeInfo, hu, hi, hl]
    cases hu : P.underlying t with
    | none => simp [hu] at hc
    | some d =>
      simp only [hu] at hc
      cases d
      case struct fs => simp at hc; exact agg (.inl ⟨fs, hu⟩) hc.1 hc.2
      case array l e => simp at hc; exact agg (.inr ⟨l, e, hu⟩) hc.1 hc.2
      all_goals
        simp at hc
        obtain ⟨rfl, rfl⟩ := hc
        simp only [cellsK, Bool.false_eq_true, if_false] at hk
        split at hk
        · obtain ⟨u, vs', rfl, hu1, hu2⟩ := DenL.cons_inv hd
          refine ⟨_, u, hk, hu1, fun w' hb => ?_⟩
          have := cell_below hb (hv 0 u (by simp))
          rw [show ad.add 0 = ad from by simp [Addr.add]] at this
          simp [loadVar, isAgg, underlying, hu, run_load, this]
        · exact hk.elim

theorem add_none (b o k : Nat) : (⟨b, o, none⟩ : Addr).add k = ⟨b, o + k, none⟩ := by unfold Addr.add; split <;> simp_all
theorem add_add (ad : Addr) (j k : Nat) : (ad.add j).add k = ad.add (j + k) := by
  unfold Addr.add
  by_cases hj : j = 0
  · subst hj; simp
  · by_cases hk : k = 0
    · subst hk; simp [hj]
    · rw [if_neg hj, if_neg hk, if_neg (by omega)]; simp [Nat.add_assoc]

theorem cell_row {w : World} {b T : Nat} {vs : List Value} {fz : Nat × Nat} (h : w.heap[b]? = some (.cells ⟨vs⟩ T fz)) (o : Nat) : w.cell? ⟨b, o, none⟩ = vs[o]? := by
  simp [World.cell?, h]

theorem rd_world {w : World} {nx : Nat} {L : Hp} (hp : HpOk W C ρ nx w L) {A : Option Addr} {n : Nat} {vs : Nat → Value} (h : RdAt W C A n vs) {ad : Addr} (ha : A = some ad) {k : Nat} (hk : k < n) :
    w.cell? (ad.add k) = some (vs k) := by
  rcases h with h | ⟨ad', h1, h2, h3, h4⟩
  · omega
  · rw [ha] at h1; cases h1
    have hb : (ad.add k).block = ad.block := by unfold Addr.add; split <;> rfl
    rw [World.cell?_of_block (w := W) (hp.old (ad.add k).block (by rw [hb]; exact h2) (by rw [hb]; exact fun e => h3 (C.le _ e)))]
    exact h4 k hk

theorem mul_lt {i n c s : Nat} (h : i < n) (h' : n ≤ c) : i * s + s ≤ c * s := by
  have : (i + 1) * s ≤ c * s := Nat.mul_le_mul_right s (by omega)
  rw [Nat.add_mul, Nat.one_mul] at this; exact this

theorem getD_of {α : Type} {xs : List α} {i : Nat} (h : i < xs.length) (d : α) : xs[i]? = some (xs.getD i d) := by
  simp [List.getD, List.getElem?_eq_getElem h]

theorem flat_get (t : Ty) : ∀ (xs : List t.D) (k : Nat) (av : AVal), ((xs.map (enc t)).flatten)[k]? = some av → ∃ i f x, k = i * sz t + f ∧ i * sz t + f < xs.length * sz t ∧ xs[i]? = some x ∧ (enc t x)[f]? = some av
  | [], k, av, h => by simp at h
  | x :: r, k, av, h => by
    simp only [List.map_cons, List.flatten_cons] at h
    rw [List.getElem?_append, enc_length] at h
    split at h
    · rename_i hk
      exact ⟨0, k, x, by omega, by simp only [List.length_cons, Nat.add_mul]; omega, rfl, h⟩
    · rename_i hk
      obtain ⟨i, f, y, h1, h2, h3, h4⟩ := flat_get t r _ av h
      refine ⟨i + 1, f, y, by rw [Nat.add_mul]; omega, by simp only [List.length_cons, Nat.add_mul]; omega, by simpa using h3, h4⟩
theorem flat_len (t : Ty) : ∀ (xs : List t.D), ((xs.map (enc t)).flatten).length = xs.length * sz t
  | [] => by simp
  | x :: r => by simp only [List.map_cons, List.flatten_cons, List.length_append, enc_length, flat_len t r, List.length_cons, Nat.add_mul]; omega
theorem rowA_eq (t : Ty) (xs : List t.D) : rowA t xs xs.length = (xs.map (enc t)).flatten := by
  unfold rowA
  congr 1
  apply List.ext_getElem?
  intro i
  by_cases h : i < xs.length
  · simp [h, List.getD]
  · simp [h]
theorem loadP_ok {s : S} {a : Act} {w : World} (hs : StOk W C ρ s a w) {n : Nat} {ag : Bool} {p : AVal} {v : Value} (hp : Den W C ρ p v) {K : AVal → Prop} (h : loadP s.L n ag p K) :
    ∃ ad cs, v = .pointer (some ad) ∧ CellsAt W C ρ w ad cs ∧ cellsK ag n cs K := by
  cases hp <;> simp only [loadP] at h
  case ptr m off b hm =>
    cases hl : lk s.L m with
    | none => simp [hl] at h
    | some o =>
      cases o with
      | row t xs => simp [hl] at h
      | set kk mp es => simp [hl] at h
      | box cs =>
        simp only [hl] at h
        obtain ⟨b', T, vs, h1, h2, h3⟩ := hs.hp.obj m _ hl
        rw [hm] at h1; cases h1
        refine ⟨_, _, rfl, ⟨_, (h3.drop off).take n, fun k u hk => ?_⟩, h⟩
        rw [add_none, cell_row h2]
        rw [List.getElem?_take] at hk
        split at hk
        · simpa using hk
        · cases hk
  case elt m z i f b o c hm =>
    cases hl : lk s.L m with
    | none => simp [hl] at h
    | some ob =>
      cases ob with
      | box cs => simp [hl] at h
      | set kk mp es => simp [hl] at h
      | row t xs =>
        simp only [hl] at h
        obtain ⟨⟨rfl, hi, hf⟩, h⟩ := h
        rcases hs.hp.obj m _ hl with ⟨h1, _⟩ | ⟨b', o', c', T, vs, h1, h2, h3, h4, h5, h6⟩
        · rw [hm] at h1; cases h1
        · rw [hm] at h1; cases h1
          have hx := getD_of hi (dflt t)
          have hmul := mul_lt (s := sz t) hi h4
          refine ⟨_, _, rfl, ⟨(vs.drop (o + i * sz t + f)).take n, ⟨?_, fun k av u h7 h8 => ?_⟩, fun k u hk => ?_⟩, h⟩
          · simp only [List.length_take, List.length_drop, enc_length]; omega
          · rw [List.getElem?_take] at h7 h8
            split at h7
            · rename_i hk
              rw [if_pos hk] at h8
              simp only [List.getElem?_drop] at h7 h8
              obtain ⟨u', h9, h10⟩ := h6 i (f + k) _ av hx h7
              rw [show o + i * sz t + (f + k) = o + i * sz t + f + k by omega, h8] at h9
              cases h9; exact h10
            · cases h7
          · rw [add_none, cell_row h2]
            rw [List.getElem?_take] at hk
            split at hk
            · simpa using hk
            · cases hk
  case re t x f ad vs hr hd =>
    obtain ⟨hf, h⟩ := h
    refine ⟨ad, _, rfl, ⟨((List.range (sz t - f)).map vs).take n, ⟨by simp [enc_length], fun k av u h7 h8 => ?_⟩, fun k u hk => ?_⟩, h⟩
    · rw [List.getElem?_take] at h7 h8
      split at h7
      · rename_i hk
        rw [if_pos hk] at h8
        rw [List.getElem?_drop] at h7
        have hlt := (List.getElem?_eq_some_iff.1 h7).1
        rw [enc_length] at hlt
        have hlt2 : k < sz t - f := by omega
        simp [hlt2] at h8
        subst h8; exact hd k av h7
      · cases h7
    · rw [List.getElem?_take] at hk
      split at hk
      · have hlt : k < sz t - f := by have := (List.getElem?_eq_some_iff.1 hk).1; simpa using this
        simp [hlt] at hk
        subst hk
        exact rd_world hs.hp hr rfl hlt
      · cases hk
  case rp t xs ad vs hr hd =>
    refine ⟨ad, _, rfl, ⟨(List.range (xs.length * sz t)).map vs, ⟨by rw [flat_len, List.length_map, List.length_range], fun k av u h7 h8 => ?_⟩, fun k u hk => ?_⟩, h⟩
    · obtain ⟨i, f, x, rfl, hlt, h3, h4⟩ := flat_get t xs k av h7
      simp [hlt] at h8
      subst h8; exact hd i f x av h3 h4
    · have hlt : k < xs.length * sz t := by have := (List.getElem?_eq_some_iff.1 hk).1; simpa using this
      simp [hlt] at hk
      subst hk
      exact rd_world hs.hp hr rfl hlt
  case arp m k b hm =>
    cases hl : lk s.L m with
    | none => simp [hl] at h
    | some ob =>
      cases ob with
      | box cs => simp [hl] at h
      | set kk mp es => simp [hl] at h
      | row t xs =>
        simp only [hl] at h
        obtain ⟨rfl, h⟩ := h
        rcases hs.hp.obj m _ hl with ⟨h1, _⟩ | ⟨b', o', c', T, vs, h1, h2, h3, h4, h5, h6⟩
        · rw [hm] at h1; cases h1
        · rw [hm] at h1; cases h1
          rw [rowA_eq] at h
          refine ⟨_, _, rfl, ⟨vs.take (xs.length * sz t), ⟨by rw [flat_len, List.length_take]; omega, fun k av u h7 h8 => ?_⟩, fun k u hk => ?_⟩, h⟩
          · obtain ⟨i, f, x, rfl, hlt, h9, h10⟩ := flat_get t xs k av h7
            rw [List.getElem?_take, if_pos hlt] at h8
            obtain ⟨u', h11, h12⟩ := h6 i f x av h9 h10
            rw [Nat.zero_add, h8] at h11
            cases h11; exact h12
          · rw [add_none, cell_row h2]
            rw [List.getElem?_take] at hk
            split at hk
            · simpa using hk
            · cases hk
  all_goals exact h.elim
end
end Go.Proofs.YthghcialeghgoaaDoorE

/-! Operations that yield a value: each kind. -/
namespace Go.Proofs.YthghcialeghgoaaDoorE
open Go Go.RowKit
set_option linter.unusedSimpArgs false
set_option linter.unusedVariables false

section
variable {P : Program} {W : World} {C : CR} {ρ : Nm} {s : S} {a : Act} {w : World} {K : AVal → Prop} {o : Oper}

theorem res_run {ld : Bool} {v : Value} {av : AVal} (hk : K av) (hd : Den W C ρ av v) (h : ∀ w', (ld = true → Below w.heap.size w w') → (execOp a.eval o).run P w' = .ok (.value v) w') : Res ld P W C ρ o a w K :=
  ⟨av, v, hk, hd, h⟩

theorem ev_v (hs : StOk W C ρ s a w) {x : Operand} {v : Value} (h : s.ev x = .v v) : a.eval x = v := by
  have := hs.fr.ev x
  rw [h] at this
  exact den_v this

theorem bin_ok (hs : StOk W C ρ s a w) {op : BinOp} {t : TypeId} {x y : Operand} {yt : TypeId} (ho : o.op = .binOp op t x y yt) (h : vst s (.bin op x y) K) : Res false P W C ρ o a w K := by
  simp only [vst] at h
  split at h
  · rename_i m n hx hy
    obtain ⟨v, hk, hr⟩ := binV_v (P := P) op t x y m n _ h
    refine res_run hk (.v v) fun w' _ => ?_
    unfold execOp
    rw [ho]
    simp only [ev_v hs hx, ev_v hs hy]
    have := hr w'
    simp only [Sem.run_bind] at this ⊢
    rw [this]; simp
  · exact h.elim

theorem beq_ok (hs : StOk W C ρ s a w) {op : BinOp} {t : TypeId} {x y : Operand} {yt : TypeId} {neg : Bool} (ho : o.op = .binOp op t x y yt) (hop : op = if neg then .neq else .eql)
    (ht : P.underlying t = some .bool) (h : vst s (.beq neg x y) K) : Res false P W C ρ o a w K := by
  simp only [vst] at h
  split at h
  · rename_i m n hx hy
    refine res_run h (.v _) fun w' _ => ?_
    unfold execOp
    rw [ho]
    simp only [ev_v hs hx, ev_v hs hy]
    subst hop
    cases neg <;> simp [eqGuard, run_eql_bool, run_neq_bool, ht]
  · exact h.elim

theorem una_ok (hs : StOk W C ρ s a w) {op : UnOp} {t : TypeId} {x : Operand} (ho : o.op = .unOp op t x) (h : vst s (.una op x) K) : Res false P W C ρ o a w K := by
  simp only [vst, wr_eq] at h
  split at h
  · rename_i m hx
    refine res_run h (.v _) fun w' _ => ?_
    unfold execOp
    rw [ho]
    simp [ev_v hs hx, Op.unary]
  · rename_i m hx
    refine res_run h (.v _) fun w' _ => ?_
    unfold execOp
    rw [ho]
    simp [ev_v hs hx, Op.unary, Op.intArith]
  · exact h.elim

theorem cvi_ok (hs : StOk W C ρ s a w) {st d : TypeId} {x : Operand} {k : IntKind} (ho : o.op = .convert st d x) (hd : P.underlying d = some (.int k)) (hsrc : ∃ u, P.underlying st = some u) (h : vst s (.cvi k x) K) : Res false P W C ρ o a w K := by
  simp only [vst, wr_eq] at h
  obtain ⟨u, hu⟩ := hsrc
  split at h
  · rename_i m hx
    refine res_run h (.v _) fun w' _ => ?_
    unfold execOp
    rw [ho]
    cases u <;> simp [ev_v hs hx, convert, underlying, hd, hu, Conv.intToInt]
  · exact h.elim

theorem pick_ok (hs : StOk W C ρ s a w) {c x y : Operand} (ho : o.op = .pick c x y) (h : vst s (.pick c x y) K) : Res false P W C ρ o a w K := by
  simp only [vst] at h
  split at h
  · rename_i t hc
    cases t with
    | true =>
      refine res_run (h.1 rfl) (hs.fr.ev x) fun w' _ => ?_
      unfold execOp
      rw [ho]
      simp [ev_v hs hc, asBool]
    | false =>
      refine res_run (h.2 rfl) (hs.fr.ev y) fun w' _ => ?_
      unfold execOp
      rw [ho]
      simp [ev_v hs hc, asBool]
  · exact h.elim

theorem mov_ok (hs : StOk W C ρ s a w) {x : Operand} (ho : o.op = .move x ∨ o.op = .assign x) (h : vst s (.mov x) K) : Res false P W C ρ o a w K := by
  refine res_run h (hs.fr.ev x) fun w' _ => ?_
  unfold execOp
  rcases ho with ho | ho <;> rw [ho] <;> simp

theorem ext_ok (hs : StOk W C ρ s a w) {x : Operand} {i : Nat} (ho : o.op = .extract x i) (h : vst s (.ext x i) K) : Res false P W C ρ o a w K := by
  simp only [vst] at h
  split at h
  · rename_i cs hx
    split at h
    · rename_i av hav
      have hd := hs.fr.ev x
      rw [hx] at hd
      generalize hv : a.eval x = v at hd
      cases hd with
      | tup vs h1 h2 =>
        obtain ⟨u, hu, hu2⟩ := DenL.at ⟨h1, h2⟩ hav
        refine res_run h hu2 fun w' _ => ?_
        unfold execOp
        rw [ho]
        simp [hv, Instr.extract, hu]
    · exact h.elim
  · exact h.elim

theorem load_ok (hs : StOk W C ρ s a w) {t : TypeId} {p : Operand} {n : Nat} {ag : Bool} (ho : o.op = .load t p) (hc : cellsAt P t = some (n, ag)) (h : vst s (.load n ag p) K) : Res true P W C ρ o a w K := by
  simp only [vst] at h
  obtain ⟨ad, cs, hv, h1, h2⟩ := loadP_ok hs (hs.fr.ev p) h
  obtain ⟨av, v, hk, hd, hr⟩ := load_cells hc h1 h2
  refine res_run hk hd fun w' hb => ?_
  unfold execOp
  rw [ho]
  simp [hv, Instr.loadAt, Instr.sureAddr, hr w' (hb rfl)]

theorem nilc_ok (hs : StOk W C ρ s a w) {x : Operand} (ho : o.op = .nilCheck x) (h : vst s (.nilc x) K) : Res false P W C ρ o a w K := by
  simp only [vst] at h
  have hd := hs.fr.ev x
  split at h
  · rename_i hx
    rw [hx] at hd
    refine res_run h hd fun w' _ => ?_
    generalize hv : a.eval x = v at hd
    cases hd
    unfold execOp; rw [ho]; simp [hv]
  · rename_i hx
    rw [hx] at hd
    refine res_run h hd fun w' _ => ?_
    generalize hv : a.eval x = v at hd
    cases hd
    unfold execOp; rw [ho]; simp [hv]
  · rename_i hx
    rw [hx] at hd
    refine res_run h hd fun w' _ => ?_
    generalize hv : a.eval x = v at hd
    cases hd
    unfold execOp; rw [ho]; simp [hv]
  · rename_i hx
    rw [hx] at hd
    refine res_run h hd fun w' _ => ?_
    generalize hv : a.eval x = v at hd
    cases hd
    unfold execOp; rw [ho]; simp [hv]
  · exact h.elim

theorem re_drop {t : Ty} {x : t.D} {f : Nat} {ad : Addr} {vs : Nat → Value} (hr : RdAt W C (some ad) (sz t - f) vs) (hd : ∀ (k : Nat) (av : AVal), (enc t x)[f + k]? = some av → Den W C ρ av (vs k)) (off : Nat) :
    Den W C ρ (.re t x (f + off)) (.pointer (some (ad.add off))) := by
  refine .re (fun k => vs (off + k)) ?_ (fun k av hk => hd _ _ (by rw [← Nat.add_assoc]; exact hk))
  by_cases hlt : off < sz t - f
  · rcases hr with hr | ⟨ad', h1, h2, h3, h4⟩
    · omega
    · cases h1
      refine .inr ⟨_, rfl, ?_, ?_, fun k hk => ?_⟩
      · unfold Addr.add; split <;> exact h2
      · unfold Addr.add; split <;> exact h3
      · rw [add_add]; exact h4 _ (by omega)
  · exact .inl (by omega)

theorem fadr_ok (hs : StOk W C ρ s a w) {t : TypeId} {p : Operand} {f : Nat} {fs : Array Field} {fd : Field} {z : Nat} (ho : o.op = .fieldAddr t p f) (ht : P.underlying t = some (.struct fs)) (hf : fs[f]? = some fd)
    (hz : elemSize P fd.type = some (z + 1)) (h : vst s (.fadr fd.offset p) K) : Res false P W C ρ o a w K := by
  simp only [vst] at h
  have hd := hs.fr.ev p
  unfold elemSize at hz
  cases hi : P.info? fd.type with
  | none => simp [hi] at hz
  | some i =>
    simp [hi] at hz
    have run : ∀ ad : Addr, a.eval p = .pointer (some ad) → ∀ w', (execOp a.eval o).run P w' = .ok (.value (.pointer (some (ad.add fd.offset)))) w' := by
      intro ad hv w'
      unfold execOp; rw [ho]
      simp [hv, Instr.fieldAt, underlying, ht, hf, Instr.sureAddr, fieldPlace, sizeOf, typeInfo, hi, hz]
    split at h
    · rename_i m o' hx
      rw [hx] at hd
      generalize hv : a.eval p = v at hd
      cases hd with
      | ptr hm => exact res_run h (.ptr hm) fun w' _ => by rw [run _ hv w', add_none]
    · rename_i m z' i' f' hx
      rw [hx] at hd
      generalize hv : a.eval p = v at hd
      cases hd with
      | elt hm => exact res_run h (.elt hm) fun w' _ => by rw [run _ hv w', add_none, Nat.add_assoc]
    · rename_i t' x' f' hx
      rw [hx] at hd
      generalize hv : a.eval p = v at hd
      cases hd with
      | re vs hr hd => exact res_run h (re_drop hr hd _) fun w' _ => run _ hv w'
    · exact h.elim

theorem fld_ok (hs : StOk W C ρ s a w) {t : TypeId} {x : Operand} {f : Nat} {fs : Array Field} {fd : Field} {n : Nat} {ag : Bool} (ho : o.op = .field t x f) (ht : P.underlying t = some (.struct fs)) (hf : fs[f]? = some fd)
    (hz : cellsAt P fd.type = some (n, ag)) (h : vst s (.fld fd.offset n ag x) K) : Res false P W C ρ o a w K := by
  simp only [vst] at h
  have hd := hs.fr.ev x
  split at h
  · rename_i cs hx
    rw [hx] at hd
    generalize hv : a.eval x = v at hd
    cases hd with
    | agg vs h1 h2 =>
      have hL : DenL W C ρ ((cs.drop fd.offset).take n) ((vs.drop fd.offset).take n) := (DenL.drop ⟨h1, h2⟩ _).take _
      obtain ⟨av, u, hk, hu, hr⟩ : ∃ av u, K av ∧ Den W C ρ av u ∧ ∀ w', (part fd.type ⟨vs⟩ fd.offset).run P w' = .ok u w' := part_ok hz hL h
      refine res_run hk hu fun w' _ => ?_
      unfold execOp; rw [ho]
      simp [hv, Instr.field, underlying, ht, hf, asAgg, hr w']
  · exact h.elim
where
  part_ok {t : TypeId} {n off : Nat} {ag : Bool} (hc : cellsAt P t = some (n, ag)) {vs : List Value} {cs : List AVal} (hL : DenL W C ρ cs ((vs.drop off).take n)) (hk : cellsK ag n cs K) :
      ∃ av u, K av ∧ Den W C ρ av u ∧ ∀ w', (part t ⟨vs⟩ off).run P w' = .ok u w' := by
    unfold cellsAt at hc
    cases hi : P.info? t with
    | none => simp [hi] at hc
    | some i =>
      simp only [hi] at hc
      have agg : ∀ (hu : (∃ fs, P.underlying t = some (.struct fs)) ∨ (∃ l e, P.underlying t = some (.array l e))), i.size = n → ag = true → ∃ av u, K av ∧ Den W C ρ av u ∧ ∀ w', (part t ⟨vs⟩ off).run P w' = .ok u w' := by
        intro hu hn ha
        subst hn; subst ha
        simp only [cellsK, if_true] at hk
        refine ⟨_, .agg ⟨_⟩, hk.2, .agg _ hL.1 hL.2, fun w' => ?_⟩
        have : (⟨vs⟩ : Array Value).extract off (off + i.size) = ⟨(vs.drop off).take i.size⟩ := by simp
        rcases hu with ⟨fs, hu⟩ | ⟨l, e, hu⟩ <;> simp [part, isAgg, sizeOf, underlying, typeInfo, hu, hi]
      cases hu : P.underlying t with
      | none => simp [hu] at hc
      | some d =>
        simp only [hu] at hc
        cases d
        case struct fs => simp at hc; exact agg (.inl ⟨fs, hu⟩) hc.1 hc.2
        case array l e => simp at hc; exact agg (.inr ⟨l, e, hu⟩) hc.1 hc.2
        all_goals
          simp at hc
          obtain ⟨rfl, rfl⟩ := hc
          simp only [cellsK, Bool.false_eq_true, if_false] at hk
          split at hk
          · obtain ⟨u, vs', he, hu1, hu2⟩ := DenL.cons_inv hL
            have h0 : vs[off]? = some u := by
              have : ((vs.drop off).take 1)[0]? = some u := by rw [he]; rfl
              simpa [List.getElem?_take] using this
            exact ⟨_, u, hk, hu1, fun w' => by simp [part, isAgg, underlying, hu, h0]⟩
          · exact hk.elim
end
end Go.Proofs.YthghcialeghgoaaDoorE

/-! Operations that yield a value: indexes, slices, builds; all of them together. -/
namespace Go.Proofs.YthghcialeghgoaaDoorE
open Go Go.RowKit
set_option linter.unusedSimpArgs false
set_option linter.unusedVariables false

section
variable {P : Program} {W : World} {C : CR} {ρ : Nm} {s : S} {a : Act} {w : World} {K : AVal → Prop} {o : Oper}

theorem atOff_get {f : Nat → Prop} {n : Int} : ∀ (l : List Nat) (j : Nat), atOff n f l j → ∀ k x, l[k]? = some x → n = ((j + k : Nat) : Int) → f x
  | [], _, _, k, x, h, _ => by simp at h
  | y :: l, j, h, k, x, hx, hn => by
    simp only [atOff] at h
    cases k with
    | zero => simp at hx; subst hx; exact h.1 (by simpa using hn)
    | succ k => exact atOff_get l (j + 1) h.2 k x (by simpa using hx) (by rw [hn]; congr 1; omega)
theorem offs_get {z len k : Nat} (h : k < len) : (offs z len)[k]? = some (k * z) := by simp [offs, h]
theorem atOff_of {f : Nat → Prop} {n : Int} {z len : Nat} (h : atOff n f (offs z len) 0) (h0 : 0 ≤ n) (h1 : n < (len : Int)) : f (n.toNat * z) :=
  atOff_get _ 0 h n.toNat _ (offs_get (by omega)) (by omega)

theorem re_at {t : Ty} {xs : List t.D} {ad : Addr} {vs : Nat → Value} (hr : RdAt W C (some ad) (xs.length * sz t) vs)
    (hd : ∀ (i f : Nat) (x : t.D) (av : AVal), xs[i]? = some x → (enc t x)[f]? = some av → Den W C ρ av (vs (i * sz t + f))) {i : Nat} (hi : i < xs.length) :
    Den W C ρ (.re t (xs.getD i (dflt t)) 0) (.pointer (some (ad.add (i * sz t)))) := by
  have hx := getD_of hi (dflt t)
  have hm := mul_lt (s := sz t) hi (Nat.le_refl _)
  refine .re (fun k => vs (i * sz t + k)) ?_ (fun k av hk => hd i k _ av hx (by simpa using hk))
  rcases hr with hr | ⟨ad', h1, h2, h3, h4⟩
  · have := sz_pos t; have := Nat.mul_pos (Nat.lt_of_le_of_lt (Nat.zero_le _) hi) this; omega
  · cases h1
    refine .inr ⟨_, rfl, ?_, ?_, fun k hk => ?_⟩
    · unfold Addr.add; split <;> exact h2
    · unfold Addr.add; split <;> exact h3
    · rw [add_add]; exact h4 _ (by omega)

theorem iadr_ok (hs : StOk W C ρ s a w) {t e : TypeId} {x i : Operand} {z : Nat} (ho : o.op = .indexAddr t x i) (ht : P.underlying t = some (.slice e)) (hz : elemSize P e = some z)
    (h : vst s (.iadr z x i) K) : Res false P W C ρ o a w K := by
  simp only [vst] at h
  have hd := hs.fr.ev x
  unfold elemSize at hz
  cases hi : P.info? e with
  | none => simp [hi] at hz
  | some inf =>
    simp [hi] at hz
    split at h
    · rename_i k n hiv
      have hin := ev_v hs hiv
      have run : ∀ (ad : Addr) (len c : Nat), a.eval x = .slice (some ad) len c → 0 ≤ n → n < (len : Int) → ∀ w', (execOp a.eval o).run P w' = .ok (.value (.pointer (some (ad.add (n.toNat * z))))) w' := by
        intro ad len c hv h0 h1 w'
        unfold execOp; rw [ho]
        simp [hv, hin, Instr.indexAt, underlying, ht, asIntOf, h0, h1, sizeOf, typeInfo, hi, hz]
      split at h
      · rename_i m z' lo len hx
        rw [hx] at hd
        obtain ⟨⟨rfl, h0, h1⟩, hk⟩ := h
        generalize hv : a.eval x = v at hd
        cases hd with
        | sub hm hle had =>
          have := had (by omega)
          subst this
          refine res_run hk (.elt hm) fun w' _ => ?_
          rw [run _ _ _ hv h0 h1 w', add_none, Nat.add_mul]
          simp [Nat.add_assoc]
        | sub0 hm => simp at h1; omega
      · rename_i t' xs hx
        rw [hx] at hd
        obtain ⟨⟨rfl, h0, h1⟩, hk⟩ := h
        generalize hv : a.eval x = v at hd
        cases hd with
        | rs vs hr hc hden =>
          have hlt : n.toNat < xs.length := by omega
          have : ∃ ad, _ := hr.resolve_left (by have := sz_pos t'; have := Nat.mul_pos (Nat.lt_of_le_of_lt (Nat.zero_le _) hlt) this; omega)
          obtain ⟨ad, rfl, _⟩ := this
          exact res_run hk (re_at hr hden hlt) fun w' _ => run _ _ _ hv h0 h1 w'
      · exact h.elim
    · exact h.elim

theorem iarr_ok (hs : StOk W C ρ s a w) {t e : TypeId} {x i : Operand} {z len : Nat} (ho : o.op = .indexAddr t x i) (ht : P.underlying t = some (.array len e)) (hz : elemSize P e = some z)
    (h : vst s (.iarr z len x i) K) : Res false P W C ρ o a w K := by
  simp only [vst] at h
  have hd := hs.fr.ev x
  unfold elemSize at hz
  cases hi : P.info? e with
  | none => simp [hi] at hz
  | some inf =>
    simp [hi] at hz
    split at h
    · rename_i k n hiv
      have hin := ev_v hs hiv
      have run : ∀ (ad : Addr), a.eval x = .pointer (some ad) → 0 ≤ n → n < (len : Int) → ∀ w', (execOp a.eval o).run P w' = .ok (.value (.pointer (some (ad.add (n.toNat * z))))) w' := by
        intro ad hv h0 h1 w'
        unfold execOp; rw [ho]
        simp [hv, hin, Instr.indexAt, underlying, ht, asIntOf, h0, h1, sizeOf, typeInfo, hi, hz, Instr.sureAddr]
      split at h
      · rename_i m o' hx
        rw [hx] at hd
        generalize hv : a.eval x = v at hd
        cases hd with
        | ptr hm =>
          obtain ⟨⟨h0, h1⟩, hk⟩ := h
          exact res_run (atOff_of hk h0 h1) (.ptr hm) fun w' _ => by rw [run _ hv h0 h1 w', add_none]
      · rename_i t' x' f' hx
        rw [hx] at hd
        generalize hv : a.eval x = v at hd
        cases hd with
        | re vs hr hden =>
          obtain ⟨⟨h0, h1⟩, hk⟩ := h
          exact res_run (atOff_of hk h0 h1) (re_drop hr hden _) fun w' _ => run _ hv h0 h1 w'
      · rename_i m' z' i' f' hx
        rw [hx] at hd
        generalize hv : a.eval x = v at hd
        cases hd with
        | elt hm =>
          obtain ⟨⟨h0, h1⟩, hk⟩ := h
          exact res_run (atOff_of hk h0 h1) (.elt hm) fun w' _ => by rw [run _ hv h0 h1 w', add_none, Nat.add_assoc]
      · rename_i m' k' hx
        rw [hx] at hd
        generalize hv : a.eval x = v at hd
        cases hd with
        | arp hm =>
          obtain ⟨⟨h0, h1⟩, hk⟩ := h
          exact res_run hk (.elt hm) fun w' _ => by rw [run _ hv h0 h1 w', add_none]; simp
      · exact h.elim
    · exact h.elim

theorem idx_ok (hs : StOk W C ρ s a w) {t e : TypeId} {x i : Operand} {z len : Nat} {ag : Bool} (ho : o.op = .index t x i) (ht : P.underlying t = some (.array len e)) (hz : elemSize P e = some z)
    (hc : cellsAt P e = some (z, ag)) (h : vst s (.idx z len ag x i) K) : Res false P W C ρ o a w K := by
  simp only [vst] at h
  have hd := hs.fr.ev x
  unfold elemSize at hz
  cases hi : P.info? e with
  | none => simp [hi] at hz
  | some inf =>
    simp [hi] at hz
    split at h
    · rename_i k n hiv
      have hin := ev_v hs hiv
      split at h
      · rename_i cs hx
        rw [hx] at hd
        generalize hv : a.eval x = v at hd
        cases hd with
        | agg vs h1 h2 =>
          obtain ⟨⟨h3, h4⟩, hk⟩ := h
          have hk' := atOff_of hk h3 h4
          obtain ⟨av, u, hk2, hu, hr⟩ := fld_ok.part_ok (P := P) (K := K) hc ((DenL.drop ⟨h1, h2⟩ (n.toNat * z)).take z) hk'
          refine res_run hk2 hu fun w' _ => ?_
          unfold execOp; rw [ho]
          simp [hv, hin, Instr.index, underlying, ht, asIntOf, h3, h4, sizeOf, typeInfo, hi, hz, hr w']
      · exact h.elim
    · exact h.elim

theorem u8s_den : ∀ {cs : List AVal} {vs : List Value} {l : List Int}, DenL W C ρ cs vs → u8s cs = some l → vs = l.map (Value.int .u8)
  | [], vs, l, hd, h => by simp [u8s] at h; subst h; exact hd.nil_inv
  | x :: r, vs, l, hd, h => by
    obtain ⟨v, vs', rfl, h1, h2⟩ := hd.cons_inv
    unfold u8s at h
    split at h
    · cases ‹_ :: _ = [] › 
    · rename_i n r' e
      cases e
      rw [Option.map_eq_some_iff] at h
      obtain ⟨l', h3, rfl⟩ := h
      rw [den_v h1, u8s_den h2 h3]; rfl
    · cases h
theorem eqItems_u8 (w : World) (d : Nat) {e : TypeId} (he : P.underlying e = some (.int .u8)) (hc : P.cellsOf e = 1) (xs ys : List Int) : ∀ (is : List Nat), (∀ i ∈ is, i < xs.length ∧ i < ys.length) →
    (Op.eqItems (d + 1) e (P.cellsOf e) ⟨xs.map (Value.int .u8)⟩ ⟨ys.map (Value.int .u8)⟩ is).run P w = .ok (is.all fun i => xs[i]? == ys[i]?) w
  | [], _ => by simp [Op.eqItems]
  | i :: is, h => by
    obtain ⟨h1, h2⟩ := h i (List.mem_cons_self)
    have hp : P.plainKey e = true := by unfold Program.plainKey; rw [he]
    have p1 := run_part_plain (P := P) (w := w) hp (xs := ⟨xs.map (Value.int .u8)⟩) (off := i) (v := .int .u8 xs[i]) (by simp [h1])
    have p2 := run_part_plain (P := P) (w := w) hp (xs := ⟨ys.map (Value.int .u8)⟩) (off := i) (v := .int .u8 ys[i]) (by simp [h2])
    have ih := eqItems_u8 w d he hc xs ys is (fun j hj => h j (List.mem_cons_of_mem _ hj))
    simp only [Op.eqItems, Sem.run_bind, hc, Nat.mul_one, p1, p2, Result.andThen_ok, run_equalIn_int w d e .u8 .u8 xs[i] ys[i] he]
    rw [hc] at ih
    by_cases hh : xs[i] = ys[i]
    · simp [hh, ih, List.getElem?_eq_getElem h1, List.getElem?_eq_getElem h2]
    · simp [hh, List.getElem?_eq_getElem h1, List.getElem?_eq_getElem h2]
theorem aeq_run {t e : TypeId} {n : Nat} (ht : P.underlying t = some (.array n e)) (he : P.underlying e = some (.int .u8)) (hz : elemSize P e = some 1) {i : TypeInfo} (hi : P.info? e = some i) (xs ys : List Int) (hx : xs.length = n) (hy : ys.length = n) (w : World) (neg : Bool) (x y : Operand) :
    (do eqGuard (if neg then .neq else .eql) t x y (.agg ⟨xs.map (Value.int .u8)⟩) (.agg ⟨ys.map (Value.int .u8)⟩); binOp (if neg then .neq else .eql) t (.agg ⟨xs.map (Value.int .u8)⟩) (.agg ⟨ys.map (Value.int .u8)⟩) : Sem Value).run P w = .ok (.bool (if neg then !decide (xs = ys) else decide (xs = ys))) w := by
  have hc : P.cellsOf e = 1 := by
    unfold elemSize at hz; unfold Program.cellsOf; rw [hz]; rfl
  have hg : P.eqGuardType P.depth t = false := by
    unfold Program.depth
    simp [Program.eqGuardType, ht, he]
  have h1 := run_equalIn_array (P := P) (w := w) 9999 ⟨xs.map (Value.int .u8)⟩ ⟨ys.map (Value.int .u8)⟩ ht hi
  have h2 := eqItems_u8 (P := P) w 9998 he hc xs ys (List.range n) (fun j hj => by have := List.mem_range.1 hj; omega)
  have h3 : ((List.range n).all fun j => xs[j]? == ys[j]?) = decide (xs = ys) := by
    by_cases hxy : xs = ys
    · subst hxy; simp
    · rw [decide_eq_false hxy, List.all_eq_false]
      apply Classical.byContradiction
      intro hno
      apply hxy
      apply List.ext_getElem?
      intro j
      by_cases hj : j < n
      · apply Classical.byContradiction
        intro hne
        exact hno ⟨j, List.mem_range.2 hj, by simpa using hne⟩
      · rw [List.getElem?_eq_none (by omega), List.getElem?_eq_none (by omega)]
  have h4 : (Op.equal t (.agg ⟨xs.map (Value.int .u8)⟩) (.agg ⟨ys.map (Value.int .u8)⟩)).run P w = .ok (decide (xs = ys)) w := by
    rw [← h3]; exact h1.trans h2
  cases neg <;> simp [eqGuard, hg, binOp, h4]
theorem aeq_ok (hs : StOk W C ρ s a w) {op : BinOp} {t e : TypeId} {n : Nat} {x y : Operand} {yt : TypeId} {neg : Bool} (ho : o.op = .binOp op t x y yt) (hop : op = if neg then .neq else .eql)
    (ht : P.underlying t = some (.array n e)) (he : P.underlying e = some (.int .u8)) (hz : elemSize P e = some 1) (h : vst s (.aeq neg n x y) K) : Res false P W C ρ o a w K := by
  simp only [vst] at h
  have hdx := hs.fr.ev x
  have hdy := hs.fr.ev y
  split at h
  · rename_i cs cs' hx hy
    rw [hx] at hdx
    rw [hy] at hdy
    split at h
    · rename_i l l' hl hl'
      obtain ⟨⟨h1, h2⟩, hk⟩ := h
      generalize hv : a.eval x = v at hdx
      generalize hv' : a.eval y = v' at hdy
      cases hdx with
      | agg vs h3 h4 => cases hdy with
        | agg vs' h5 h6 =>
          have e1 := u8s_den ⟨h3, h4⟩ hl
          have e2 := u8s_den ⟨h5, h6⟩ hl'
          subst e1; subst e2
          have : ∃ i, P.info? e = some i := by
            unfold elemSize at hz
            cases hi : P.info? e with
            | none => rw [hi] at hz; cases hz
            | some i => exact ⟨i, rfl⟩
          obtain ⟨i, hi⟩ := this
          refine res_run hk (.v _) fun w' _ => ?_
          unfold execOp; rw [ho]
          subst hop
          have := aeq_run (P := P) ht he hz hi l l' h1 h2 w' neg x y
          simp only [hv, hv']
          simp only [Sem.run_bind] at this ⊢
          rw [this]; simp
    · exact h.elim
  · exact h.elim
theorem i64s_den : ∀ {cs : List AVal} {vs : List Value} {l : List Int}, DenL W C ρ cs vs → i64s cs = some l → vs = l.map (Value.int .i64)
  | [], vs, l, hd, h => by simp [i64s] at h; subst h; exact hd.nil_inv
  | x :: r, vs, l, hd, h => by
    obtain ⟨v, vs', rfl, h1, h2⟩ := hd.cons_inv
    unfold i64s at h
    split at h
    · cases ‹_ :: _ = [] › 
    · rename_i n r' e
      cases e
      rw [Option.map_eq_some_iff] at h
      obtain ⟨l', h3, rfl⟩ := h
      rw [den_v h1, i64s_den h2 h3]; rfl
    · cases h
theorem heq_run {t e : TypeId} {fs : Array Field} (ht : P.underlying t = some (.array 2 e)) (he : P.underlying e = some (.struct fs)) {i : TypeInfo} (hi : P.info? e = some i) (hp : pairInts P e fs.toList = true) (a b c d a' b' c' d' : Int) (w : World) (neg : Bool) (x y : Operand) :
    (do eqGuard (if neg then .neq else .eql) t x y (.agg ⟨[a, b, c, d].map (Value.int .i64)⟩) (.agg ⟨[a', b', c', d'].map (Value.int .i64)⟩); binOp (if neg then .neq else .eql) t (.agg ⟨[a, b, c, d].map (Value.int .i64)⟩) (.agg ⟨[a', b', c', d'].map (Value.int .i64)⟩) : Sem Value).run P w
      = .ok (.bool (if neg then !decide ([a, b, c, d] = [a', b', c', d']) else decide ([a, b, c, d] = [a', b', c', d']))) w := by
  obtain ⟨f1, f2, hl, u1, u2, o1, o2, z1, z2, hc, n1, n2, hst⟩ := pairInts_spec hp
  have hfs : fs = #[f1, f2] := by apply Array.toList_inj.1; rw [hl]
  subst hfs
  have hg : P.eqGuardType P.depth t = false := by
    unfold Program.depth
    obtain ⟨m, hm⟩ : ∃ m, 2 * (P.types.size + Made.depth) = m + 1 := ⟨2 * (P.types.size + Made.depth) - 1, by unfold Made.depth; omega⟩
    simp [Program.eqGuardType, ht, he, hm, u1, u2]
  have hf : P.fieldsOf e = #[f1, f2] := by simp [Program.fieldsOf, he]
  have p1 : P.plainKey f1.type = true := by unfold Program.plainKey; rw [u1]
  have p2 : P.plainKey f2.type = true := by unfold Program.plainKey; rw [u2]
  have two : ∀ (r s r' s' : Int), (Op.equalIn 9999 e (.agg #[.int .i64 r, .int .i64 s]) (.agg #[.int .i64 r', .int .i64 s'])).run P w = .ok (r == r' && s == s') w := by
    intro r s r' s'
    rw [run_equalIn_agg w 9998 e _ _ (by rw [hf]; exact he) hst, hf]
    have q1 := run_part_plain (P := P) (w := w) p1 (xs := #[.int .i64 r, .int .i64 s]) (off := 0) (v := .int .i64 r) (by simp)
    have q2 := run_part_plain (P := P) (w := w) p1 (xs := #[.int .i64 r', .int .i64 s']) (off := 0) (v := .int .i64 r') (by simp)
    have q3 := run_part_plain (P := P) (w := w) p2 (xs := #[.int .i64 r, .int .i64 s]) (off := 1) (v := .int .i64 s) (by simp)
    have q4 := run_part_plain (P := P) (w := w) p2 (xs := #[.int .i64 r', .int .i64 s']) (off := 1) (v := .int .i64 s') (by simp)
    have e1 : (Op.equalIn 9998 f1.type (.int .i64 r) (.int .i64 r')).run P w = .ok (r == r') w := run_equalIn_int (P := P) w 9997 f1.type .i64 .i64 r r' u1
    have e2 : (Op.equalIn 9998 f2.type (.int .i64 s) (.int .i64 s')).run P w = .ok (s == s') w := run_equalIn_int (P := P) w 9997 f2.type .i64 .i64 s s' u2
    cases h1 : (r == r') <;> cases h2 : (s == s') <;> simp [Op.eqFields, n1, n2, o1, o2, q1, q2, q3, q4, e1, e2, h1, h2]
  have h1 := run_equalIn_array (P := P) (w := w) 9999 ⟨[a, b, c, d].map (Value.int .i64)⟩ ⟨[a', b', c', d'].map (Value.int .i64)⟩ ht hi
  have h2 : (Op.eqItems 9999 e (P.cellsOf e) ⟨[a, b, c, d].map (Value.int .i64)⟩ ⟨[a', b', c', d'].map (Value.int .i64)⟩ (List.range 2)).run P w = .ok ((a == a' && b == b') && (c == c' && d == d')) w := by
    have pp : ∀ (r s t u : Int), (part e #[.int .i64 r, .int .i64 s, .int .i64 t, .int .i64 u] 0).run P w = .ok (.agg #[.int .i64 r, .int .i64 s]) w ∧ (part e #[.int .i64 r, .int .i64 s, .int .i64 t, .int .i64 u] 2).run P w = .ok (.agg #[.int .i64 t, .int .i64 u]) w := by
      intro r s t u
      constructor <;> simp [part, isAgg, run_underlying he, run_sizeOf w hi, hc]
    rw [show List.range 2 = [0, 1] from rfl]
    by_cases hh : (a == a' && b == b') = true
    · simp [Op.eqItems, hc, pp, two, hh]
      by_cases hh2 : (c == c' && d == d') = true <;> simp_all
    · simp [Op.eqItems, hc, pp, two, hh]
      try simp_all
  have h4 : (Op.equal t (.agg ⟨[a, b, c, d].map (Value.int .i64)⟩) (.agg ⟨[a', b', c', d'].map (Value.int .i64)⟩)).run P w = .ok (decide ([a, b, c, d] = [a', b', c', d'])) w := by
    rw [show decide ([a, b, c, d] = [a', b', c', d']) = ((a == a' && b == b') && (c == c' && d == d')) by
      by_cases k1 : a = a' <;> by_cases k2 : b = b' <;> by_cases k3 : c = c' <;> by_cases k4 : d = d' <;> simp [k1, k2, k3, k4]]
    exact h1.trans h2
  simp only [List.map_cons, List.map_nil] at h4 ⊢
  cases neg <;> simp [eqGuard, hg, binOp, h4]
theorem len4 {l : List Int} (h : l.length = 4) : ∃ a b c d, l = [a, b, c, d] := by
  match l, h with
  | [a, b, c, d], _ => exact ⟨a, b, c, d, rfl⟩
theorem heq_ok (hs : StOk W C ρ s a w) {op : BinOp} {t e : TypeId} {fs : Array Field} {x y : Operand} {yt : TypeId} {neg : Bool} (ho : o.op = .binOp op t x y yt) (hop : op = if neg then .neq else .eql)
    (ht : P.underlying t = some (.array 2 e)) (he : P.underlying e = some (.struct fs)) (hz : elemSize P e = some 2) (hp : pairInts P e fs.toList = true) (h : vst s (.heq neg x y) K) : Res false P W C ρ o a w K := by
  simp only [vst] at h
  have hdx := hs.fr.ev x
  have hdy := hs.fr.ev y
  split at h
  · rename_i cs cs' hx hy
    rw [hx] at hdx
    rw [hy] at hdy
    split at h
    · rename_i l l' hl hl'
      obtain ⟨⟨h1, h2⟩, hk⟩ := h
      generalize hv : a.eval x = v at hdx
      generalize hv' : a.eval y = v' at hdy
      cases hdx with
      | agg vs h3 h4 => cases hdy with
        | agg vs' h5 h6 =>
          have e1 := i64s_den ⟨h3, h4⟩ hl
          have e2 := i64s_den ⟨h5, h6⟩ hl'
          subst e1; subst e2
          obtain ⟨q1, q2, q3, q4, rfl⟩ := len4 h1
          obtain ⟨r1, r2, r3, r4, rfl⟩ := len4 h2
          have : ∃ i, P.info? e = some i := by
            unfold elemSize at hz
            cases hi : P.info? e with
            | none => rw [hi] at hz; cases hz
            | some i => exact ⟨i, rfl⟩
          obtain ⟨i, hi⟩ := this
          refine res_run hk (.v _) fun w' _ => ?_
          unfold execOp; rw [ho]
          subst hop
          have := heq_run (P := P) ht he hi hp q1 q2 q3 q4 r1 r2 r3 r4 w' neg x y
          simp only [hv, hv']
          simp only [Sem.run_bind] at this ⊢
          rw [this]; simp
    · exact h.elim
  · exact h.elim
theorem s2a_ok (hs : StOk W C ρ s a w) {arr e : TypeId} {n : Nat} {x : Operand} (ho : o.op = .sliceToArrayPointer arr x) (ht : P.underlying arr = some (.array n e)) (h : vst s (.s2a n x) K) : Res false P W C ρ o a w K := by
  simp only [vst] at h
  have hd := hs.fr.ev x
  split at h
  · rename_i t xs hx
    rw [hx] at hd
    obtain ⟨⟨hn, hn0⟩, hk⟩ := h
    generalize hv : a.eval x = v at hd
    cases hd with
    | @rs t' xs' A c vs hr hc hden =>
      cases A with
      | none =>
        rcases hr with hr | ⟨ad, h1, _⟩
        · rcases Nat.mul_eq_zero.1 hr with h | h
          · omega
          · exact absurd h (Nat.pos_iff_ne_zero.1 (sz_pos _))
        · cases h1
      | some ad =>
        refine res_run hk (.rp (ad := ad) vs ?_ fun i f x av h1 h2 => ?_) fun w' _ => ?_
        · rcases hr with hr | ⟨ad', h1, h2, h3, h4⟩
          · rcases Nat.mul_eq_zero.1 hr with h | h
            · omega
            · exact absurd h (Nat.pos_iff_ne_zero.1 (sz_pos _))
          · refine .inr ⟨ad', h1, h2, h3, fun k hk2 => h4 k (Nat.lt_of_lt_of_le hk2 (Nat.mul_le_mul_right _ (by rw [List.length_take]; omega)))⟩
        · rw [List.getElem?_take] at h1
          split at h1
          · exact hden i f x av h1 h2
          · cases h1
        · unfold execOp; rw [ho]
          have := run_arrayAt (P := P) (w := w') arr e n (some ad) xs.length c ht hn
          simp [hv, this]
  · exact h.elim
theorem snil_ok (hs : StOk W C ρ s a w) {op : BinOp} {t e : TypeId} {x : Operand} {yt : TypeId} {neg : Bool} (ho : o.op = .binOp op t x (.const (.slice none 0 0)) yt) (hop : op = if neg then .neq else .eql)
    (ht : P.underlying t = some (.slice e)) (h : vst s (.snil neg x) K) : Res false P W C ρ o a w K := by
  simp only [vst] at h
  have hd := hs.fr.ev x
  have run : ∀ A n c, a.eval x = .slice A n c → ∀ w', (execOp a.eval o).run P w' = .ok (.value (.bool (if neg then !A.isNone else A.isNone))) w' := by
    intro A n c hv w'
    unfold execOp; rw [ho]
    have h1 := Lib.run_eql_slice_nil (P := P) w' t e A n c 0 0 ht
    have h2 := run_neq_slice_nil_any (P := P) w' t e A n c 0 0 ht
    subst hop
    have hn : a.eval (.const (.slice none 0 0)) = .slice none 0 0 := rfl
    cases neg <;> simp [hv, hn, eqGuard, h1, h2]
  split at h
  · rename_i hx
    rw [hx] at hd
    generalize hv : a.eval x = v at hd
    cases hd with
    | sub _ _ _ => exact res_run (h false (by simp)) (.v _) fun w' _ => by rw [run _ _ _ hv w']; rfl
    | sub0 _ => exact res_run (h true (fun _ => rfl)) (.v _) fun w' _ => by rw [run _ _ _ hv w']; rfl
  · rename_i hx
    rw [hx] at hd
    generalize hv : a.eval x = v at hd
    cases hd with
    | @rs t' xs A c vs hr hc hden =>
      cases A with
      | none =>
        refine res_run (h true fun _ => ?_) (.v _) fun w' _ => by rw [run _ _ _ hv w']; rfl
        rcases hr with hr | ⟨ad, h1, _⟩
        · rcases Nat.mul_eq_zero.1 hr with h | h
          · exact List.length_eq_zero_iff.1 h
          · rename_i t1; exact absurd h (Nat.pos_iff_ne_zero.1 (sz_pos _))
        · cases h1
      | some ad => exact res_run (h false (by simp)) (.v _) fun w' _ => by rw [run _ _ _ hv w']; rfl
  · rename_i hx
    exact res_run h (.v _) fun w' _ => by rw [run _ _ _ (ev_v hs hx) w']; cases neg <;> rfl
  · exact h.elim

theorem len_ok (hs : StOk W C ρ s a w) {t : TypeId} {x : Operand} (ho : o.op = .call ⟨.builtin .len, #[x], #[t]⟩) (ht : ∃ e, P.underlying t = some (.slice e))
    (h : vst s (.len x) K) : Res false P W C ρ o a w K := by
  simp only [vst] at h
  have hd := hs.fr.ev x
  obtain ⟨e, he⟩ := ht
  have run : ∀ A n c, a.eval x = .slice A n c → ∀ w', (execOp a.eval o).run P w' = .ok (.value (.int .i64 n)) w' := by
    intro A n c hv w'
    unfold execOp; rw [ho]
    simp [resolve, invoke, builtin, Builtin.len_, underlying, he, hv, goInt]
  split at h
  · rename_i hx
    rw [hx] at hd
    generalize hv : a.eval x = v at hd
    cases hd with
    | sub _ _ _ => exact res_run h (.v _) fun w' _ => run _ _ _ hv w'
    | sub0 _ => exact res_run h (.v _) fun w' _ => run _ _ _ hv w'
  · rename_i hx
    rw [hx] at hd
    generalize hv : a.eval x = v at hd
    cases hd with
    | rs _ _ _ _ => exact res_run h (.v _) fun w' _ => run _ _ _ hv w'
  · rename_i hx
    exact res_run h (.v _) fun w' _ => run _ _ _ (ev_v hs hx) w'
  · exact h.elim

theorem slen_ok (hs : StOk W C ρ s a w) {t : TypeId} {x : Operand} (ho : o.op = .call ⟨.builtin .len, #[x], #[t]⟩) (he : P.underlying t = some .string)
    (h : vst s (.slen x) K) : Res false P W C ρ o a w K := by
  simp only [vst] at h
  split at h
  · rename_i hx
    refine res_run h (.v _) fun w' _ => ?_
    unfold execOp; rw [ho]
    simp [resolve, invoke, builtin, Builtin.len_, underlying, he, ev_v hs hx, goInt]
  · exact h.elim

theorem mfn_ok (hs : StOk W C ρ s a w) {f : Nat} {cap : Array Operand} (ho : o.op = .makeFunc (.func f) #[] cap) (h : vst s (.mfn f cap.toList) K) : Res false P W C ρ o a w K := by
  simp only [vst] at h
  refine res_run h (.fn (cap.toList.map a.eval) (by simp) fun k av u h1 h2 => ?_) fun w' _ => ?_
  · simp only [List.getElem?_map, Option.map_eq_some_iff] at h1 h2
    obtain ⟨x, hx, rfl⟩ := h1
    obtain ⟨y, hy, rfl⟩ := h2
    rw [hx] at hy; cases hy
    exact hs.fr.ev x
  · unfold execOp; rw [ho]
    have : cap.map a.eval = ⟨cap.toList.map a.eval⟩ := by
      apply Array.toList_inj.1; simp
    simp [Instr.makeFunc, this]

theorem optI_ok (hs : StOk W C ρ s a w) {x : Option Operand} {d : Int} {K : Int → Prop} (h : optI s x d K) :
    ∃ n, K n ∧ ((x = none ∧ n = d) ∨ ∃ y k, x = some y ∧ a.eval y = .int k n) := by
  unfold optI at h
  split at h
  · exact ⟨d, h, .inl ⟨rfl, rfl⟩⟩
  · split at h
    · rename_i k n hx
      exact ⟨n, h, .inr ⟨_, k, rfl, ev_v hs hx⟩⟩
    · exact h.elim

theorem slice_run {t e : TypeId} {z : Nat} (ht : P.underlying t = some (.slice e)) (hz : elemSize P e = some z) (A : Option Addr) (n c : Nat) (hnc : n ≤ c) {lo hi : Option Operand} {l h : Int}
    (hl : (lo = none ∧ l = 0) ∨ ∃ y k, lo = some y ∧ a.eval y = .int k l) (hh : (hi = none ∧ h = (n : Int)) ∨ ∃ y k, hi = some y ∧ a.eval y = .int k h)
    (h0 : 0 ≤ l) (h1 : l ≤ h) (h2 : h ≤ (c : Int)) (w : World) :
    (Instr.sliceAt t (.slice A n c) (lo.map a.eval) (hi.map a.eval) none).run P w = .ok (.slice (if c = l.toNat then A else A.map (·.add (l.toNat * z))) (h - l).toNat (c - l.toNat)) w := by
  unfold elemSize at hz
  cases hi' : P.info? e with
  | none => simp [hi'] at hz
  | some inf =>
    simp [hi'] at hz
    have e1 : (h.toNat - l.toNat) = (h - l).toNat := by omega
    have f1 : ∀ k code, (Instr.sliceBound (.int k h) c code).run P w = .ok h.toNat w := fun k code => run_sliceBound w k h c code (by omega) (by omega)
    have f2 : ∀ k code, (Instr.sliceBound (.int k l) h.toNat code).run P w = .ok l.toNat w := fun k code => run_sliceBound w k l h.toNat code h0 (by omega)
    have hb : (Instr.sliceBounds true n c (lo.map a.eval) (hi.map a.eval) none).run P w = .ok (l.toNat, h.toNat, c) w := by
      rcases hh with ⟨rfl, rfl⟩ | ⟨y', k', rfl, hy'⟩
      · simp only [Int.toNat_natCast] at f2
        rcases hl with ⟨rfl, rfl⟩ | ⟨y, k, rfl, hy⟩
        · simp [Instr.sliceBounds]
        · simp [Instr.sliceBounds, hy, f2]
      · rcases hl with ⟨rfl, rfl⟩ | ⟨y, k, rfl, hy⟩
        · simp [Instr.sliceBounds, hy', f1]
        · simp [Instr.sliceBounds, hy', f1, hy, f2]
    simp [Instr.sliceAt, Instr.slice, underlying, ht, sizeOf, typeInfo, hi', hz, hb, e1]

theorem slca_ok (hs : StOk W C ρ s a w) {t e : TypeId} {x : Operand} {lo hi : Option Operand} {z n : Nat} (ho : o.op = .slice t x lo hi none) (ht : P.underlying t = some (.array n e)) (hz : elemSize P e = some z)
    (h : vst s (.slca z n x lo hi) K) : Res false P W C ρ o a w K := by
  simp only [vst] at h
  have hd := hs.fr.ev x
  unfold elemSize at hz
  cases hi' : P.info? e with
  | none => simp [hi'] at hz
  | some inf =>
    simp [hi'] at hz
    split at h
    · rename_i m k hx
      rw [hx] at hd
      obtain ⟨rfl, h⟩ := h
      obtain ⟨l, h, hl⟩ := optI_ok hs h
      obtain ⟨hh, h, hhi⟩ := optI_ok hs h
      obtain ⟨⟨h0, h1, h2⟩, hk⟩ := h
      generalize hv : a.eval x = v at hd
      cases hd with
      | @arp _ _ b hm =>
        have e1 : (hh.toNat - l.toNat) = (hh - l).toNat := by omega
        have f1 : ∀ w' k' code, (Instr.sliceBound (.int k' hh) k code).run P w' = .ok hh.toNat w' := fun w' k' code => run_sliceBound w' k' hh k code (by omega) (by omega)
        have f2 : ∀ w' k' code, (Instr.sliceBound (.int k' l) hh.toNat code).run P w' = .ok l.toNat w' := fun w' k' code => run_sliceBound w' k' l hh.toNat code h0 (by omega)
        have hb : ∀ w', (Instr.sliceBounds false k k (lo.map a.eval) (hi.map a.eval) none).run P w' = .ok (l.toNat, hh.toNat, k) w' := fun w' => by
          rcases hhi with ⟨rfl, rfl⟩ | ⟨y', k', rfl, hy'⟩
          · simp only [Int.toNat_natCast] at f2
            rcases hl with ⟨rfl, rfl⟩ | ⟨y, k2, rfl, hy⟩
            · simp [Instr.sliceBounds]
            · simp [Instr.sliceBounds, hy, f2]
          · rcases hl with ⟨rfl, rfl⟩ | ⟨y, k2, rfl, hy⟩
            · simp [Instr.sliceBounds, hy', f1]
            · simp [Instr.sliceBounds, hy', f1, hy, f2]
        have hr : ∀ w', (Instr.sliceAt t (.pointer (some ⟨b, 0, none⟩)) (lo.map a.eval) (hi.map a.eval) none).run P w' = .ok (.slice (some (if k = l.toNat then (⟨b, 0, none⟩ : Addr) else (⟨b, 0, none⟩ : Addr).add (l.toNat * z))) (hh - l).toNat (k - l.toNat)) w' := fun w' => by
          simp [Instr.sliceAt, underlying, ht, sizeOf, typeInfo, hi', hz, hb, e1, Instr.sureAddr]
        refine res_run hk ?_ fun w' _ => by
          unfold execOp; rw [ho]
          simp only [hv, Sem.run_bind, Option.map_none, hr w']
          rfl
        by_cases e2 : k = l.toNat
        · rw [if_pos e2]
          exact .sub hm (by omega) (fun hlt => by omega)
        · rw [if_neg e2]
          refine .sub hm (by omega) (fun hlt => ?_)
          rw [add_none]
    · exact h.elim

theorem slc_ok (hs : StOk W C ρ s a w) {t e : TypeId} {x : Operand} {lo hi : Option Operand} {z : Nat} (ho : o.op = .slice t x lo hi none) (ht : P.underlying t = some (.slice e)) (hz : elemSize P e = some z)
    (h : vst s (.slc z x lo hi) K) : Res false P W C ρ o a w K := by
  simp only [vst] at h
  have hd := hs.fr.ev x
  split at h
  · rename_i m z' l0 len hx
    rw [hx] at hd
    obtain ⟨rfl, h⟩ := h
    obtain ⟨l, h, hl⟩ := optI_ok hs h
    obtain ⟨hh, h, hhi⟩ := optI_ok hs h
    obtain ⟨⟨h0, h1, h2⟩, hk⟩ := h
    have hroom : roomK s.L m l0 hh → ∃ t xs, lk s.L m = some (.row t xs) ∧ (l0 : Int) + hh ≤ (xs.length : Int) := fun hr => by
      unfold roomK at hr
      split at hr
      · rename_i t xs hl; exact ⟨t, xs, hl, hr⟩
      · exact hr.elim
    generalize hv : a.eval x = v at hd
    cases hd with
    | @sub _ _ _ _ b o' c ad hm hle had =>
      replace h2 : hh ≤ ((c - l0 : Nat) : Int) := by
        rcases h2 with h2 | h2
        · omega
        · obtain ⟨t1, xs, hl1, hle1⟩ := hroom h2
          rcases hs.hp.obj m _ hl1 with ⟨e1, _⟩ | ⟨b', o'', c', T, vs, e1, _, _, e4, _⟩
          · rw [hm] at e1; cases e1
          · rw [hm] at e1; cases e1; omega
      refine res_run hk ?_ fun w' _ => by
        unfold execOp; rw [ho]
        simp only [hv, Sem.run_bind, Option.map_none, slice_run ht hz _ _ _ (by omega : len ≤ c - l0) hl hhi h0 h1 h2 w']
        rfl
      by_cases e1 : c - l0 = l.toNat
      · rw [if_pos e1, show c - l0 - l.toNat = c - (l0 + l.toNat) by omega]
        exact .sub hm (by omega) (fun hlt => by omega)
      · rw [if_neg e1, show c - l0 - l.toNat = c - (l0 + l.toNat) by omega]
        refine .sub hm (by omega) (fun hlt => ?_)
        rw [had (by omega)]; show (⟨b, o' + l0 * z, none⟩ : Addr).add _ = _; rw [add_none, Nat.add_mul, Nat.add_assoc]
    | sub0 hm =>
      replace h2 : hh ≤ 0 := by
        rcases h2 with h2 | h2
        · simpa using h2
        · obtain ⟨t1, xs, hl1, hle1⟩ := hroom h2
          rcases hs.hp.obj m _ hl1 with ⟨_, e2⟩ | ⟨b', o'', c', T, vs, e1, _⟩
          · subst e2; simp at hle1; omega
          · rw [hm] at e1; cases e1
      have e1 : l = 0 := by omega
      have e2 : hh = 0 := by omega
      subst e1; subst e2
      refine res_run hk (by simpa using (.sub0 hm)) fun w' _ => by
        unfold execOp; rw [ho]
        simp only [hv, Sem.run_bind, Option.map_none, slice_run ht hz none 0 0 (Nat.le_refl 0) hl hhi h0 h1 (by omega) w']
        rfl
  · rename_i t' xs hx
    rw [hx] at hd
    obtain ⟨rfl, h⟩ := h
    obtain ⟨l, h, hl⟩ := optI_ok hs h
    obtain ⟨hh, h, hhi⟩ := optI_ok hs h
    obtain ⟨⟨h0, h1, h2⟩, hk⟩ := h
    generalize hv : a.eval x = v at hd
    cases hd with
    | @rs _ _ A c vs hr hc hden =>
      refine res_run hk ?_ fun w' _ => by
        unfold execOp; rw [ho]
        simp only [hv, Sem.run_bind, Option.map_none, slice_run ht hz _ _ _ hc hl hhi h0 h1 (by omega) w']
        rfl
      have hlen : ((xs.drop l.toNat).take (hh - l).toNat).length = (hh - l).toNat := by simp; omega
      have key := Den.rs (W := W) (C := C) (ρ := ρ) (t := t') (xs := (xs.drop l.toNat).take (hh - l).toNat) (A := if c = l.toNat then A else A.map (·.add (l.toNat * sz t'))) (c := c - l.toNat)
        (fun k => vs (l.toNat * sz t' + k)) ?_ (by rw [hlen]; omega) ?_
      · rw [hlen] at key; exact key
      · rw [hlen]
        rcases hr with hr | ⟨ad, rfl, h3, h4, h5⟩
        · left
          have : xs.length = 0 := by rcases Nat.mul_eq_zero.1 hr with h | h; exact h; have := sz_pos t'; omega
          rw [show (hh - l).toNat = 0 by omega]; simp
        · by_cases e1 : (hh - l).toNat = 0
          · left; rw [e1]; simp
          · right
            rw [if_neg (by omega)]
            have hm : l.toNat * sz t' + (hh - l).toNat * sz t' ≤ xs.length * sz t' := by
              rw [← Nat.add_mul]; exact Nat.mul_le_mul_right _ (by omega)
            refine ⟨_, rfl, ?_, ?_, fun k hk => ?_⟩
            · unfold Addr.add; split <;> exact h3
            · unfold Addr.add; split <;> exact h4
            · rw [add_add]; exact h5 _ (by omega)
      · intro i f x av hx2 hav
        have hx3 : xs[l.toNat + i]? = some x := by
          rw [List.getElem?_take] at hx2
          split at hx2
          · simpa using hx2
          · cases hx2
        have := hden (l.toNat + i) f x av hx3 hav
        rw [Nat.add_mul, Nat.add_assoc] at this
        exact this
  · exact h.elim

theorem slc3_ok (hs : StOk W C ρ s a w) {t e : TypeId} {x lo hi mx : Operand} {z : Nat} (ho : o.op = .slice t x (some lo) (some hi) (some mx)) (ht : P.underlying t = some (.slice e)) (hz : elemSize P e = some z)
    (h : vst s (.slc3 x lo hi mx) K) : Res false P W C ρ o a w K := by
  simp only [vst] at h
  have hd := hs.fr.ev x
  split at h
  · rename_i m z' l0 len hx
    rw [hx] at hd
    obtain ⟨l, h, hl⟩ := optI_ok hs h
    obtain ⟨hh, h, hhi⟩ := optI_ok hs h
    obtain ⟨q, h, hq⟩ := optI_ok hs h
    obtain ⟨⟨h0, h1, h2, h3⟩, hk⟩ := h
    have one : ∀ {y : Operand} {n : Int}, ((some y = none ∧ n = 0) ∨ ∃ y' k, some y = some y' ∧ a.eval y' = .int k n) → ∃ k, a.eval y = .int k n := fun h => by
      rcases h with ⟨h, _⟩ | ⟨y', k, e, h⟩
      · cases h
      · cases e; exact ⟨k, h⟩
    obtain ⟨kl, hl⟩ := one hl
    obtain ⟨kh, hhi⟩ := one hhi
    obtain ⟨kq, hq⟩ := one hq
    obtain ⟨A, c, hv, hlc⟩ : ∃ A c, a.eval x = .slice A len c ∧ len ≤ c := by
      generalize a.eval x = v at hd
      cases hd with
      | @sub _ _ _ _ b o' c ad hm hle had => exact ⟨_, _, rfl, by omega⟩
      | sub0 hm => exact ⟨_, _, rfl, Nat.le_refl _⟩
    unfold elemSize at hz
    cases hi' : P.info? e with
    | none => simp [hi'] at hz
    | some inf =>
      simp [hi'] at hz
      have f0 : ∀ code w', (Instr.sliceBound (.int kq q) c code).run P w' = .ok q.toNat w' := fun code w' => run_sliceBound w' kq q c code (by omega) (by omega)
      have f1 : ∀ code w', (Instr.sliceBound (.int kh hh) q.toNat code).run P w' = .ok hh.toNat w' := fun code w' => run_sliceBound w' kh hh q.toNat code (by omega) (by omega)
      have f2 : ∀ code w', (Instr.sliceBound (.int kl l) hh.toNat code).run P w' = .ok l.toNat w' := fun code w' => run_sliceBound w' kl l hh.toNat code h0 (by omega)
      refine res_run hk (.junk (.slice (if q.toNat = l.toNat then A else A.map (·.add (l.toNat * z))) (hh.toNat - l.toNat) (q.toNat - l.toNat))) fun w' _ => by
        unfold execOp; rw [ho]
        simp [Instr.sliceAt, Instr.slice, Instr.sliceBounds, hv, hl, hhi, hq, f0, f1, f2, underlying, ht, sizeOf, typeInfo, hi', hz]
  · exact h.elim

theorem cellsOf_den {av : AVal} {v : Value} (h : Den W C ρ av v) (hn : 0 < (cellsOf av).length) : DenL W C ρ (cellsOf av) v.cells.toList := by
  cases h with
  | junk x => simp [cellsOf] at hn
  | agg vs h1 h2 => exact ⟨h1, h2⟩
  | v => cases v with
    | agg cs => exact den_vs _
    | _ => exact DenL.cons (.v _) .nil
  | ptr h => exact DenL.cons (.ptr h) .nil
  | elt h => exact DenL.cons (.elt h) .nil
  | sub h h1 h2 => exact DenL.cons (.sub h h1 h2) .nil
  | sub0 h => exact DenL.cons (.sub0 h) .nil
  | rs vs h1 h2 h3 => exact DenL.cons (.rs vs h1 h2 h3) .nil
  | re vs h1 h2 => exact DenL.cons (.re vs h1 h2) .nil
  | rp vs h1 h2 => exact DenL.cons (.rp vs h1 h2) .nil
  | mp h => exact DenL.cons (.mp h) .nil
  | arp h => exact DenL.cons (.arp h) .nil
  | tup vs h1 h2 => exact DenL.cons (.tup vs h1 h2) .nil
  | fn vs h1 h2 => exact DenL.cons (.fn vs h1 h2) .nil

def spliceV (l : List Value) (off : Nat) (cs : List Value) : List Value := l.take off ++ cs ++ l.drop (off + cs.length)

theorem splice_den {l cs : List AVal} {l' cs' : List Value} (h : DenL W C ρ l l') (k : DenL W C ρ cs cs') (off : Nat) : DenL W C ρ (splice l off cs) (spliceV l' off cs') := by
  unfold splice spliceV
  rw [k.1]
  exact ((h.take off).append k).append (h.drop _)

/-- Storing the cells one behind the other is splicing them in. -/
theorem foldl_splice (cs : List Value) : ∀ (l : Array Value) (off j : Nat), off + j + cs.length ≤ l.size →
    ((cs.zipIdx j).foldl (fun (b : Array Value) (c : Value × Nat) => b.setIfInBounds (off + c.2) c.1) l).toList = spliceV l.toList (off + j) cs := by
  induction cs with
  | nil => intro l off j h; simp [spliceV]
  | cons c cs ih =>
    intro l off j h
    simp only [List.zipIdx_cons, List.foldl_cons]
    simp only [List.length_cons] at h
    rw [ih _ off (j + 1) (by simp; omega)]
    unfold spliceV
    apply List.ext_getElem?
    intro k
    simp only [Array.toList_setIfInBounds, List.getElem?_append, List.getElem?_take, List.getElem?_drop, List.length_append, List.length_take, List.length_set, Array.length_toList, List.length_cons, List.getElem?_set, List.getElem?_cons]
    have hm : min (off + (j + 1)) l.size = off + j + 1 := by omega
    have hm' : min (off + j) l.size = off + j := by omega
    simp only [hm, hm']
    by_cases h1 : k < off + j
    · simp [h1, show k < off + j + 1 by omega, show k < off + (j + 1) by omega, show ¬ off + j = k by omega, show k < off + j + 1 + cs.length by omega, show k < off + j + (cs.length + 1) by omega]
    · by_cases h2 : k = off + j
      · subst h2
        simp [show off + j < off + j + 1 by omega, show off + j < off + (j + 1) by omega, show off + j < off + j + 1 + cs.length by omega, show off + j < l.size by omega, show off + j < off + j + (cs.length + 1) by omega]
      · by_cases h3 : k < off + j + 1 + cs.length
        · simp [h1, show ¬ k < off + j + 1 by omega, h3, show k < off + j + (cs.length + 1) by omega, show ¬ k - (off + j) = 0 by omega, show k - (off + j + 1) = k - (off + j) - 1 by omega]
        · simp [h1, show ¬ k < off + j + 1 by omega, h3, show ¬ k < off + j + (cs.length + 1) by omega, show ¬ off + j = off + (j + 1) + cs.length + (k - (off + j + 1 + cs.length)) by omega,
            show off + (j + 1) + cs.length + (k - (off + j + 1 + cs.length)) = off + j + (cs.length + 1) + (k - (off + j + (cs.length + 1))) by omega]
          intro hh; omega

theorem fill_cons (pl : Nat → Option (Nat × Nat)) (l : Array Value) (i off n : Nat) (v : Value) (r : List (Nat × Value)) (hp : pl i = some (off, n)) (hv : v.cells.size = n) (ho : off + n ≤ l.size) :
    Instr.fill pl l ((i, v) :: r) = Instr.fill pl ⟨spliceV l.toList off v.cells.toList⟩ r := by
  have key := foldl_splice v.cells.toList l off 0 (by simp [hv]; omega)
  have key2 : v.cells.zipIdx.foldl (fun cs (c, j) => cs.setIfInBounds (off + j) c) l = ⟨spliceV l.toList off v.cells.toList⟩ := by
    apply Array.toList_inj.1
    rw [← Array.foldl_toList]
    simpa using key
  simp only [Instr.fill, hp, hv]
  rw [if_neg (by simp; omega), key2]

theorem build_fill (hs : StOk W C ρ s a w) {K : List AVal → Prop} (pl : Nat → Option (Nat × Nat)) : ∀ (parts : List (Nat × Operand)) (ps : List (Nat × Nat × Operand)) (l : List AVal) (l' : Array Value),
    partsAt pl parts = some ps → DenL W C ρ l l'.toList → fillA s ps l K →
    ∃ m m', K m ∧ DenL W C ρ m m' ∧ Instr.fill pl l' (parts.map fun (i, x) => (i, a.eval x)) = some ⟨m'⟩
  | [], ps, l, l', hp, hd, h => by
    simp [partsAt] at hp
    subst hp
    exact ⟨l, l'.toList, h, hd, by simp [Instr.fill]⟩
  | (i, x) :: r, ps, l, l', hp, hd, h => by
    simp only [partsAt] at hp
    split at hp
    · rename_i off z ps' hz hps
      cases hp
      simp only [fillA] at h
      obtain ⟨⟨h1, h2, h3⟩, h⟩ := h
      have hx := cellsOf_den (hs.fr.ev x) (by omega)
      have hsz : (a.eval x).cells.size = z := by rw [← Array.length_toList, hx.1, h1]
      obtain ⟨m, m', hk, hm, hf'⟩ := build_fill hs pl r ps' _ ⟨spliceV l'.toList off (a.eval x).cells.toList⟩ hps (splice_den hd hx off) h
      refine ⟨m, m', hk, hm, ?_⟩
      rw [← hf']
      have hl : l'.toList.length = l.length := hd.1
      exact fill_cons pl l' i off z (a.eval x) _ hz hsz (by rw [← Array.length_toList, hl]; exact h3)
    · cases hp

theorem bld_ok (hs : StOk W C ρ s a w) {t : TypeId} {parts : Array (Nat × Operand)} {pl : Nat → Option (Nat × Nat)} {z : Value} {ps : List (Nat × Nat × Operand)} (ho : o.op = .build t parts)
    (hp : placesOf P t = some (pl, z)) (hps : partsAt pl parts.toList = some ps) (h : vst s (.bld z.cells.toList ps) K) : Res false P W C ρ o a w K := by
  simp only [vst] at h
  obtain ⟨m, m', hk, hm, hf⟩ := build_fill hs pl parts.toList ps _ z.cells hps (den_vs z.cells.toList) h
  have hb : P.built t (parts.map fun (i, x) => (i, a.eval x)).toList = some ⟨m'⟩ := by
    rw [Array.toList_map, ← hf]
    unfold placesOf at hp
    unfold Program.built
    split at hp
    · split at hp
      · cases hp; simp [*]
      · cases hp
    · split at hp
      · cases hp; simp [*]
      · cases hp
    · cases hp
  refine res_run hk (.agg m' hm.1 hm.2) fun w' _ => ?_
  unfold execOp; rw [ho]
  simp only [Sem.run_bind, run_build w' t _ _ hb, Result.andThen_ok, Sem.run_pure]

theorem byte_get {b : ByteArray} {k : Nat} (h : k < b.size) : b[k]? = some (b.data.toList.getD k 0) := by
  rw [getElem?_pos b k h]
  congr 1
  have h2 : k < b.data.size := h
  show b.data[k] = _
  rw [List.getD, Array.getElem?_toList, Array.getElem?_eq_getElem h2]; rfl
theorem sidx_ok (hs : StOk W C ρ s a w) {t : TypeId} {x i : Operand} (ho : o.op = .index t x i) (ht : P.underlying t = some .string) (h : vst s (.sidx x i) K) : Res false P W C ρ o a w K := by
  simp only [vst] at h
  split at h
  · rename_i b hx
    split at h
    · rename_i k n hi
      obtain ⟨⟨h0, h1⟩, hk⟩ := h
      have hlt : n.toNat < b.size := by omega
      refine res_run hk (.v _) fun w' _ => ?_
      unfold execOp; rw [ho]
      simp [Instr.index, asIntOf, ev_v hs hx, ev_v hs hi, run_underlying ht, h0, byte_get hlt, byteV]
    · exact h.elim
  · exact h.elim
theorem sslc_ok (hs : StOk W C ρ s a w) {t : TypeId} {x : Operand} {lo hi : Option Operand} (ho : o.op = .slice t x lo hi none) (ht : P.underlying t = some .string) (h : vst s (.sslc x lo hi) K) : Res false P W C ρ o a w K := by
  simp only [vst] at h
  split at h
  · rename_i b hx
    obtain ⟨l, h, hl⟩ := optI_ok hs h
    obtain ⟨q, h, hq⟩ := optI_ok hs h
    obtain ⟨⟨h0, h1, h2⟩, hk⟩ := h
    refine res_run hk (.v _) fun w' _ => ?_
    unfold execOp; rw [ho]
    have f1 : ∀ k code, (Instr.sliceBound (.int k q) b.size code).run P w' = .ok q.toNat w' := fun k code => run_sliceBound w' k q b.size code (by omega) (by omega)
    have f2 : ∀ k code, (Instr.sliceBound (.int k l) q.toNat code).run P w' = .ok l.toNat w' := fun k code => run_sliceBound w' k l q.toNat code h0 (by omega)
    have hb : (Instr.sliceBounds false b.size b.size (lo.map a.eval) (hi.map a.eval) none).run P w' = .ok (l.toNat, q.toNat, b.size) w' := by
      rcases hq with ⟨rfl, rfl⟩ | ⟨y', k', rfl, hy'⟩
      · simp only [Int.toNat_natCast] at f2
        rcases hl with ⟨rfl, rfl⟩ | ⟨y, k, rfl, hy⟩
        · simp [Instr.sliceBounds]
        · simp [Instr.sliceBounds, hy, f2]
      · rcases hl with ⟨rfl, rfl⟩ | ⟨y, k, rfl, hy⟩
        · simp [Instr.sliceBounds, hy', f1]
        · simp [Instr.sliceBounds, hy', f1, hy, f2]
    have hx' : a.eval x = .string b := ev_v hs hx
    simp [Instr.sliceAt, Instr.slice, hx', underlying, ht, hb]
  · exact h.elim

/-- A key's value, in the program's words. -/
theorem keyK_ok {kk : KK} {av : AVal} {v : Value} {K : Key → Prop} (hd : Den W C ρ av v) (h : keyK kk av K) : ∃ key, okKey kk key = true ∧ v = keyV key ∧ K key := by
  unfold keyK at h
  split at h
  · split at h
    · exact ⟨_, rfl, den_v hd, h⟩
    · exact h.elim
  · split at h
    · exact ⟨_, rfl, den_v hd, h⟩
    · exact h.elim
  · split at h
    · split at h
      · rename_i l hl
        cases hd with
        | agg vs h3 h4 =>
          have := i64s_den ⟨h3, h4⟩ hl
          subst this
          exact ⟨.a l, by simp [okKey, h.1], rfl, h.2⟩
      · exact h.elim
    · exact h.elim
  · split at h
    · split at h
      · rename_i l hl
        cases hd with
        | agg vs h3 h4 =>
          have := i64s_den ⟨h3, h4⟩ hl
          subst this
          exact ⟨.a l, by simp [okKey, h.1], rfl, h.2⟩
      · exact h.elim
    · exact h.elim
theorem mapOf_spec {t : TypeId} {kk : KK} {mp : Bool} (h : mapOf P t = some (kk, mp)) : ∃ k e i, P.underlying t = some (.map k e) ∧ kkOf P k = some kk ∧ P.info? e = some i ∧ i.zero = some (if mp = true then .string ⟨#[]⟩ else .bool false) := by
  unfold mapOf at h
  split at h
  · rename_i k e hu
    split at h
    · rename_i kk' mp' h1 h2
      cases h
      unfold elemMp at h2
      split at h2
      · rename_i i hi
        split at h2
        · rename_i hz; cases h2; exact ⟨k, e, i, hu, h1, hi, by simp [hz]⟩
        · rename_i z hz
          split at h2
          · rename_i h0; cases h2
            refine ⟨k, e, i, hu, h1, hi, ?_⟩
            rw [hz]
            have : z = ⟨#[]⟩ := by
              apply ByteArray.ext
              exact Array.eq_empty_of_size_eq_zero h0
            rw [this]; rfl
          · cases h2
        · cases h2
      · cases h2
    · cases h
  · cases h
theorem mget_ok (hs : StOk W C ρ s a w) {t : TypeId} {x i : Operand} {kk : KK} {mp ok : Bool} (ho : o.op = .lookup t x i ok) (hm : mapOf P t = some (kk, mp)) (h : vst s (.mget kk mp ok x i) K) : Res true P W C ρ o a w K := by
  obtain ⟨k, e, ie, hu, hk, hi, hz⟩ := mapOf_spec hm
  simp only [vst] at h
  have hdx := hs.fr.ev x
  have hdi := hs.fr.ev i
  split at h
  · rename_i n hx
    rw [hx] at hdx
    split at h
    · rename_i kk' mp' es hl
      obtain ⟨⟨rfl, rfl⟩, h⟩ := h
      obtain ⟨key, hok, hv, hK⟩ := keyK_ok hdi h
      generalize hvx : a.eval x = vx at hdx
      cases hdx with
      | @mp _ b hb =>
        obtain ⟨b', l, c, h1, h2, h3⟩ := hs.hp.obj n _ hl
        rw [hb] at h1; cases h1
        have hlt : b < w.heap.size := (Array.getElem?_eq_some_iff.1 h2).1
        have hdv : ∀ x : Option ByteArray, x = getM es key → Den W C ρ (mgetV mp' ok es key) (if ok = true then .tuple #[(match x with | some y => valV mp' y | none => if mp' = true then .string ⟨#[]⟩ else .bool false), .bool x.isSome] else (match x with | some y => valV mp' y | none => if mp' = true then .string ⟨#[]⟩ else .bool false)) := by
          rintro x rfl
          have one : Den W C ρ (if mp' = true then .v (.string (strM es key)) else .v (.bool (hasM es key))) (match getM es key with | some y => valV mp' y | none => if mp' = true then .string ⟨#[]⟩ else .bool false) := by
            cases hg : getM es key <;> cases mp' <;> simp [strM, hasM, hg, valV] <;> exact .v _
          unfold mgetV
          cases ok
          · simpa using one
          · simp only [if_true]
            refine .tup [_, _] rfl (DenL.cons one (DenL.cons (.v _) .nil)).2
        refine res_run hK (hdv _ rfl) fun w' hw' => ?_
        have h2' : w'.heap[b]? = some (.map l c) := ((hw' rfl).block b hlt).trans h2
        unfold execOp; rw [ho]
        simp only [hvx, hv]
        have hzv : (zeroValue e).run P w' = .ok (if mp' = true then .string ⟨#[]⟩ else .bool false) w' := by simp [zeroValue, typeInfo, hi, hz]
        rcases h3.find hk hok w' with ⟨h4, h5, _⟩ | ⟨j, e0, y, h4, h5, h6, h7, h8⟩
        · cases ok <;> simp [Instr.lookup, run_underlying hu, MapKept.run_getObj_map h2', kk_check hk hok, h4, hzv, h5]
        · cases ok <;> simp [Instr.lookup, run_underlying hu, MapKept.run_getObj_map h2', kk_check hk hok, h4, h7, h8]
    · exact h.elim
  · exact h.elim

def isLd : IOp → Bool
  | .load _ _ _ => true
  | .mget _ _ _ _ _ => true
  | _ => false

theorem vst_ok (hs : StOk W C ρ s a w) {io : IOp} (hl : lowV P o.op = some io) (h : vst s io K) : Res (isLd io) P W C ρ o a w K := by
  generalize ho : o.op = op at hl
  unfold lowV at hl
  split at hl
  · cases hl; exact mov_ok hs (.inl ho) h
  · cases hl; exact mov_ok hs (.inr ho) h
  · cases hl; exact pick_ok hs ho h
  · cases hl; exact ext_ok hs ho h
  · cases hl; exact nilc_ok hs ho h
  · cases hl; exact una_ok hs ho h
  · split at hl
    · cases hl; exact bin_ok hs ho h
    · cases hl; exact bin_ok hs ho h
    · rename_i hu
      split at hl
      · split at hl
        · cases hl; exact snil_ok hs ho rfl hu h
        · cases hl; exact snil_ok hs ho rfl hu h
        · cases hl
      · cases hl
    · rename_i hu
      split at hl
      · cases hl; exact beq_ok hs ho rfl hu h
      · cases hl; exact beq_ok hs ho rfl hu h
      · cases hl
    · rename_i hu
      split at hl
      · rename_i he hz
        split at hl
        · cases hl; exact aeq_ok hs ho rfl hu he hz h
        · cases hl; exact aeq_ok hs ho rfl hu he hz h
        · cases hl
      · rename_i he hz
        split at hl
        · rename_i hn
          obtain ⟨rfl, hp⟩ := hn
          split at hl
          · cases hl; exact heq_ok hs ho rfl hu he hz hp h
          · cases hl; exact heq_ok hs ho rfl hu he hz hp h
          · cases hl
        · cases hl
      · cases hl
    · cases hl
  · split at hl
    · rename_i k hs1 hu
      cases hl
      exact cvi_ok hs ho hu ⟨_, hs1⟩ h
    · cases hl
  · split at hl
    · rename_i hc; cases hl; exact load_ok hs ho hc h
    · cases hl
  · split at hl
    · rename_i hu
      split at hl
      · rename_i hf
        split at hl
        · rename_i hz; cases hl; exact fadr_ok hs ho hu hf hz h
        · cases hl
      · cases hl
    · cases hl
  · split at hl
    · rename_i hu
      split at hl
      · rename_i hf
        split at hl
        · rename_i hz; cases hl; exact fld_ok hs ho hu hf hz h
        · cases hl
      · cases hl
    · cases hl
  · split at hl
    · rename_i hu
      split at hl
      · rename_i hz; cases hl; exact iadr_ok hs ho hu hz h
      · cases hl
    · rename_i hu
      split at hl
      · rename_i hz; cases hl; exact iarr_ok hs ho hu hz h
      · cases hl
    · cases hl
  · split at hl
    · rename_i hu
      split at hl
      · rename_i hc hz
        split at hl
        · rename_i e; subst e; cases hl; exact idx_ok hs ho hu hz hc h
        · cases hl
      · cases hl
    · rename_i hu; cases hl; exact sidx_ok hs ho hu h
    · cases hl
  · split at hl
    · rename_i hu
      split at hl
      · rename_i hz; cases hl; exact slc_ok hs ho hu hz h
      · cases hl
    · rename_i hu; cases hl; exact sslc_ok hs ho hu h
    · rename_i hu
      split at hl
      · rename_i hz; cases hl; exact slca_ok hs ho hu hz h
      · cases hl
    · cases hl
  · split at hl
    · rename_i hu
      split at hl
      · rename_i hz; cases hl; exact slc3_ok hs ho hu hz h
      · cases hl
    · cases hl
  · split at hl
    · rename_i hp
      split at hl
      · rename_i hps; cases hl; exact bld_ok hs ho hp hps h
      · cases hl
    · cases hl
  · cases hl; exact mfn_ok hs ho h
  · split at hl
    · rename_i hu; cases hl; exact len_ok hs ho ⟨_, hu⟩ h
    · rename_i hu; cases hl; exact slen_ok hs ho hu h
    · cases hl
  · split at hl
    · rename_i hu; cases hl; exact s2a_ok hs ho hu h
    · cases hl
  · split at hl
    · rename_i hm; cases hl; exact mget_ok hs ho hm h
    · cases hl
  · cases hl
end
end Go.Proofs.YthghcialeghgoaaDoorE

/-! Operations that make or change memory. -/
namespace Go.Proofs.YthghcialeghgoaaDoorE
open Go Go.RowKit
set_option linter.unusedSimpArgs false
set_option linter.unusedVariables false

def upd : Hp → Nat → AObj → Hp
  | [], _, _ => []
  | (i, x) :: r, k, o => if i = k then (i, o) :: r else (i, x) :: upd r k o
def era : Hp → Nat → Hp
  | [], _ => []
  | (i, x) :: r, k => if i = k then era r k else (i, x) :: era r k

theorem lk_upd {o : AObj} {j : Nat} : ∀ (L : Hp) {k : Nat}, lk (upd L k o) j = if j = k then (lk L k).map fun _ => o else lk L j
  | [], k => by simp [upd, lk]
  | (i, x) :: r, k => by
    simp only [upd]
    by_cases h : i = k
    · subst h
      by_cases hj : i = j
      · subst hj; simp [lk]
      · simp [lk, hj, Ne.symm hj]
    · simp only [h, if_false, lk]
      by_cases hj : i = j
      · subst hj; simp [h]
      · simp only [hj, if_false]; rw [lk_upd r]
theorem lk_era {j k : Nat} : ∀ (L : Hp), lk (era L k) j = if j = k then none else lk L j
  | [] => by simp [era, lk]
  | (i, x) :: r => by
    simp only [era]
    by_cases h : i = k
    · subst h
      rw [if_pos rfl, lk_era r]
      by_cases hj : j = i
      · simp [hj]
      · simp [lk, hj, Ne.symm hj]
    · simp only [h, if_false, lk]
      by_cases hj : i = j
      · subst hj; simp [h]
      · simp only [hj, if_false]; exact lk_era r

def nset (ρ : Nm) (n : Nat) (v : Option (Nat × Nat × Nat)) : Nm := fun m => if m = n then some v else ρ m
theorem nset_sub {ρ : Nm} {n : Nat} (h : ρ n = none) (v : Option (Nat × Nat × Nat)) : Sub0 ρ (nset ρ n v) := fun m x hx => by
  unfold nset
  by_cases e : m = n
  · subst e; rw [h] at hx; cases hx
  · rw [if_neg e]; exact hx
theorem nset_same (ρ : Nm) (n : Nat) (v : Option (Nat × Nat × Nat)) : nset ρ n v n = some v := by simp [nset]

section
variable {W : World} {C : CR} {ρ : Nm}

/-- Some objects are kept, one is new (in a block of its own, or where one that is given up lay). -/
theorem HpOk.ext {nx : Nat} {w w' : World} {L E : Hp} (h : HpOk W C ρ nx w L) {v : Option (Nat × Nat × Nat)} {o : AObj}
    (hE : ∀ k ob, lk E k = some ob → lk L k = some ob)
    (os : w'.os = w.os) (tape : w'.tape = w.tape) (output : w'.output = w.output) (size : w.heap.size ≤ w'.heap.size)
    (keep : ∀ k ob b x, lk E k = some ob → ρ k = some (some (b, x)) → w'.heap[b]? = w.heap[b]? ∧ ∀ x', v ≠ some (b, x'))
    (old : ∀ b, b < W.heap.size → ¬ C.chg b → w'.heap[b]? = w.heap[b]?)
    (hv : ∀ b x, v = some (b, x) → b < w'.heap.size ∧ (W.heap.size ≤ b ∨ C.chg b))
    (ho : ObjOk W C (nset ρ nx v) w' nx o) : HpOk W C (nset ρ nx v) (nx + 1) w' ((nx, o) :: E) := by
  have hnx : ρ nx = none := h.above nx (Nat.le_refl _)
  have hs := nset_sub hnx v
  have hlt : ∀ k ob, lk E k = some ob → ∀ y, (nset ρ nx v) k = some y → k ≠ nx → ρ k = some y := fun k ob hk y hy hne => by
    unfold nset at hy; rwa [if_neg hne] at hy
  have hlk : ∀ m ob, lk ((nx, o) :: E) m = some ob → (m = nx ∧ ob = o) ∨ (m ≠ nx ∧ lk E m = some ob) := fun m ob hm => by
    simp only [lk] at hm
    by_cases e : nx = m
    · rw [if_pos e] at hm; cases hm; exact .inl ⟨e.symm, rfl⟩
    · rw [if_neg e] at hm; exact .inr ⟨fun h => e h.symm, hm⟩
  refine ⟨fun m ob hm => ?_, fun m ob m' ob' b x b' x' hm hm' hne h1 h2 => ?_, fun m ob b x hm hx => ?_, fun m hm => ?_, os.trans h.os, tape.trans h.tape, output.trans h.output, Nat.le_trans h.size size,
    fun b hb hc => (old b hb hc).trans (h.old b hb hc)⟩
  · rcases hlk m ob hm with ⟨rfl, rfl⟩ | ⟨hne, hm⟩
    · exact ho
    · exact ((h.obj m ob (hE _ _ hm)).world fun b x hx => (keep m ob b x hm hx).1).mono hs
  · rcases hlk m ob hm with ⟨e1, e2⟩ | ⟨hne1, hmE⟩
    · rcases hlk m' ob' hm' with ⟨e3, e4⟩ | ⟨hne2, hmE'⟩
      · exact absurd (e1.trans e3.symm) hne
      · rw [e1, nset_same] at h1
        have h2' := hlt _ _ hmE' _ h2 hne2
        intro e; subst e
        exact (keep _ _ _ _ hmE' h2').2 x (by simpa using h1)
    · rcases hlk m' ob' hm' with ⟨e3, e4⟩ | ⟨hne2, hmE'⟩
      · rw [e3, nset_same] at h2
        have h1' := hlt _ _ hmE _ h1 hne1
        intro e; subst e
        exact (keep _ _ _ _ hmE h1').2 x' (by simpa using h2)
      · exact h.apart m ob m' ob' b x b' x' (hE _ _ hmE) (hE _ _ hmE') hne (hlt _ _ hmE _ h1 hne1) (hlt _ _ hmE' _ h2 hne2)
  · rcases hlk m ob hm with ⟨rfl, rfl⟩ | ⟨hne, hm⟩
    · rw [nset_same] at hx; exact hv b x (by simpa using hx)
    · have := h.own m ob b x (hE _ _ hm) (hlt _ _ hm _ hx hne)
      exact ⟨Nat.lt_of_lt_of_le this.1 size, this.2⟩
  · unfold nset
    rw [if_neg (by omega)]
    exact h.above m (by omega)

/-- A new block. -/
theorem HpOk.alloc {nx : Nat} {w : World} {L : Hp} (h : HpOk W C ρ nx w L) {ob : Obj} {w1 : World} (hw1 : Below w.heap.size w w1) (hsz : w1.heap.size = w.heap.size) {y : Nat × Nat} {o : AObj}
    (ho : ObjOk W C (nset ρ nx (some (w.heap.size, y))) (w1.alloc ob) nx o) : HpOk W C (nset ρ nx (some (w.heap.size, y))) (nx + 1) (w1.alloc ob) ((nx, o) :: L) := by
  have hb := hw1.alloc (by omega) ob
  refine h.ext (fun _ _ hk => hk) hb.os hb.tape hb.output hb.size (fun k ob' b x hk hx => ?_) (fun b hlt hc => hb.block b (Nat.lt_of_lt_of_le hlt h.size)) (fun b x e => ?_) ho
  · have := (h.own k ob' b x hk hx).1
    exact ⟨hb.block b this, fun x' e => by cases e; omega⟩
  · cases e; exact ⟨by simp [hsz], .inl h.size⟩

/-- One object is changed where it lies. -/
theorem HpOk.change {nx : Nat} {w w' : World} {L : Hp} (h : HpOk W C ρ nx w L) {m b : Nat} {x : Nat × Nat} {o o' : AObj} (hm : lk L m = some o) (hb : ρ m = some (some (b, x)))
    (os : w'.os = w.os) (tape : w'.tape = w.tape) (output : w'.output = w.output) (size : w'.heap.size = w.heap.size) (keep : ∀ k, k ≠ b → w'.heap[k]? = w.heap[k]?)
    (ho : ObjOk W C ρ w' m o') : HpOk W C ρ nx w' (upd L m o') := by
  have hl : ∀ k ob, lk (upd L m o') k = some ob → (k = m ∧ ob = o') ∨ (k ≠ m ∧ lk L k = some ob) := fun k ob hk => by
    rw [lk_upd] at hk
    by_cases e : k = m
    · rw [if_pos e, hm] at hk; simp at hk; exact .inl ⟨e, hk.symm⟩
    · rw [if_neg e] at hk; exact .inr ⟨e, hk⟩
  have hl' : ∀ k ob, lk (upd L m o') k = some ob → ∃ ob', lk L k = some ob' := fun k ob hk => by
    rcases hl k ob hk with ⟨rfl, _⟩ | ⟨_, h⟩
    · exact ⟨_, hm⟩
    · exact ⟨_, h⟩
  refine ⟨fun k ob hk => ?_, fun k ob k' ob' c y c' y' hk hk' hne h1 h2 => ?_, fun k ob c y hk hx => ?_, h.above, os.trans h.os, tape.trans h.tape, output.trans h.output, by rw [size]; exact h.size, fun c hc hcc => ?_⟩
  · rcases hl k ob hk with ⟨rfl, rfl⟩ | ⟨hne, hk⟩
    · exact ho
    · exact (h.obj k ob hk).world fun c y hy => keep c (fun e => h.apart k ob m o c y b x hk hm hne hy hb e)
  · obtain ⟨o1, h3⟩ := hl' k ob hk
    obtain ⟨o2, h4⟩ := hl' k' ob' hk'
    exact h.apart k o1 k' o2 c y c' y' h3 h4 hne h1 h2
  · obtain ⟨o1, h3⟩ := hl' k ob hk
    rw [size]; exact h.own k o1 c y h3 hx
  · rw [keep c]
    · exact h.old c hc hcc
    · intro e; subst e
      rcases (h.own m o c x hm hb).2 with h5 | h5
      · omega
      · exact hcc h5

theorem one_of {av : AVal} {v : Value} (h : Den W C ρ av v) (ho : oneA av = true) : v.oneCell' = true := by
  cases h <;> first | (simp [oneA] at ho; done) | rfl | skip
  cases v <;> first | (simp [oneA] at ho; done) | rfl

theorem ones_of {cs : List AVal} {vs : List Value} (h : DenL W C ρ cs vs) (ho : cs.all oneA = true) : ∀ u ∈ vs, u.oneCell' = true := fun u hu => by
  obtain ⟨k, hk, rfl⟩ := List.getElem_of_mem hu
  have hk' : k < cs.length := by have := h.1; omega
  have := h.2 k cs[k] vs[k] (List.getElem?_eq_getElem hk') (List.getElem?_eq_getElem hk)
  exact one_of this (List.all_eq_true.1 ho _ (List.getElem_mem hk'))
end
end Go.Proofs.YthghcialeghgoaaDoorE

/-! Operations that make or change memory: what they say is so. -/
namespace Go.Proofs.YthghcialeghgoaaDoorE
open Go Go.RowKit
set_option linter.unusedSimpArgs false
set_option linter.unusedVariables false

def S.add (s : S) (o : AObj) : S := { s with L := (s.nx, o) :: s.L, nx := s.nx + 1 }
def S.hp (s : S) (L : Hp) : S := { s with L := L }

def someK {α : Type} (x : Option α) (K : α → Prop) : Prop := match x with
  | some y => K y
  | none => False

def decN (t : Ty) : Nat → List AVal → Option (List t.D)
  | 0, [] => some []
  | 0, _ :: _ => none
  | n + 1, l => match dec t (l.take (sz t)), decN t n (l.drop (sz t)) with
    | some x, some xs => some (x :: xs)
    | _, _ => none

/-- The rows that a slice value reads as. -/
def rowsK (t : Ty) (L : Hp) (y : AVal) (K : List t.D → Prop) : Prop :=
  match y with
  | .rs t' xs => castK t t' xs K
  | .sub m z lo len => match lk L m with
    | some (.row t' xs) => (z = sz t' ∧ lo + len ≤ xs.length) ∧ castK t t' ((xs.drop lo).take len) K
    | _ => False
  | .v (.slice none 0 0) => K []
  | _ => False

def appRoom : Nat := 70368744177664

/-- What stays behind the appended elements of a row that is appended to itself. -/
def selK (sf : Bool) (p q : Prop) : Prop := if sf = true then p ∨ q else q
/-- A row of which a part is cleared (a cleared end is passed over). -/
def clrL {α : Type} (xs : List α) (d : α) (lo len : Nat) : List α := if lo + len = xs.length then xs.take lo else xs.take lo ++ List.replicate len d ++ xs.drop (lo + len)
/-- A row into which another one is copied. -/
def cpyL {α : Type} (xs ys : List α) (lo len : Nat) : List α := xs.take lo ++ ys.take (min len ys.length) ++ xs.drop (lo + min len ys.length)
def selfB : AVal → AVal → Bool
  | .sub m _ _ _, .sub m' _ _ _ => decide (m = m')
  | _, _ => false

/-- Bytes as a string. -/
def bstr (l : List Int) : ByteArray := l.foldl (fun r n => r.push (UInt8.ofNat n.toNat)) ByteArray.empty
def appK (t : Ty) (bytes : Nat) (sf : Bool) (s : S) (x : AVal) (ys : List t.D) (K : AVal → S → Prop) : Prop :=
  match x with
  | .v (.slice none 0 0) => ys.length * bytes ≤ appRoom ∧ K (.sub s.nx (sz t) 0 ys.length) (s.add (.row t ys))
  | .sub m z lo len => match lk s.L m with
    | some (.row t' xs) => castK t t' xs fun xs => (z = sz t ∧ lo + len ≤ xs.length ∧ (len + ys.length) * bytes ≤ appRoom) ∧
        (lo + len = xs.length ∨ lo + len + ys.length ≤ xs.length) ∧
        selK sf (K (.sub s.nx (sz t) 0 (len + ys.length)) ((s.hp (era s.L m)).add (.row t ((xs.drop lo).take len ++ ys ++ xs.drop (lo + len + ys.length)))))
          (K (.sub s.nx (sz t) 0 (len + ys.length)) ((s.hp (era s.L m)).add (.row t ((xs.drop lo).take len ++ ys ++ []))))
    | _ => False
  | _ => False

def valK (mp : Bool) (av : AVal) (K : ByteArray → Prop) : Prop :=
  if mp = true then match av with
    | .v (.string x) => K x
    | _ => False
  else match av with
    | .v (.bool b) => b = true ∧ K ⟨#[]⟩
    | _ => False

def wst (s : S) (io : IOp) (K : AVal → S → Prop) : Prop :=
  match io with
  | .mmk kk mp => K (.mp s.nx) (s.add (.set kk mp []))
  | .mput kk mp m k v => match s.ev m with
    | .mp n => match lk s.L n with
      | some (.set kk' mp' es) => (kk' = kk ∧ mp' = mp) ∧ keyK kk (s.ev k) fun key => valK mp (s.ev v) fun x => K .junk (s.hp (upd s.L n (.set kk mp ((key, x) :: es))))
      | _ => False
    | _ => False
  | .box x => 0 < (cellsOf (s.ev x)).length ∧ K (.ptr s.nx 0) (s.add (.box (cellsOf (s.ev x))))
  | .new z => K (.ptr s.nx 0) (s.add (.box (z.map .v)))
  | .b2s t x => rowsK t s.L (s.ev x) fun ys => sz t = 1 ∧ someK (u8s (ys.map (enc t)).flatten) fun l => K (.v (.string (bstr l))) s
  | .newr t n => n ≤ 1000 ∧ K (.arp s.nx n) (s.add (.row t (List.replicate n (dflt t))))
  | .cpy t x y => rowsK t s.L (s.ev y) fun ys => match s.ev x with
    | .sub m z lo len => match lk s.L m with
      | some (.row t' xs) => castK t t' xs fun xs => (z = sz t ∧ lo + len ≤ xs.length) ∧ K (.v (.int .i64 (min len ys.length : Nat))) (s.hp (upd s.L m (.row t (cpyL xs ys lo len))))
      | _ => False
    | _ => False
  | .store n p x => ((cellsOf (s.ev x)).length = n ∧ 0 < n ∧ (cellsOf (s.ev x)).all oneA = true) ∧ match s.ev p with
    | .ptr m off => match lk s.L m with
      | some (.box old) => off + n ≤ old.length ∧ K .junk (s.hp (upd s.L m (.box (splice old off (cellsOf (s.ev x))))))
      | _ => False
    | .elt m z i f => match lk s.L m with
      | some (.row t xs) => (z = sz t ∧ i < xs.length ∧ f + n ≤ sz t) ∧ someK (dec t (splice (enc t (xs.getD i (dflt t))) f (cellsOf (s.ev x)))) fun y =>
          K .junk (s.hp (upd s.L m (.row t (xs.set i y))))
      | _ => False
    | .arp m k => match lk s.L m with
      | some (.row t xs) => (xs.length = k ∧ n = k * sz t) ∧ someK (decN t k (cellsOf (s.ev x))) fun ys => K .junk (s.hp (upd s.L m (.row t ys)))
      | _ => False
    | _ => False
  | .mk t bytes x y => match s.ev x, s.ev y with
    | .v (.int _ n), .v (.int _ n') => (n = n' ∧ 0 ≤ n ∧ n * bytes ≤ appRoom ∧ n ≤ 9223372036854775807) ∧ K (.sub s.nx (sz t) 0 n.toNat) (s.add (.row t (List.replicate n.toNat (dflt t))))
    | _, _ => False
  | .blds t len parts => len ≤ 1000 ∧ fillA s parts ((List.replicate len (zer t)).flatten.map .v) fun l => l.all oneA = true ∧ someK (decN t len l) fun xs => K (.sub s.nx (sz t) 0 len) (s.add (.row t xs))
  | .app t bytes x y => rowsK t s.L (s.ev y) fun ys => appK t bytes (selfB (s.ev x) (s.ev y)) s (s.ev x) ys K
  | .clr t x => match s.ev x with
    | .sub m z lo len => match lk s.L m with
      | some (.row t' xs) => castK t t' xs fun xs => (z = sz t ∧ lo + len ≤ xs.length) ∧ K .junk (s.hp (upd s.L m (.row t (clrL xs (dflt t) lo len))))
      | _ => False
    | _ => False
  | _ => False

def sameV : Value → Value → Bool
  | .int k n, .int k' n' => k == k' && n == n'
  | .bool a, .bool b => a == b
  | .string a, .string b => a.data.toList == b.data.toList
  | .slice none 0 0, .slice none 0 0 => true
  | _, _ => false
theorem sameV_eq {a b : Value} (h : sameV a b = true) : a = b := by
  unfold sameV at h
  split at h
  · simp at h; rw [h.1, h.2]
  · simp at h; rw [h]
  · rename_i x y
    simp at h
    congr 1
    exact ByteArray.ext h
  · rfl
  · cases h
def sameVs : List Value → List Value → Bool
  | [], [] => true
  | a :: x, b :: y => sameV a b && sameVs x y
  | _, _ => false
theorem sameVs_eq : ∀ {a b : List Value}, sameVs a b = true → a = b
  | [], [], _ => rfl
  | [], _ :: _, h => by simp [sameVs] at h
  | _ :: _, [], h => by simp [sameVs] at h
  | a :: x, b :: y, h => by
    simp [sameVs] at h
    rw [sameV_eq h.1, sameVs_eq h.2]

/-- An element type's kind: its size, its zero's cells, its bytes. -/
def kindOf (P : Program) (τ : List (Nat × Ty)) (e : TypeId) : Option (Ty × Nat) :=
  match lk τ e, P.info? e with
  | some t, some i => match i.zero with
    | some z => if i.size = sz t ∧ sameVs z.cells.toList (zer t) = true ∧ 0 < i.bytes then some (t, i.bytes) else none
    | none => none
  | _, _ => none

theorem kindOf_spec {P : Program} {τ : List (Nat × Ty)} {e : TypeId} {t : Ty} {b : Nat} (h : kindOf P τ e = some (t, b)) :
    ∃ i z, P.info? e = some i ∧ i.zero = some z ∧ i.size = sz t ∧ z.cells.toList = zer t ∧ 0 < i.bytes ∧ i.bytes = b := by
  unfold kindOf at h
  split at h
  · rename_i t' i h1 h2
    split at h
    · rename_i z hz
      split at h
      · rename_i hc
        cases h
        exact ⟨i, z, h2, hz, hc.1, sameVs_eq hc.2.1, hc.2.2, rfl⟩
      · cases h
    · cases h
  · cases h

def lowW (P : Program) (τ : List (Nat × Ty)) (o : Op) : Option IOp :=
  match o with
  | .box _ x => some (.box x)
  | .alloc t => match P.info? t with
    | some i => match i.zero with
      | some z => match lk τ (t + 1000000) with
        | some ty => if sameVs z.cells.toList (List.replicate (z.cells.size / sz ty) (zer ty)).flatten = true then some (.newr ty (z.cells.size / sz ty)) else none
        | none => some (.new z.cells.toList)
      | none => none
    | none => none
  | .store t p x => match P.info? t with
    | some i => some (.store i.size p x)
    | none => none
  | .makeSlice t x y => match P.underlying t with
    | some (.slice e) => match kindOf P τ e with
      | some (ty, b) => some (.mk ty b x y)
      | none => none
    | _ => none
  | .buildSlice t len parts => match P.underlying t with
    | some (.slice e) => match kindOf P τ e with
      | some (ty, _) => match partsAt (fun i => some (i * sz ty, sz ty)) parts.toList with
        | some ps => some (.blds ty len ps)
        | none => none
      | none => none
    | _ => none
  | .call ⟨.builtin .clear, ⟨[x]⟩, ⟨[t]⟩⟩ => match P.underlying t with
    | some (.slice e) => match kindOf P τ e with
      | some (ty, _) => some (.clr ty x)
      | none => none
    | _ => none
  | .call ⟨.builtin .copy, ⟨[x, y]⟩, ⟨[t, t']⟩⟩ => if t = t' then match P.underlying t with
    | some (.slice e) => match kindOf P τ e with
      | some (ty, _) => some (.cpy ty x y)
      | none => none
    | _ => none else none
  | .call ⟨.builtin .append, ⟨[x, y]⟩, ⟨[t, t']⟩⟩ => if t = t' then match P.underlying t with
    | some (.slice e) => match kindOf P τ e with
      | some (ty, b) => some (.app ty b x y)
      | none => none
    | _ => none else none
  | .convert src d x => match P.underlying src, P.underlying d with
    | some (.slice e), some .string => match P.underlying e, kindOf P τ e with
      | some (.int .u8), some (ty, _) => some (.b2s ty x)
      | _, _ => none
    | _, _ => none
  | .makeMap t none => match mapOf P t with
    | some (kk, mp) => some (.mmk kk mp)
    | none => none
  | .makeMap t (some (.const (.int _ _))) => match mapOf P t with
    | some (kk, mp) => some (.mmk kk mp)
    | none => none
  | .mapUpdate t m k x => match mapOf P t with
    | some (kk, mp) => some (.mput kk mp m k x)
    | none => none
  | .insert t m k x => match mapOf P t with
    | some (kk, mp) => some (.mput kk mp m k x)
    | none => none
  | _ => none

section
variable {P : Program} {W : World} {C : CR} {ρ : Nm} {s : S} {a : Act} {w : World} {o : Oper} {K : AVal → S → Prop}

/-- The operation comes to an end, in a state of which K speaks. -/
def WRes (mild : Bool) (P : Program) (W : World) (C : CR) (ρ : Nm) (s : S) (a : Act) (w : World) (o : Oper) (K : AVal → S → Prop) : Prop :=
  ∃ av v s' w' ρ', K av s' ∧ ((execOp a.eval o).run P w = .ok (.value v) w' ∨ ((execOp a.eval o).run P w = .ok .skip w' ∧ v = undef)) ∧ Sub0 ρ ρ' ∧ Den W C ρ' av v ∧
    s'.σ = s.σ ∧ s'.n = s.n ∧ HpOk W C ρ' s'.nx w' s'.L ∧ (mild = true → Below w.heap.size w w')

theorem box_ok (hs : StOk W C ρ s a w) {t : TypeId} {x : Operand} (ho : o.op = .box t x) (h : wst s (.box x) K) : WRes true P W C ρ s a w o K := by
  simp only [wst] at h
  have hd := cellsOf_den (hs.fr.ev x) h.1
  have hn := nset_sub (hs.hp.above s.nx (Nat.le_refl _)) (some (w.heap.size, 0, 0))
  refine ⟨_, .pointer (some ⟨w.heap.size, 0, none⟩), _, w.alloc (.cells (a.eval x).cells t), nset ρ s.nx (some (w.heap.size, 0, 0)), h.2, .inl ?_, hn, .ptr (nset_same _ _ _), rfl, rfl, ?_, fun _ => (Below.refl _ _).alloc (Nat.le_refl _) _⟩
  · unfold execOp; rw [ho]
    simp [Instr.box, newVar, newRow]
  · exact hs.hp.alloc (Below.refl _ _) rfl ⟨w.heap.size, t, (a.eval x).cells.toList, nset_same _ _ _, by rw [heap_alloc_new], hd.mono hn⟩

theorem new_ok (hs : StOk W C ρ s a w) {t : TypeId} {i : TypeInfo} {z : Value} (ho : o.op = .alloc t) (hi : P.info? t = some i) (hz : i.zero = some z) (h : wst s (.new z.cells.toList) K) : WRes true P W C ρ s a w o K := by
  simp only [wst] at h
  have hn := nset_sub (hs.hp.above s.nx (Nat.le_refl _)) (some (w.heap.size, 0, 0))
  refine ⟨_, .pointer (some ⟨w.heap.size, 0, none⟩), _, w.alloc (.cells z.cells t), nset ρ s.nx (some (w.heap.size, 0, 0)), h, .inl ?_, hn, .ptr (nset_same _ _ _), rfl, rfl, ?_, fun _ => (Below.refl _ _).alloc (Nat.le_refl _) _⟩
  · unfold execOp; rw [ho]
    simp [Instr.alloc, newVar, newRow, zeroValue, typeInfo, hi, hz]
  · exact hs.hp.alloc (Below.refl _ _) rfl ⟨w.heap.size, t, z.cells.toList, nset_same _ _ _, by rw [heap_alloc_new], den_vs _⟩

theorem heap_setRow_same (w : World) (g : Nat) (cs : Array Value) {cur : Array Value} {t : TypeId} (h : w.heap[g]? = some (.cells cur t (0, 0))) : (w.setRow g cs).heap[g]? = some (.cells cs t (0, 0)) := by
  simp [World.setRow, Array.getElem?_modify, h]
theorem heap_setRow_other (w : World) (g k : Nat) (cs : Array Value) (h : k ≠ g) : (w.setRow g cs).heap[k]? = w.heap[k]? := by
  simp only [World.setRow, Array.getElem?_modify]
  rw [if_neg (by omega)]

theorem get_splice {l cs : List Value} {off k : Nat} (h : off + cs.length ≤ l.length) : (spliceV l off cs)[k]? = if off ≤ k ∧ k < off + cs.length then cs[k - off]? else l[k]? := by
  unfold spliceV
  simp only [List.getElem?_append, List.length_append, List.length_take, List.getElem?_take, List.getElem?_drop]
  have hm : min off l.length = off := by omega
  simp only [hm]
  by_cases h1 : k < off
  · have e1 : k < off + cs.length := by omega
    have e2 : ¬ (off ≤ k ∧ k < off + cs.length) := by omega
    simp [h1, e1]
    intro hh; omega
  · by_cases h2 : k < off + cs.length
    · have e2 : off ≤ k ∧ k < off + cs.length := by omega
      simp [h1, h2, e2]
    · have e2 : ¬ (off ≤ k ∧ k < off + cs.length) := by omega
      have e3 : off + cs.length + (k - (off + cs.length)) = k := by omega
      simp [h2, e2, e3]

/-- A list of values reads as rows. -/
def RowsAt (W : World) (C : CR) (ρ : Nm) (t : Ty) (xs : List t.D) (news : List Value) : Prop :=
  news.length = xs.length * sz t ∧ ∀ (i f : Nat) (x : t.D) (av : AVal), xs[i]? = some x → (enc t x)[f]? = some av → ∃ u, news[i * sz t + f]? = some u ∧ Den W C ρ av u

theorem RowsAt.mono {ρ' : Nm} (hs : Sub0 ρ ρ') {t : Ty} {xs : List t.D} {news : List Value} (h : RowsAt W C ρ t xs news) : RowsAt W C ρ' t xs news :=
  ⟨h.1, fun i f x av h1 h2 => let ⟨u, h3, h4⟩ := h.2 i f x av h1 h2; ⟨u, h3, h4.mono hs⟩⟩

theorem RowsAt.append {t : Ty} {xs ys : List t.D} {l m : List Value} (h : RowsAt W C ρ t xs l) (k : RowsAt W C ρ t ys m) : RowsAt W C ρ t (xs ++ ys) (l ++ m) := by
  refine ⟨by simp [h.1, k.1, Nat.add_mul], fun i f x av h1 h2 => ?_⟩
  have hf : f < sz t := by have := (List.getElem?_eq_some_iff.1 h2).1; rwa [enc_length] at this
  rw [List.getElem?_append] at h1
  split at h1
  · rename_i hi
    obtain ⟨u, h3, h4⟩ := h.2 i f x av h1 h2
    exact ⟨u, by rw [List.getElem?_append_left (by have := (List.getElem?_eq_some_iff.1 h3).1; exact this)]; exact h3, h4⟩
  · rename_i hi
    obtain ⟨u, h3, h4⟩ := k.2 _ f x av h1 h2
    refine ⟨u, ?_, h4⟩
    have e : i * sz t = xs.length * sz t + (i - xs.length) * sz t := by rw [← Nat.add_mul]; congr 1; omega
    rw [List.getElem?_append_right (by rw [h.1]; omega), h.1, ← h3]
    congr 1; omega

theorem RowsAt.one {t : Ty} {xs : List t.D} {news : List Value} (h : RowsAt W C ρ t xs news) : ∀ u ∈ news, u.oneCell' = true := by
  intro u hu
  obtain ⟨k, hk, rfl⟩ := List.getElem_of_mem hu
  have hz := sz_pos t
  have hlt : k / sz t < xs.length := by rw [Nat.div_lt_iff_lt_mul hz, ← h.1]; exact hk
  have hm : k % sz t < (enc t xs[k / sz t]).length := by rw [enc_length]; exact Nat.mod_lt _ hz
  obtain ⟨u, h1, h2⟩ := h.2 (k / sz t) (k % sz t) xs[k / sz t] _ (List.getElem?_eq_getElem hlt) (List.getElem?_eq_getElem hm)
  rw [Nat.div_add_mod'] at h1
  have e : news[k] = u := by rw [List.getElem?_eq_getElem hk] at h1; exact Option.some.inj h1
  rw [e]
  exact one_of h2 (List.all_eq_true.1 (enc_one t _) _ (List.getElem_mem hm))

theorem decN_rows (t : Ty) : ∀ (n : Nat) (l : List AVal) (xs : List t.D) (vs : List Value), decN t n l = some xs → DenL W C ρ l vs → RowsAt W C ρ t xs vs ∧ xs.length = n
  | 0, [], xs, vs, h, hd => by
    simp [decN] at h; subst h
    have := hd.1
    exact ⟨⟨by simpa using this, fun i f x av h1 => by simp at h1⟩, rfl⟩
  | 0, _ :: _, xs, vs, h, hd => by simp [decN] at h
  | n + 1, l, xs, vs, h, hd => by
    simp only [decN] at h
    split at h
    · rename_i x xs' hx hxs
      cases h
      have he := dec_enc _ _ _ hx
      have hl : sz t ≤ l.length := by
        have := congrArg List.length he
        rw [enc_length, List.length_take] at this; omega
      obtain ⟨ih, ihl⟩ := decN_rows t n (l.drop (sz t)) xs' (vs.drop (sz t)) hxs (hd.drop _)
      have h1 : RowsAt W C ρ t [x] (vs.take (sz t)) := by
        have hd' := hd.take (sz t)
        rw [← he] at hd'
        refine ⟨by have := hd'.1; rw [this, enc_length]; simp, fun i f x' av h1 h2 => ?_⟩
        cases i with
        | zero =>
          simp at h1; subst h1
          simpa using hd'.at h2
        | succ i => simp at h1
      have := h1.append ih
      rw [List.take_append_drop] at this
      exact ⟨this, by simp [ihl]⟩
    · cases h

theorem store_ok (hs : StOk W C ρ s a w) {t : TypeId} {i : TypeInfo} {p x : Operand} (ho : o.op = .store t p x) (hi : P.info? t = some i) (h : wst s (.store i.size p x) K) : WRes false P W C ρ s a w o K := by
  simp only [wst] at h
  obtain ⟨⟨hlen, hpos, hone⟩, h⟩ := h
  have hd := cellsOf_den (hs.fr.ev x) (by omega)
  have h1 := ones_of hd hone
  have hsz : (a.eval x).cells.size = i.size := by rw [← Array.length_toList, hd.1, hlen]
  have run : ∀ (b o' T : Nat) (vs : List Value), a.eval p = .pointer (some ⟨b, o', none⟩) → w.heap[b]? = some (.cells ⟨vs⟩ T (0, 0)) → o' + i.size ≤ vs.length →
      (execOp a.eval o).run P w = .ok .skip (w.setRow b ⟨spliceV vs o' (a.eval x).cells.toList⟩) := by
    intro b o' T vs hp hb hl
    have hst := run_storeCells_at P b o' T (a.eval x).cells.toList 0 ⟨vs⟩ w hb (by simp [hsz]; omega) h1
    simp only [Nat.add_zero] at hst
    unfold execOp; rw [ho]
    simp only [Instr.storeAt, hp, Instr.sureAddr, storeVar, sizeOf, typeInfo]
    simp [hi, hsz, hst, spliceV]
  have hp := hs.fr.ev p
  split at h
  · rename_i m off hx
    rw [hx] at hp
    generalize hv : a.eval p = v at hp
    cases hp with
    | @ptr _ _ b hm =>
      cases hl : lk s.L m with
      | none => simp [hl] at h
      | some ob =>
        cases ob with
        | row t xs => simp [hl] at h
        | set kk mp es => simp [hl] at h
        | box old =>
          simp only [hl] at h
          obtain ⟨hle, hk⟩ := h
          obtain ⟨b', T, vs, h2, h3, h4⟩ := hs.hp.obj m _ hl
          rw [hm] at h2; cases h2
          have hvl := h4.1
          refine ⟨_, undef, _, _, ρ, hk, .inr ⟨run _ _ _ _ hv h3 (by omega), rfl⟩, Sub0.refl _, .junk _, rfl, rfl, ?_, fun e => by cases e⟩
          refine hs.hp.change hl hm rfl rfl rfl (by simp) (fun k hk => heap_setRow_other _ _ _ _ hk) ⟨b, T, _, hm, heap_setRow_same _ _ _ h3, splice_den h4 hd off⟩
  · rename_i m z j f hx
    rw [hx] at hp
    generalize hv : a.eval p = v at hp
    cases hp with
    | @elt _ _ _ _ b o' c hm =>
      cases hl : lk s.L m with
      | none => simp [hl] at h
      | some ob =>
        cases ob with
        | box cs => simp [hl] at h
        | set kk mp es => simp [hl] at h
        | row t xs =>
          simp only [hl] at h
          obtain ⟨⟨rfl, hj, hf⟩, h⟩ := h
          unfold someK at h
          split at h
          · rename_i y hy
            have hey := dec_enc _ _ _ hy
            rcases hs.hp.obj m _ hl with ⟨h2, _⟩ | ⟨b', o'', c', T, vs, h2, h3, h4, h5, h6, h7⟩
            · rw [hm] at h2; cases h2
            · rw [hm] at h2; cases h2
              have hmul := mul_lt (s := sz t) hj h5
              have hcl : (a.eval x).cells.toList.length = i.size := by rw [Array.length_toList]; exact hsz
              have hbound : o' + j * sz t + f + (a.eval x).cells.toList.length ≤ vs.length := by rw [hcl]; omega
              refine ⟨_, undef, _, _, ρ, h, .inr ⟨run _ _ _ _ hv h3 (by omega), rfl⟩, Sub0.refl _, .junk _, rfl, rfl, ?_, fun e => by cases e⟩
              refine hs.hp.change hl hm rfl rfl rfl (by simp) (fun k hk => heap_setRow_other _ _ _ _ hk) (.inr ⟨b, o', c, T, _, hm, heap_setRow_same _ _ _ h3, ?_, by simp; exact h5, h6, ?_⟩)
              · simp only [spliceV, List.length_append, List.length_take, List.length_drop]; omega
              · intro i' f' x' av hx' hav
                rw [get_splice hbound]
                rw [List.getElem?_set] at hx'
                by_cases e : j = i'
                · subst e
                  rw [if_pos rfl, if_pos hj] at hx'
                  cases hx'
                  rw [hey] at hav
                  have hxo := getD_of hj (dflt t)
                  have hf' : f' < sz t := by
                    have := (List.getElem?_eq_some_iff.1 hav).1
                    simp [splice, enc_length] at this; omega
                  have hsp := splice_den (W := W) (C := C) (ρ := ρ) (l := enc t (xs.getD j (dflt t))) (l' := (vs.drop (o' + j * sz t)).take (sz t)) ?_ hd f
                  · obtain ⟨u, hu, hu2⟩ := hsp.at hav
                    rw [get_splice (by simp; omega)] at hu
                    refine ⟨u, ?_, hu2⟩
                    by_cases e2 : f ≤ f' ∧ f' < f + (a.eval x).cells.toList.length
                    · rw [if_pos (by omega), show o' + j * sz t + f' - (o' + j * sz t + f) = f' - f by omega]
                      rw [if_pos e2] at hu; exact hu
                    · rw [if_neg (by omega)]
                      rw [if_neg e2] at hu
                      rw [List.getElem?_take, if_pos hf', List.getElem?_drop] at hu
                      exact hu
                  · refine ⟨by simp [enc_length]; omega, fun k av' u hk hu => ?_⟩
                    obtain ⟨u', h8, h9⟩ := h7 j k _ av' hxo hk
                    rw [List.getElem?_take] at hu
                    split at hu
                    · rw [List.getElem?_drop, h8] at hu; cases hu; exact h9
                    · cases hu
                · rw [if_neg e] at hx'
                  obtain ⟨u, h8, h9⟩ := h7 i' f' x' av hx' hav
                  have hf' : f' < sz t := by
                    have := (List.getElem?_eq_some_iff.1 hav).1
                    rwa [enc_length] at this
                  refine ⟨u, ?_, h9⟩
                  rw [if_neg]
                  · exact h8
                  · rw [hcl]
                    rcases Nat.lt_or_gt_of_ne e with e | e
                    · have := Nat.mul_le_mul_right (sz t) (show j + 1 ≤ i' by omega)
                      rw [Nat.add_mul, Nat.one_mul] at this; omega
                    · have := Nat.mul_le_mul_right (sz t) (show i' + 1 ≤ j by omega)
                      rw [Nat.add_mul, Nat.one_mul] at this; omega
          · exact h.elim
  · rename_i m k hx
    rw [hx] at hp
    generalize hv : a.eval p = v at hp
    cases hp with
    | @arp _ _ b hm =>
      cases hl : lk s.L m with
      | none => simp [hl] at h
      | some ob =>
        cases ob with
        | box cs => simp [hl] at h
        | set kk mp es => simp [hl] at h
        | row t xs =>
          simp only [hl] at h
          obtain ⟨⟨rfl, hn⟩, h⟩ := h
          unfold someK at h
          split at h
          · rename_i ys hy
            obtain ⟨hr, hyl⟩ := decN_rows t _ _ _ _ hy hd
            rcases hs.hp.obj m _ hl with ⟨h2, _⟩ | ⟨b', o'', c', T, vs, h2, h3, h4, h5, h6, h7⟩
            · rw [hm] at h2; cases h2
            · rw [hm] at h2; cases h2
              have hcl : (a.eval x).cells.toList.length = i.size := by rw [Array.length_toList]; exact hsz
              refine ⟨_, undef, _, _, ρ, h, .inr ⟨run _ _ _ _ hv h3 (by omega), rfl⟩, Sub0.refl _, .junk _, rfl, rfl, ?_, fun e => by cases e⟩
              refine hs.hp.change hl hm rfl rfl rfl (by simp) (fun k hk => heap_setRow_other _ _ _ _ hk) (.inr ⟨b, 0, xs.length, T, _, hm, heap_setRow_same _ _ _ h3, ?_, by omega, h6, ?_⟩)
              · simp only [spliceV, List.length_append, List.length_take, List.length_drop]; omega
              · intro i' f' x' av hx' hav
                obtain ⟨u, h8, h9⟩ := hr.2 i' f' x' av hx' hav
                refine ⟨u, ?_, h9⟩
                have hlt := (List.getElem?_eq_some_iff.1 h8).1
                rw [get_splice (by omega), if_pos (by omega), ← h8]
                congr 1; omega
          · exact h.elim
  · exact h.elim
end
end Go.Proofs.YthghcialeghgoaaDoorE

/-! make, slice literals, append: what they say is so. -/
namespace Go.Proofs.YthghcialeghgoaaDoorE
open Go Go.RowKit
set_option linter.unusedSimpArgs false
set_option linter.unusedVariables false

section
variable {P : Program} {W : World} {C : CR} {ρ : Nm} {s : S} {a : Act} {w : World} {o : Oper} {K : AVal → S → Prop}

/-- A row object of a block of its own. -/
theorem row_new {nx : Nat} {w : World} {L : Hp} (h : HpOk W C ρ nx w L) {w1 : World} (hw1 : Below w.heap.size w w1) (hsz : w1.heap.size = w.heap.size) {t : Ty} {xs : List t.D} {c e : Nat} {news rest : List Value}
    (hr : RowsAt W C ρ t xs news) (hrest : (news ++ rest).length = c * sz t) (hle : xs.length ≤ c) (hc : c ≤ mostLen) :
    HpOk W C (nset ρ nx (some (w.heap.size, 0, c))) (nx + 1) (w1.alloc (.cells ⟨news ++ rest⟩ e)) ((nx, .row t xs) :: L) := by
  have hn := nset_sub (h.above nx (Nat.le_refl _)) (some (w.heap.size, 0, c))
  refine h.alloc hw1 hsz (.inr ⟨w.heap.size, 0, c, e, _, nset_same _ _ _, by rw [← hsz, heap_alloc_new], by omega, hle, hc, fun i f x av h1 h2 => ?_⟩)
  obtain ⟨u, h3, h4⟩ := hr.2 i f x av h1 h2
  exact ⟨u, by rw [Nat.zero_add, List.getElem?_append_left (List.getElem?_eq_some_iff.1 h3).1]; exact h3, h4.mono hn⟩

theorem made_rows (t : Ty) {z : Array Value} (hz : z.toList = zer t) (n : Nat) : RowsAt W C ρ t (List.replicate n (dflt t)) (madeCells z (n * sz t)).toList := by
  have hzs : z.size = sz t := by
    have := congrArg List.length hz
    rw [Array.length_toList] at this
    have h2 := congrArg List.length (enc_dflt t)
    rw [enc_length, List.length_map] at h2
    omega
  refine ⟨by simp [madeCells], fun i f x av h1 h2 => ?_⟩
  rw [List.getElem?_replicate] at h1
  split at h1
  · rename_i hi
    cases h1
    have hf : f < sz t := by have := (List.getElem?_eq_some_iff.1 h2).1; rwa [enc_length] at this
    rw [enc_dflt, List.getElem?_map, Option.map_eq_some_iff] at h2
    obtain ⟨u, h3, rfl⟩ := h2
    have hm := mul_lt (s := sz t) hi (Nat.le_refl _)
    have hlt : i * sz t + f < n * sz t := by omega
    refine ⟨u, ?_, .v u⟩
    have hmod : (i * sz t + f) % sz t = f := by rw [Nat.add_comm, Nat.add_mul_mod_self_right, Nat.mod_eq_of_lt hf]
    have hzf : z[f]! = u := by
      rw [← hz] at h3
      have : z[f]? = some u := by simpa using h3
      simp [getElem!_def, this]
    simp [madeCells, hlt, hzs, hmod, hzf]
  · cases h1

theorem mk_ok (hs : StOk W C ρ s a w) {τ : List (Nat × Ty)} {t e : TypeId} {ty : Ty} {b : Nat} {x y : Operand} (ho : o.op = .makeSlice t x y) (ht : P.underlying t = some (.slice e)) (hk : kindOf P τ e = some (ty, b))
    (h : wst s (.mk ty b x y) K) : WRes true P W C ρ s a w o K := by
  simp only [wst] at h
  obtain ⟨i, z, hi, hz, hsz, hzz, hb, rfl⟩ := kindOf_spec hk
  split at h
  · rename_i k n k' n' hx hy
    obtain ⟨⟨rfl, h0, h1, h2⟩, h⟩ := h
    have hr := run_make (P := P) w t e i z ht hi hz k k' n n h0 (Int.le_refl _) (by unfold appRoom at h1; rw [Int.mul_comm]; omega) h2
    refine ⟨_, .slice (some ⟨w.heap.size, 0, none⟩) n.toNat n.toNat, _, w.alloc (.cells (madeCells z.cells (n.toNat * i.size)) e), _, h, .inl ?_, nset_sub (hs.hp.above s.nx (Nat.le_refl _)) (some (w.heap.size, 0, n.toNat)), ?_, rfl, rfl, ?_, fun _ => (Below.refl _ _).alloc (Nat.le_refl _) _⟩
    · unfold execOp; rw [ho]
      simp only [ev_v hs hx, ev_v hs hy, Sem.run_bind, hr, Result.andThen_ok, Sem.run_pure]
    · have := Den.sub (W := W) (C := C) (ρ := nset ρ s.nx (some (w.heap.size, 0, n.toNat))) (m := s.nx) (s := sz ty) (lo := 0) (len := n.toNat) (ad := ⟨w.heap.size, 0, none⟩) (nset_same _ _ _) (by omega) (fun _ => by simp)
      simpa using this
    · have hm := made_rows (W := W) (C := C) (ρ := ρ) ty hzz n.toNat
      have := row_new hs.hp (Below.refl _ _) rfl (e := e) (c := n.toNat) (rest := []) hm (by simp [madeCells]) (by simp) (by unfold mostLen; omega)
      rw [hsz]
      simpa [S.add] using this
  · exact h.elim


theorem range_zero_cells (t : Ty) {z : Array Value} (hz : z.toList = zer t) (n : Nat) : ((Array.range (n * sz t)).map fun x => z[x % z.size]!).toList = (List.replicate n (zer t)).flatten := by
  have hzs : z.size = sz t := by
    have := congrArg List.length hz
    rw [Array.length_toList] at this
    have h2 := congrArg List.length (enc_dflt t)
    rw [enc_length, List.length_map] at h2
    omega
  induction n with
  | zero => simp
  | succ n ih =>
    rw [List.replicate_succ', List.flatten_append]
    simp only [Array.toList_map, Array.toList_range] at ih ⊢
    rw [Nat.add_mul, Nat.one_mul, List.range_add, List.map_append, ih]
    congr 1
    simp only [List.flatten_cons, List.flatten_nil, List.append_nil, List.map_map]
    rw [← hz]
    apply List.ext_getElem?
    intro k
    by_cases hk : k < sz t
    · have hmod : (n * sz t + k) % sz t = k := by rw [Nat.add_comm, Nat.add_mul_mod_self_right, Nat.mod_eq_of_lt hk]
      have hk' : k < z.size := by omega
      simp [hk, hzs, hmod, hk', getElem!_def]
    · have hk' : ¬ k < z.size := by omega
      simp [hk, hk']

theorem blds_ok (hs : StOk W C ρ s a w) {τ : List (Nat × Ty)} {t e : TypeId} {ty : Ty} {b len : Nat} {parts : Array (Nat × Operand)} {ps : List (Nat × Nat × Operand)} (ho : o.op = .buildSlice t len parts) (ht : P.underlying t = some (.slice e))
    (hk : kindOf P τ e = some (ty, b)) (hps : partsAt (fun i => some (i * sz ty, sz ty)) parts.toList = some ps) (h : wst s (.blds ty len ps) K) : WRes true P W C ρ s a w o K := by
  simp only [wst] at h
  obtain ⟨i, z, hi, hz, hsz, hzz, hb, rfl⟩ := kindOf_spec hk
  obtain ⟨hlen, h⟩ := h
  have hz0 : (if len * sz ty = 0 then (pure #[] : Sem (Array Value)) else do pure (← zeroValue e).cells).run P w = .ok (if len * sz ty = 0 then #[] else z.cells) w := by
    split <;> simp [zeroValue, typeInfo, hi, hz]
  have hcells : ((Array.range (len * sz ty)).map fun x => (if len * sz ty = 0 then #[] else z.cells)[x % (if len * sz ty = 0 then (#[] : Array Value) else z.cells).size]!).toList = (List.replicate len (zer ty)).flatten := by
    by_cases h0 : len * sz ty = 0
    · have : len = 0 := by rcases Nat.mul_eq_zero.1 h0 with h | h; exact h; have := sz_pos ty; omega
      subst this; simp
    · simp only [h0, if_false]; exact range_zero_cells ty hzz len
  obtain ⟨m, m', hk', hm, hf⟩ := build_fill hs _ parts.toList ps _ ((Array.range (len * sz ty)).map fun x => (if len * sz ty = 0 then #[] else z.cells)[x % (if len * sz ty = 0 then (#[] : Array Value) else z.cells).size]!) hps (by rw [hcells]; exact den_vs _) h
  obtain ⟨hone, hk'⟩ := hk'
  unfold someK at hk'
  split at hk'
  · rename_i xs hxs
    obtain ⟨hrows, hxl⟩ := decN_rows ty len m xs m' hxs hm
    have hsz48 : ¬ (len * sz ty > 2 ^ 24) := by
      have : sz ty ≤ 16 := sz_le ty
      have := Nat.mul_le_mul hlen this
      omega
    refine ⟨_, .slice (some ⟨w.heap.size, 0, none⟩) len len, _, w.alloc (.cells ⟨m'⟩ e), _, hk', .inl ?_, nset_sub (hs.hp.above s.nx (Nat.le_refl _)) (some (w.heap.size, 0, len)), ?_, rfl, rfl, ?_, fun _ => (Below.refl _ _).alloc (Nat.le_refl _) _⟩
    · unfold execOp; rw [ho]
      have hsize : (sizeOf e).run P w = .ok (sz ty) w := by simp [sizeOf, typeInfo, hi, hsz]
      have hzv : (zeroValue e).run P w = .ok z w := by simp [zeroValue, typeInfo, hi, hz]
      simp only [Instr.buildSlice, Sem.run_bind, run_underlying ht, hsize, Result.andThen_ok, hsz48, if_false, Sem.run_pure]
      by_cases h0 : len * sz ty = 0
      · simp only [h0, if_true] at hf ⊢
        simp only [Array.toList_map] at hf ⊢
        simp only [Sem.run_bind, Sem.run_pure, Result.andThen_ok, hf]
        simp [newRow]
      · simp only [h0, if_false] at hf ⊢
        simp only [Array.toList_map] at hf ⊢
        simp only [Sem.run_bind, hzv, Sem.run_pure, Result.andThen_ok, hf]
        simp [newRow]
    · have := Den.sub (W := W) (C := C) (ρ := nset ρ s.nx (some (w.heap.size, 0, len))) (m := s.nx) (s := sz ty) (lo := 0) (len := len) (ad := ⟨w.heap.size, 0, none⟩) (nset_same _ _ _) (by omega) (fun _ => by simp)
      simpa using this
    · have := row_new hs.hp (Below.refl _ _) rfl (e := e) (c := len) (rest := []) hrows (by simp [hrows.1, hxl]) (by omega) (by unfold mostLen; omega)
      simpa [S.add] using this
  · exact hk'.elim
end
end Go.Proofs.YthghcialeghgoaaDoorE

/-! append: what it says is so; all operations that make or change memory together. -/
namespace Go.Proofs.YthghcialeghgoaaDoorE
open Go Go.RowKit
set_option linter.unusedSimpArgs false
set_option linter.unusedVariables false

section
variable {P : Program} {W : World} {C : CR} {ρ : Nm} {s : S} {a : Act} {w : World} {o : Oper} {K : AVal → S → Prop}

theorem HpOk.era {nx : Nat} {w : World} {L : Hp} (h : HpOk W C ρ nx w L) (m : Nat) : HpOk W C ρ nx w (era L m) := by
  have hl : ∀ k ob, lk (Go.Proofs.YthghcialeghgoaaDoorE.era L m) k = some ob → lk L k = some ob := fun k ob hk => by
    rw [lk_era] at hk; split at hk
    · cases hk
    · exact hk
  exact ⟨fun k ob hk => h.obj k ob (hl _ _ hk), fun k ob k' ob' b x b' x' h1 h2 h3 h4 h5 => h.apart k ob k' ob' b x b' x' (hl _ _ h1) (hl _ _ h2) h3 h4 h5,
    fun k ob b x h1 h2 => h.own k ob b x (hl _ _ h1) h2, h.above, h.os, h.tape, h.output, h.size, h.old⟩

/-- A part of a row, where it lies. -/
theorem part_rows {t : Ty} {xs : List t.D} {vs : List Value} {o c : Nat} (h3 : o + c * sz t ≤ vs.length) (h4 : xs.length ≤ c)
    (h6 : ∀ (i f : Nat) (x : t.D) (av : AVal), xs[i]? = some x → (enc t x)[f]? = some av → ∃ u, vs[o + i * sz t + f]? = some u ∧ Den W C ρ av u) {lo len : Nat} (hl : lo + len ≤ xs.length) :
    RowsAt W C ρ t ((xs.drop lo).take len) ((vs.drop (o + lo * sz t)).take (len * sz t)) := by
  have hm : lo * sz t + len * sz t ≤ c * sz t := by rw [← Nat.add_mul]; exact Nat.mul_le_mul_right _ (by omega)
  have hlen : ((xs.drop lo).take len).length = len := by simp; omega
  refine ⟨by rw [hlen, List.length_take, List.length_drop]; omega, fun i f x av h1 h2 => ?_⟩
  have hf : f < sz t := by have := (List.getElem?_eq_some_iff.1 h2).1; rwa [enc_length] at this
  rw [List.getElem?_take] at h1
  split at h1
  · rename_i hi
    rw [List.getElem?_drop] at h1
    obtain ⟨u, h7, h8⟩ := h6 (lo + i) f x av h1 h2
    have hmi := mul_lt (s := sz t) hi (Nat.le_refl _)
    refine ⟨u, ?_, h8⟩
    rw [List.getElem?_take, if_pos (by omega), List.getElem?_drop, ← h7]
    congr 1
    rw [Nat.add_mul]; omega
  · cases h1

theorem part_cells {w : World} {b T : Nat} {vs : List Value} (h2 : w.heap[b]? = some (.cells ⟨vs⟩ T (0, 0))) (o n : Nat) : ∀ j u, ((vs.drop o).take n)[j]? = some u → w.cell? ((⟨b, o, none⟩ : Addr).add j) = some u := by
  intro j u hj
  rw [add_none, cell_row h2]
  rw [List.getElem?_take] at hj
  split at hj
  · rwa [List.getElem?_drop] at hj
  · cases hj

theorem rows_ok (hs : StOk W C ρ s a w) {t : Ty} {y : Operand} {K : List t.D → Prop} (h : rowsK t s.L (s.ev y) K) :
    ∃ ys A c news, K ys ∧ a.eval y = .slice A ys.length c ∧ RowsAt W C ρ t ys news ∧ (A = none → ys = []) ∧ ∀ ad, A = some ad → ∀ j u, news[j]? = some u → w.cell? (ad.add j) = some u := by
  have hd := hs.fr.ev y
  generalize hav : s.ev y = av at h hd
  generalize hv : a.eval y = v at hd
  unfold rowsK at h
  split at h
  · rename_i t' xs
    obtain rfl := castK_eq h
    have hk := castK_same h
    cases hd with
    | @rs _ _ A c vs hr hc hden =>
      refine ⟨xs, A, c, (List.range (xs.length * sz t')).map vs, hk, rfl, ⟨by simp, fun i f x av h1 h2 => ?_⟩, fun hA => ?_, fun ad hA j u hj => ?_⟩
      · have hi := (List.getElem?_eq_some_iff.1 h1).1
        have hf : f < sz t' := by have := (List.getElem?_eq_some_iff.1 h2).1; rwa [enc_length] at this
        have hm := mul_lt (s := sz t') hi (Nat.le_refl _)
        have hlt : i * sz t' + f < xs.length * sz t' := by omega
        exact ⟨_, by simp [hlt], hden i f x av h1 h2⟩
      · rcases hr with hr | ⟨ad, h1, _⟩
        · rcases Nat.mul_eq_zero.1 hr with h | h
          · exact List.length_eq_zero_iff.1 h
          · have := sz_pos t'; omega
        · rw [hA] at h1; cases h1
      · have hlt := (List.getElem?_eq_some_iff.1 hj).1
        simp at hlt
        simp [hlt] at hj
        subst hj
        exact rd_world hs.hp hr hA hlt
  · rename_i m z lo len
    split at h
    · rename_i t' xs hl
      obtain ⟨⟨rfl, hle⟩, h⟩ := h
      obtain rfl := castK_eq h
      have hk := castK_same h
      have hlen : ((xs.drop lo).take len).length = len := by simp; omega
      cases hd with
      | @sub _ _ _ _ b o' c ad hm hlc had =>
        rcases hs.hp.obj m _ hl with ⟨h1, _⟩ | ⟨b', o'', c', T, vs, h1, h2, h3, h4, h5, h6⟩
        · rw [hm] at h1; cases h1
        · rw [hm] at h1; cases h1
          refine ⟨_, some ad, c - lo, _, hk, by rw [hlen], part_rows h3 h4 h6 hle, fun h => (by cases h), fun ad' e j u hj => ?_⟩
          cases e
          by_cases hlt : lo < c
          · rw [had hlt]; exact part_cells h2 _ _ j u hj
          · have : len = 0 := by omega
            subst this; simp at hj
      | sub0 hm =>
        refine ⟨_, none, 0, [], hk, by simp, ⟨by simp, fun i f x av h1 => by simp at h1⟩, fun _ => by simp, fun ad e => by cases e⟩
    · exact h.elim
  · cases hd with
    | v => exact ⟨[], none, 0, [], h, rfl, ⟨by simp, fun i f x av h1 => by simp at h1⟩, fun _ => rfl, fun ad e => by cases e⟩
  · exact h.elim

theorem run_new {t e : TypeId} {i : TypeInfo} (ht : P.underlying t = some (.slice e)) (hi : P.info? e = some i) {A : Option Addr} {n c : Nat} {news : List Value} {w : World} (hl : news.length = n * i.size) (hA : A = none → n = 0)
    (hc : ∀ ad, A = some ad → ∀ j u, news[j]? = some u → w.cell? (ad.add j) = some u) : (Builtin.firstCells i.size n (.slice A n c)).run P w = .ok news.toArray w := by
  cases A with
  | none =>
    have := hA rfl
    subst this
    have : news = [] := by simpa using hl
    subst this
    exact run_firstCells_none _ _ _ _ _
  | some ad => exact run_firstCells_some w _ _ ad _ _ news hl (hc ad rfl)

theorem run_room {t ty e : TypeId} {i : TypeInfo} (ht : P.underlying t = some (.slice e)) (hi : P.info? e = some i) {b o' T sLen sCap n c : Nat} {vs news : List Value} {A : Option Addr} {w : World}
    (hb : w.heap[b]? = some (.cells ⟨vs⟩ T (0, 0))) (hl : news.length = n * i.size) (hA : A = none → n = 0) (hc : ∀ ad, A = some ad → ∀ j u, news[j]? = some u → w.cell? (ad.add j) = some u)
    (h1 : ∀ u ∈ news, u.oneCell' = true) (hroom : sLen + n ≤ sCap) (hfit : o' + sLen * i.size + news.length ≤ vs.length) :
    (Builtin.append_ #[t, t] ty #[.slice (some ⟨b, o', none⟩) sLen sCap, .slice A n c]).run P w = .ok (.slice (some ⟨b, o', none⟩) (sLen + n) sCap) (w.setRow b ⟨spliceV vs (o' + sLen * i.size) news⟩) := by
  have hf := run_new (P := P) ht hi (c := c) hl hA hc
  have hst := run_storeCells_at P b (o' + sLen * i.size) T news 0 ⟨vs⟩ w hb (by simpa using hfit) h1
  simp only [Nat.add_zero] at hst
  simp [Builtin.append_, run_underlying ht, sizeOf, typeInfo, hi, Builtin.lenOf, hroom, hf, add_none, hst, spliceV]

/-- Nothing is appended where there is no room left. -/
theorem run_room0 {t ty e : TypeId} {i : TypeInfo} (ht : P.underlying t = some (.slice e)) (hi : P.info? e = some i) {D A : Option Addr} {sLen sCap c : Nat} {w : World} (hroom : sLen ≤ sCap) (hc : True) :
    (Builtin.append_ #[t, t] ty #[.slice D sLen sCap, .slice A 0 c]).run P w = .ok (.slice D sLen sCap) w := by
  have hf : (Builtin.firstCells i.size 0 (.slice A 0 c)).run P w = .ok #[] w := by
    cases A <;> simp [Builtin.firstCells, loadCells, loadCellsFrom]
  cases D <;> simp [Builtin.append_, run_underlying ht, sizeOf, typeInfo, hi, Builtin.lenOf, hroom, hf, storeCells]

theorem arr_app (l : List Value) (z : Array Value) : l.toArray ++ z = ⟨l ++ z.toList⟩ := by apply Array.toList_inj.1; simp

theorem selK_ex {α : Type} {sf : Bool} {xs : List α} {k : Nat} {F : List α → Prop} (h : selK sf (F (xs.drop k)) (F [])) : ∃ tl, F tl ∧ tl.length ≤ xs.length - k ∧ ∀ i x, tl[i]? = some x → xs[k + i]? = some x := by
  have two : F (xs.drop k) ∨ F [] := by
    cases sf with
    | false => exact .inr h
    | true => exact h
  rcases two with h | h
  · exact ⟨xs.drop k, h, by simp, fun i x h => by simpa using h⟩
  · exact ⟨[], h, by simp, fun i x h => by simp at h⟩

theorem app_ok (hs : StOk W C ρ s a w) {τ : List (Nat × Ty)} {t e : TypeId} {ty : Ty} {bt : Nat} {x y : Operand} (ho : o.op = .call ⟨.builtin .append, #[x, y], #[t, t]⟩) (ht : P.underlying t = some (.slice e))
    (hk : kindOf P τ e = some (ty, bt)) (h : wst s (.app ty bt x y) K) : WRes false P W C ρ s a w o K := by
  simp only [wst] at h
  obtain ⟨i, z, hi, hz, hsz, hzz, hb, rfl⟩ := kindOf_spec hk
  obtain ⟨ys, A, c, news, h, hy, hrows, hA, hcells⟩ := rows_ok hs h
  have hA' : A = none → ys.length = 0 := fun e => by rw [hA e]; rfl
  have hl : news.length = ys.length * i.size := by rw [hsz]; exact hrows.1
  have hzs : z.cells.size = sz ty := by
    have := congrArg List.length hzz
    rw [Array.length_toList] at this
    have h2 := congrArg List.length (enc_dflt ty)
    rw [enc_length, List.length_map] at h2
    omega
  have hexec : ∀ dv r w', a.eval x = dv → (Builtin.append_ #[t, t] o.type #[dv, .slice A ys.length c]).run P w = .ok r w' → (execOp a.eval o).run P w = .ok (.value r) w' := by
    intro dv r w' hx hr
    unfold execOp; rw [ho]
    simp [resolve, invoke, builtin, hx, hy, hr]
  have nilcase : a.eval x = .slice none 0 0 → ys.length * i.bytes ≤ appRoom → ∀ (L' : Hp), HpOk W C ρ s.nx w L' → K (.sub s.nx (sz ty) 0 ys.length) ((s.hp L').add (.row ty ys)) → WRes false P W C ρ s a w o K := by
    intro hx hbound L' hL hK
    by_cases h0 : ys.length = 0
    · have hys : ys = [] := List.length_eq_zero_iff.1 h0
      refine ⟨_, .slice none 0 0, _, w, nset ρ s.nx none, hK, .inl (hexec _ _ _ hx ?_), nset_sub (hL.above _ (Nat.le_refl _)) _, ?_, rfl, rfl, ?_, fun e => by cases e⟩
      · rw [h0]; exact run_room0 (P := P) ht hi (Nat.le_refl 0) trivial
      · rw [h0]; exact .sub0 (nset_same _ _ _)
      · refine hL.ext (fun _ _ h => h) rfl rfl rfl (Nat.le_refl _) (fun _ _ _ _ _ _ => ⟨rfl, fun _ h => by cases h⟩) (fun _ _ _ => rfl) (fun _ _ h => by cases h) (.inl ⟨nset_same _ _ _, hys⟩)
    · cases A with
      | none => exact absurd (hA' rfl) h0
      | some ad =>
        have hr := run_append_nil (P := P) w t o.type e i z ht hi hz ad ys.length c news hl (hcells ad rfl) (by omega) (by unfold appRoom at hbound; have := Nat.le_mul_of_pos_right ys.length hb; omega) (by unfold appRoom at hbound; omega)
        have hcap := grownCap_ge w ys.length 0 e
        refine ⟨_, _, _, _, nset ρ s.nx (some (w.heap.size, 0, grownCap w ys.length 0 e)), hK, .inl (hexec _ _ _ hx hr), nset_sub (hL.above _ (Nat.le_refl _)) _, ?_, rfl, rfl, ?_, fun e => by cases e⟩
        · have := Den.sub (W := W) (C := C) (ρ := nset ρ s.nx (some (w.heap.size, 0, grownCap w ys.length 0 e))) (m := s.nx) (s := sz ty) (lo := 0) (len := ys.length) (ad := ⟨w.heap.size, 0, none⟩) (nset_same _ _ _) (by omega) (fun _ => by simp)
          simpa using this
        · have := row_new hL (Below.drew (Below.refl _ _)) rfl (e := e) (c := grownCap w ys.length 0 e) (rest := (Builtin.zeroCells z.cells (grownCap w ys.length 0 e - ys.length)).toList) hrows
            (by
              have e1 := size_zeroCells z.cells (grownCap w ys.length 0 e - ys.length)
              rw [← Array.length_toList, hzs] at e1
              rw [List.length_append, hrows.1, e1, ← Nat.add_mul]; congr 1; omega)
            hcap (grownCap_le_maxLen w _ _ e (by unfold appRoom at hbound; have := Nat.le_mul_of_pos_right ys.length hb; show _ ≤ 9223372036854775807; omega))
          rw [arr_app]
          simpa [S.add, S.hp] using this
  generalize selfB (s.ev x) (s.ev y) = sf at h
  have hx := hs.fr.ev x
  generalize hav : s.ev x = av at h hx
  unfold appK at h
  split at h
  · generalize hv : a.eval x = v at hx
    cases hx with
    | v => exact nilcase hv h.1 s.L hs.hp h.2
  · rename_i m z' lo len
    split at h
    · rename_i t' xs hlk
      obtain rfl := castK_eq h
      replace h := castK_same h
      obtain ⟨⟨rfl, hle, hbound⟩, hor, hK⟩ := h
      obtain ⟨tl, hK, htl1, htl2⟩ := selK_ex (F := fun tl => K (.sub s.nx (sz t') 0 (len + ys.length)) ((s.hp (era s.L m)).add (.row t' ((xs.drop lo).take len ++ ys ++ tl)))) hK
      generalize hv : a.eval x = v at hx
      cases hx with
      | sub0 hm =>
        have hx0 : xs = [] := by
          rcases hs.hp.obj m _ hlk with ⟨_, h⟩ | ⟨b', o'', c', T, vs, h1, _⟩
          · exact h
          · rw [hm] at h1; cases h1
        subst hx0
        have htl0 : tl = [] := List.length_eq_zero_iff.1 (by rw [List.length_nil, Nat.zero_sub] at htl1; omega)
        subst htl0
        simp only [Nat.zero_add] at hbound hK
        exact nilcase hv hbound _ (hs.hp.era m) (by simpa using hK)
      | @sub _ _ _ _ b o' cap ad hm hlc had =>
        rcases hs.hp.obj m _ hlk with ⟨h1, _⟩ | ⟨b', o'', c', T, vs, h1, h2, h3, h4, h5, h6⟩
        · rw [hm] at h1; cases h1
        · rw [hm] at h1; cases h1
          have holds := part_rows h3 h4 h6 hle
          have hlen : ((xs.drop lo).take len).length = len := by simp; omega
          have hall := holds.append hrows
          have hlen2 : ((xs.drop lo).take len ++ ys).length = len + ys.length := by rw [List.length_append, hlen]
          have hm0 : lo * sz t' + (cap - lo) * sz t' = cap * sz t' := by rw [← Nat.add_mul]; congr 1; omega
          by_cases hroom : len + ys.length ≤ cap - lo
          · -- room: in place
            by_cases hcl : lo < cap
            · have hm1 : len * sz t' + ys.length * sz t' ≤ (cap - lo) * sz t' := by rw [← Nat.add_mul]; exact Nat.mul_le_mul_right _ hroom
              rw [had hcl] at hv
              have hfit : o' + lo * sz t' + len * i.size + news.length ≤ vs.length := by rw [hsz, hrows.1]; omega
              have hr := run_room (P := P) (ty := o.type) ht hi (c := c) (sLen := len) (sCap := cap - lo) h2 hl hA' hcells hrows.one hroom hfit
              refine ⟨_, _, _, _, nset ρ s.nx (some (b, o' + lo * sz t', cap - lo)), hK, .inl (hexec _ _ _ hv hr), nset_sub (hs.hp.above _ (Nat.le_refl _)) _, ?_, rfl, rfl, ?_, fun e => by cases e⟩
              · have := Den.sub (W := W) (C := C) (ρ := nset ρ s.nx (some (b, o' + lo * sz t', cap - lo))) (m := s.nx) (s := sz t') (lo := 0) (len := len + ys.length) (ad := ⟨b, o' + lo * sz t', none⟩) (nset_same _ _ _) (by omega) (fun _ => by simp)
                simpa using this
              · have hown := hs.hp.own m _ b _ hlk hm
                have key := hs.hp.ext (E := era s.L m) (w' := w.setRow b ⟨spliceV vs (o' + lo * sz t' + len * i.size) news⟩) (v := some (b, o' + lo * sz t', cap - lo)) (o := .row t' ((xs.drop lo).take len ++ ys ++ tl))
                  (fun k ob hk => by rw [lk_era] at hk; split at hk; · cases hk
                                     · exact hk) rfl rfl rfl (by simp)
                  (fun k ob b1 x1 hk hx1 => by
                    rw [lk_era] at hk
                    split at hk
                    · cases hk
                    · rename_i hne
                      have := hs.hp.apart k ob m _ b1 x1 b _ hk hlk hne hx1 hm
                      exact ⟨heap_setRow_other _ _ _ _ this, fun x' e => by cases e; exact this rfl⟩)
                  (fun b1 hb1 hc1 => heap_setRow_other _ _ _ _ (fun e => by
                    subst e
                    rcases hown.2 with h | h
                    · omega
                    · exact hc1 h))
                  (fun b1 x1 e => by cases e; exact ⟨by simp; exact hown.1, hown.2⟩)
                  (.inr ⟨b, o' + lo * sz t', cap - lo, T, _, nset_same _ _ _, heap_setRow_same _ _ _ h2, by simp only [spliceV, List.length_append, List.length_take, List.length_drop]; omega, by rw [List.length_append, hlen2]; omega, by omega, fun i1 f1 x1 av1 h7 h8 => ?_⟩)
                · simpa [S.add, S.hp] using key
                · have hf1 : f1 < sz t' := by have := (List.getElem?_eq_some_iff.1 h8).1; rwa [enc_length] at this
                  by_cases hbe : len + ys.length ≤ i1
                  · rw [List.getElem?_append_right (by rw [hlen2]; exact hbe), hlen2] at h7
                    have h7' := htl2 _ _ h7
                    rw [show lo + len + ys.length + (i1 - (len + ys.length)) = lo + i1 by omega] at h7'
                    obtain ⟨u, h9, h10⟩ := h6 _ f1 x1 av1 h7' h8
                    refine ⟨u, ?_, h10.mono (nset_sub (hs.hp.above _ (Nat.le_refl _)) _)⟩
                    have hmm : len * sz t' + ys.length * sz t' ≤ i1 * sz t' := by rw [← Nat.add_mul]; exact Nat.mul_le_mul_right _ hbe
                    rw [get_splice (by omega), if_neg (by rw [hsz, hrows.1]; omega), ← h9, Nat.add_mul]
                    congr 1; omega
                  rw [List.getElem?_append_left (by rw [hlen2]; omega)] at h7
                  obtain ⟨u, h9, h10⟩ := hall.2 i1 f1 x1 av1 h7 h8
                  refine ⟨u, ?_, h10.mono (nset_sub (hs.hp.above _ (Nat.le_refl _)) _)⟩
                  rw [get_splice (by omega)]
                  have hol : ((vs.drop (o' + lo * sz t')).take (len * sz t')).length = len * sz t' := by rw [holds.1, hlen]
                  rw [List.getElem?_append, hol] at h9
                  split at h9
                  · rename_i hlt
                    rw [if_neg (by rw [hsz]; omega)]
                    rw [List.getElem?_take, if_pos hlt, List.getElem?_drop] at h9
                    rw [← h9]; congr 1; omega
                  · rename_i hge
                    have := (List.getElem?_eq_some_iff.1 h9).1
                    rw [if_pos (by rw [hsz]; omega), ← h9]
                    congr 1; rw [hsz]; omega
            · -- no cell at all: nothing is appended
              have e1 : len = 0 := by omega
              have e2 : ys.length = 0 := by omega
              have hys : ys = [] := List.length_eq_zero_iff.1 e2
              have htl0 : tl = [] := List.length_eq_zero_iff.1 (by omega)
              subst htl0
              subst e1
              refine ⟨_, _, _, _, nset ρ s.nx (some (b, o' + lo * sz t', cap - lo)), hK, .inl (hexec _ _ _ hv (by rw [e2]; exact run_room0 (P := P) ht hi (by omega) trivial)), nset_sub (hs.hp.above _ (Nat.le_refl _)) _, ?_, rfl, rfl, ?_, fun e => by cases e⟩
              · have := Den.sub (W := W) (C := C) (ρ := nset ρ s.nx (some (b, o' + lo * sz t', cap - lo))) (m := s.nx) (s := sz t') (lo := 0) (len := 0 + ys.length) (ad := ad) (nset_same _ _ _) (by omega) (fun h => by omega)
                simpa [e2] using this
              · have hown := hs.hp.own m _ b _ hlk hm
                have key := hs.hp.ext (E := era s.L m) (w' := w) (v := some (b, o' + lo * sz t', cap - lo)) (o := .row t' ((xs.drop lo).take 0 ++ ys ++ []))
                  (fun k ob hk => by rw [lk_era] at hk; split at hk; · cases hk
                                     · exact hk) rfl rfl rfl (Nat.le_refl _)
                  (fun k ob b1 x1 hk hx1 => by
                    rw [lk_era] at hk
                    split at hk
                    · cases hk
                    · rename_i hne
                      have := hs.hp.apart k ob m _ b1 x1 b _ hk hlk hne hx1 hm
                      exact ⟨rfl, fun x' e => by cases e; exact this rfl⟩)
                  (fun _ _ _ => rfl)
                  (fun b1 x1 e => by cases e; exact hown)
                  (.inr ⟨b, o' + lo * sz t', cap - lo, T, vs, nset_same _ _ _, h2, by omega, by simp [hys], by omega, fun i1 f1 x1 av1 h7 => by simp [hys] at h7⟩)
                simpa [S.add, S.hp] using key
          · -- growth
            have hy0 : 0 < ys.length := by
              rcases hor with h | h <;> omega
            have htl0 : tl = [] := List.length_eq_zero_iff.1 (by rcases hor with h | h <;> omega)
            subst htl0
            rw [List.append_nil] at hK
            cases A with
            | none => have := hA' rfl; omega
            | some ad' =>
              have hbl : (len + ys.length) ≤ (len + ys.length) * i.bytes := Nat.le_mul_of_pos_right _ hb
              have hcl : ∀ j u, ((vs.drop (o' + lo * sz t')).take (len * sz t'))[j]? = some u → w.cell? (ad.add j) = some u := by
                intro j u hj
                by_cases hlt : lo < cap
                · rw [had hlt]; exact part_cells h2 _ _ j u hj
                · have : len = 0 := by omega
                  subst this; simp at hj
              have hr := run_append_grow (P := P) w t o.type e i z ht hi hz ad len (cap - lo) _ (by rw [hsz, holds.1, hlen]) hcl ad' ys.length c news hl (hcells ad' rfl) (by omega)
                (by unfold appRoom at hbound; omega) (growslice_fits (by omega) (by unfold appRoom at hbound; omega))
              have hcap := grownCap_ge w (len + ys.length) (cap - lo) e
              have hL := hs.hp.era m
              refine ⟨_, _, _, _, nset ρ s.nx (some (w.heap.size, 0, grownCap w (len + ys.length) (cap - lo) e)), hK, .inl (hexec _ _ _ hv hr), nset_sub (hL.above _ (Nat.le_refl _)) _, ?_, rfl, rfl, ?_, fun e => by cases e⟩
              · have := Den.sub (W := W) (C := C) (ρ := nset ρ s.nx (some (w.heap.size, 0, grownCap w (len + ys.length) (cap - lo) e))) (m := s.nx) (s := sz t') (lo := 0) (len := len + ys.length) (ad := ⟨w.heap.size, 0, none⟩) (nset_same _ _ _) (by omega) (fun _ => by simp)
                simpa using this
              · have := row_new hL (Below.drew (Below.refl _ _)) rfl (e := e) (c := grownCap w (len + ys.length) (cap - lo) e) (rest := (Builtin.zeroCells z.cells (grownCap w (len + ys.length) (cap - lo) e - (len + ys.length))).toList) hall
                  (by
                    have e1 := size_zeroCells z.cells (grownCap w (len + ys.length) (cap - lo) e - (len + ys.length))
                    rw [← Array.length_toList, hzs] at e1
                    rw [List.length_append, hall.1, hlen2, e1, ← Nat.add_mul]; congr 1; omega)
                  (by rw [hlen2]; exact hcap) (grownCap_le_maxLen w _ _ e (by unfold appRoom at hbound; show _ ≤ 9223372036854775807; omega))
                rw [List.append_toArray, arr_app]
                simpa [S.add, S.hp] using this
    · exact h.elim
  · exact h.elim

theorem HpOk.same {nx : Nat} {w : World} {L L' : Hp} (h : HpOk W C ρ nx w L) (e : ∀ k, lk L' k = lk L k) : HpOk W C ρ nx w L' :=
  ⟨fun k ob hk => h.obj k ob (by rw [← e]; exact hk), fun k ob k' ob' b x b' x' h1 h2 h3 h4 h5 => h.apart k ob k' ob' b x b' x' (by rw [← e]; exact h1) (by rw [← e]; exact h2) h3 h4 h5,
    fun k ob b x h1 h2 => h.own k ob b x (by rw [← e]; exact h1) h2, h.above, h.os, h.tape, h.output, h.size, h.old⟩

theorem clr_get {α : Type} (xs : List α) (d : α) (lo len i : Nat) (h : lo + len ≤ xs.length) : (xs.take lo ++ List.replicate len d ++ xs.drop (lo + len))[i]? = if lo ≤ i ∧ i < lo + len then some d else xs[i]? := by
  have h1 : min lo xs.length = lo := by omega
  simp only [List.getElem?_append, List.length_append, List.length_take, List.length_replicate, List.getElem?_take, List.getElem?_replicate, List.getElem?_drop, h1]
  by_cases h2 : i < lo
  · simp [h2, show i < lo + len by omega, show ¬ (lo ≤ i ∧ i < lo + len) by omega]; intro h3; omega
  · by_cases h3 : i < lo + len
    · simp [h2, h3, show lo ≤ i ∧ i < lo + len by omega, show i - lo < len by omega]
    · simp [h3, show lo + len + (i - (lo + len)) = i by omega]

theorem ObjOk.take {w : World} {m : Nat} {t : Ty} {xs : List t.D} (h : ObjOk W C ρ w m (.row t xs)) (k : Nat) : ObjOk W C ρ w m (.row t (xs.take k)) := by
  rcases h with ⟨h1, h2⟩ | ⟨b, o, c, T, vs, h1, h2, h3, h4, h5, h6⟩
  · exact .inl ⟨h1, by rw [h2]; simp⟩
  · refine .inr ⟨b, o, c, T, vs, h1, h2, h3, by rw [List.length_take]; omega, h5, fun i f x av h7 h8 => ?_⟩
    rw [List.getElem?_take] at h7
    split at h7
    · exact h6 i f x av h7 h8
    · cases h7

theorem clr_cut {w : World} {m : Nat} {t : Ty} {xs : List t.D} {d : t.D} {lo len : Nat} (hle : lo + len ≤ xs.length) (h : ObjOk W C ρ w m (.row t (xs.take lo ++ List.replicate len d ++ xs.drop (lo + len)))) : ObjOk W C ρ w m (.row t (clrL xs d lo len)) := by
  unfold clrL
  split
  · have := h.take lo
    rwa [List.append_assoc, List.take_left' (by rw [List.length_take]; omega)] at this
  · exact h

theorem zero_made (z : Array Value) (n : Nat) : Builtin.zeroCells z n = madeCells z (n * z.size) := rfl

theorem clr_ok (hs : StOk W C ρ s a w) {τ : List (Nat × Ty)} {t e : TypeId} {ty : Ty} {bt : Nat} {x : Operand} (ho : o.op = .call ⟨.builtin .clear, #[x], #[t]⟩) (ht : P.underlying t = some (.slice e))
    (hk : kindOf P τ e = some (ty, bt)) (h : wst s (.clr ty x) K) : WRes false P W C ρ s a w o K := by
  simp only [wst] at h
  obtain ⟨i, z, hi, hz, hsz, hzz, hb, rfl⟩ := kindOf_spec hk
  have hzs : z.cells.size = sz ty := by
    have := congrArg List.length hzz
    rw [Array.length_toList] at this
    have h2 := congrArg List.length (enc_dflt ty)
    rw [enc_length, List.length_map] at h2
    omega
  have hexec : ∀ dv w', a.eval x = dv → (Builtin.clear_ #[t] o.type #[dv]).run P w = .ok (.tuple #[]) w' → (execOp a.eval o).run P w = .ok (.value (.tuple #[])) w' := by
    intro dv w' hx hr
    unfold execOp; rw [ho]
    simp [resolve, invoke, builtin, hx, hr]
  have hx := hs.fr.ev x
  split at h
  · rename_i m z' lo len hav
    rw [hav] at hx
    split at h
    · rename_i t' xs hlk
      obtain rfl := castK_eq h
      replace h := castK_same h
      obtain ⟨⟨rfl, hle⟩, hK⟩ := h
      generalize hv : a.eval x = v at hx
      have unchanged : len = 0 → (Builtin.clear_ #[t] o.type #[v]).run P w = .ok (.tuple #[]) w → WRes false P W C ρ s a w o K := fun h0 hr => by
        subst h0
        refine ⟨_, .tuple #[], _, w, ρ, hK, .inl (hexec _ _ hv hr), Sub0.refl _, .junk _, rfl, rfl, ?_, fun e => by cases e⟩
        refine hs.hp.same fun k => ?_
        show lk (upd s.L m _) k = _
        rw [lk_upd]
        split
        · rename_i e; subst e; rw [hlk]; simp only [Option.map_some, clrL, Nat.add_zero, List.replicate_zero, List.append_nil, List.take_append_drop]; split <;> rename_i e
          · rw [e, List.take_length]
          · rfl
        · rfl
      cases hx with
      | sub0 hm => exact unchanged rfl (by simp [Builtin.clear_, run_underlying ht])
      | @sub _ _ _ _ b o' cap ad hm hlc had =>
        rcases Nat.eq_zero_or_pos len with h0 | hpos
        · exact unchanged h0 (by subst h0; simp [Builtin.clear_, run_underlying ht])
        · rcases hs.hp.obj m _ hlk with ⟨h1, _⟩ | ⟨b', o'', c', T, vs, h1, h2, h3, h4, h5, h6⟩
          · rw [hm] at h1; cases h1
          · rw [hm] at h1; cases h1
            have hmade := made_rows (W := W) (C := C) (ρ := ρ) t' hzz len
            have hnl : (Builtin.zeroCells z.cells len).toList.length = len * sz t' := by rw [zero_made, hzs, hmade.1]; simp
            have hm0 : lo * sz t' + len * sz t' ≤ cap * sz t' := by rw [← Nat.add_mul]; exact Nat.mul_le_mul_right _ (by omega)
            have hfit : o' + lo * sz t' + (Builtin.zeroCells z.cells len).toList.length ≤ vs.length := by rw [hnl]; omega
            have hone : ∀ u ∈ (Builtin.zeroCells z.cells len).toList, u.oneCell' = true := by rw [zero_made, hzs]; exact hmade.one
            have hst := run_storeCells_at P b (o' + lo * sz t') T (Builtin.zeroCells z.cells len).toList 0 ⟨vs⟩ w h2 (by simpa using hfit) hone
            simp only [Nat.add_zero] at hst
            obtain ⟨q, rfl⟩ : ∃ q, len = q + 1 := ⟨len - 1, by omega⟩
            rw [had (by omega)] at hv
            have hr : (Builtin.clear_ #[t] o.type #[.slice (some ⟨b, o' + lo * sz t', none⟩) (q + 1) (cap - lo)]).run P w = .ok (.tuple #[]) (w.setRow b ⟨spliceV vs (o' + lo * sz t') (Builtin.zeroCells z.cells (q + 1)).toList⟩) := by
              simp only [Builtin.clear_]
              simp [run_underlying ht, zeroValue, typeInfo, hi, hz]
              simp at hst
              simp [hst, spliceV]
            refine ⟨_, .tuple #[], _, _, ρ, hK, .inl (hexec _ _ hv hr), Sub0.refl _, .junk _, rfl, rfl, ?_, fun e => by cases e⟩
            refine hs.hp.change hlk hm rfl rfl rfl (by simp) (fun k hk => heap_setRow_other _ _ _ _ hk) (clr_cut hle (.inr ⟨b, o', cap, T, _, hm, heap_setRow_same _ _ _ h2, ?_, ?_, h5, ?_⟩))
            · simp only [spliceV, List.length_append, List.length_take, List.length_drop]; omega
            · simp; omega
            · intro i1 f1 x1 av1 h7 h8
              have hf1 : f1 < sz t' := by have := (List.getElem?_eq_some_iff.1 h8).1; rwa [enc_length] at this
              rw [clr_get _ _ _ _ _ hle] at h7
              rw [get_splice hfit, hnl]
              split at h7
              · rename_i hin
                cases h7
                have hlt := mul_lt (s := sz t') (show i1 - lo < q + 1 by omega) (Nat.le_refl _)
                have e1 : i1 * sz t' = lo * sz t' + (i1 - lo) * sz t' := by rw [← Nat.add_mul]; congr 1; omega
                obtain ⟨u, h9, h10⟩ := hmade.2 (i1 - lo) f1 _ _ (by rw [List.getElem?_replicate, if_pos (by omega)]) h8
                refine ⟨u, ?_, h10⟩
                rw [if_pos (by omega), zero_made, hzs, ← h9]
                congr 1; omega
              · rename_i hout
                obtain ⟨u, h9, h10⟩ := h6 _ f1 x1 av1 h7 h8
                refine ⟨u, ?_, h10⟩
                rw [if_neg]
                · exact h9
                · by_cases hlo : i1 < lo
                  · have := mul_lt (s := sz t') hlo (Nat.le_refl _); omega
                  · have : (lo + (q + 1)) * sz t' ≤ i1 * sz t' := Nat.mul_le_mul_right _ (by omega)
                    rw [Nat.add_mul] at this; omega
    · exact h.elim
  · exact h.elim

theorem flat_rep {l : List Value} {z : Nat} (hl : l.length = z) : ∀ {n i f : Nat}, i < n → f < z → (List.replicate n l).flatten[i * z + f]? = l[f]?
  | 0, i, f, hi, _ => by omega
  | n + 1, 0, f, _, hf => by
    rw [List.replicate_succ, List.flatten_cons, List.getElem?_append_left (by omega)]; simp
  | n + 1, i + 1, f, hi, hf => by
    rw [List.replicate_succ, List.flatten_cons, List.getElem?_append_right (by rw [hl, Nat.add_mul]; omega), hl, show (i + 1) * z + f - z = i * z + f by rw [Nat.add_mul]; omega]
    exact flat_rep hl (by omega) hf
theorem newr_ok (hs : StOk W C ρ s a w) {t : TypeId} {i : TypeInfo} {z : Value} {ty : Ty} {n : Nat} (ho : o.op = .alloc t) (hi : P.info? t = some i) (hz : i.zero = some z) (hzz : z.cells.toList = (List.replicate n (zer ty)).flatten)
    (h : wst s (.newr ty n) K) : WRes true P W C ρ s a w o K := by
  simp only [wst] at h
  obtain ⟨hn0, h⟩ := h
  have hn := nset_sub (hs.hp.above s.nx (Nat.le_refl _)) (some (w.heap.size, 0, n))
  refine ⟨_, .pointer (some ⟨w.heap.size, 0, none⟩), _, w.alloc (.cells z.cells t), nset ρ s.nx (some (w.heap.size, 0, n)), h, .inl ?_, hn, .arp (nset_same _ _ _), rfl, rfl, ?_, fun _ => (Below.refl _ _).alloc (Nat.le_refl _) _⟩
  · unfold execOp; rw [ho]
    simp [Instr.alloc, newVar, newRow, zeroValue, typeInfo, hi, hz]
  · have hzl : (zer ty).length = sz ty := by
      have h2 := congrArg List.length (enc_dflt ty)
      rw [enc_length, List.length_map] at h2; exact h2.symm
    have hr : RowsAt W C ρ ty (List.replicate n (dflt ty)) (List.replicate n (zer ty)).flatten := by
      refine ⟨by simp [hzl], fun i f x av h1 h2 => ?_⟩
      have hlt : i < n := by have := (List.getElem?_eq_some_iff.1 h1).1; simpa using this
      rw [List.getElem?_replicate, if_pos hlt] at h1
      cases h1
      rw [enc_dflt, List.getElem?_map, Option.map_eq_some_iff] at h2
      obtain ⟨u, h3, rfl⟩ := h2
      have hf : f < sz ty := by rw [← hzl]; exact (List.getElem?_eq_some_iff.1 h3).1
      refine ⟨u, ?_, .v _⟩
      rw [flat_rep hzl hlt hf]; exact h3
    have := row_new hs.hp (Below.refl _ _) rfl (e := t) (c := n) (rest := []) hr (by simp [hzl]) (by simp) (by unfold mostLen; omega)
    rw [List.append_nil, ← hzz] at this
    exact this

theorem cpyL_get {α : Type} {xs ys : List α} {lo len : Nat} (h : lo + len ≤ xs.length) (i : Nat) : (cpyL xs ys lo len)[i]? = if lo ≤ i ∧ i < lo + min len ys.length then ys[i - lo]? else xs[i]? := by
  unfold cpyL
  rw [List.append_assoc, List.getElem?_append]
  have h1 : (xs.take lo).length = lo := by rw [List.length_take]; omega
  rw [h1]
  by_cases e : i < lo
  · rw [if_pos e, if_neg (by omega), List.getElem?_take, if_pos e]
  · rw [if_neg e, List.getElem?_append]
    have h2 : (ys.take (min len ys.length)).length = min len ys.length := by rw [List.length_take]; omega
    rw [h2]
    by_cases e2 : i - lo < min len ys.length
    · rw [if_pos e2, if_pos (by omega), List.getElem?_take, if_pos e2]
    · rw [if_neg e2, if_neg (by omega), List.getElem?_drop]
      congr 1; omega
theorem cpyL_len {α : Type} {xs ys : List α} {lo len : Nat} (h : lo + len ≤ xs.length) : (cpyL xs ys lo len).length = xs.length := by
  unfold cpyL; simp; omega

theorem cpy_ok (hs : StOk W C ρ s a w) {τ : List (Nat × Ty)} {t e : TypeId} {ty : Ty} {bt : Nat} {x y : Operand} (ho : o.op = .call ⟨.builtin .copy, #[x, y], #[t, t]⟩) (ht : P.underlying t = some (.slice e))
    (hk : kindOf P τ e = some (ty, bt)) (h : wst s (.cpy ty x y) K) : WRes false P W C ρ s a w o K := by
  simp only [wst] at h
  obtain ⟨i, z, hi, hz, hsz, hzz, hb, rfl⟩ := kindOf_spec hk
  obtain ⟨ys, A, c0, news, h, hy, hrows, hA, hcell⟩ := rows_ok hs h
  have hexec : ∀ dv v' w', a.eval x = dv → (Builtin.copy_ #[t, t] o.type #[dv, .slice A ys.length c0]).run P w = .ok v' w' → (execOp a.eval o).run P w = .ok (.value v') w' := by
    intro dv v' w' hx hr
    unfold execOp; rw [ho]
    simp [resolve, invoke, builtin, hx, hy, hr]
  have hx := hs.fr.ev x
  split at h
  · rename_i m z' lo len hav
    rw [hav] at hx
    split at h
    · rename_i t' xs hlk
      obtain rfl := castK_eq h
      replace h := castK_same h
      obtain ⟨⟨rfl, hle⟩, hK⟩ := h
      generalize hv : a.eval x = v at hx
      have hml : min ys.length len = min len ys.length := Nat.min_comm _ _
      have hfirst : (Builtin.firstCells i.size (min len ys.length) (.slice A ys.length c0)).run P w = .ok (news.take (min len ys.length * i.size)).toArray w := by
        rw [hsz]
        have hnl := hrows.1
        have hmm : min len ys.length * sz t' ≤ ys.length * sz t' := Nat.mul_le_mul_right _ (by omega)
        cases A with
        | none =>
          have := hA rfl; subst this
          have : news = [] := by simpa using hnl
          subst this
          simp [Builtin.firstCells]
        | some ad =>
          refine run_firstCells_some w _ _ ad _ _ _ (by rw [List.length_take]; omega) fun j u hj => hcell ad rfl j u ?_
          rw [List.getElem?_take] at hj
          split at hj
          · exact hj
          · cases hj
      have unchanged : min len ys.length = 0 → (Builtin.copy_ #[t, t] o.type #[v, .slice A ys.length c0]).run P w = .ok (.int .i64 (min len ys.length : Nat)) w → WRes false P W C ρ s a w o K := fun h0 hr => by
        refine ⟨_, _, _, w, ρ, hK, .inl (hexec _ _ _ hv hr), Sub0.refl _, .v _, rfl, rfl, ?_, fun e => by cases e⟩
        refine hs.hp.same fun k => ?_
        show lk (upd s.L m _) k = _
        rw [lk_upd]
        split
        · rename_i e; subst e; rw [hlk]; simp only [Option.map_some, cpyL, h0, List.take_zero, List.append_nil, Nat.add_zero, List.take_append_drop]
        · rfl
      cases hx with
      | sub0 hm =>
        refine unchanged (by simp) ?_
        rw [show min 0 ys.length = 0 by simp] at hfirst ⊢
        simp only [Builtin.copy_]
        simp [run_underlying ht, sizeOf, typeInfo, hi, Builtin.lenOf, goInt]
        simp at hfirst
        simp [hfirst]
      | @sub _ _ _ _ b o' cap ad hm hlc had =>
        rcases Nat.eq_zero_or_pos (min len ys.length) with h0 | hpos
        · refine unchanged h0 ?_
          rw [h0] at hfirst ⊢
          simp only [Builtin.copy_]
          simp [run_underlying ht, sizeOf, typeInfo, hi, Builtin.lenOf, goInt, hml, h0]
          simp at hfirst
          simp [hfirst, storeCells]
        · rcases hs.hp.obj m _ hlk with ⟨h1, _⟩ | ⟨b', o'', c', T, vs, h1, h2, h3, h4, h5, h6⟩
          · rw [hm] at h1; cases h1
          · rw [hm] at h1; cases h1
            have hnl := hrows.1
            generalize hq : min len ys.length = q at *
            have hmm : q * sz t' ≤ ys.length * sz t' := Nat.mul_le_mul_right _ (by omega)
            have hm0 : lo * sz t' + len * sz t' ≤ cap * sz t' := by rw [← Nat.add_mul]; exact Nat.mul_le_mul_right _ (by omega)
            have hm1 : q * sz t' ≤ len * sz t' := Nat.mul_le_mul_right _ (by omega)
            have hnl2 : (news.take (q * sz t')).length = q * sz t' := by rw [List.length_take]; omega
            have hfit : o' + lo * sz t' + (news.take (q * sz t')).length ≤ vs.length := by rw [hnl2]; omega
            have hone : ∀ u ∈ news.take (q * sz t'), u.oneCell' = true := fun u hu => hrows.one u (List.mem_of_mem_take hu)
            have hst := run_storeCells_at P b (o' + lo * sz t') T (news.take (q * sz t')) 0 ⟨vs⟩ w h2 (by simpa using hfit) hone
            simp only [Nat.add_zero] at hst
            rw [had (by omega)] at hv
            rw [hsz] at hfirst
            have hr : (Builtin.copy_ #[t, t] o.type #[.slice (some ⟨b, o' + lo * sz t', none⟩) len (cap - lo), .slice A ys.length c0]).run P w = .ok (.int .i64 (q : Nat)) (w.setRow b ⟨spliceV vs (o' + lo * sz t') (news.take (q * sz t'))⟩) := by
              simp only [Builtin.copy_]
              simp [run_underlying ht, sizeOf, typeInfo, hi, Builtin.lenOf, goInt, hml, hsz, hfirst, hst, spliceV]
            refine ⟨_, _, _, _, ρ, hK, .inl (hexec _ _ _ hv hr), Sub0.refl _, .v _, rfl, rfl, ?_, fun e => by cases e⟩
            refine hs.hp.change hlk hm rfl rfl rfl (by simp) (fun k hk => heap_setRow_other _ _ _ _ hk) (.inr ⟨b, o', cap, T, _, hm, heap_setRow_same _ _ _ h2, ?_, ?_, h5, ?_⟩)
            · simp only [spliceV, List.length_append, List.length_take, List.length_drop]; omega
            · rw [cpyL_len hle]; exact h4
            · intro i1 f1 x1 av1 h7 h8
              have hf1 : f1 < sz t' := by have := (List.getElem?_eq_some_iff.1 h8).1; rwa [enc_length] at this
              rw [cpyL_get hle, hq] at h7
              rw [get_splice hfit, hnl2]
              split at h7
              · rename_i hin
                have hlt := mul_lt (s := sz t') (show i1 - lo < q by omega) (Nat.le_refl _)
                have e1 : i1 * sz t' = lo * sz t' + (i1 - lo) * sz t' := by rw [← Nat.add_mul]; congr 1; omega
                obtain ⟨u, h9, h10⟩ := hrows.2 (i1 - lo) f1 _ _ h7 h8
                refine ⟨u, ?_, h10⟩
                rw [if_pos (by omega), List.getElem?_take, if_pos (by omega), ← h9]
                congr 1; omega
              · rename_i hout
                obtain ⟨u, h9, h10⟩ := h6 _ f1 x1 av1 h7 h8
                refine ⟨u, ?_, h10⟩
                rw [if_neg]
                · exact h9
                · by_cases hlo : i1 < lo
                  · have := mul_lt (s := sz t') hlo (Nat.le_refl _); omega
                  · have : (lo + q) * sz t' ≤ i1 * sz t' := Nat.mul_le_mul_right _ (by omega)
                    rw [Nat.add_mul] at this; omega
    · exact h.elim
  · exact h.elim

theorem rows_flat {t : Ty} {xs : List t.D} {news : List Value} (h : RowsAt W C ρ t xs news) : DenL W C ρ (xs.map (enc t)).flatten news := by
  refine ⟨by rw [flat_len, h.1], fun k av u h1 h2 => ?_⟩
  obtain ⟨i, f, x, rfl, hlt, h3, h4⟩ := flat_get t xs k av h1
  obtain ⟨u', h5, h6⟩ := h.2 i f x av h3 h4
  rw [h2] at h5; cases h5; exact h6
theorem b2s_ok (hs : StOk W C ρ s a w) {t d e : TypeId} {ty : Ty} {x : Operand} (ho : o.op = .convert t d x) (ht : P.underlying t = some (.slice e)) (hd : P.underlying d = some .string) (he : P.underlying e = some (.int .u8))
    (h : wst s (.b2s ty x) K) : WRes true P W C ρ s a w o K := by
  simp only [wst] at h
  obtain ⟨ys, A, c, news, ⟨h1, h⟩, hy, hrows, hA, hcell⟩ := rows_ok hs h
  unfold someK at h
  split at h
  · rename_i l hl
    have hn := u8s_den (rows_flat hrows) hl
    refine ⟨_, .string (bstr l), s, w, ρ, h, .inl ?_, Sub0.refl _, .v _, rfl, rfl, hs.hp, fun _ => Below.refl _ _⟩
    unfold execOp; rw [ho]
    simp only [Sem.run_bind, hy, run_convert_bytes_string w t d e A _ _ ht he hd]
    have hnl : news.length = ys.length := by rw [hrows.1, h1, Nat.mul_one]
    cases A with
    | none =>
      have := hA rfl; subst this
      have hl0 : l = [] := by
        have : l.length = 0 := by rw [← List.length_map (f := Value.int .u8), ← hn]; exact hnl
        exact List.length_eq_zero_iff.1 this
      subst hl0
      rfl
    | some ad =>
      have hld : (loadCells ad ys.length).run P w = .ok news.toArray w := by
        have := run_firstCells_some (P := P) w 1 ys.length ad ys.length c news (by omega) (hcell ad rfl)
        simpa [Builtin.firstCells] using this
      rw [run_bytesToString w ad ys.length c l (by rw [hld, hn])]
      rfl
  · exact h.elim

theorem mmk_ok (hs : StOk W C ρ s a w) {t : TypeId} {r : Option Operand} {kk : KK} {mp : Bool} (ho : o.op = .makeMap t r) (hr : r = none ∨ ∃ k n, r = some (.const (.int k n))) (hm : mapOf P t = some (kk, mp)) (h : wst s (.mmk kk mp) K) : WRes true P W C ρ s a w o K := by
  obtain ⟨k, e, ie, hu, hk, hi, hz⟩ := mapOf_spec hm
  simp only [wst] at h
  have hn := nset_sub (hs.hp.above s.nx (Nat.le_refl _)) (some (w.heap.size, 0, 0))
  refine ⟨_, .map (some w.heap.size), _, w.alloc (.map #[] 0), nset ρ s.nx (some (w.heap.size, 0, 0)), h, .inl ?_, hn, .mp (nset_same _ _ _), rfl, rfl, ?_, fun _ => (Below.refl _ _).alloc (Nat.le_refl _) _⟩
  · unfold execOp; rw [ho]
    rcases hr with rfl | ⟨k', n, rfl⟩
    · have h0 : (Instr.makeMap t none).run P w = .ok (.map (some w.heap.size)) (w.alloc (.map #[] 0)) := rfl
      simp [h0]
    · have h0 : (Instr.makeMap t (some (.int k' n))).run P w = .ok (.map (some w.heap.size)) (w.alloc (.map #[] 0)) := by
        have h2 : (newObj (.map #[] 0)).run P w = .ok w.heap.size (w.alloc (.map #[] 0)) := rfl
        simp [Instr.makeMap, run_underlying hu, asInt, asIntOf, h2]
      simp [h0, Act.eval]
  · exact hs.hp.alloc (Below.refl _ _) rfl ⟨w.heap.size, #[], 0, nset_same _ _ _, (MapKept.heap_alloc w _).1, .nil⟩

theorem valK_ok {mp : Bool} {av : AVal} {v : Value} {K : ByteArray → Prop} (hd : Den W C ρ av v) (h : valK mp av K) : ∃ x, v = valV mp x ∧ K x := by
  unfold valK at h
  split at h
  · rename_i e; subst e
    split at h
    · exact ⟨_, by rw [den_v hd]; rfl, h⟩
    · exact h.elim
  · rename_i e
    split at h
    · obtain ⟨rfl, h⟩ := h
      exact ⟨_, by rw [den_v hd]; simp [valV, e], h⟩
    · exact h.elim

theorem mput_ok (hs : StOk W C ρ s a w) {t : TypeId} {m k v : Operand} {kk : KK} {mp : Bool} (ho : o.op = .mapUpdate t m k v ∨ o.op = .insert t m k v) (hm : mapOf P t = some (kk, mp)) (h : wst s (.mput kk mp m k v) K) : WRes false P W C ρ s a w o K := by
  obtain ⟨kt, e, ie, hu, hk, hi, hz⟩ := mapOf_spec hm
  simp only [wst] at h
  have hdm := hs.fr.ev m
  have hdk := hs.fr.ev k
  have hdv := hs.fr.ev v
  split at h
  · rename_i n hx
    rw [hx] at hdm
    split at h
    · rename_i kk' mp' es hl
      obtain ⟨⟨rfl, rfl⟩, h⟩ := h
      obtain ⟨key, hok, hkv, h⟩ := keyK_ok hdk h
      obtain ⟨x, hxv, hK⟩ := valK_ok hdv h
      generalize hvm : a.eval m = vm at hdm
      cases hdm with
      | @mp _ b hb =>
        obtain ⟨b', l, c, h1, h2, h3⟩ := hs.hp.obj n _ hl
        rw [hb] at h1; cases h1
        have hrun : ∀ l' c', (Instr.mapUpdate t (.map (some b)) (keyV key) (valV mp' x)).run P w = .ok () { w with heap := w.heap.setIfInBounds b (.map l' c') } → MapOk kk' mp' ((key, x) :: es) l'.toList → WRes false P W C ρ s a w o K := by
          intro l' c' hrun hmo
          have hlt : b < w.heap.size := (Array.getElem?_eq_some_iff.1 h2).1
          refine ⟨_, undef, _, { w with heap := w.heap.setIfInBounds b (.map l' c') }, ρ, hK, .inr ⟨?_, rfl⟩, Sub0.refl _, .junk _, rfl, rfl, ?_, fun e => by cases e⟩
          · unfold execOp
            rcases ho with ho | ho <;> rw [ho] <;> simp [hvm, hkv, hxv, hrun]
          · refine hs.hp.change hl hb rfl rfl rfl (by simp) (fun k hk => ?_) ⟨b, l', c', hb, ?_, hmo⟩
            · simp only [Array.getElem?_setIfInBounds]
              rw [if_neg (by omega)]
            · simp [Array.getElem?_setIfInBounds, hlt]
        rcases h3.find hk hok w with ⟨h4, h5, h6⟩ | ⟨j, e0, y, h4, h5, h6, h7, h8⟩
        · refine hrun (l.push ⟨keyV key, valV mp' x, c⟩) (c + 1) ?_ ?_
          · simp [Instr.mapUpdate, run_underlying hu, MapKept.run_getObj_map h2, kk_check hk hok, h4, MapKept.run_setObj_map _ h2]
          · have := h3.push hok h6 x c
            simpa using this
        · refine hrun (l.modify j fun e => { e with key := keyV key, val := valV mp' x }) c ?_ ?_
          · have h5' : l[j]? = some e0 := by simpa using h5
            simp [Instr.mapUpdate, run_underlying hu, MapKept.run_getObj_map h2, kk_check hk hok, h4, h5', h6, kk_stays, MapKept.run_setObj_map _ h2]
          · have := h3.modify hok h5 h6 x
            simpa using this
    · exact h.elim
  · exact h.elim

def mildW : IOp → Bool
  | .mmk _ _ => true
  | .box _ => true
  | .new _ => true
  | .newr _ _ => true
  | .b2s _ _ => true
  | .mk _ _ _ _ => true
  | .blds _ _ _ => true
  | _ => false

theorem wst_ok (hs : StOk W C ρ s a w) {τ : List (Nat × Ty)} {io : IOp} (hl : lowW P τ o.op = some io) (h : wst s io K) : WRes (mildW io) P W C ρ s a w o K := by
  generalize ho : o.op = op at hl
  unfold lowW at hl
  split at hl
  · cases hl; exact box_ok hs ho h
  · split at hl
    · rename_i hi
      split at hl
      · rename_i hz
        split at hl
        · split at hl
          · rename_i hzz; cases hl; exact newr_ok hs ho hi hz (sameVs_eq hzz) h
          · cases hl
        · cases hl; exact new_ok hs ho hi hz h
      · cases hl
    · cases hl
  · split at hl
    · rename_i hi; cases hl; exact store_ok hs ho hi h
    · cases hl
  · split at hl
    · rename_i ht
      split at hl
      · rename_i hk; cases hl; exact mk_ok hs ho ht hk h
      · cases hl
    · cases hl
  · split at hl
    · rename_i ht
      split at hl
      · rename_i hk
        split at hl
        · rename_i hps; cases hl; exact blds_ok hs ho ht hk hps h
        · cases hl
      · cases hl
    · cases hl
  · split at hl
    · rename_i ht
      split at hl
      · rename_i hk; cases hl; exact clr_ok hs ho ht hk h
      · cases hl
    · cases hl
  · split at hl
    · rename_i e
      subst e
      split at hl
      · rename_i ht
        split at hl
        · rename_i hk; cases hl; exact cpy_ok hs ho ht hk h
        · cases hl
      · cases hl
    · cases hl
  · split at hl
    · rename_i e
      subst e
      split at hl
      · rename_i ht
        split at hl
        · rename_i hk; cases hl; exact app_ok hs ho ht hk h
        · cases hl
      · cases hl
    · cases hl
  · split at hl
    · rename_i ht hd
      split at hl
      · rename_i he hk; cases hl; exact b2s_ok hs ho ht hd he h
      · cases hl
    · cases hl
  · split at hl
    · rename_i hm; cases hl; exact mmk_ok hs ho (.inl rfl) hm h
    · cases hl
  · split at hl
    · rename_i hm; cases hl; exact mmk_ok hs ho (.inr ⟨_, _, rfl⟩) hm h
    · cases hl
  · split at hl
    · rename_i hm; cases hl; exact mput_ok hs (.inl ho) hm h
    · cases hl
  · split at hl
    · rename_i hm; cases hl; exact mput_ok hs (.inr ho) hm h
    · cases hl
  · cases hl
end
end Go.Proofs.YthghcialeghgoaaDoorE

/-! Specifications of functions, and calls. -/
namespace Go.Proofs.YthghcialeghgoaaDoorE
open Go Go.RowKit
set_option linter.unusedSimpArgs false
set_option linter.unusedVariables false

def pos : List Nat → Nat → Option Nat
  | [], _ => none
  | x :: r, m => if x = m then some 0 else (pos r m).map (· + 1)
def nodupB : List Nat → Bool
  | [] => true
  | x :: r => !r.contains x && nodupB r
def allP {α : Type _} (f : α → Prop) : List α → Prop
  | [] => True
  | x :: r => f x ∧ allP f r
theorem allP_mem {α : Type _} {f : α → Prop} : ∀ {l : List α}, allP f l → ∀ x ∈ l, f x
  | _ :: _, h, x, hx => by
    rcases List.mem_cons.1 hx with rfl | hx
    · exact h.1
    · exact allP_mem h.2 x hx

/-- A value as a callee sees it: the objects that it is given have numbers of its own, all else it can only read. -/
def view1 (kp : Bool) (ms : List Nat) (L : Hp) : AVal → AVal
  | .v x => .v x
  | .rs t xs => .rs t xs
  | .re t x f => .re t x f
  | .rp t xs => .rp t xs
  | .ptr m off => match pos ms m with
    | some i => .ptr i off
    | none => .junk
  | .elt m z j f => match pos ms m with
    | some i => .elt i z j f
    | none => .junk
  | .sub m z lo len => match pos ms m with
    | some i => .sub i z lo len
    | none => if kp = true then .junk else match lk L m with
      | some (.row t xs) => .rs t ((xs.drop lo).take len)
      | _ => .junk
  | _ => .junk
def vok1 (kp : Bool) (ms : List Nat) (L : Hp) : AVal → Prop
  | .sub m z lo len => match pos ms m with
    | some _ => True
    | none => if kp = true then True else match lk L m with
      | some (.row t xs) => z = sz t ∧ lo + len ≤ xs.length
      | _ => True
  | _ => True
def view (kp : Bool) (ms : List Nat) (L : Hp) : AVal → AVal
  | .agg cs => .agg (cs.map (view1 kp ms L))
  | .fn f cs => .fn f (cs.map (view1 kp ms L))
  | av => view1 kp ms L av
def vok (kp : Bool) (ms : List Nat) (L : Hp) : AVal → Prop
  | .agg cs => allP (vok1 kp ms L) cs
  | .fn _ cs => allP (vok1 kp ms L) cs
  | av => vok1 kp ms L av
def viewO (kp : Bool) (ms : List Nat) (L : Hp) : AObj → AObj
  | .box cs => .box (cs.map (view1 kp ms L))
  | .row t xs => .row t xs
  | .set kk mp es => .set kk mp es
def vokO (kp : Bool) (ms : List Nat) (L : Hp) : AObj → Prop
  | .box cs => allP (vok1 kp ms L) cs
  | .row _ _ => True
  | .set _ _ _ => True

def nth : List Nat → Nat → Option Nat
  | [], _ => none
  | x :: r, k => if k = 0 then some x else nth r (k - 1)
/-- The callee's numbers, back in the caller's: what was handed over has its name again, all else is new. -/
def rn (ms : List Nat) (nx k : Nat) : Nat := match nth ms k with
  | some m => m
  | none => nx + k
def ren1 (kp : Bool) (n : Nat → Nat) : AVal → AVal
  | .v x => .v x
  | .ptr m off => .ptr (n m) off
  | .elt m z j f => .elt (n m) z j f
  | .sub m z lo len => .sub (n m) z lo len
  | .rs t xs => if kp = true then .rs t xs else .junk
  | _ => .junk
def ren2 (kp : Bool) (n : Nat → Nat) : AVal → AVal
  | .agg cs => .agg (cs.map (ren1 kp n))
  | av => ren1 kp n av
def ren (kp : Bool) (n : Nat → Nat) : AVal → AVal
  | .tup cs => .tup (cs.map (ren2 kp n))
  | av => ren2 kp n av
def renO (kp : Bool) (n : Nat → Nat) : AObj → AObj
  | .box cs => .box (cs.map (ren1 kp n))
  | .row t xs => .row t xs
  | .set kk mp es => .set kk mp es
def renL (kp : Bool) (n : Nat → Nat) : Hp → Hp
  | [] => []
  | (m, o) :: r => (n m, renO kp n o) :: renL kp n r
def eraAll (L : Hp) : List Nat → Hp
  | [] => L
  | m :: r => eraAll (era L m) r
def num (k : Nat) : List AObj → Hp
  | [] => []
  | o :: r => (k, o) :: num (k + 1) r
def objsK (L : Hp) : List Nat → (List AObj → Prop) → Prop
  | [], K => K []
  | m :: r, K => match lk L m with
    | some o => objsK L r fun os => K (o :: os)
    | none => False

structure Spec where
  take : Hp → List AVal → List Nat
  f : List AVal → List AObj → (AVal → Hp → Nat → Prop) → Prop
  /-- What can only be read comes back as such (then no own row may be read in passing). -/
  keep : Bool

def callK (sp : Spec) (s : S) (args : List AVal) (K : AVal → S → Prop) : Prop :=
  nodupB (sp.take s.L args) = true ∧ allP (vok sp.keep (sp.take s.L args) s.L) args ∧ objsK s.L (sp.take s.L args) fun objs =>
    allP (vokO sp.keep (sp.take s.L args) s.L) objs ∧
    sp.f (args.map (view sp.keep (sp.take s.L args) s.L)) (objs.map (viewO sp.keep (sp.take s.L args) s.L)) fun r L' nx' =>
      K (ren sp.keep (rn (sp.take s.L args) s.nx) r) { s with L := renL sp.keep (rn (sp.take s.L args) s.nx) L' ++ eraAll s.L (sp.take s.L args), nx := s.nx + nx' }

/-- The function does what is said of it, wherever it is called. -/
def Valid (P : Program) (f : Nat) (sp : Spec) : Prop :=
  ∀ (W : World) (C : CR) (ρ : Nm) (args : List AVal) (vals : List Value) (objs : List AObj) (K : AVal → Hp → Nat → Prop),
    DenL W C ρ args vals → HpOk W C ρ objs.length W (num 0 objs) → sp.f args objs K →
    Calls P f ⟨vals⟩ W fun e w' => ∃ r v L' nx' ρ', e = .returned v ∧ Den W C ρ' r v ∧ HpOk W C ρ' nx' w' L' ∧ (∀ i, i < objs.length → ρ' i = ρ i) ∧ K r L' nx'

theorem pos_get : ∀ {ms : List Nat} {m i : Nat}, pos ms m = some i → ms[i]? = some m
  | x :: r, m, i, h => by
    simp only [pos] at h
    split at h
    · cases h; simp; assumption
    · rw [Option.map_eq_some_iff] at h
      obtain ⟨j, hj, rfl⟩ := h
      simpa using pos_get hj
theorem pos_none : ∀ {ms : List Nat} {m : Nat}, pos ms m = none → m ∉ ms
  | [], m, _ => by simp
  | x :: r, m, h => by
    simp only [pos] at h
    split at h
    · cases h
    · rename_i hne
      simp at h
      simp only [List.mem_cons, not_or]
      exact ⟨fun e => hne e.symm, pos_none h⟩
theorem nodup_of : ∀ {ms : List Nat}, nodupB ms = true → ms.Nodup
  | [], _ => List.nodup_nil
  | x :: r, h => by
    simp [nodupB] at h
    exact List.nodup_cons.2 ⟨h.1, nodup_of h.2⟩
theorem lk_eraAll : ∀ (ms : List Nat) (L : Hp) (k : Nat), lk (eraAll L ms) k = if k ∈ ms then none else lk L k
  | [], L, k => by simp [eraAll]
  | m :: r, L, k => by
    rw [eraAll, lk_eraAll r, lk_era]
    by_cases h : k ∈ r
    · simp [h]
    · by_cases e : k = m <;> simp [h, e]
theorem lk_append {L M : Hp} {k : Nat} : lk (L ++ M) k = (lk L k).orElse fun _ => lk M k := by
  induction L with
  | nil => simp [lk]
  | cons x r ih =>
    obtain ⟨i, o⟩ := x
    simp only [List.cons_append, lk]
    split
    · rfl
    · exact ih
theorem lk_renL {kp : Bool} {f : Nat → Nat} (inj : ∀ a b, f a = f b → a = b) : ∀ (L : Hp) {m : Nat} {o : AObj}, lk (renL kp f L) m = some o → ∃ k o', m = f k ∧ o = renO kp f o' ∧ lk L k = some o'
  | [], m, o, h => by simp [renL, lk] at h
  | (j, x) :: r, m, o, h => by
    simp only [renL, lk] at h
    split at h
    · rename_i e; cases h; exact ⟨j, x, e.symm, rfl, by simp [lk]⟩
    · rename_i e
      obtain ⟨k, o', h1, h2, h3⟩ := lk_renL inj r h
      refine ⟨k, o', h1, h2, ?_⟩
      simp only [lk]
      rw [if_neg (fun e2 => e (by rw [e2, h1]))]; exact h3
theorem nth_eq : ∀ (l : List Nat) (k : Nat), nth l k = l[k]?
  | [], k => by simp [nth]
  | x :: r, 0 => by simp [nth]
  | x :: r, k + 1 => by simp [nth, nth_eq r]
theorem lk_num : ∀ (os : List AObj) (k j : Nat), lk (num k os) j = if k ≤ j then os[j - k]? else none
  | [], k, j => by simp [num, lk]
  | o :: r, k, j => by
    simp only [num, lk]
    by_cases h : k = j
    · subst h; simp
    · rw [if_neg h, lk_num r]
      by_cases hk : k ≤ j
      · rw [if_pos hk, if_pos (by omega)]
        have : j - k = (j - (k + 1)) + 1 := by omega
        rw [this]; simp
      · rw [if_neg hk, if_neg (by omega)]
theorem objsK_get {L : Hp} : ∀ {ms : List Nat} {K : List AObj → Prop}, objsK L ms K → ∃ os, K os ∧ os.length = ms.length ∧ ∀ (i m : Nat), ms[i]? = some m → ∃ o, os[i]? = some o ∧ lk L m = some o
  | [], K, h => ⟨[], h, rfl, fun i m h => by simp at h⟩
  | m :: r, K, h => by
    simp only [objsK] at h
    split at h
    · rename_i o ho
      obtain ⟨os, hK, hl, hg⟩ := objsK_get h
      refine ⟨o :: os, hK, by simp [hl], fun i m' hm => ?_⟩
      cases i with
      | zero => simp at hm; subst hm; exact ⟨o, rfl, ho⟩
      | succ i => simpa using hg i m' (by simpa using hm)
    · exact h.elim

section
variable {P : Program} {W : World} {C : CR} {ρ : Nm} {kp : Bool} {s : S} {a : Act} {w : World}

theorem enc_den {W' : World} {C' : CR} {ρ' : Nm} {t : Ty} {x : t.D} {f : Nat} {av : AVal} {u : Value} (h : (enc t x)[f]? = some av) (hd : Den W C ρ av u) : Den W' C' ρ' av u := by
  obtain ⟨y, rfl⟩ := enc_v t x av (List.mem_of_getElem? h)
  rw [den_v hd]; exact .v y

/-- The objects that are handed over. -/
def Gone (ρ : Nm) (ms : List Nat) (b : Nat) : Prop := ∃ m ∈ ms, ∃ x, ρ m = some (some (b, x))
def nmOf (ρ : Nm) (ms : List Nat) : Nm := fun i => match ms[i]? with
  | some m => ρ m
  | none => none

def GoneC (kp : Bool) (W : World) (C : CR) (ρ : Nm) (ms : List Nat) : CR := ⟨Gone ρ ms, fun b => Gone ρ ms b ∨ (kp = true ∧ (W.heap.size ≤ b ∨ C.unr b)), fun _ h => .inl h⟩
theorem gone_own {nx : Nat} {L : Hp} (hp : HpOk W C ρ nx w L) {ms : List Nat} (hms : ∀ m ∈ ms, ∃ o, lk L m = some o) {b : Nat} (h : Gone ρ ms b) : b < w.heap.size ∧ (W.heap.size ≤ b ∨ C.chg b) := by
  obtain ⟨m, hm, x, hx⟩ := h
  obtain ⟨o, ho⟩ := hms m hm
  exact hp.own m o b x ho hx

theorem rd_rebase {nx : Nat} {L : Hp} (hp : HpOk W C ρ nx w L) {ms : List Nat} (hms : ∀ m ∈ ms, ∃ o, lk L m = some o) {A : Option Addr} {n : Nat} {vs : Nat → Value} (h : RdAt W C A n vs) : RdAt w (GoneC kp W C ρ ms) A n vs := by
  rcases h with h | ⟨ad, h1, h2, h3, h4⟩
  · exact .inl h
  · refine .inr ⟨ad, h1, Nat.lt_of_lt_of_le h2 hp.size, fun hg => ?_, fun k hk => ?_⟩
    · rcases hg with hg | ⟨_, hg | hg⟩
      · rcases (gone_own hp hms hg).2 with h | h
        · omega
        · exact h3 (C.le _ h)
      · omega
      · exact h3 hg
    · have hb : (ad.add k).block = ad.block := by unfold Addr.add; split <;> rfl
      rw [World.cell?_of_block (w := W) (hp.old (ad.add k).block (by rw [hb]; exact h2) (by rw [hb]; exact fun e => h3 (C.le _ e)))]
      exact h4 k hk

theorem view1_den {nx : Nat} {L : Hp} (hp : HpOk W C ρ nx w L) {ms : List Nat} (hms : ∀ m ∈ ms, ∃ o, lk L m = some o) {av : AVal} {v : Value} (hd : Den W C ρ av v) (hv : vok1 kp ms L av) :
    Den w (GoneC kp W C ρ ms) (nmOf ρ ms) (view1 kp ms L av) v := by
  have hnm : ∀ {i m : Nat} {y}, pos ms m = some i → ρ m = some y → nmOf ρ ms i = some y := fun hi hy => by
    simp [nmOf, pos_get hi, hy]
  cases hd with
  | v => exact .v _
  | junk => exact .junk _
  | arp hm => exact .junk _
  | ptr hm =>
    simp only [view1]; split
    · rename_i hi; exact .ptr (hnm hi hm)
    · exact .junk _
  | elt hm =>
    simp only [view1]; split
    · rename_i hi; exact .elt (hnm hi hm)
    · exact .junk _
  | @sub m z lo len b o c ad hm hle had =>
    simp only [view1, vok1] at hv ⊢
    split
    · rename_i hi; exact .sub (hnm hi hm) hle had
    · rename_i hi
      simp only [hi] at hv
      split
      · exact .junk _
      · rename_i hkp
        rw [if_neg hkp] at hv
        split
        · rename_i t xs hl
          simp only [hl] at hv
          obtain ⟨rfl, hxl⟩ := hv
          rcases hp.obj m _ hl with ⟨h1, _⟩ | ⟨b', o', c', T, vs, h1, h2, h3, h4, h5, h6⟩
          · rw [hm] at h1; cases h1
          · rw [hm] at h1; cases h1
            have hr := part_rows h3 h4 h6 hxl
            have hlen : ((xs.drop lo).take len).length = len := by simp; omega
            have key := Den.rs (W := w) (C := GoneC kp W C ρ ms) (ρ := nmOf ρ ms) (t := t) (xs := (xs.drop lo).take len) (A := some ad) (c := c - lo) (fun k => ((vs.drop (o + lo * sz t)).take (len * sz t)).getD k undef)
              ?_ (by rw [hlen]; omega) ?_
            · rw [hlen] at key; exact key
            · rw [hlen]
              by_cases h0 : len = 0
              · left; simp [h0]
              · right
                have hlt : lo < c := by omega
                refine ⟨ad, rfl, ?_, ?_, fun k hk => ?_⟩
                · rw [had hlt]; exact (hp.own m _ b _ hl hm).1
                · rw [had hlt]
                  rintro (⟨m', hm', x', hx'⟩ | ⟨e, _⟩)
                  · obtain ⟨o', ho'⟩ := hms m' hm'
                    exact hp.apart m _ m' o' b _ b _ hl ho' (fun e => pos_none hi (e ▸ hm')) hm hx' rfl
                  · exact hkp e
                · rw [had hlt]
                  have hl2 : k < ((vs.drop (o + lo * sz t)).take (len * sz t)).length := by rw [hr.1, hlen]; exact hk
                  exact part_cells h2 _ (len * sz t) k _ (getD_of hl2 undef)
            · intro i f x av h7 h8
              obtain ⟨u, h9, h10⟩ := hr.2 i f x av h7 h8
              have : ((vs.drop (o + lo * sz t)).take (len * sz t)).getD (i * sz t + f) undef = u := by simp only [List.getD, h9]; rfl
              rw [this]; exact enc_den h8 h10
        · exact .junk _
  | @sub0 m z hm =>
    simp only [view1, vok1] at hv ⊢
    split
    · rename_i hi; exact .sub0 (hnm hi hm)
    · rename_i hi
      split
      · exact .junk _
      · rename_i hkp
        split
        · rename_i t xs hl
          have hx0 : xs = [] := by
            rcases hp.obj m _ hl with ⟨_, h⟩ | ⟨b', o'', c', T, vs, h1, _⟩
            · exact h
            · rw [hm] at h1; cases h1
          subst hx0
          exact .rs (t := t) (xs := []) (A := none) (c := 0) (fun _ => undef) (.inl (by simp)) (Nat.le_refl _) (fun i f x av h => by simp at h)
        · exact .junk _
  | rs vs h1 h2 h3 => exact .rs vs (rd_rebase hp hms h1) h2 (fun i f x av h4 h5 => enc_den h5 (h3 i f x av h4 h5))
  | re vs h1 h2 => exact .re vs (rd_rebase hp hms h1) (fun k av hk => enc_den hk (h2 k av hk))
  | rp vs h1 h2 => exact .rp vs (rd_rebase hp hms h1) (fun i f x av h4 h5 => enc_den h5 (h2 i f x av h4 h5))
  | mp h => exact .junk _
  | agg vs h1 h2 => exact .junk _
  | tup vs h1 h2 => exact .junk _
  | fn vs h1 h2 => exact .junk _

theorem view1_denL {nx : Nat} {L : Hp} (hp : HpOk W C ρ nx w L) {ms : List Nat} (hms : ∀ m ∈ ms, ∃ o, lk L m = some o) {cs : List AVal} {vs : List Value} (hd : DenL W C ρ cs vs) (hv : allP (vok1 kp ms L) cs) :
    DenL w (GoneC kp W C ρ ms) (nmOf ρ ms) (cs.map (view1 kp ms L)) vs := by
  refine ⟨by simp [hd.1], fun k av u h1 h2 => ?_⟩
  rw [List.getElem?_map, Option.map_eq_some_iff] at h1
  obtain ⟨av', h3, rfl⟩ := h1
  exact view1_den hp hms (hd.2 k av' u h3 h2) (allP_mem hv _ (List.mem_of_getElem? h3))

theorem view_den {nx : Nat} {L : Hp} (hp : HpOk W C ρ nx w L) {ms : List Nat} (hms : ∀ m ∈ ms, ∃ o, lk L m = some o) {av : AVal} {v : Value} (hd : Den W C ρ av v) (hv : vok kp ms L av) :
    Den w (GoneC kp W C ρ ms) (nmOf ρ ms) (view kp ms L av) v := by
  cases av with
  | agg cs => cases hd with
    | agg vs h1 h2 => have := view1_denL hp hms ⟨h1, h2⟩ hv; exact .agg vs this.1 this.2
  | fn f cs => cases hd with
    | fn vs h1 h2 => have := view1_denL hp hms ⟨h1, h2⟩ hv; exact .fn vs this.1 this.2
  | _ => exact view1_den hp hms hd hv

theorem ren1_den {w' : World} {C' : CR} {ρc ρ' : Nm} {n : Nat → Nat} (hk : kp = true → ∀ {A : Option Addr} {n' : Nat} {vs : Nat → Value}, RdAt w' C' A n' vs → RdAt W C A n' vs) (hn : ∀ k y, ρc k = some y → ρ' (n k) = some y) {av : AVal} {v : Value} (h : Den w' C' ρc av v) : Den W C ρ' (ren1 kp n av) v := by
  cases h with
  | v => exact .v _
  | ptr h => exact .ptr (hn _ _ h)
  | elt h => exact .elt (hn _ _ h)
  | sub h h1 h2 => exact .sub (hn _ _ h) h1 h2
  | sub0 h => exact .sub0 (hn _ _ h)
  | rs vs h1 h2 h3 =>
    simp only [ren1]
    split
    · rename_i e; exact .rs vs (hk e h1) h2 (fun i f x av h4 h5 => enc_den h5 (h3 i f x av h4 h5))
    · exact .junk _
  | _ => exact .junk _
theorem ren1_denL {w' : World} {C' : CR} {ρc ρ' : Nm} {n : Nat → Nat} (hk : kp = true → ∀ {A : Option Addr} {n' : Nat} {vs : Nat → Value}, RdAt w' C' A n' vs → RdAt W C A n' vs) (hn : ∀ k y, ρc k = some y → ρ' (n k) = some y) {cs : List AVal} {vs : List Value} (h : DenL w' C' ρc cs vs) : DenL W C ρ' (cs.map (ren1 kp n)) vs := by
  refine ⟨by simp [h.1], fun k av u h1 h2 => ?_⟩
  rw [List.getElem?_map, Option.map_eq_some_iff] at h1
  obtain ⟨av', h3, rfl⟩ := h1
  exact ren1_den hk hn (h.2 k av' u h3 h2)
theorem ren2_den {w' : World} {C' : CR} {ρc ρ' : Nm} {n : Nat → Nat} (hk : kp = true → ∀ {A : Option Addr} {n' : Nat} {vs : Nat → Value}, RdAt w' C' A n' vs → RdAt W C A n' vs) (hn : ∀ k y, ρc k = some y → ρ' (n k) = some y) {av : AVal} {v : Value} (h : Den w' C' ρc av v) : Den W C ρ' (ren2 kp n av) v := by
  cases av with
  | agg cs => cases h with
    | agg vs h1 h2 => have := ren1_denL (W := W) (C := C) (kp := kp) hk hn ⟨h1, h2⟩; exact .agg vs this.1 this.2
  | _ => exact ren1_den hk hn h
theorem ren_den {w' : World} {C' : CR} {ρc ρ' : Nm} {n : Nat → Nat} (hk : kp = true → ∀ {A : Option Addr} {n' : Nat} {vs : Nat → Value}, RdAt w' C' A n' vs → RdAt W C A n' vs) (hn : ∀ k y, ρc k = some y → ρ' (n k) = some y) {av : AVal} {v : Value} (h : Den w' C' ρc av v) : Den W C ρ' (ren kp n av) v := by
  cases av with
  | tup cs => cases h with
    | tup vs h1 h2 =>
      refine .tup vs (by simp [h1]) fun k av u h3 h4 => ?_
      rw [List.getElem?_map, Option.map_eq_some_iff] at h3
      obtain ⟨av', h5, rfl⟩ := h3
      exact ren2_den hk hn (h2 k av' u h5 h4)
  | _ => exact ren2_den hk hn h

theorem callK_ok {f : Nat} {sp : Spec} (hsp : Valid P f sp) {K : AVal → S → Prop} (hp : HpOk W C ρ s.nx w s.L) {args : List AVal} {vals : List Value} (hd : DenL W C ρ args vals) (h : callK sp s args K) :
    Calls P f ⟨vals⟩ w fun e w' => ∃ r v s' ρ', e = .returned v ∧ Sub0 ρ ρ' ∧ Den W C ρ' r v ∧ HpOk W C ρ' s'.nx w' s'.L ∧ s'.σ = s.σ ∧ s'.n = s.n ∧ K r s' ∧ (sp.take s.L args = [] → Below w.heap.size w w') := by
  obtain ⟨hnd, hvok, h⟩ := h
  obtain ⟨os, ⟨hvo, hf⟩, hol, hog⟩ := objsK_get h
  generalize hmsd : sp.take s.L args = ms at *
  generalize hkpd : sp.keep = kp at *
  have hms : ∀ m ∈ ms, ∃ o, lk s.L m = some o := fun m hm => by
    obtain ⟨i, hi, rfl⟩ := List.getElem_of_mem hm
    obtain ⟨o, _, ho⟩ := hog i _ (List.getElem?_eq_getElem hi)
    exact ⟨o, ho⟩
  have hnodup := nodup_of hnd
  have hdv : DenL w (GoneC kp W C ρ ms) (nmOf ρ ms) (args.map (view kp ms s.L)) vals := by
    refine ⟨by simp [hd.1], fun k av u h1 h2 => ?_⟩
    rw [List.getElem?_map, Option.map_eq_some_iff] at h1
    obtain ⟨av', h3, rfl⟩ := h1
    exact view_den hp hms (hd.2 k av' u h3 h2) (allP_mem hvok _ (List.mem_of_getElem? h3))
  have hget : ∀ j o, lk (num 0 (os.map (viewO kp ms s.L))) j = some o → ∃ m o', ms[j]? = some m ∧ lk s.L m = some o' ∧ o = viewO kp ms s.L o' ∧ o' ∈ os := fun j o hj => by
    rw [lk_num] at hj
    simp only [Nat.zero_le, if_true, Nat.sub_zero, List.getElem?_map, Option.map_eq_some_iff] at hj
    obtain ⟨o', h1, rfl⟩ := hj
    have hj' : j < ms.length := by have := (List.getElem?_eq_some_iff.1 h1).1; omega
    obtain ⟨o2, h2, h3⟩ := hog j _ (List.getElem?_eq_getElem hj')
    rw [h1] at h2; cases h2
    exact ⟨_, _, List.getElem?_eq_getElem hj', h3, rfl, List.mem_of_getElem? h1⟩
  have hnm : ∀ j m, ms[j]? = some m → nmOf ρ ms j = ρ m := fun j m hj => by simp [nmOf, hj]
  have hpc : HpOk w (GoneC kp W C ρ ms) (nmOf ρ ms) (os.map (viewO kp ms s.L)).length w (num 0 (os.map (viewO kp ms s.L))) := by
    refine ⟨fun j o hj => ?_, fun j o j' o' b x b' x' hj hj' hne h1 h2 => ?_, fun j o b x hj hx => ?_, fun j hj => ?_, rfl, rfl, rfl, Nat.le_refl _, fun _ _ _ => rfl⟩
    · obtain ⟨m, o', h1, h2, rfl, h3⟩ := hget j o hj
      have hob := hp.obj m o' h2
      have hv := allP_mem hvo o' h3
      cases o' with
      | box cs =>
        obtain ⟨b, T, vs, h4, h5, h6⟩ := hob
        exact ⟨b, T, vs, by rw [hnm j m h1]; exact h4, h5, view1_denL hp hms h6 hv⟩
      | row t xs =>
        rcases hob with ⟨h4, h5⟩ | ⟨b, o, c, T, vs, h4, h5, h6, h7, h8, h9⟩
        · exact .inl ⟨by rw [hnm j m h1]; exact h4, h5⟩
        · exact .inr ⟨b, o, c, T, vs, by rw [hnm j m h1]; exact h4, h5, h6, h7, h8, fun i f x av h10 h11 => let ⟨u, h12, h13⟩ := h9 i f x av h10 h11; ⟨u, h12, enc_den h11 h13⟩⟩
      | set kk mp es => obtain ⟨b, l, c, h4, h5, h6⟩ := hob; exact ⟨b, l, c, by rw [hnm j m h1]; exact h4, h5, h6⟩
    · obtain ⟨m, o1, h3, h4, _, _⟩ := hget j o hj
      obtain ⟨m', o2, h5, h6, _, _⟩ := hget j' o' hj'
      rw [hnm j m h3] at h1
      rw [hnm j' m' h5] at h2
      refine hp.apart m o1 m' o2 b x b' x' h4 h6 (fun e => hne ?_) h1 h2
      subst e
      have e1 := List.getElem?_eq_some_iff.1 h3
      have e2 := List.getElem?_eq_some_iff.1 h5
      exact (List.getElem_inj hnodup).1 (e1.2.trans e2.2.symm)
    · obtain ⟨m, o1, h3, h4, _, _⟩ := hget j o hj
      rw [hnm j m h3] at hx
      exact ⟨(hp.own m o1 b x h4 hx).1, .inr ⟨m, List.mem_of_getElem? h3, x, hx⟩⟩
    · have : ms[j]? = none := by simp at hj; simp; omega
      simp [nmOf, this]
  refine (hsp w (GoneC kp W C ρ ms) (nmOf ρ ms) _ vals _ _ hdv hpc hf).mono ?_
  rintro e w' ⟨r, v, L', nx', ρc, rfl, hr, hpl, hpin, hK⟩
  let ρ2 : Nm := fun m => if m < s.nx then ρ m else ρc (m - s.nx)
  have hlt : ∀ m y, ρ m = some y → m < s.nx := fun m y hy => Nat.lt_of_not_le fun hle => by rw [hp.above m hle] at hy; cases hy
  have hsub : Sub0 ρ ρ2 := fun m y hy => by show (if m < s.nx then ρ m else _) = _; rw [if_pos (hlt m y hy)]; exact hy
  have hold : ∀ m o, lk s.L m = some o → m < s.nx := fun m o hm => by
    have hob := hp.obj m o hm
    cases o with
    | box cs => obtain ⟨b, T, vs, h4, _⟩ := hob; exact hlt m _ h4
    | row t xs =>
      rcases hob with ⟨h4, _⟩ | ⟨b, o, c, T, vs, h4, _⟩
      · exact hlt m _ h4
      · exact hlt m _ h4
    | set kk mp es => obtain ⟨b, l, c, h4, _⟩ := hob; exact hlt m _ h4
  have hmlt : ∀ m ∈ ms, m < s.nx := fun m hm => let ⟨o, ho⟩ := hms m hm; hold m o ho
  have hlen : (os.map (viewO kp ms s.L)).length = ms.length := by simp [hol]
  -- the callee's numbers
  have rn_in : ∀ k m, ms[k]? = some m → rn ms s.nx k = m := fun k m hk => by simp [rn, nth_eq, hk]
  have rn_out : ∀ k, ms[k]? = none → rn ms s.nx k = s.nx + k := fun k hk => by simp [rn, nth_eq, hk]
  have rn_inj : ∀ a b, rn ms s.nx a = rn ms s.nx b → a = b := fun a b hab => by
    cases ha : ms[a]? with
    | some m =>
      rw [rn_in a m ha] at hab
      cases hb : ms[b]? with
      | some m' =>
        rw [rn_in b m' hb] at hab
        subst hab
        have e1 := List.getElem?_eq_some_iff.1 ha
        have e2 := List.getElem?_eq_some_iff.1 hb
        exact (List.getElem_inj hnodup).1 (e1.2.trans e2.2.symm)
      | none => rw [rn_out b hb] at hab; have := hmlt m (List.mem_of_getElem? ha); omega
    | none =>
      rw [rn_out a ha] at hab
      cases hb : ms[b]? with
      | some m' => rw [rn_in b m' hb] at hab; have := hmlt m' (List.mem_of_getElem? hb); omega
      | none => rw [rn_out b hb] at hab; omega
  have hρ2 : ∀ k, ρ2 (rn ms s.nx k) = ρc k := fun k => by
    cases hk : ms[k]? with
    | some m =>
      rw [rn_in k m hk]
      show (if m < s.nx then ρ m else _) = _
      rw [if_pos (hmlt m (List.mem_of_getElem? hk))]
      have := hpin k (by rw [hlen]; exact (List.getElem?_eq_some_iff.1 hk).1)
      rw [this, hnm k m hk]
    | none =>
      rw [rn_out k hk]
      show (if s.nx + k < s.nx then _ else ρc (s.nx + k - s.nx)) = _
      rw [if_neg (by omega), Nat.add_sub_cancel_left]
  have hback : kp = true → ∀ {A : Option Addr} {n : Nat} {vs : Nat → Value}, RdAt w (GoneC kp W C ρ ms) A n vs → RdAt W C A n vs := fun hkt {A n vs} h => by
    rcases h with h | ⟨ad, h1, h2, h3, h4⟩
    · exact .inl h
    · have hlt : ad.block < W.heap.size := Nat.lt_of_not_le fun e => h3 (.inr ⟨hkt, .inl e⟩)
      have hu : ¬ C.unr ad.block := fun e => h3 (.inr ⟨hkt, .inr e⟩)
      refine .inr ⟨ad, h1, hlt, hu, fun k hk => ?_⟩
      have hb : (ad.add k).block = ad.block := by unfold Addr.add; split <;> rfl
      have := h4 k hk
      rwa [World.cell?_of_block (w := W) (hp.old (ad.add k).block (by rw [hb]; exact hlt) (by rw [hb]; exact fun e => hu (C.le _ e)))] at this
  have hn : ∀ k y, ρc k = some y → ρ2 (rn ms s.nx k) = some y := fun k y hy => by rw [hρ2]; exact hy
  refine ⟨_, v, { s with L := renL kp (rn ms s.nx) L' ++ eraAll s.L ms, nx := s.nx + nx' }, ρ2, rfl, hsub, ren_den hback hn hr, ?_, rfl, rfl, hK, fun hnil => ⟨hpl.os, hpl.tape, hpl.output, hpl.size, fun k hk => hpl.old k hk (by rintro ⟨m, hm, _⟩; rw [hnil] at hm; cases hm)⟩⟩
  -- the heap behind the call
  have hlk : ∀ m o, lk (renL kp (rn ms s.nx) L' ++ eraAll s.L ms) m = some o → (∃ k o', m = rn ms s.nx k ∧ o = renO kp (rn ms s.nx) o' ∧ lk L' k = some o') ∨ (m ∉ ms ∧ lk s.L m = some o) := fun m o hm => by
    rw [lk_append] at hm
    cases hl : lk (renL kp (rn ms s.nx) L') m with
    | some o' =>
      rw [hl] at hm; simp at hm; subst hm
      exact .inl (lk_renL rn_inj L' hl)
    | none =>
      rw [hl] at hm
      simp only [Option.orElse_none] at hm
      rw [lk_eraAll] at hm
      split at hm
      · cases hm
      · rename_i hnm; exact .inr ⟨hnm, hm⟩
  have hρ2k : ∀ k y, ρ2 (rn ms s.nx k) = some y → ρc k = some y := fun k y hy => by rw [← hρ2]; exact hy
  have hold2 : ∀ m o, lk s.L m = some o → ∀ y, ρ2 m = some y → ρ m = some y := fun m o hm y hy => by
    have h' : (if m < s.nx then ρ m else ρc (m - s.nx)) = some y := hy
    rw [if_pos (hold m o hm)] at h'; exact h'
  have hngone : ∀ m o b x, m ∉ ms → lk s.L m = some o → ρ m = some (some (b, x)) → ¬ Gone ρ ms b := fun m o b x hm ho hx hg => by
    obtain ⟨m', hm', x', hx'⟩ := hg
    obtain ⟨o', ho'⟩ := hms m' hm'
    exact hp.apart m o m' o' b x b x' ho ho' (fun e => hm (e ▸ hm')) hx hx' rfl
  refine ⟨fun m o hm => ?_, fun m o m' o' b x b' x' hm hm' hne h1 h2 => ?_, fun m o b x hm hx => ?_, fun m hm => ?_, hpl.os.trans hp.os, hpl.tape.trans hp.tape, hpl.output.trans hp.output, Nat.le_trans hp.size hpl.size,
    fun b hb hc => ?_⟩
  · rcases hlk m o hm with ⟨k, o', rfl, rfl, hk⟩ | ⟨hnm', hm'⟩
    · have hob := hpl.obj k o' hk
      cases o' with
      | box cs =>
        obtain ⟨b, T, vs, h4, h5, h6⟩ := hob
        exact ⟨b, T, vs, hn _ _ h4, h5, ren1_denL hback hn h6⟩
      | row t xs =>
        rcases hob with ⟨h4, h5⟩ | ⟨b, o, c, T, vs, h4, h5, h6, h7, h8, h9⟩
        · exact .inl ⟨hn _ _ h4, h5⟩
        · exact .inr ⟨b, o, c, T, vs, hn _ _ h4, h5, h6, h7, h8, fun i f x av h10 h11 => let ⟨u, h12, h13⟩ := h9 i f x av h10 h11; ⟨u, h12, enc_den h11 h13⟩⟩
      | set kk mp es => obtain ⟨b, l, c, h4, h5, h6⟩ := hob; exact ⟨b, l, c, hn _ _ h4, h5, h6⟩
    · exact ((hp.obj m o hm').world fun b x hx => hpl.old b (hp.own m o b x hm' hx).1 (hngone m o b x hnm' hm' hx)).mono hsub
  · rcases hlk m o hm with ⟨k, o1, rfl, rfl, hk⟩ | ⟨hn1, hm1⟩ <;> rcases hlk m' o' hm' with ⟨k', o2, rfl, rfl, hk'⟩ | ⟨hn2, hm2⟩
    · exact hpl.apart k o1 k' o2 b x b' x' hk hk' (fun e => hne (by rw [e])) (hρ2k _ _ h1) (hρ2k _ _ h2)
    · intro e; subst e
      have h3 := hold2 _ _ hm2 _ h2
      have h4 := (hpl.own k o1 b x hk (hρ2k _ _ h1)).2
      have h5 := (hp.own m' o' b x' hm2 h3).1
      rcases h4 with h4 | h4
      · omega
      · exact hngone m' o' b x' hn2 hm2 h3 h4
    · intro e; subst e
      have h3 := hold2 _ _ hm1 _ h1
      have h4 := (hpl.own k' o2 b x' hk' (hρ2k _ _ h2)).2
      have h5 := (hp.own m o b x hm1 h3).1
      rcases h4 with h4 | h4
      · omega
      · exact hngone m o b x hn1 hm1 h3 h4
    · exact hp.apart m o m' o' b x b' x' hm1 hm2 hne (hold2 _ _ hm1 _ h1) (hold2 _ _ hm2 _ h2)
  · rcases hlk m o hm with ⟨k, o1, rfl, rfl, hk⟩ | ⟨hn1, hm1⟩
    · obtain ⟨h4, h5⟩ := hpl.own k o1 b x hk (hρ2k _ _ hx)
      refine ⟨h4, ?_⟩
      rcases h5 with h5 | h5
      · exact .inl (Nat.le_trans hp.size h5)
      · exact (gone_own hp hms h5).2
    · have h3 := hold2 _ _ hm1 _ hx
      obtain ⟨h4, h5⟩ := hp.own m o b x hm1 h3
      exact ⟨Nat.lt_of_lt_of_le h4 hpl.size, h5⟩
  · show (if m < s.nx then ρ m else ρc (m - s.nx)) = none
    have hm' : s.nx + nx' ≤ m := hm
    rw [if_neg (by omega)]
    exact hpl.above _ (by omega)
  · rw [hpl.old b (Nat.lt_of_lt_of_le hb hp.size) (fun hg => ?_)]
    · exact hp.old b hb hc
    · rcases (gone_own hp hms hg).2 with h | h
      · omega
      · exact hc h
end
end Go.Proofs.YthghcialeghgoaaDoorE
