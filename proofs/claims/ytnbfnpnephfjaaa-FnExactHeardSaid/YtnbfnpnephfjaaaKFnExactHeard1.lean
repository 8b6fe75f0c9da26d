/- A part of a proof that a law of the given program holds for every input: no condition. -/
import Derived.Laws.BytesString
import Derived.OrdersHeld
import Derived.Test.YtnbfnpnephfjaaaKFnExactHeard0

set_option linter.unusedSimpArgs false
set_option linter.unusedVariables false
/-! append: what it says is so; all operations that make or change memory together. -/
namespace Go.Proofs.YtnbfnpnephfjaaaE
open Go Go.RowKit
set_option linter.unusedSimpArgs false
set_option linter.unusedVariables false

section
variable {P : Program} {W : World} {C : CR} {ρ : Nm} {s : S} {a : Act} {w : World} {o : Oper} {K : AVal → S → Prop}

theorem HpOk.era {nx : Nat} {w : World} {L : Hp} (h : HpOk W C ρ nx w L) (m : Nat) : HpOk W C ρ nx w (era L m) := by
  have hl : ∀ k ob, lk (Go.Proofs.YtnbfnpnephfjaaaE.era L m) k = some ob → lk L k = some ob := fun k ob hk => by
    rw [lk_era] at hk; split at hk
    · cases hk
    · exact hk
  exact ⟨fun k ob hk => h.obj k ob (hl _ _ hk), fun k ob k' ob' b x b' x' h1 h2 h3 h4 h5 => h.apart k ob k' ob' b x b' x' (hl _ _ h1) (hl _ _ h2) h3 h4 h5,
    fun k ob b x h1 h2 => h.own k ob b x (hl _ _ h1) h2, fun k ob k' ob' b h1 h2 h3 => h.apartF k ob k' ob' b (hl _ _ h1) (hl _ _ h2) h3, fun k ob b h1 h2 => h.ownF k ob b (hl _ _ h1) h2, h.above, h.os, h.tape, h.output, h.size, h.old⟩

/-- A part of a row, where it lies. -/
theorem part_rows {t : Ty} {xs : List t.D} {vs : List Value} {o c : Nat} (h3 : o + c * sz t ≤ vs.length) (h4 : xs.length ≤ c)
    (h6 : ∀ (i f : Nat) (x : t.D) (av : AVal), xs[i]? = some x → (enc t x)[f]? = some av → ∃ u, vs[o + i * sz t + f]? = some u ∧ Den W C ρ av u) {lo len : Nat} (hl : lo + len ≤ xs.length) :
    RowsAt W C ρ t ((xs.drop lo).take len) ((vs.drop (o + lo * sz t)).take (len * sz t)) := by
  have hm : lo * sz t + len * sz t ≤ c * sz t := by rw [← Nat.add_mul]; exact Nat.mul_le_mul_right _ (by omega)
  have hlen : ((xs.drop lo).take len).length = len := by simp; omega
  refine ⟨by rw [hlen, List.length_take, List.length_drop]; omega, fun i f x av h1 h2 => ?_⟩
  have hf : f < sz t := by have := (List.getElem?_eq_some_iff.1 h2).1; rwa [enc_length] at this
  rw [List.getElem?_take] at h1
  split at h1
  · rename_i hi
    rw [List.getElem?_drop] at h1
    obtain ⟨u, h7, h8⟩ := h6 (lo + i) f x av h1 h2
    have hmi := mul_lt (s := sz t) hi (Nat.le_refl _)
    refine ⟨u, ?_, h8⟩
    rw [List.getElem?_take, if_pos (by omega), List.getElem?_drop, ← h7]
    congr 1
    rw [Nat.add_mul]; omega
  · cases h1

theorem part_cells {w : World} {b T : Nat} {vs : List Value} (h2 : w.heap[b]? = some (.cells ⟨vs⟩ T (0, 0))) (o n : Nat) : ∀ j u, ((vs.drop o).take n)[j]? = some u → w.cell? ((⟨b, o, none⟩ : Addr).add j) = some u := by
  intro j u hj
  rw [add_none, cell_row h2]
  rw [List.getElem?_take] at hj
  split at hj
  · rwa [List.getElem?_drop] at hj
  · cases hj

theorem rows_ok (hs : StOk W C ρ s a w) {t : Ty} {y : Operand} {K : List t.D → Prop} (h : rowsK t s.L (s.ev y) K) :
    ∃ ys A c news, K ys ∧ a.eval y = .slice A ys.length c ∧ RowsAt W C ρ t ys news ∧ (A = none → ys = []) ∧ ∀ ad, A = some ad → ∀ j u, news[j]? = some u → w.cell? (ad.add j) = some u := by
  have hd := hs.fr.ev y
  generalize hav : s.ev y = av at h hd
  generalize hv : a.eval y = v at hd
  unfold rowsK at h
  split at h
  · rename_i t' xs
    obtain rfl := castK_eq h
    have hk := castK_same h
    cases hd with
    | @rs _ _ A c vs hr hc hden =>
      refine ⟨xs, A, c, (List.range (xs.length * sz t')).map vs, hk, rfl, ⟨by simp, fun i f x av h1 h2 => ?_⟩, fun hA => ?_, fun ad hA j u hj => ?_⟩
      · have hi := (List.getElem?_eq_some_iff.1 h1).1
        have hf : f < sz t' := by have := (List.getElem?_eq_some_iff.1 h2).1; rwa [enc_length] at this
        have hm := mul_lt (s := sz t') hi (Nat.le_refl _)
        have hlt : i * sz t' + f < xs.length * sz t' := by omega
        exact ⟨_, by simp [hlt], hden i f x av h1 h2⟩
      · rcases hr with hr | ⟨ad, h1, _⟩
        · rcases Nat.mul_eq_zero.1 hr with h | h
          · exact List.length_eq_zero_iff.1 h
          · have := sz_pos t'; omega
        · rw [hA] at h1; cases h1
      · have hlt := (List.getElem?_eq_some_iff.1 hj).1
        simp at hlt
        simp [hlt] at hj
        subst hj
        exact rd_world hs.hp hr hA hlt
  · rename_i m z lo len
    split at h
    · rename_i t' xs hl
      obtain ⟨⟨rfl, hle⟩, h⟩ := h
      obtain rfl := castK_eq h
      have hk := castK_same h
      have hlen : ((xs.drop lo).take len).length = len := by simp; omega
      cases hd with
      | @sub _ _ _ _ b o' c ad hm hlc had =>
        rcases hs.hp.obj m _ hl with ⟨h1, _⟩ | ⟨b', o'', c', T, vs, h1, h2, h3, h4, h5, h6⟩
        · rw [hm] at h1; cases h1
        · rw [hm] at h1; cases h1
          refine ⟨_, some ad, c - lo, _, hk, by rw [hlen], part_rows h3 h4 h6 hle, fun h => (by cases h), fun ad' e j u hj => ?_⟩
          cases e
          by_cases hlt : lo < c
          · rw [had hlt]; exact part_cells h2 _ _ j u hj
          · have : len = 0 := by omega
            subst this; simp at hj
      | sub0 hm =>
        refine ⟨_, none, 0, [], hk, by simp, ⟨by simp, fun i f x av h1 => by simp at h1⟩, fun _ => by simp, fun ad e => by cases e⟩
    · exact h.elim
  · rename_i m z b o' lo n c
    split at h
    · rename_i tn xs es yn hl
      obtain ⟨⟨o1, c1, zs⟩, he, ⟨rfl, rfl, hle⟩, hk⟩ := someK_get h
      obtain ⟨hfl, hob, hfam⟩ := hs.hp.obj m _ hl
      obtain ⟨T, vs, h2, h3, h4, h5, h6⟩ := hfam b _ _ _ he
      obtain rfl := castK_eq hk
      have hk := castK_same hk
      dsimp only at hle hk h2 h3 h4 h6
      have hlen : ((zs.drop lo).take n).length = n := by simp; omega
      cases hd with
      | @fs _ _ _ _ _ _ _ ad hlc had =>
        refine ⟨_, some ad, c - lo, _, hk, by rw [hlen], part_rows h3 h4 h6 hle, fun h => (by cases h), fun ad' e j u hj => ?_⟩
        cases e
        by_cases hlt : lo < c
        · rw [had hlt]; exact part_cells h2 _ _ j u hj
        · have : n = 0 := by omega
          subst this; simp at hj
    · exact h.elim
  · cases hd with
    | v => exact ⟨[], none, 0, [], h, rfl, ⟨by simp, fun i f x av h1 => by simp at h1⟩, fun _ => rfl, fun ad e => by cases e⟩
  · exact h.elim

theorem run_new {t e : TypeId} {i : TypeInfo} (ht : P.underlying t = some (.slice e)) (hi : P.info? e = some i) {A : Option Addr} {n c : Nat} {news : List Value} {w : World} (hl : news.length = n * i.size) (hA : A = none → n = 0)
    (hc : ∀ ad, A = some ad → ∀ j u, news[j]? = some u → w.cell? (ad.add j) = some u) : (Builtin.firstCells i.size n (.slice A n c)).run P w = .ok news.toArray w := by
  cases A with
  | none =>
    have := hA rfl
    subst this
    have : news = [] := by simpa using hl
    subst this
    exact run_firstCells_none _ _ _ _ _
  | some ad => exact run_firstCells_some w _ _ ad _ _ news hl (hc ad rfl)

theorem run_room {t ty e : TypeId} {i : TypeInfo} (ht : P.underlying t = some (.slice e)) (hi : P.info? e = some i) {b o' T sLen sCap n c : Nat} {vs news : List Value} {A : Option Addr} {w : World}
    (hb : w.heap[b]? = some (.cells ⟨vs⟩ T (0, 0))) (hl : news.length = n * i.size) (hA : A = none → n = 0) (hc : ∀ ad, A = some ad → ∀ j u, news[j]? = some u → w.cell? (ad.add j) = some u)
    (h1 : ∀ u ∈ news, u.oneCell' = true) (hroom : sLen + n ≤ sCap) (hfit : o' + sLen * i.size + news.length ≤ vs.length) :
    (Builtin.append_ #[t, t] ty #[.slice (some ⟨b, o', none⟩) sLen sCap, .slice A n c]).run P w = .ok (.slice (some ⟨b, o', none⟩) (sLen + n) sCap) (w.setRow b ⟨spliceV vs (o' + sLen * i.size) news⟩) := by
  have hf := run_new (P := P) ht hi (c := c) hl hA hc
  have hst := run_storeCells_at P b (o' + sLen * i.size) T news 0 ⟨vs⟩ w hb (by simpa using hfit) h1
  simp only [Nat.add_zero] at hst
  simp [Builtin.append_, run_underlying ht, sizeOf, typeInfo, hi, Builtin.lenOf, hroom, hf, add_none, hst, spliceV]

/-- Nothing is appended where there is no room left. -/
theorem run_room0 {t ty e : TypeId} {i : TypeInfo} (ht : P.underlying t = some (.slice e)) (hi : P.info? e = some i) {D A : Option Addr} {sLen sCap c : Nat} {w : World} (hroom : sLen ≤ sCap) (hc : True) :
    (Builtin.append_ #[t, t] ty #[.slice D sLen sCap, .slice A 0 c]).run P w = .ok (.slice D sLen sCap) w := by
  have hf : (Builtin.firstCells i.size 0 (.slice A 0 c)).run P w = .ok #[] w := by
    cases A <;> simp [Builtin.firstCells, loadCells, loadCellsFrom]
  cases D <;> simp [Builtin.append_, run_underlying ht, sizeOf, typeInfo, hi, Builtin.lenOf, hroom, hf, storeCells]

theorem arr_app (l : List Value) (z : Array Value) : l.toArray ++ z = ⟨l ++ z.toList⟩ := by apply Array.toList_inj.1; simp

theorem selK_ex {α : Type} {sf : Bool} {xs : List α} {k : Nat} {F : List α → Prop} (h : selK sf (F (xs.drop k)) (F [])) : ∃ tl, F tl ∧ tl.length ≤ xs.length - k ∧ ∀ i x, tl[i]? = some x → xs[k + i]? = some x := by
  have two : F (xs.drop k) ∨ F [] := by
    cases sf with
    | false => exact .inr h
    | true => exact h
  rcases two with h | h
  · exact ⟨xs.drop k, h, by simp, fun i x h => by simpa using h⟩
  · exact ⟨[], h, by simp, fun i x h => by simp at h⟩

/-- Rows into which rows are written. -/
theorem splice_rows {t : Ty} {zs ys : List t.D} {vs news : List Value} {o' c p : Nat} (h3 : o' + c * sz t ≤ vs.length) (h4 : zs.length ≤ c) (h6 : ∀ (i f : Nat) (x : t.D) (av : AVal), zs[i]? = some x → (enc t x)[f]? = some av → ∃ u, vs[o' + i * sz t + f]? = some u ∧ Den W C ρ av u)
    (hr : RowsAt W C ρ t ys news) (hp : p ≤ zs.length) (hk : p + ys.length ≤ c) : ∀ (i f : Nat) (x : t.D) (av : AVal), (zs.take p ++ ys ++ zs.drop (p + ys.length))[i]? = some x → (enc t x)[f]? = some av →
      ∃ u, (spliceV vs (o' + p * sz t) news)[o' + i * sz t + f]? = some u ∧ Den W C ρ av u := by
  intro i f x av h1 h2
  have hf : f < sz t := by have := (List.getElem?_eq_some_iff.1 h2).1; rwa [enc_length] at this
  have hmk : p * sz t + ys.length * sz t ≤ c * sz t := by rw [← Nat.add_mul]; exact Nat.mul_le_mul_right _ hk
  rw [get_splice (by rw [hr.1]; omega), hr.1]
  have hpl : (zs.take p).length = p := by rw [List.length_take]; omega
  rw [List.append_assoc, List.getElem?_append, hpl] at h1
  split at h1
  · rename_i hi
    rw [List.getElem?_take, if_pos hi] at h1
    obtain ⟨u, h7, h8⟩ := h6 i f x av h1 h2
    have := mul_lt (s := sz t) hi (Nat.le_refl _)
    exact ⟨u, by rw [if_neg (by omega)]; exact h7, h8⟩
  · rename_i hi
    rw [List.getElem?_append] at h1
    split at h1
    · rename_i hi2
      obtain ⟨u, h7, h8⟩ := hr.2 (i - p) f x av h1 h2
      have hm := mul_lt (s := sz t) hi2 (Nat.le_refl _)
      have e1 : i * sz t = p * sz t + (i - p) * sz t := by rw [← Nat.add_mul]; congr 1; omega
      exact ⟨u, by rw [if_pos (by omega), ← h7]; congr 1; omega, h8⟩
    · rename_i hi2
      rw [List.getElem?_drop] at h1
      obtain ⟨u, h7, h8⟩ := h6 _ f x av h1 h2
      have e0 : p + ys.length + (i - p - ys.length) = i := by omega
      rw [e0] at h7
      have : (p + ys.length) * sz t ≤ i * sz t := Nat.mul_le_mul_right _ (by omega)
      rw [Nat.add_mul] at this
      exact ⟨u, by rw [if_neg (by omega)]; exact h7, h8⟩

/-- append to an inner row. -/
theorem appF_ok (hs : StOk W C ρ s a w) {t e : TypeId} {ty : Ty} {x y : Operand} (ho : o.op = .call ⟨.builtin .append, #[x, y], #[t, t]⟩) (ht : P.underlying t = some (.slice e)) {i : TypeInfo} {z : Value} (hi : P.info? e = some i) (hz : i.zero = some z)
    (hsz : i.size = sz ty) (hzz : z.cells.toList = zer ty) (hb : 0 < i.bytes) {ys : List ty.D} {A : Option Addr} {c0 : Nat} {news : List Value} (hy : a.eval y = .slice A ys.length c0) (hrows : RowsAt W C ρ ty ys news) (hA : A = none → ys = [])
    (hcells : ∀ ad, A = some ad → ∀ j u, news[j]? = some u → w.cell? (ad.add j) = some u) {m zz b o' lo n c : Nat} (hev : s.ev x = .fs m zz b o' lo n c) (h : appF ty i.bytes s m zz b o' lo n c ys K) : WRes false P W C ρ s a w o K := by
  have hA' : A = none → ys.length = 0 := fun e => by rw [hA e]; rfl
  have hl : news.length = ys.length * i.size := by rw [hsz]; exact hrows.1
  have hzs : z.cells.size = sz ty := by
    have := congrArg List.length hzz
    rw [Array.length_toList, zer_length] at this
    exact this
  have hexec : ∀ dv r w', a.eval x = dv → (Builtin.append_ #[t, t] o.type #[dv, .slice A ys.length c0]).run P w = .ok r w' → (execOp a.eval o).run P w = .ok (.value r) w' := by
    intro dv r w' hx hr
    unfold execOp; rw [ho]
    simp [resolve, invoke, builtin, hx, hy, hr]
  have hx := hs.fr.ev x
  rw [hev] at hx
  unfold appF at h
  split at h
  · rename_i tn xs es yn hlk
    obtain ⟨⟨o1, c1, zs⟩, he, ⟨rfl, rfl, rfl, hle, hbound⟩, h⟩ := someK_get h
    obtain rfl := castK_eq h
    replace h := castK_same h
    obtain ⟨hin, hout⟩ := h
    obtain ⟨hfl, hob, hfam⟩ := hs.hp.obj m _ hlk
    obtain ⟨T, vs, h2, h3, h4, h5, h6⟩ := hfam b _ _ _ he
    dsimp only at hle h2 h3 h4 h5 h6 hin hout hx he
    have hbne : ∀ x1, ρ m ≠ some (some (b, x1)) := (hs.hp.apartF m _ m _ b hlk hlk (by simp [FootO, he])).1
    have holds := part_rows h3 h4 h6 hle
    have hlen : ((zs.drop lo).take n).length = n := by simp; omega
    generalize hv : a.eval x = v at hx
    cases hx with
    | @fs _ _ _ _ _ _ _ ad hlc had =>
      have hm0 : lo * sz (inn tn) + (c1 - lo) * sz (inn tn) = c1 * sz (inn tn) := by rw [← Nat.add_mul]; congr 1; omega
      -- the family behind a change of one inner row
      have famch : ∀ (w' : World) (zs' : List (inn tn).D), (∀ k, k ≠ b → w'.heap[k]? = w.heap[k]?) → Reads W C ρ w' (inn tn) b o1 c1 zs' → ObjOk W C ρ w' m (.nrow tn xs (fput es b (o1, c1, zs')) yn) := by
        intro w' zs' hk hR
        refine ⟨hfl, ?_, fun b1 o2 c2 zs2 he2 => ?_⟩
        · rcases hob with h8 | ⟨b', o'', c', T', vs', h8, h9, h10, h11, h12, h13, h14⟩
          · exact .inl h8
          · have hne : b' ≠ b := fun e => hbne _ (e ▸ h8)
            refine .inr ⟨b', o'', c', T', vs', h8, (hk b' hne).trans h9, h10, h11, h12, ?_, h14⟩
            unfold fput
            rw [if_neg hne]; exact h13
        · unfold fput at he2
          by_cases e : b1 = b
          · subst e
            rw [if_pos rfl] at he2
            cases he2
            exact hR
          · rw [if_neg e] at he2
            exact (hfam b1 o2 c2 zs2 he2).world (hk b1 e)
      have footch : ∀ (y1 : Nat × Nat × List (inn tn).D) (k : Nat), FootO (.nrow tn xs (fput es b y1) yn) k → FootO (.nrow tn xs es yn) k := by
        intro y1 k hk
        show (es k).isSome = true
        have hk : (fput es b y1 k).isSome = true := hk
        unfold fput at hk
        split at hk
        · rename_i e; subst e; rw [he]; rfl
        · exact hk
      by_cases hroom : n + ys.length ≤ c1 - lo
      · have hK := hin hroom
        by_cases hcl : lo < c1
        · have hm1 : n * sz (inn tn) + ys.length * sz (inn tn) ≤ (c1 - lo) * sz (inn tn) := by rw [← Nat.add_mul]; exact Nat.mul_le_mul_right _ hroom
          rw [had hcl] at hv
          have hfit : o1 + lo * sz (inn tn) + n * i.size + news.length ≤ vs.length := by rw [hsz, hrows.1]; omega
          have hr := run_room (P := P) (ty := o.type) ht hi (c := c0) (sLen := n) (sCap := c1 - lo) h2 hl hA' hcells hrows.one hroom hfit
          have e1 : o1 + lo * sz (inn tn) + n * i.size = o1 + (lo + n) * sz (inn tn) := by rw [hsz, Nat.add_mul]; omega
          rw [e1] at hr
          refine ⟨_, _, _, _, ρ, hK, .inl (hexec _ _ _ hv hr), Sub0.refl _, .fs (by omega) (fun _ => rfl), rfl, rfl, ?_, fun e => by cases e⟩
          refine hs.hp.change' hlk (b := b) (.inr (by simp [FootO, he])) rfl rfl rfl (by simp) (fun k hk => heap_setRow_other _ _ _ _ hk) (footch _) (famch _ _ (fun k hk => heap_setRow_other _ _ _ _ hk) ⟨T, _, heap_setRow_same _ _ _ h2, ?_, ?_, h5, splice_rows h3 h4 h6 hrows hle (by omega)⟩)
          · have : (lo + n) * sz (inn tn) = lo * sz (inn tn) + n * sz (inn tn) := Nat.add_mul _ _ _
            simp only [spliceV, List.length_append, List.length_take, List.length_drop, hrows.1]; omega
          · simp; omega
        · have e1 : n = 0 := by omega
          have e2 : ys.length = 0 := by omega
          have hys : ys = [] := List.length_eq_zero_iff.1 e2
          refine ⟨_, _, _, w, ρ, hK, .inl (hexec _ _ _ hv (by rw [e2]; exact run_room0 (P := P) ht hi (by omega) trivial)), Sub0.refl _, ?_, rfl, rfl, ?_, fun e => by cases e⟩
          · rw [e2]; exact .fs hlc had
          · refine hs.hp.change' hlk (b := b) (.inr (by simp [FootO, he])) rfl rfl rfl rfl (fun k hk => rfl) (footch _) (famch _ _ (fun k hk => rfl) ?_)
            subst hys
            simp only [List.append_nil, List.length_nil, Nat.add_zero, List.take_append_drop]
            exact ⟨T, vs, h2, h3, h4, h5, h6⟩
      · have hy0 : 0 < ys.length := by omega
        cases A with
        | none => have := hA' rfl; omega
        | some ad' =>
          have hbl : (n + ys.length) ≤ (n + ys.length) * i.bytes := Nat.le_mul_of_pos_right _ hb
          have hcl : ∀ j u, ((vs.drop (o1 + lo * sz (inn tn))).take (n * sz (inn tn)))[j]? = some u → w.cell? (ad.add j) = some u := by
            intro j u hj
            by_cases hlt : lo < c1
            · rw [had hlt]; exact part_cells h2 _ _ j u hj
            · have : n = 0 := by omega
              subst this; simp at hj
          have hall := holds.append hrows
          have hlen2 : ((zs.drop lo).take n ++ ys).length = n + ys.length := by rw [List.length_append, hlen]
          have hr := run_append_grow (P := P) w t o.type e i z ht hi hz ad n (c1 - lo) _ (by rw [hsz, holds.1, hlen]) hcl ad' ys.length c0 news hl (hcells ad' rfl) (by omega)
            (by unfold appRoom at hbound; omega) (growslice_fits (by omega) (by unfold appRoom at hbound; omega))
          have hcap := grownCap_ge w (n + ys.length) (c1 - lo) e
          have hesn : es w.heap.size = none := by
            cases h : es w.heap.size with
            | none => rfl
            | some y => have := (hs.hp.ownF m _ w.heap.size hlk (by simp [FootO, h])).1; omega
          have hK := hout hroom w.heap.size (grownCap w (n + ys.length) (c1 - lo) e) hesn hcap
          refine ⟨_, _, _, _, ρ, hK, .inl (hexec _ _ _ hv hr), Sub0.refl _, ?_, rfl, rfl, ?_, fun e => by cases e⟩
          · have := Den.fs (W := W) (C := C) (ρ := ρ) (m := m) (z := sz (inn tn)) (b := w.heap.size) (o := 0) (lo := 0) (n := n + ys.length) (c := grownCap w (n + ys.length) (c1 - lo) e) (ad := ⟨w.heap.size, 0, none⟩) (by omega) (fun _ => by simp)
            simpa using this
          · have hbel := (Below.drew (Below.refl w.heap.size w)).alloc (Nat.le_refl _) (.cells ((((vs.drop (o1 + lo * sz (inn tn))).take (n * sz (inn tn)) ++ news) ++ (Builtin.zeroCells z.cells (grownCap w (n + ys.length) (c1 - lo) e - (n + ys.length))).toList).toArray) e)
            rw [List.append_toArray, arr_app]
            refine hs.hp.turn (E := s.L) (fun _ _ hk => hk) hlk hbel.os hbel.tape hbel.output hbel.size (fun k ob b1 hk hne hf => ?_) (fun b1 hb1 hc1 => hbel.block b1 (Nat.lt_of_lt_of_le hb1 hs.hp.size)) (fun b1 hf => ?_) ⟨hfl, ?_, fun b1 o2 c2 zs2 he2 => ?_⟩
            · have hlt := (hs.hp.foot_own hk hf).1
              refine ⟨hbel.block b1 hlt, fun hf2 => ?_⟩
              have hf2 : (fput es w.heap.size _ b1).isSome = true := hf2
              unfold fput at hf2
              rw [if_neg (by omega)] at hf2
              exact hs.hp.foot_apart hk hlk hne hf (.inr hf2)
            · have hf : (fput es w.heap.size _ b1).isSome = true := hf
              unfold fput at hf
              split at hf
              · rename_i e1; subst e1
                exact ⟨⟨by simp, .inl hs.hp.size⟩, fun x1 hx1 => by have := (hs.hp.own m _ _ _ hlk hx1).1; omega⟩
              · have := hs.hp.ownF m _ b1 hlk hf
                exact ⟨⟨Nat.lt_of_lt_of_le this.1 hbel.size, this.2⟩, (hs.hp.apartF m _ m _ b1 hlk hlk hf).1⟩
            · rcases hob with h8 | ⟨b', o'', c', T', vs', h8, h9, h10, h11, h12, h13, h14⟩
              · exact .inl h8
              · have hlt := (hs.hp.own m _ _ _ hlk h8).1
                refine .inr ⟨b', o'', c', T', vs', h8, (hbel.block b' hlt).trans h9, h10, h11, h12, ?_, h14⟩
                unfold fput
                rw [if_neg (by omega)]; exact h13
            · unfold fput at he2
              split at he2
              · rename_i e1; subst e1
                cases he2
                have hzl : (Builtin.zeroCells z.cells (grownCap w (n + ys.length) (c1 - lo) e - (n + ys.length))).toList.length = (grownCap w (n + ys.length) (c1 - lo) e - (n + ys.length)) * sz (inn tn) := by
                  have e1 := size_zeroCells z.cells (grownCap w (n + ys.length) (c1 - lo) e - (n + ys.length))
                  rw [← Array.length_toList, hzs] at e1
                  exact e1
                refine ⟨e, _, heap_alloc_new _ _, ?_, by rw [hlen2]; exact hcap, grownCap_le_maxLen w _ _ e (by unfold appRoom at hbound; show _ ≤ 9223372036854775807; omega), fun i1 f1 x1 av1 h7 h8 => ?_⟩
                · rw [List.length_append, hall.1, hlen2, hzl, ← Nat.add_mul, Nat.zero_add]
                  exact Nat.le_of_eq (by congr 1; omega)
                · obtain ⟨u, h9, h10⟩ := hall.2 i1 f1 x1 av1 h7 h8
                  exact ⟨u, by rw [Nat.zero_add, List.getElem?_append_left (List.getElem?_eq_some_iff.1 h9).1]; exact h9, h10⟩
              · exact (hfam b1 o2 c2 zs2 he2).world (hbel.block b1 (hs.hp.ownF m _ b1 hlk (by simp [FootO, he2])).1)
  · exact h.elim

/-- A part of a row of cells, where it lies. -/
theorem part_rowsC {z o' c : Nat} {CL : List (List AVal)} {vs : List Value} (hz : ∀ x ∈ CL, x.length = z) (h3 : o' + c * z ≤ vs.length) (h4 : CL.length ≤ c)
    (h6 : ∀ (i f : Nat) (cs : List AVal) (av : AVal), CL[i]? = some cs → cs[f]? = some av → ∃ u, vs[o' + i * z + f]? = some u ∧ Den W C ρ av u) {lo len : Nat} (hl : lo + len ≤ CL.length) :
    RowsC W C ρ z ((CL.drop lo).take len) ((vs.drop (o' + lo * z)).take (len * z)) := by
  have hm : lo * z + len * z ≤ c * z := by rw [← Nat.add_mul]; exact Nat.mul_le_mul_right _ (by omega)
  have hlen : ((CL.drop lo).take len).length = len := by simp; omega
  refine ⟨by rw [hlen, List.length_take, List.length_drop]; omega, fun i f x av h1 h2 => ?_⟩
  rw [List.getElem?_take] at h1
  split at h1
  · rename_i hi
    rw [List.getElem?_drop] at h1
    have hf : f < z := by have := (List.getElem?_eq_some_iff.1 h2).1; rwa [hz x (List.mem_of_getElem? h1)] at this
    obtain ⟨u, h7, h8⟩ := h6 (lo + i) f x av h1 h2
    have hmi := mul_lt (s := z) hi (Nat.le_refl _)
    refine ⟨u, ?_, h8⟩
    rw [List.getElem?_take, if_pos (by omega), List.getElem?_drop, ← h7]
    congr 1
    rw [Nat.add_mul]; omega
  · cases h1

/-- What append leaves: a slice of elements' cells. -/
structure AppRes (W : World) (C : CR) (ρ : Nm) (w : World) (z : Nat) (old : Option Nat) (len : Nat) (CR' : List (List AVal)) (r : Value) (w' : World) (b o' cap : Nat) : Prop where
  val : ∃ ad : Addr, r = .slice (some ad) len cap ∧ (0 < cap → ad = ⟨b, o', none⟩)
  fits : len ≤ cap
  reads : ∃ T vs, w'.heap[b]? = some (.cells ⟨vs⟩ T (0, 0)) ∧ o' + cap * z ≤ vs.length ∧ ∀ (i f : Nat) (cs : List AVal) (av : AVal), CR'[i]? = some cs → cs[f]? = some av → ∃ u, vs[o' + i * z + f]? = some u ∧ Den W C ρ av u
  room : CR'.length ≤ cap
  most : cap ≤ mostLen
  os : w'.os = w.os
  tape : w'.tape = w.tape
  output : w'.output = w.output
  size : w.heap.size ≤ w'.heap.size
  where_ : (old = some b ∧ ∀ k, k ≠ b → w'.heap[k]? = w.heap[k]?) ∨ (b = w.heap.size ∧ b < w'.heap.size ∧ ∀ k, k < w.heap.size → w'.heap[k]? = w.heap[k]?)

theorem app_nil {t e : TypeId} {ty : Ty} {rt : TypeId} (ht : P.underlying t = some (.slice e)) {i : TypeInfo} {z : Value} (hi : P.info? e = some i) (hz : i.zero = some z) (hsz : i.size = sz ty) (hzz : z.cells.toList = zer ty) (hb : 0 < i.bytes)
    {CY : List (List AVal)} (hCY : ∀ c ∈ CY, c.length = sz ty) {A : Option Addr} {c0 : Nat} {news : List Value} (hrows : RowsC W C ρ (sz ty) CY news) (hA : A = none → CY.length = 0) (hcells : ∀ ad, A = some ad → ∀ j u, news[j]? = some u → w.cell? (ad.add j) = some u)
    (hbound : CY.length * i.bytes ≤ appRoom) (h0 : CY.length ≠ 0) :
    ∃ r w' b o' cap, (Builtin.append_ #[t, t] rt #[.slice none 0 0, .slice A CY.length c0]).run P w = .ok r w' ∧ AppRes W C ρ w (sz ty) none CY.length CY r w' b o' cap := by
  have hl : news.length = CY.length * i.size := by rw [hsz]; exact hrows.1
  have hzs : z.cells.size = sz ty := by
    have := congrArg List.length hzz
    rw [Array.length_toList, zer_length] at this
    exact this
  cases A with
  | none => exact absurd (hA rfl) h0
  | some ad =>
    have hr := run_append_nil (P := P) w t rt e i z ht hi hz ad CY.length c0 news hl (hcells ad rfl) (by omega) (by unfold appRoom at hbound; have := Nat.le_mul_of_pos_right CY.length hb; omega) (by unfold appRoom at hbound; omega)
    have hcap := grownCap_ge w CY.length 0 e
    rw [arr_app] at hr
    have hbel := (Below.drew (Below.refl w.heap.size w)).alloc (Nat.le_refl _) (.cells ⟨news ++ (Builtin.zeroCells z.cells (grownCap w CY.length 0 e - CY.length)).toList⟩ e)
    refine ⟨_, _, w.heap.size, 0, grownCap w CY.length 0 e, hr, ⟨⟨_, rfl, fun _ => rfl⟩, hcap, ⟨e, _, heap_alloc_new _ _, ?_, fun i1 f cs av h1 h2 => ?_⟩, hcap, grownCap_le_maxLen w _ _ e (by unfold appRoom at hbound; have := Nat.le_mul_of_pos_right CY.length hb; show _ ≤ 9223372036854775807; omega),
      hbel.os, hbel.tape, hbel.output, hbel.size, .inr ⟨rfl, by simp, fun k hk => hbel.block k hk⟩⟩⟩
    · have e1 := size_zeroCells z.cells (grownCap w CY.length 0 e - CY.length)
      rw [← Array.length_toList, hzs] at e1
      rw [List.length_append, hrows.1, e1, ← Nat.add_mul, Nat.zero_add]
      exact Nat.le_of_eq (by congr 1; omega)
    · obtain ⟨u, h3, h4⟩ := hrows.2 i1 f cs av h1 h2
      exact ⟨u, by rw [Nat.zero_add, List.getElem?_append_left (List.getElem?_eq_some_iff.1 h3).1]; exact h3, h4⟩

theorem app_sub {t e : TypeId} {ty : Ty} {rt : TypeId} (ht : P.underlying t = some (.slice e)) {i : TypeInfo} {z : Value} (hi : P.info? e = some i) (hz : i.zero = some z) (hsz : i.size = sz ty) (hzz : z.cells.toList = zer ty) (hb : 0 < i.bytes)
    {CL CY tl : List (List AVal)} (hCL : ∀ c ∈ CL, c.length = sz ty) (hCY : ∀ c ∈ CY, c.length = sz ty) (hone : ∀ c ∈ CY, c.all oneA = true) {A : Option Addr} {c0 : Nat} {news : List Value} (hrows : RowsC W C ρ (sz ty) CY news) (hA : A = none → CY.length = 0)
    (hcells : ∀ ad, A = some ad → ∀ j u, news[j]? = some u → w.cell? (ad.add j) = some u) {b o' cap T len : Nat} {vs : List Value} {ad : Addr} (had : 0 < cap → ad = ⟨b, o', none⟩) (h2 : w.heap[b]? = some (.cells ⟨vs⟩ T (0, 0))) (h3 : o' + cap * sz ty ≤ vs.length)
    (h4 : CL.length ≤ cap) (h5 : cap ≤ mostLen) (hlen : len ≤ CL.length) (h6 : ∀ (i f : Nat) (cs : List AVal) (av : AVal), CL[i]? = some cs → cs[f]? = some av → ∃ u, vs[o' + i * sz ty + f]? = some u ∧ Den W C ρ av u)
    (hbound : (len + CY.length) * i.bytes ≤ appRoom) (hor : len = CL.length ∨ len + CY.length ≤ CL.length) (htl1 : tl.length ≤ CL.length - (len + CY.length)) (htl2 : ∀ i x, tl[i]? = some x → CL[len + CY.length + i]? = some x) :
    ∃ r w' b1 o1 cap1, (Builtin.append_ #[t, t] rt #[.slice (some ad) len cap, .slice A CY.length c0]).run P w = .ok r w' ∧ AppRes W C ρ w (sz ty) (some b) (len + CY.length) (CL.take len ++ CY ++ tl) r w' b1 o1 cap1 := by
  have hl : news.length = CY.length * i.size := by rw [hsz]; exact hrows.1
  have hzs : z.cells.size = sz ty := by
    have := congrArg List.length hzz
    rw [Array.length_toList, zer_length] at this
    exact this
  have holds := part_rowsC hCL h3 h4 h6 (lo := 0) (len := len) (by omega)
  rw [List.drop_zero, Nat.zero_mul, Nat.add_zero] at holds
  have hlen' : (CL.take len).length = len := by simp; omega
  have hall := holds.append (fun c hc => hCL c (List.mem_of_mem_take hc)) hrows
  have hlen2 : (CL.take len ++ CY).length = len + CY.length := by rw [List.length_append, hlen']
  by_cases hroom : len + CY.length ≤ cap
  · by_cases hcl : 0 < cap
    · have hm1 : len * sz ty + CY.length * sz ty ≤ cap * sz ty := by rw [← Nat.add_mul]; exact Nat.mul_le_mul_right _ hroom
      rw [had hcl]
      have hfit : o' + len * i.size + news.length ≤ vs.length := by rw [hsz, hrows.1]; omega
      have hr := run_room (P := P) (ty := rt) ht hi (c := c0) (sLen := len) (sCap := cap) h2 hl hA hcells (hrows.one (sz_pos ty) hCY hone) hroom hfit
      refine ⟨_, _, b, o', cap, hr, ⟨⟨_, rfl, fun _ => rfl⟩, hroom, ⟨T, _, heap_setRow_same _ _ _ h2, ?_, fun i1 f1 x1 av1 h7 h8 => ?_⟩, ?_, h5, rfl, rfl, rfl, by simp, .inl ⟨rfl, fun k hk => heap_setRow_other _ _ _ _ hk⟩⟩⟩
      · simp only [spliceV, List.length_append, List.length_take, List.length_drop]; omega
      · by_cases hbe : len + CY.length ≤ i1
        · rw [List.getElem?_append_right (by rw [hlen2]; exact hbe), hlen2] at h7
          have h7' := htl2 _ _ h7
          rw [show len + CY.length + (i1 - (len + CY.length)) = i1 by omega] at h7'
          obtain ⟨u, h9, h10⟩ := h6 _ f1 x1 av1 h7' h8
          refine ⟨u, ?_, h10⟩
          have hmm : len * sz ty + CY.length * sz ty ≤ i1 * sz ty := by rw [← Nat.add_mul]; exact Nat.mul_le_mul_right _ hbe
          rw [get_splice (by omega), if_neg (by rw [hsz, hrows.1]; omega), ← h9]
        rw [List.getElem?_append_left (by rw [hlen2]; omega)] at h7
        obtain ⟨u, h9, h10⟩ := hall.2 i1 f1 x1 av1 h7 h8
        refine ⟨u, ?_, h10⟩
        rw [get_splice (by omega)]
        have hol : ((vs.drop o').take (len * sz ty)).length = len * sz ty := by rw [holds.1, hlen']
        rw [List.getElem?_append, hol] at h9
        split at h9
        · rename_i hlt
          rw [if_neg (by rw [hsz]; omega)]
          rw [List.getElem?_take, if_pos hlt, List.getElem?_drop] at h9
          rw [← h9]; congr 1; omega
        · rename_i hge
          have := (List.getElem?_eq_some_iff.1 h9).1
          rw [if_pos (by rw [hsz]; omega), ← h9]
          congr 1; rw [hsz]; omega
      · rw [List.length_append, hlen2]; omega
    · have e1 : len = 0 := by omega
      have e2 : CY.length = 0 := by omega
      have hys : CY = [] := List.length_eq_zero_iff.1 e2
      have htl0 : tl = [] := List.length_eq_zero_iff.1 (by omega)
      subst htl0
      subst e1
      refine ⟨_, _, b, o', cap, by rw [e2]; exact run_room0 (P := P) ht hi (by omega) trivial, ⟨⟨ad, by rw [e2], had⟩, by omega, ⟨T, vs, h2, h3, fun i1 f1 x1 av1 h7 => by simp [hys] at h7⟩, by simp [hys], h5, rfl, rfl, rfl, Nat.le_refl _, .inl ⟨rfl, fun k hk => rfl⟩⟩⟩
  · have hy0 : 0 < CY.length := by rcases hor with h | h <;> omega
    have htl0 : tl = [] := List.length_eq_zero_iff.1 (by rcases hor with h | h <;> omega)
    subst htl0
    rw [List.append_nil]
    cases A with
    | none => have := hA rfl; omega
    | some ad' =>
      have hbl : (len + CY.length) ≤ (len + CY.length) * i.bytes := Nat.le_mul_of_pos_right _ hb
      have hcl : ∀ j u, ((vs.drop o').take (len * sz ty))[j]? = some u → w.cell? (ad.add j) = some u := by
        intro j u hj
        by_cases hlt : 0 < cap
        · rw [had hlt]; exact part_cells h2 _ _ j u hj
        · have : len = 0 := by omega
          subst this; simp at hj
      have hr := run_append_grow (P := P) w t rt e i z ht hi hz ad len cap _ (by rw [hsz, holds.1, hlen']) hcl ad' CY.length c0 news hl (hcells ad' rfl) (by omega)
        (by unfold appRoom at hbound; omega) (growslice_fits (by omega) (by unfold appRoom at hbound; omega))
      have hcap := grownCap_ge w (len + CY.length) cap e
      rw [List.append_toArray, arr_app] at hr
      have hbel := (Below.drew (Below.refl w.heap.size w)).alloc (Nat.le_refl _) (.cells ⟨((vs.drop o').take (len * sz ty) ++ news) ++ (Builtin.zeroCells z.cells (grownCap w (len + CY.length) cap e - (len + CY.length))).toList⟩ e)
      refine ⟨_, _, w.heap.size, 0, grownCap w (len + CY.length) cap e, hr, ⟨⟨_, rfl, fun _ => rfl⟩, hcap, ⟨e, _, heap_alloc_new _ _, ?_, fun i1 f cs av h7 h8 => ?_⟩, by rw [hlen2]; exact hcap, grownCap_le_maxLen w _ _ e (by unfold appRoom at hbound; show _ ≤ 9223372036854775807; omega),
        hbel.os, hbel.tape, hbel.output, hbel.size, .inr ⟨rfl, by simp, fun k hk => hbel.block k hk⟩⟩⟩
      · have e1 := size_zeroCells z.cells (grownCap w (len + CY.length) cap e - (len + CY.length))
        rw [← Array.length_toList, hzs] at e1
        rw [List.length_append, hall.1, hlen2, e1, ← Nat.add_mul, Nat.zero_add]
        exact Nat.le_of_eq (by congr 1; omega)
      · obtain ⟨u, h9, h10⟩ := hall.2 i1 f cs av h7 h8
        exact ⟨u, by rw [Nat.zero_add, List.getElem?_append_left (List.getElem?_eq_some_iff.1 h9).1]; exact h9, h10⟩

/-- The state behind an append to a row of rows. -/
theorem app_fin (hs : StOk W C ρ s a w) {t : Ty} (hfl : flat t = false) {E : Hp} (hE : ∀ k ob, lk E k = some ob → lk s.L k = some ob) {len : Nat} {xs : List (NR t)} {es : Fam t} {ys : List t.D} {CR' : List (List AVal)} {r : Value} {w' : World} {old : Option Nat} {b o' cap : Nat}
    (hold : ∀ b0, old = some b0 → ∃ m o x, lk s.L m = some o ∧ lk E m = none ∧ ρ m = some (some (b0, x))) (hR : AppRes W C ρ w (sz t) old len CR' r w' b o' cap) (hlen : CR'.length = xs.length + ys.length)
    (hcells : ∀ (i f : Nat) (cs : List AVal) (av : AVal), (cellsN t s.nx xs ys)[i]? = some cs → cs[f]? = some av → ∃ cs' av', CR'[i]? = some cs' ∧ cs'[f]? = some av' ∧ ∀ u, Den W C ρ av' u → Den W C ρ av u)
    (hfam : FamOk W C ρ w es) (hF : ∀ c, (es c).isSome = true → ∃ m o, lk s.L m = some o ∧ lk E m = none ∧ FootO o c) (hK : K (.sub s.nx (sz t) 0 len) ((s.hp E).add (.nrow t xs es ys)))
    (hrun : (execOp a.eval o).run P w = .ok (.value r) w') : WRes false P W C ρ s a w o K := by
  obtain ⟨ad, rfl, had⟩ := hR.val
  obtain ⟨T, vs, h2, h3, h6⟩ := hR.reads
  have hns := nset_sub (hs.hp.above s.nx (Nat.le_refl _)) (some (b, o', cap))
  -- the block is of nothing that is kept
  have hbk : ∀ k ob c, lk E k = some ob → Foot ρ k ob c → c ≠ b := fun k ob c hk hf e => by
    subst e
    rcases hR.where_ with ⟨e, _⟩ | ⟨e, _⟩
    · obtain ⟨m, o1, x, h7, h8, h9⟩ := hold _ e
      exact hs.hp.foot_apart (hE _ _ hk) h7 (fun e => by subst e; rw [h8] at hk; cases hk) hf (.inl ⟨x, h9⟩)
    · have := (hs.hp.foot_own (hE _ _ hk) hf).1; omega
  have hbF : ∀ c, (es c).isSome = true → c ≠ b := fun c hc e => by
    subst e
    obtain ⟨m1, o1, h7, h8, h9⟩ := hF c hc
    rcases hR.where_ with ⟨e, _⟩ | ⟨e, _⟩
    · obtain ⟨m, o2, x, h10, h11, h12⟩ := hold _ e
      exact (hs.hp.apartF m1 o1 m o2 c h7 h10 h9).1 x h12
    · have := (hs.hp.ownF m1 o1 c h7 h9).1; omega
  have hkeep : ∀ c, c ≠ b → c < w.heap.size → w'.heap[c]? = w.heap[c]? := fun c hc hlt => by
    rcases hR.where_ with ⟨_, e⟩ | ⟨_, _, e⟩
    · exact e c hc
    · exact e c hlt
  refine ⟨_, _, _, w', nset ρ s.nx (some (b, o', cap)), hK, .inl hrun, hns, ?_, rfl, rfl, ?_, fun e => by cases e⟩
  · have := Den.sub (W := W) (C := C) (ρ := nset ρ s.nx (some (b, o', cap))) (m := s.nx) (s := sz t) (lo := 0) (len := len) (ad := ad) (nset_same _ _ _) (by have := hR.fits; omega) (fun h => by rw [had h]; simp)
    simpa using this
  · have key := hs.hp.ext' (E := E) (w' := w') (v := some (b, o', cap)) (o := .nrow t xs es ys) hE hR.os hR.tape hR.output hR.size
      (fun k ob c hk hf => ⟨hkeep c (hbk k ob c hk hf) (hs.hp.foot_own (hE _ _ hk) hf).1, fun x' e => by cases e; exact hbk k ob _ hk hf rfl, fun hfo => by
        obtain ⟨m1, o1, h7, h8, h9⟩ := hF c hfo
        exact hs.hp.foot_apart (hE _ _ hk) h7 (fun e => by subst e; rw [h8] at hk; cases hk) hf (.inr h9)⟩)
      (fun c hc hcc => by
        refine hkeep c (fun e => ?_) (Nat.lt_of_lt_of_le hc hs.hp.size)
        subst e
        rcases hR.where_ with ⟨e, _⟩ | ⟨e, _⟩
        · obtain ⟨m, o1, x, h7, h8, h9⟩ := hold _ e
          rcases (hs.hp.own m o1 c x h7 h9).2 with h | h
          · omega
          · exact hcc h
        · have := hs.hp.size; omega)
      (fun c x e => by
        cases e
        rcases hR.where_ with ⟨e, _⟩ | ⟨e, e2, _⟩
        · obtain ⟨m, o1, x, h7, h8, h9⟩ := hold _ e
          have := hs.hp.own m o1 _ x h7 h9
          exact ⟨Nat.lt_of_lt_of_le this.1 hR.size, this.2⟩
        · exact ⟨e2, .inl (by rw [e]; exact hs.hp.size)⟩)
      (fun c hc => by
        obtain ⟨m1, o1, h7, h8, h9⟩ := hF c hc
        have := hs.hp.ownF m1 o1 c h7 h9
        exact ⟨⟨Nat.lt_of_lt_of_le this.1 hR.size, this.2⟩, fun x e => by cases e; exact hbF _ hc rfl⟩)
      ⟨hfl, .inr ⟨b, o', cap, T, vs, nset_same _ _ _, h2, h3, by rw [← hlen]; exact hR.room, hR.most, by
        cases he : es b with
        | none => rfl
        | some y => exact absurd rfl (hbF b (by rw [he]; rfl)), fun i1 f1 cs1 av1 h7 h8 => by
        obtain ⟨cs', av', h9, h10, h11⟩ := hcells i1 f1 cs1 av1 h7 h8
        obtain ⟨u, h12, h13⟩ := h6 i1 f1 cs' av' h9 h10
        exact ⟨u, h12, (h11 u h13).mono hns⟩⟩, fun c o1 c1 zs he => ((hfam c o1 c1 zs he).mono hns).world (by
        have hc : (es c).isSome = true := by rw [he]; rfl
        obtain ⟨m1, o2, h7, h8, h9⟩ := hF c hc
        exact hkeep c (hbF c hc) (hs.hp.ownF m1 o2 c h7 h9).1)⟩
    simpa [S.add, S.hp] using key

theorem castP_get {t t' : Ty} {p : NP t'} {K : NP t → Prop} (h : castP t t' p K) : ∃ e : t' = t, K (e ▸ p) := by
  unfold castP at h
  split at h
  · rename_i e; exact ⟨e, h⟩
  · exact h.elim

/-- The elements that a slice of a row of rows shows. -/
theorem nsub_ok (hs : StOk W C ρ s a w) {t : Ty} {y : Operand} {m z lo n : Nat} {xs : List (NR t)} {es : Fam t} (hl : lk s.L m = some (.nrow t xs es [])) (hev : s.ev y = .sub m z lo n) (hz : z = sz t) (hle : lo + n ≤ xs.length) :
    ∃ A c news, a.eval y = .slice A n c ∧ RowsC W C ρ (sz t) (((xs.drop lo).take n).map (encN t m)) news ∧ (A = none → n = 0) ∧ ∀ ad, A = some ad → ∀ j u, news[j]? = some u → w.cell? (ad.add j) = some u := by
  have hd := hs.fr.ev y
  rw [hev] at hd
  subst hz
  obtain ⟨hfl, hob, _⟩ := hs.hp.obj m _ hl
  generalize hv : a.eval y = v at hd
  cases hd with
  | @sub _ _ _ _ b o' c ad hm hlc had =>
    rcases hob with ⟨h1, _⟩ | ⟨b', o'', c', T, vs, h1, h2, h3, h4, h5, _, h6⟩
    · rw [hm] at h1; cases h1
    · rw [hm] at h1; cases h1
      have hCL : cellsN t m xs [] = xs.map (encN t m) := by simp [cellsN]
      rw [hCL] at h6
      have hp := part_rowsC (fun x hx => by rw [List.mem_map] at hx; obtain ⟨e, _, rfl⟩ := hx; exact encN_length t hfl m e) h3 (by simpa using h4) h6 (lo := lo) (len := n) (by simpa using hle)
      refine ⟨some ad, c - lo, _, rfl, by rw [List.map_take, List.map_drop]; exact hp, fun h => (by cases h), fun ad' e j u hj => ?_⟩
      cases e
      by_cases hlt : lo < c
      · rw [had hlt]; exact part_cells h2 _ _ j u hj
      · have : n = 0 := by omega
        subst this; simp at hj
  | sub0 hm => exact ⟨none, 0, [], rfl, ⟨by simp, fun i f cs av h => by simp at h⟩, fun _ => rfl, fun ad e => by cases e⟩

theorem appN_ok (hs : StOk W C ρ s a w) {τ : List (Nat × Ty)} {t e : TypeId} {ty : Ty} {bt : Nat} {x y : Operand} (ho : o.op = .call ⟨.builtin .append, #[x, y], #[t, t]⟩) (ht : P.underlying t = some (.slice e))
    (hk : kindOf P τ e = some (ty, bt)) (hfl : flat ty = false) (h : appN ty bt s (s.ev x) (s.ev y) K) : WRes false P W C ρ s a w o K := by
  obtain ⟨i, z, hi, hz, hsz, hzz, hb, rfl⟩ := kindOf_spec hk
  have hexec : ∀ dv yv r w', a.eval x = dv → a.eval y = yv → (Builtin.append_ #[t, t] o.type #[dv, yv]).run P w = .ok r w' → (execOp a.eval o).run P w = .ok (.value r) w' := by
    intro dv yv r w' hx hy hr
    unfold execOp; rw [ho]
    simp [resolve, invoke, builtin, hx, hy, hr]
  have hera : ∀ (L : Hp) (m k : Nat) (ob : AObj), lk (era L m) k = some ob → lk L k = some ob := fun L m k ob hk => by
    rw [lk_era] at hk; split at hk
    · cases hk
    · exact hk
  -- with what is appended at hand
  have go : ∀ {mo : Option Nat} {xs : List (NR ty)} {len : Nat} {es : Fam ty} {L0 : Hp}, ((mo = none ∧ s.ev x = .v (.slice none 0 0) ∧ xs = [] ∧ len = 0 ∧ es = fam0 ty ∧ L0 = s.L) ∨ ∃ m, mo = some m ∧ s.ev x = .sub m (sz ty) 0 len ∧ lk s.L m = some (.nrow ty xs es []) ∧ L0 = era s.L m) → len ≤ xs.length →
      ∀ {E : Hp} (_ : ∀ k ob, lk E k = some ob → lk L0 k = some ob) {CY : List (List AVal)} {A : Option Addr} {c0 : Nat} {news : List Value} (_ : a.eval y = .slice A CY.length c0) (_ : ∀ c ∈ CY, c.length = sz ty) (_ : ∀ c ∈ CY, c.all oneA = true) (_ : RowsC W C ρ (sz ty) CY news) (_ : A = none → CY.length = 0)
        (_ : ∀ ad, A = some ad → ∀ j u, news[j]? = some u → w.cell? (ad.add j) = some u) (_ : (len + CY.length) * i.bytes ≤ appRoom) (_ : len = xs.length ∨ len + CY.length ≤ xs.length) {tl : List (NR ty)} (_ : tl.length ≤ xs.length - (len + CY.length)) (_ : ∀ j x, tl[j]? = some x → xs[len + CY.length + j]? = some x)
        {xs' : List (NR ty)} {es' : Fam ty} {ys' : List ty.D} (_ : xs'.length + ys'.length = len + CY.length + tl.length)
        (_ : ∀ (j f : Nat) (cs : List AVal) (av : AVal), (cellsN ty s.nx xs' ys')[j]? = some cs → cs[f]? = some av → ∃ cs' av', (((xs.take len).map (encN ty (mo.getD 0))) ++ CY ++ tl.map (encN ty (mo.getD 0)))[j]? = some cs' ∧ cs'[f]? = some av' ∧ ∀ u, Den W C ρ av' u → Den W C ρ av u)
        (_ : FamOk W C ρ w es') (_ : ∀ c, (es' c).isSome = true → ∃ m o, lk s.L m = some o ∧ lk E m = none ∧ FootO o c) (_ : K (.sub s.nx (sz ty) 0 (len + CY.length)) ((s.hp E).add (.nrow ty xs' es' ys'))), WRes false P W C ρ s a w o K := by
    intro mo xs len es L0 hbase hlx E hE CY A c0 news hy hCY hone hrows hA hcl hbound hor tl htl1 htl2 xs' es' ys' hxl hcells hfam hF hK
    have hd := hs.fr.ev x
    have nilcase : a.eval x = .slice none 0 0 → len = 0 → xs = [] → tl = [] → (∀ k ob, lk E k = some ob → lk s.L k = some ob) → WRes false P W C ρ s a w o K := by
      intro hx h0 hxs htl hE'
      subst h0; subst hxs; subst htl
      simp only [List.take_nil, List.map_nil, List.nil_append, List.append_nil] at hcells
      by_cases hn : CY.length = 0
      · have hx0 : xs' = [] := List.length_eq_zero_iff.1 (by simp at hxl; omega)
        have hy0 : ys' = [] := List.length_eq_zero_iff.1 (by simp at hxl; omega)
        subst hx0; subst hy0
        refine ⟨_, .slice none 0 0, _, w, nset ρ s.nx none, hK, .inl (hexec _ _ _ _ hx hy (by rw [hn]; exact run_room0 (P := P) ht hi (Nat.le_refl 0) trivial)), nset_sub (hs.hp.above _ (Nat.le_refl _)) _, by rw [hn]; exact .sub0 (nset_same _ _ _), rfl, rfl, ?_, fun e => by cases e⟩
        have key := hs.hp.ext' (E := E) (w' := w) (v := none) (o := .nrow ty [] es' []) hE' rfl rfl rfl (Nat.le_refl _) (fun k ob c hk hf => ⟨rfl, fun _ h => (by cases h), fun hfo => by
          obtain ⟨m1, o1, h7, h8, h9⟩ := hF c hfo
          exact hs.hp.foot_apart (hE' _ _ hk) h7 (fun e => by subst e; rw [h8] at hk; cases hk) hf (.inr h9)⟩) (fun _ _ _ => rfl) (fun _ _ h => by cases h)
          (fun c hc => by
            obtain ⟨m1, o1, h7, h8, h9⟩ := hF c hc
            exact ⟨hs.hp.ownF m1 o1 c h7 h9, fun x e => by cases e⟩)
          ⟨hfl, .inl ⟨nset_same _ _ _, rfl, rfl⟩, fun c o1 c1 zs he => (hfam c o1 c1 zs he).mono (nset_sub (hs.hp.above _ (Nat.le_refl _)) _)⟩
        simpa [S.add, S.hp] using key
      · obtain ⟨r, w', b, o', cap, hr, hR⟩ := app_nil (rt := o.type) ht hi hz hsz hzz hb hCY hrows hA hcl (by simpa using hbound) hn
        rw [Nat.zero_add] at hK
        exact app_fin hs hfl hE' (fun b0 e => by cases e) hR (by simp at hxl; omega) hcells hfam hF hK (hexec _ _ _ _ hx hy hr)
    rcases hbase with ⟨rfl, hev, hxs, hl0, hes, hL⟩ | ⟨m, rfl, hev, hlk, hL⟩
    · subst hL
      have htl0 : tl = [] := List.length_eq_zero_iff.1 (by have h9 : xs.length = 0 := (by rw [hxs]; rfl); omega)
      exact nilcase (ev_v hs hev) hl0 hxs htl0 hE
    · subst hL
      rw [hev] at hd
      have hE' : ∀ k ob, lk E k = some ob → lk s.L k = some ob := fun k ob hk => hera _ _ _ _ (hE k ob hk)
      have hEm : lk E m = none := by
        cases hq : lk E m with
        | none => rfl
        | some ob => have := hE m ob hq; rw [lk_era, if_pos rfl] at this; cases this
      obtain ⟨_, hob, _⟩ := hs.hp.obj m _ hlk
      generalize hv : a.eval x = v at hd
      cases hd with
      | sub0 hm =>
        rcases hob with ⟨_, h1, _⟩ | ⟨b', o'', c', T, vs, h1, _⟩
        · have htl0 : tl = [] := List.length_eq_zero_iff.1 (by have h9 : xs.length = 0 := (by rw [h1]; rfl); omega)
          exact nilcase hv rfl h1 htl0 hE'
        · rw [hm] at h1; cases h1
      | @sub _ _ _ _ b o' cap ad hm hlc had =>
        rcases hob with ⟨h1, _⟩ | ⟨b', o'', c', T, vs, h1, h2, h3, h4, h5, _, h6⟩
        · rw [hm] at h1; cases h1
        · rw [hm] at h1; cases h1
          have hCL : cellsN ty m xs [] = xs.map (encN ty m) := by simp [cellsN]
          rw [hCL] at h6
          rw [Nat.sub_zero] at hv
          obtain ⟨r, w', b1, o1, cap1, hr, hR⟩ := app_sub (rt := o.type) (tl := tl.map (encN ty m)) ht hi hz hsz hzz hb (fun c hc => by rw [List.mem_map] at hc; obtain ⟨e, _, rfl⟩ := hc; exact encN_length ty hfl m e) hCY hone hrows hA hcl (ad := ad) (b := b) (o' := o') (cap := cap) (fun h => by rw [had h]; simp) h2 h3 (by simpa using h4) h5 (by simpa using hlx) h6 hbound
            (by simpa using hor) (by simpa using htl1) (fun j q hq => by
              rw [List.getElem?_map, Option.map_eq_some_iff] at hq
              obtain ⟨e, he, rfl⟩ := hq
              rw [List.getElem?_map, htl2 j e he]; rfl)
          refine app_fin hs hfl hE' (fun b0 e => by cases e; exact ⟨m, _, _, hlk, hEm, hm⟩) hR ?_ ?_ hfam hF hK (hexec _ _ _ _ hv hy hr)
          · simp only [List.length_append, List.length_take, List.length_map]; omega
          · intro j f cs av hj hf
            have := hcells j f cs av hj hf
            rwa [List.map_take] at this
  unfold appN at h
  -- what it is appended to
  have base : ∀ {Kb : Option Nat → List (NR ty) → Nat → Fam ty → Hp → Prop}, baseN ty s.L (s.ev x) Kb → ∃ mo xs len es L0, Kb mo xs len es L0 ∧ len ≤ xs.length ∧ ((mo = none ∧ s.ev x = .v (.slice none 0 0) ∧ xs = [] ∧ len = 0 ∧ es = fam0 ty ∧ L0 = s.L) ∨ ∃ m, mo = some m ∧ s.ev x = .sub m (sz ty) 0 len ∧ lk s.L m = some (.nrow ty xs es []) ∧ L0 = era s.L m) := by
    intro Kb hb
    generalize hev : s.ev x = av at hb
    unfold baseN at hb
    split at hb
    · exact ⟨_, _, _, _, _, hb, Nat.le_refl _, .inl ⟨rfl, rfl, rfl, rfl, rfl, rfl⟩⟩
    · rename_i m z' lo len
      split at hb
      · rename_i t' xs es ys hlk
        obtain ⟨rfl, ⟨rfl, rfl, h3, h4⟩, hK⟩ := castP_get hb
        dsimp only at h3 h4 hK
        subst h4
        exact ⟨_, _, _, _, _, hK, h3, .inr ⟨m, rfl, rfl, hlk, rfl⟩⟩
      · exact hb.elim
    · exact hb.elim
  obtain ⟨mo, xs, len, es, L0, h, hlx, hbase⟩ := base h
  -- what was given up, and the family of what it is appended to
  have hfam : FamOk W C ρ w es := by
    rcases hbase with ⟨_, _, _, _, rfl, _⟩ | ⟨m, _, _, hlk, _⟩
    · intro b o1 c1 zs he; cases he
    · exact (hs.hp.obj m _ hlk).2.2
  have hFm : ∀ {E : Hp}, (∀ k ob, lk E k = some ob → lk L0 k = some ob) → ∀ c, (es c).isSome = true → ∃ m o, lk s.L m = some o ∧ lk E m = none ∧ FootO o c := by
    intro E hE c hc
    rcases hbase with ⟨_, _, _, _, rfl, _⟩ | ⟨m, _, _, hlk, rfl⟩
    · cases hc
    · refine ⟨m, _, hlk, ?_, hc⟩
      cases hq : lk E m with
      | none => rfl
      | some ob => have := hE m ob hq; rw [lk_era, if_pos rfl] at this; cases this
  have hone' : ∀ (m0 : Nat) (l : List (NR ty)), ∀ c ∈ l.map (encN ty m0), c.length = sz ty := fun m0 l c hc => by rw [List.mem_map] at hc; obtain ⟨e, _, rfl⟩ := hc; exact encN_length ty hfl m0 e
  have hone2 : ∀ (m0 : Nat) (l : List (NR ty)), ∀ c ∈ l.map (encN ty m0), c.all oneA = true := fun m0 l c hc => by rw [List.mem_map] at hc; obtain ⟨e, _, rfl⟩ := hc; exact encN_one ty m0 e
  split at h
  · -- rows that can only be read
    rename_i t' ys0 hyv
    obtain rfl := castK_eq h
    replace h := castK_same h
    obtain ⟨⟨h1, h2⟩, hK⟩ := h
    have hrk : rowsK t' s.L (s.ev y) (fun q => q = ys0) := by
      rw [hyv]
      unfold rowsK
      cases t' <;> rfl
    obtain ⟨ys, A, c0, news, rfl, hy, hrows, hA, hcells⟩ := rows_ok hs hrk
    have hCl : (ys.map (enc t')).length = ys.length := by simp
    refine go hbase hlx (E := L0) (fun _ _ hk => hk) (CY := ys.map (enc t')) (tl := []) (by rw [hCl]; exact hy) (fun c hc => by rw [List.mem_map] at hc; obtain ⟨q, _, rfl⟩ := hc; exact enc_length _ _) (fun c hc => by rw [List.mem_map] at hc; obtain ⟨q, _, rfl⟩ := hc; exact enc_one _ _)
      (rows_rowsC hrows) (fun e => by rw [hA e]; rfl) hcells (by rw [hCl]; exact h1) (.inl h2) (by simp) (fun j x hx => by simp at hx) (xs' := xs) (es' := es) (ys' := ys) (by rw [hCl]; simp; omega) (fun j f cs av hj hf => ?_) hfam (hFm fun _ _ hk => hk) (by rw [hCl]; exact hK)
    rw [h2, List.take_length, List.map_nil, List.append_nil]
    unfold cellsN at hj
    rw [List.getElem?_append, List.length_map] at hj
    split at hj
    · rename_i hlt
      rw [List.getElem?_map, Option.map_eq_some_iff] at hj
      obtain ⟨q, hq, rfl⟩ := hj
      obtain ⟨av', h3, h4⟩ := encN_den (W := W) (C := C) (ρ := ρ) (m' := mo.getD 0) (u := undef) hf
      refine ⟨encN t' (mo.getD 0) q, av', by rw [List.getElem?_append_left (by simpa using hlt), List.getElem?_map, hq]; rfl, h3, fun u hu => ?_⟩
      obtain ⟨av2, h5, h6⟩ := encN_den (W := W) (C := C) (ρ := ρ) (m' := s.nx) (u := u) h3
      rw [hf] at h5; cases h5
      exact h6 hu
    · rename_i hge
      exact ⟨cs, av, by rw [List.getElem?_append_right (by simpa using hge), List.length_map]; exact hj, hf, fun u hu => hu⟩
  · rename_i m2 z2 lo2 len2 hyv
    -- a part of itself, or another one
    have move : ∀ (CX : List (NR ty)) (m0 m1 : Nat) (pre mid tl : List (NR ty)), CX = pre ++ mid ++ tl → ∀ (j f : Nat) (cs : List AVal) (av : AVal), (cellsN ty s.nx CX [])[j]? = some cs → cs[f]? = some av →
        ∃ cs' av', ((pre.map (encN ty m0)) ++ mid.map (encN ty m1) ++ tl.map (encN ty m0))[j]? = some cs' ∧ cs'[f]? = some av' ∧ ∀ u, Den W C ρ av' u → Den W C ρ av u := by
      intro CX m0 m1 pre mid tl hCX j f cs av hj hf
      subst hCX
      have hq : ∃ q mm, (pre ++ mid ++ tl)[j]? = some q ∧ ((pre.map (encN ty m0)) ++ mid.map (encN ty m1) ++ tl.map (encN ty m0))[j]? = some (encN ty mm q) ∧ cs = encN ty s.nx q := by
        unfold cellsN at hj
        rw [List.map_nil, List.append_nil, List.getElem?_map, Option.map_eq_some_iff] at hj
        obtain ⟨q, hq, rfl⟩ := hj
        rw [List.append_assoc, List.getElem?_append] at hq
        split at hq
        · rename_i h1
          refine ⟨q, m0, by rw [List.append_assoc, List.getElem?_append_left h1]; exact hq, ?_, rfl⟩
          rw [List.append_assoc, List.getElem?_append_left (by simpa using h1), List.getElem?_map, hq]; rfl
        · rename_i h1
          rw [List.getElem?_append] at hq
          split at hq
          · rename_i h2
            refine ⟨q, m1, by rw [List.append_assoc, List.getElem?_append_right (by omega), List.getElem?_append_left h2]; exact hq, ?_, rfl⟩
            rw [List.append_assoc, List.getElem?_append_right (by simpa using h1), List.length_map, List.getElem?_append_left (by simpa using h2), List.getElem?_map, hq]; rfl
          · rename_i h2
            refine ⟨q, m0, by rw [List.append_assoc, List.getElem?_append_right (by omega), List.getElem?_append_right (by omega)]; exact hq, ?_, rfl⟩
            rw [List.append_assoc, List.getElem?_append_right (by simpa using h1), List.length_map, List.getElem?_append_right (by simpa using h2), List.length_map, List.getElem?_map, hq]; rfl
      obtain ⟨q, mm, _, h2, rfl⟩ := hq
      obtain ⟨av', h3, _⟩ := encN_den (W := W) (C := C) (ρ := ρ) (m' := mm) (u := undef) hf
      refine ⟨_, av', h2, h3, fun u hu => ?_⟩
      obtain ⟨av2, h5, h6⟩ := encN_den (W := W) (C := C) (ρ := ρ) (m' := s.nx) (u := u) h3
      rw [hf] at h5; cases h5
      exact h6 hu
    split at h
    · rename_i hmo
      obtain ⟨⟨rfl, h2, h3, h4⟩, hsel⟩ := h
      obtain ⟨m, hm1, hevx, hlk, hL⟩ : ∃ m, mo = some m ∧ s.ev x = .sub m (sz ty) 0 len ∧ lk s.L m = some (.nrow ty xs es []) ∧ L0 = era s.L m := by
        rcases hbase with ⟨e, _⟩ | h
        · rw [e] at hmo; cases hmo
        · exact h
      rw [hmo] at hm1; cases hm1
      obtain ⟨A, c0, news, hy, hrows, hA, hcells⟩ := nsub_ok hs hlk hyv rfl h2
      have hml : ((xs.drop lo2).take len2).length = len2 := by simp; omega
      have hCl : (((xs.drop lo2).take len2).map (encN ty m2)).length = len2 := by rw [List.length_map, hml]
      obtain ⟨tl, hK, htl1, htl2⟩ := selK_ex (sf := true) (xs := xs) (k := len + len2) (F := fun tl => K (.sub s.nx (sz ty) 0 (len + len2)) ((s.hp L0).add (.nrow ty (xs.take len ++ (xs.drop lo2).take len2 ++ tl) es []))) hsel
      refine go hbase hlx (E := L0) (fun _ _ hk => hk) (CY := ((xs.drop lo2).take len2).map (encN ty m2)) (tl := tl) (by rw [hCl]; exact hy) (hone' _ _) (hone2 _ _) hrows (fun e => by rw [hCl]; exact hA e) hcells (by rw [hCl]; exact h3) (.inr (by rw [hCl]; exact h4)) (by rw [hCl]; exact htl1) (fun j x hx => by rw [hCl]; exact htl2 j x hx)
        (xs' := xs.take len ++ (xs.drop lo2).take len2 ++ tl) (es' := es) (ys' := []) ?_ (move _ _ _ _ _ _ rfl) hfam (hFm fun _ _ hk => hk) (by rw [hCl]; exact hK)
      rw [hCl, List.length_append, List.length_append, hml, List.length_take, List.length_nil]; omega
    · rename_i hne
      split at h
      · rename_i t' xs2 es2 ys2 hlk2
        obtain ⟨rfl, ⟨rfl, h2, h3, h4, h5⟩, hK⟩ := castP_get h
        dsimp only at h2 h3 hK
        subst h3
        have hlk2' : lk s.L m2 = some (.nrow t' xs2 es2 []) := by
          rcases hbase with ⟨_, _, _, _, _, rfl⟩ | ⟨m, _, _, _, rfl⟩
          · exact hlk2
          · exact hera _ _ _ _ hlk2
        obtain ⟨A, c0, news, hy, hrows, hA, hcells⟩ := nsub_ok hs hlk2' hyv rfl h2
        have hml : ((xs2.drop lo2).take len2).length = len2 := by simp; omega
        have hCl : (((xs2.drop lo2).take len2).map (encN t' m2)).length = len2 := by rw [List.length_map, hml]
        have hdis : ∀ b, es b ≠ none → es2 b = none := by
          intro b hb
          rcases hbase with ⟨_, _, _, _, rfl, _⟩ | ⟨m, rfl, _, hlk, _⟩
          · exact absurd rfl hb
          · cases hq : es2 b with
            | none => rfl
            | some q => exact absurd (by simp [FootO, hq]) ((hs.hp.apartF m _ m2 _ b hlk hlk2' (by
                cases hw : es b with
                | none => exact absurd hw hb
                | some q2 => simp [FootO, hw])).2 (fun e => hne (by rw [e])))
        have hEr : ∀ k ob, lk (era L0 m2) k = some ob → lk L0 k = some ob := fun k ob hk => hera _ _ _ _ hk
        refine go hbase hlx (E := era L0 m2) hEr (CY := ((xs2.drop lo2).take len2).map (encN t' m2)) (tl := []) (by rw [hCl]; exact hy) (hone' _ _) (hone2 _ _) hrows (fun e => by rw [hCl]; exact hA e) hcells (by rw [hCl]; exact h4) (.inl h5) (by simp) (fun j x hx => by simp at hx)
          (xs' := xs ++ (xs2.drop lo2).take len2) (es' := fjoin es es2) (ys' := []) (by rw [hCl, List.length_append, hml]; simp; omega) (move _ _ _ _ _ _ (by rw [h5, List.take_length]; simp)) ?_ ?_ (by rw [hCl]; exact hK hdis)
        · intro b o1 c1 zs he
          unfold fjoin at he
          cases hq : es b with
          | some q => rw [hq] at he; simp at he; subst he; exact hfam b _ _ _ hq
          | none => rw [hq] at he; simp at he; exact (hs.hp.obj m2 _ hlk2').2.2 b _ _ _ he
        · intro c hc
          unfold fjoin at hc
          cases hq : es c with
          | some q => exact hFm hEr c (by rw [hq]; rfl)
          | none =>
            rw [hq] at hc
            exact ⟨m2, _, hlk2', by rw [lk_era, if_pos rfl], by simpa [FootO] using hc⟩
      · exact h.elim
  · exact h.elim

theorem app_ok (hs : StOk W C ρ s a w) {τ : List (Nat × Ty)} {t e : TypeId} {ty : Ty} {bt : Nat} {x y : Operand} (ho : o.op = .call ⟨.builtin .append, #[x, y], #[t, t]⟩) (ht : P.underlying t = some (.slice e))
    (hk : kindOf P τ e = some (ty, bt)) (h : wst s (.app ty bt x y) K) : WRes false P W C ρ s a w o K := by
  simp only [wst] at h
  split at h
  rotate_left
  · rename_i hfl
    exact appN_ok hs ho ht hk (by simpa using hfl) h
  obtain ⟨i, z, hi, hz, hsz, hzz, hb, rfl⟩ := kindOf_spec hk
  obtain ⟨ys, A, c, news, h, hy, hrows, hA, hcells⟩ := rows_ok hs h
  have hA' : A = none → ys.length = 0 := fun e => by rw [hA e]; rfl
  have hl : news.length = ys.length * i.size := by rw [hsz]; exact hrows.1
  have hzs : z.cells.size = sz ty := by
    have := congrArg List.length hzz
    rw [Array.length_toList] at this
    rw [zer_length] at this
    exact this
  have hexec : ∀ dv r w', a.eval x = dv → (Builtin.append_ #[t, t] o.type #[dv, .slice A ys.length c]).run P w = .ok r w' → (execOp a.eval o).run P w = .ok (.value r) w' := by
    intro dv r w' hx hr
    unfold execOp; rw [ho]
    simp [resolve, invoke, builtin, hx, hy, hr]
  have nilcase : a.eval x = .slice none 0 0 → ys.length * i.bytes ≤ appRoom → ∀ (L' : Hp), HpOk W C ρ s.nx w L' → K (.sub s.nx (sz ty) 0 ys.length) ((s.hp L').add (.row ty ys)) → WRes false P W C ρ s a w o K := by
    intro hx hbound L' hL hK
    by_cases h0 : ys.length = 0
    · have hys : ys = [] := List.length_eq_zero_iff.1 h0
      refine ⟨_, .slice none 0 0, _, w, nset ρ s.nx none, hK, .inl (hexec _ _ _ hx ?_), nset_sub (hL.above _ (Nat.le_refl _)) _, ?_, rfl, rfl, ?_, fun e => by cases e⟩
      · rw [h0]; exact run_room0 (P := P) ht hi (Nat.le_refl 0) trivial
      · rw [h0]; exact .sub0 (nset_same _ _ _)
      · refine hL.ext (fun _ _ h => h) rfl rfl rfl (Nat.le_refl _) (fun _ _ _ _ _ => ⟨rfl, fun _ h => by cases h⟩) (fun _ _ _ => rfl) (fun _ _ h => by cases h) (.inl ⟨nset_same _ _ _, hys⟩)
    · cases A with
      | none => exact absurd (hA' rfl) h0
      | some ad =>
        have hr := run_append_nil (P := P) w t o.type e i z ht hi hz ad ys.length c news hl (hcells ad rfl) (by omega) (by unfold appRoom at hbound; have := Nat.le_mul_of_pos_right ys.length hb; omega) (by unfold appRoom at hbound; omega)
        have hcap := grownCap_ge w ys.length 0 e
        refine ⟨_, _, _, _, nset ρ s.nx (some (w.heap.size, 0, grownCap w ys.length 0 e)), hK, .inl (hexec _ _ _ hx hr), nset_sub (hL.above _ (Nat.le_refl _)) _, ?_, rfl, rfl, ?_, fun e => by cases e⟩
        · have := Den.sub (W := W) (C := C) (ρ := nset ρ s.nx (some (w.heap.size, 0, grownCap w ys.length 0 e))) (m := s.nx) (s := sz ty) (lo := 0) (len := ys.length) (ad := ⟨w.heap.size, 0, none⟩) (nset_same _ _ _) (by omega) (fun _ => by simp)
          simpa using this
        · have := row_new hL (Below.drew (Below.refl _ _)) rfl (e := e) (c := grownCap w ys.length 0 e) (rest := (Builtin.zeroCells z.cells (grownCap w ys.length 0 e - ys.length)).toList) hrows
            (by
              have e1 := size_zeroCells z.cells (grownCap w ys.length 0 e - ys.length)
              rw [← Array.length_toList, hzs] at e1
              rw [List.length_append, hrows.1, e1, ← Nat.add_mul]; congr 1; omega)
            hcap (grownCap_le_maxLen w _ _ e (by unfold appRoom at hbound; have := Nat.le_mul_of_pos_right ys.length hb; show _ ≤ 9223372036854775807; omega))
          rw [arr_app]
          simpa [S.add, S.hp] using this
  split at h
  · rename_i hev
    exact appF_ok hs ho ht hi hz hsz hzz hb hy hrows hA hcells hev h
  generalize selfB (s.ev x) (s.ev y) = sf at h
  have hx := hs.fr.ev x
  generalize hav : s.ev x = av at h hx
  unfold appK at h
  split at h
  · generalize hv : a.eval x = v at hx
    cases hx with
    | v => exact nilcase hv h.1 s.L hs.hp h.2
  · rename_i m z' lo len
    split at h
    · rename_i t' xs hlk
      obtain rfl := castK_eq h
      replace h := castK_same h
      obtain ⟨⟨rfl, hle, hbound⟩, hor, hK⟩ := h
      obtain ⟨tl, hK, htl1, htl2⟩ := selK_ex (F := fun tl => K (.sub s.nx (sz t') 0 (len + ys.length)) ((s.hp (era s.L m)).add (.row t' ((xs.drop lo).take len ++ ys ++ tl)))) hK
      generalize hv : a.eval x = v at hx
      cases hx with
      | sub0 hm =>
        have hx0 : xs = [] := by
          rcases hs.hp.obj m _ hlk with ⟨_, h⟩ | ⟨b', o'', c', T, vs, h1, _⟩
          · exact h
          · rw [hm] at h1; cases h1
        subst hx0
        have htl0 : tl = [] := List.length_eq_zero_iff.1 (by rw [List.length_nil, Nat.zero_sub] at htl1; omega)
        subst htl0
        simp only [Nat.zero_add] at hbound hK
        exact nilcase hv hbound _ (hs.hp.era m) (by simpa using hK)
      | @sub _ _ _ _ b o' cap ad hm hlc had =>
        rcases hs.hp.obj m _ hlk with ⟨h1, _⟩ | ⟨b', o'', c', T, vs, h1, h2, h3, h4, h5, h6⟩
        · rw [hm] at h1; cases h1
        · rw [hm] at h1; cases h1
          have holds := part_rows h3 h4 h6 hle
          have hlen : ((xs.drop lo).take len).length = len := by simp; omega
          have hall := holds.append hrows
          have hlen2 : ((xs.drop lo).take len ++ ys).length = len + ys.length := by rw [List.length_append, hlen]
          have hm0 : lo * sz t' + (cap - lo) * sz t' = cap * sz t' := by rw [← Nat.add_mul]; congr 1; omega
          by_cases hroom : len + ys.length ≤ cap - lo
          · -- room: in place
            by_cases hcl : lo < cap
            · have hm1 : len * sz t' + ys.length * sz t' ≤ (cap - lo) * sz t' := by rw [← Nat.add_mul]; exact Nat.mul_le_mul_right _ hroom
              rw [had hcl] at hv
              have hfit : o' + lo * sz t' + len * i.size + news.length ≤ vs.length := by rw [hsz, hrows.1]; omega
              have hr := run_room (P := P) (ty := o.type) ht hi (c := c) (sLen := len) (sCap := cap - lo) h2 hl hA' hcells hrows.one hroom hfit
              refine ⟨_, _, _, _, nset ρ s.nx (some (b, o' + lo * sz t', cap - lo)), hK, .inl (hexec _ _ _ hv hr), nset_sub (hs.hp.above _ (Nat.le_refl _)) _, ?_, rfl, rfl, ?_, fun e => by cases e⟩
              · have := Den.sub (W := W) (C := C) (ρ := nset ρ s.nx (some (b, o' + lo * sz t', cap - lo))) (m := s.nx) (s := sz t') (lo := 0) (len := len + ys.length) (ad := ⟨b, o' + lo * sz t', none⟩) (nset_same _ _ _) (by omega) (fun _ => by simp)
                simpa using this
              · have hown := hs.hp.own m _ b _ hlk hm
                have key := hs.hp.ext (E := era s.L m) (w' := w.setRow b ⟨spliceV vs (o' + lo * sz t' + len * i.size) news⟩) (v := some (b, o' + lo * sz t', cap - lo)) (o := .row t' ((xs.drop lo).take len ++ ys ++ tl))
                  (fun k ob hk => by rw [lk_era] at hk; split at hk; · cases hk
                                     · exact hk) rfl rfl rfl (by simp)
                  (fun k ob b1 hk hx1 => by
                    rw [lk_era] at hk
                    split at hk
                    · cases hk
                    · rename_i hne
                      have : b1 ≠ b := fun e => by subst e; exact hs.hp.foot_apart hk hlk hne hx1 (.inl ⟨_, hm⟩)
                      exact ⟨heap_setRow_other _ _ _ _ this, fun x' e => by cases e; exact this rfl⟩)
                  (fun b1 hb1 hc1 => heap_setRow_other _ _ _ _ (fun e => by
                    subst e
                    rcases hown.2 with h | h
                    · omega
                    · exact hc1 h))
                  (fun b1 x1 e => by cases e; exact ⟨by simp; exact hown.1, hown.2⟩)
                  (.inr ⟨b, o' + lo * sz t', cap - lo, T, _, nset_same _ _ _, heap_setRow_same _ _ _ h2, by simp only [spliceV, List.length_append, List.length_take, List.length_drop]; omega, by rw [List.length_append, hlen2]; omega, by omega, fun i1 f1 x1 av1 h7 h8 => ?_⟩)
                · simpa [S.add, S.hp] using key
                · have hf1 : f1 < sz t' := by have := (List.getElem?_eq_some_iff.1 h8).1; rwa [enc_length] at this
                  by_cases hbe : len + ys.length ≤ i1
                  · rw [List.getElem?_append_right (by rw [hlen2]; exact hbe), hlen2] at h7
                    have h7' := htl2 _ _ h7
                    rw [show lo + len + ys.length + (i1 - (len + ys.length)) = lo + i1 by omega] at h7'
                    obtain ⟨u, h9, h10⟩ := h6 _ f1 x1 av1 h7' h8
                    refine ⟨u, ?_, h10.mono (nset_sub (hs.hp.above _ (Nat.le_refl _)) _)⟩
                    have hmm : len * sz t' + ys.length * sz t' ≤ i1 * sz t' := by rw [← Nat.add_mul]; exact Nat.mul_le_mul_right _ hbe
                    rw [get_splice (by omega), if_neg (by rw [hsz, hrows.1]; omega), ← h9, Nat.add_mul]
                    congr 1; omega
                  rw [List.getElem?_append_left (by rw [hlen2]; omega)] at h7
                  obtain ⟨u, h9, h10⟩ := hall.2 i1 f1 x1 av1 h7 h8
                  refine ⟨u, ?_, h10.mono (nset_sub (hs.hp.above _ (Nat.le_refl _)) _)⟩
                  rw [get_splice (by omega)]
                  have hol : ((vs.drop (o' + lo * sz t')).take (len * sz t')).length = len * sz t' := by rw [holds.1, hlen]
                  rw [List.getElem?_append, hol] at h9
                  split at h9
                  · rename_i hlt
                    rw [if_neg (by rw [hsz]; omega)]
                    rw [List.getElem?_take, if_pos hlt, List.getElem?_drop] at h9
                    rw [← h9]; congr 1; omega
                  · rename_i hge
                    have := (List.getElem?_eq_some_iff.1 h9).1
                    rw [if_pos (by rw [hsz]; omega), ← h9]
                    congr 1; rw [hsz]; omega
            · -- no cell at all: nothing is appended
              have e1 : len = 0 := by omega
              have e2 : ys.length = 0 := by omega
              have hys : ys = [] := List.length_eq_zero_iff.1 e2
              have htl0 : tl = [] := List.length_eq_zero_iff.1 (by omega)
              subst htl0
              subst e1
              refine ⟨_, _, _, _, nset ρ s.nx (some (b, o' + lo * sz t', cap - lo)), hK, .inl (hexec _ _ _ hv (by rw [e2]; exact run_room0 (P := P) ht hi (by omega) trivial)), nset_sub (hs.hp.above _ (Nat.le_refl _)) _, ?_, rfl, rfl, ?_, fun e => by cases e⟩
              · have := Den.sub (W := W) (C := C) (ρ := nset ρ s.nx (some (b, o' + lo * sz t', cap - lo))) (m := s.nx) (s := sz t') (lo := 0) (len := 0 + ys.length) (ad := ad) (nset_same _ _ _) (by omega) (fun h => by omega)
                simpa [e2] using this
              · have hown := hs.hp.own m _ b _ hlk hm
                have key := hs.hp.ext (E := era s.L m) (w' := w) (v := some (b, o' + lo * sz t', cap - lo)) (o := .row t' ((xs.drop lo).take 0 ++ ys ++ []))
                  (fun k ob hk => by rw [lk_era] at hk; split at hk; · cases hk
                                     · exact hk) rfl rfl rfl (Nat.le_refl _)
                  (fun k ob b1 hk hx1 => by
                    rw [lk_era] at hk
                    split at hk
                    · cases hk
                    · rename_i hne
                      have : b1 ≠ b := fun e => by subst e; exact hs.hp.foot_apart hk hlk hne hx1 (.inl ⟨_, hm⟩)
                      exact ⟨rfl, fun x' e => by cases e; exact this rfl⟩)
                  (fun _ _ _ => rfl)
                  (fun b1 x1 e => by cases e; exact hown)
                  (.inr ⟨b, o' + lo * sz t', cap - lo, T, vs, nset_same _ _ _, h2, by omega, by simp [hys], by omega, fun i1 f1 x1 av1 h7 => by simp [hys] at h7⟩)
                simpa [S.add, S.hp] using key
          · -- growth
            have hy0 : 0 < ys.length := by
              rcases hor with h | h <;> omega
            have htl0 : tl = [] := List.length_eq_zero_iff.1 (by rcases hor with h | h <;> omega)
            subst htl0
            rw [List.append_nil] at hK
            cases A with
            | none => have := hA' rfl; omega
            | some ad' =>
              have hbl : (len + ys.length) ≤ (len + ys.length) * i.bytes := Nat.le_mul_of_pos_right _ hb
              have hcl : ∀ j u, ((vs.drop (o' + lo * sz t')).take (len * sz t'))[j]? = some u → w.cell? (ad.add j) = some u := by
                intro j u hj
                by_cases hlt : lo < cap
                · rw [had hlt]; exact part_cells h2 _ _ j u hj
                · have : len = 0 := by omega
                  subst this; simp at hj
              have hr := run_append_grow (P := P) w t o.type e i z ht hi hz ad len (cap - lo) _ (by rw [hsz, holds.1, hlen]) hcl ad' ys.length c news hl (hcells ad' rfl) (by omega)
                (by unfold appRoom at hbound; omega) (growslice_fits (by omega) (by unfold appRoom at hbound; omega))
              have hcap := grownCap_ge w (len + ys.length) (cap - lo) e
              have hL := hs.hp.era m
              refine ⟨_, _, _, _, nset ρ s.nx (some (w.heap.size, 0, grownCap w (len + ys.length) (cap - lo) e)), hK, .inl (hexec _ _ _ hv hr), nset_sub (hL.above _ (Nat.le_refl _)) _, ?_, rfl, rfl, ?_, fun e => by cases e⟩
              · have := Den.sub (W := W) (C := C) (ρ := nset ρ s.nx (some (w.heap.size, 0, grownCap w (len + ys.length) (cap - lo) e))) (m := s.nx) (s := sz t') (lo := 0) (len := len + ys.length) (ad := ⟨w.heap.size, 0, none⟩) (nset_same _ _ _) (by omega) (fun _ => by simp)
                simpa using this
              · have := row_new hL (Below.drew (Below.refl _ _)) rfl (e := e) (c := grownCap w (len + ys.length) (cap - lo) e) (rest := (Builtin.zeroCells z.cells (grownCap w (len + ys.length) (cap - lo) e - (len + ys.length))).toList) hall
                  (by
                    have e1 := size_zeroCells z.cells (grownCap w (len + ys.length) (cap - lo) e - (len + ys.length))
                    rw [← Array.length_toList, hzs] at e1
                    rw [List.length_append, hall.1, hlen2, e1, ← Nat.add_mul]; congr 1; omega)
                  (by rw [hlen2]; exact hcap) (grownCap_le_maxLen w _ _ e (by unfold appRoom at hbound; show _ ≤ 9223372036854775807; omega))
                rw [List.append_toArray, arr_app]
                simpa [S.add, S.hp] using this
    · exact h.elim
  · exact h.elim

theorem HpOk.same {nx : Nat} {w : World} {L L' : Hp} (h : HpOk W C ρ nx w L) (e : ∀ k, lk L' k = lk L k) : HpOk W C ρ nx w L' :=
  ⟨fun k ob hk => h.obj k ob (by rw [← e]; exact hk), fun k ob k' ob' b x b' x' h1 h2 h3 h4 h5 => h.apart k ob k' ob' b x b' x' (by rw [← e]; exact h1) (by rw [← e]; exact h2) h3 h4 h5,
    fun k ob b x h1 h2 => h.own k ob b x (by rw [← e]; exact h1) h2, fun k ob k' ob' b h1 h2 h3 => h.apartF k ob k' ob' b (by rw [← e]; exact h1) (by rw [← e]; exact h2) h3, fun k ob b h1 h2 => h.ownF k ob b (by rw [← e]; exact h1) h2, h.above, h.os, h.tape, h.output, h.size, h.old⟩

theorem clr_get {α : Type} (xs : List α) (d : α) (lo len i : Nat) (h : lo + len ≤ xs.length) : (xs.take lo ++ List.replicate len d ++ xs.drop (lo + len))[i]? = if lo ≤ i ∧ i < lo + len then some d else xs[i]? := by
  have h1 : min lo xs.length = lo := by omega
  simp only [List.getElem?_append, List.length_append, List.length_take, List.length_replicate, List.getElem?_take, List.getElem?_replicate, List.getElem?_drop, h1]
  by_cases h2 : i < lo
  · simp [h2, show i < lo + len by omega, show ¬ (lo ≤ i ∧ i < lo + len) by omega]; intro h3; omega
  · by_cases h3 : i < lo + len
    · simp [h2, h3, show lo ≤ i ∧ i < lo + len by omega, show i - lo < len by omega]
    · simp [h3, show lo + len + (i - (lo + len)) = i by omega]

theorem ObjOk.take {w : World} {m : Nat} {t : Ty} {xs : List t.D} (h : ObjOk W C ρ w m (.row t xs)) (k : Nat) : ObjOk W C ρ w m (.row t (xs.take k)) := by
  rcases h with ⟨h1, h2⟩ | ⟨b, o, c, T, vs, h1, h2, h3, h4, h5, h6⟩
  · exact .inl ⟨h1, by rw [h2]; simp⟩
  · refine .inr ⟨b, o, c, T, vs, h1, h2, h3, by rw [List.length_take]; omega, h5, fun i f x av h7 h8 => ?_⟩
    rw [List.getElem?_take] at h7
    split at h7
    · exact h6 i f x av h7 h8
    · cases h7

theorem clr_cut {w : World} {m : Nat} {t : Ty} {xs : List t.D} {d : t.D} {lo len : Nat} (hle : lo + len ≤ xs.length) (h : ObjOk W C ρ w m (.row t (xs.take lo ++ List.replicate len d ++ xs.drop (lo + len)))) : ObjOk W C ρ w m (.row t (clrL xs d lo len)) := by
  unfold clrL
  split
  · have := h.take lo
    rwa [List.append_assoc, List.take_left' (by rw [List.length_take]; omega)] at this
  · exact h

theorem zero_made (z : Array Value) (n : Nat) : Builtin.zeroCells z n = madeCells z (n * z.size) := rfl

theorem inn_flat' {t : Ty} (h : flat t = false) : flat (inn t) = true := by
  rcases inn_flat t with e | e
  · exact e
  · rw [h] at e; cases e
theorem Reads.take {w : World} {t : Ty} {b o' c : Nat} {xs : List t.D} (h : Reads W C ρ w t b o' c xs) (k : Nat) : Reads W C ρ w t b o' c (xs.take k) := by
  obtain ⟨T, vs, h2, h3, h4, h5, h6⟩ := h
  refine ⟨T, vs, h2, h3, by rw [List.length_take]; omega, h5, fun i f x av h7 h8 => ?_⟩
  rw [List.getElem?_take] at h7
  split at h7
  · exact h6 i f x av h7 h8
  · cases h7
/-- A part of a row is cleared. -/
theorem Reads.clear {w : World} {t : Ty} (hfl : flat t = true) {z : Array Value} (hzz : z.toList = zer t) {b o' c T : Nat} {vs : List Value} {xs : List t.D} (h2 : w.heap[b]? = some (.cells ⟨vs⟩ T (0, 0))) (h3 : o' + c * sz t ≤ vs.length) (h4 : xs.length ≤ c) (h5 : c ≤ mostLen)
    (h6 : ∀ (i f : Nat) (x : t.D) (av : AVal), xs[i]? = some x → (enc t x)[f]? = some av → ∃ u, vs[o' + i * sz t + f]? = some u ∧ Den W C ρ av u) {lo len : Nat} (hle : lo + len ≤ xs.length) :
    Reads W C ρ (w.setRow b ⟨spliceV vs (o' + lo * sz t) (madeCells z (len * sz t)).toList⟩) t b o' c (clrL xs (dflt t) lo len) := by
  have hmade := made_rows (W := W) (C := C) (ρ := ρ) t hfl hzz len
  have hnl : (madeCells z (len * sz t)).toList.length = len * sz t := by rw [hmade.1]; simp
  have hm0 : lo * sz t + len * sz t ≤ c * sz t := by rw [← Nat.add_mul]; exact Nat.mul_le_mul_right _ (by omega)
  have hfit : o' + lo * sz t + (madeCells z (len * sz t)).toList.length ≤ vs.length := by rw [hnl]; omega
  have all : Reads W C ρ (w.setRow b ⟨spliceV vs (o' + lo * sz t) (madeCells z (len * sz t)).toList⟩) t b o' c (xs.take lo ++ List.replicate len (dflt t) ++ xs.drop (lo + len)) := by
    refine ⟨T, _, heap_setRow_same _ _ _ h2, ?_, ?_, h5, ?_⟩
    · simp only [spliceV, List.length_append, List.length_take, List.length_drop]; omega
    · simp; omega
    · intro i1 f1 x1 av1 h7 h8
      have hf1 : f1 < sz t := by have := (List.getElem?_eq_some_iff.1 h8).1; rwa [enc_length] at this
      rw [clr_get _ _ _ _ _ hle] at h7
      rw [get_splice hfit, hnl]
      split at h7
      · rename_i hin
        cases h7
        have hlt := mul_lt (s := sz t) (show i1 - lo < len by omega) (Nat.le_refl _)
        have e1 : i1 * sz t = lo * sz t + (i1 - lo) * sz t := by rw [← Nat.add_mul]; congr 1; omega
        obtain ⟨u, h9, h10⟩ := hmade.2 (i1 - lo) f1 _ _ (by rw [List.getElem?_replicate, if_pos (by omega)]) h8
        refine ⟨u, ?_, h10⟩
        rw [if_pos (by omega), ← h9]
        congr 1; omega
      · rename_i hout
        obtain ⟨u, h9, h10⟩ := h6 _ f1 x1 av1 h7 h8
        refine ⟨u, ?_, h10⟩
        rw [if_neg]
        · exact h9
        · by_cases hlo : i1 < lo
          · have := mul_lt (s := sz t) hlo (Nat.le_refl _); omega
          · have : (lo + len) * sz t ≤ i1 * sz t := Nat.mul_le_mul_right _ (by omega)
            rw [Nat.add_mul] at this; omega
  unfold clrL
  split
  · have := all.take lo
    rwa [List.append_assoc, List.take_left' (by rw [List.length_take]; omega)] at this
  · exact all

theorem run_clear {t e : TypeId} {i : TypeInfo} {z : Value} {ty : Ty} {rt : TypeId} (ht : P.underlying t = some (.slice e)) (hi : P.info? e = some i) (hz : i.zero = some z) (hzz : z.cells.toList = zer ty) {w : World} {b o' T len cap : Nat} {vs : List Value} (h2 : w.heap[b]? = some (.cells ⟨vs⟩ T (0, 0)))
    (hpos : 0 < len) (hfit : o' + len * sz ty ≤ vs.length) :
    (Builtin.clear_ #[t] rt #[.slice (some ⟨b, o', none⟩) len cap]).run P w = .ok (.tuple #[]) (w.setRow b ⟨spliceV vs o' (madeCells z.cells (len * sz ty)).toList⟩) := by
  have hzs : z.cells.size = sz ty := by
    have := congrArg List.length hzz
    rw [Array.length_toList, zer_length] at this
    exact this
  have hmade := made_cells (W := w) (C := ⟨fun _ => False, fun _ => False, fun _ h => h⟩) (ρ := fun _ => none) ty hzz len
  have hnl : (madeCells z.cells (len * sz ty)).toList.length = len * sz ty := by rw [hmade.1]; simp
  have hone : ∀ u ∈ (madeCells z.cells (len * sz ty)).toList, u.oneCell' = true := hmade.one (sz_pos ty) (fun c hc => by rw [List.mem_replicate] at hc; rw [hc.2]; simp [zer_length]) (fun c hc => by
    rw [List.mem_replicate] at hc
    rw [hc.2]
    by_cases hf : flat ty = true
    · rw [← enc_dflt ty hf]; exact enc_one ty _
    · have hf : flat ty = false := by simpa using hf
      rw [← zer_nest ty hf]
      exact encN_one ty 0 (dfltN ty))
  have hst := run_storeCells_at P b o' T (madeCells z.cells (len * sz ty)).toList 0 ⟨vs⟩ w h2 (by simpa [hnl] using hfit) hone
  simp only [Nat.add_zero] at hst
  obtain ⟨q, rfl⟩ : ∃ q, len = q + 1 := ⟨len - 1, by omega⟩
  have hzm : Builtin.zeroCells z.cells (q + 1) = madeCells z.cells ((q + 1) * sz ty) := by rw [zero_made, hzs]
  simp only [Builtin.clear_]
  simp [run_underlying ht, zeroValue, typeInfo, hi, hz]
  rw [hzm]
  simp at hst
  simp [hst, spliceV]

theorem clrN_ok (hs : StOk W C ρ s a w) {τ : List (Nat × Ty)} {t e : TypeId} {ty : Ty} {bt : Nat} {x : Operand} (ho : o.op = .call ⟨.builtin .clear, #[x], #[t]⟩) (ht : P.underlying t = some (.slice e))
    (hk : kindOf P τ e = some (ty, bt)) (h : clrN ty s (s.ev x) K) : WRes false P W C ρ s a w o K := by
  obtain ⟨i, z, hi, hz, hsz, hzz, hb, rfl⟩ := kindOf_spec hk
  have hexec : ∀ dv w', a.eval x = dv → (Builtin.clear_ #[t] o.type #[dv]).run P w = .ok (.tuple #[]) w' → (execOp a.eval o).run P w = .ok (.value (.tuple #[])) w' := by
    intro dv w' hx hr
    unfold execOp; rw [ho]
    simp [resolve, invoke, builtin, hx, hr]
  have hx := hs.fr.ev x
  generalize hav : s.ev x = av at h hx
  unfold clrN at h
  split at h
  · rename_i m z' lo len
    split at h
    · rename_i t' xs es ys hlk
      obtain ⟨rfl, ⟨rfl, h2, h3⟩, hK⟩ := castP_get h
      dsimp only at h2 h3 hK
      subst h3
      obtain ⟨hfl, hob, hfam⟩ := hs.hp.obj m _ hlk
      generalize hv : a.eval x = v at hx
      have unchanged : len = 0 → (Builtin.clear_ #[t] o.type #[v]).run P w = .ok (.tuple #[]) w → WRes false P W C ρ s a w o K := fun h0 hr => by
        subst h0
        refine ⟨_, .tuple #[], _, w, ρ, hK, .inl (hexec _ _ hv hr), Sub0.refl _, .junk _, rfl, rfl, ?_, fun e => by cases e⟩
        refine hs.hp.same fun k => ?_
        show lk (upd s.L m _) k = _
        rw [lk_upd]
        split
        · rename_i e; subst e; rw [hlk, show lo = xs.length by omega, List.take_length]; rfl
        · rfl
      cases hx with
      | sub0 hm => exact unchanged rfl (by simp [Builtin.clear_, run_underlying ht])
      | @sub _ _ _ _ b o' cap ad hm hlc had =>
        rcases Nat.eq_zero_or_pos len with h0 | hpos
        · exact unchanged h0 (by subst h0; simp [Builtin.clear_, run_underlying ht])
        · rcases hob with ⟨h1, _⟩ | ⟨b', o'', c', T, vs, h1, h4, h5, h6, h7, h8, h9⟩
          · rw [hm] at h1; cases h1
          · rw [hm] at h1; cases h1
            have hm0 : lo * sz t' + len * sz t' ≤ cap * sz t' := by rw [← Nat.add_mul]; exact Nat.mul_le_mul_right _ (by omega)
            rw [had (by omega)] at hv
            have hr := run_clear (rt := o.type) (cap := cap - lo) ht hi hz hzz h4 hpos (o' := o' + lo * sz t') (by omega)
            have hnl : (madeCells z.cells (len * sz t')).toList.length = len * sz t' := by simp [madeCells]
            refine ⟨_, .tuple #[], _, _, ρ, hK, .inl (hexec _ _ hv hr), Sub0.refl _, .junk _, rfl, rfl, ?_, fun e => by cases e⟩
            refine hs.hp.change' hlk (b := b) (.inl ⟨_, hm⟩) rfl rfl rfl (by simp) (fun k hk => heap_setRow_other _ _ _ _ hk) (fun k hk => hk) ⟨hfl, .inr ⟨b, o', cap, T, _, hm, heap_setRow_same _ _ _ h4, ?_, ?_, h7, h8, fun i1 f1 cs av1 h10 h11 => ?_⟩, fun b1 o1 c1 zs he => (hfam b1 o1 c1 zs he).world (heap_setRow_other _ _ _ _ (fun e => by subst e; rw [h8] at he; cases he))⟩
            · simp only [spliceV, List.length_append, List.length_take, List.length_drop]; omega
            · rw [List.length_take, List.length_nil]; omega
            · have hi1 : i1 < lo := by have := (List.getElem?_eq_some_iff.1 h10).1; rw [cellsN_length, List.length_take, List.length_nil] at this; omega
              have h12 : (cellsN t' m xs [])[i1]? = some cs := by
                unfold cellsN at h10 ⊢
                rw [List.map_nil, List.append_nil, List.map_take, List.getElem?_take, if_pos hi1] at h10
                rw [List.map_nil, List.append_nil]; exact h10
              obtain ⟨u, h13, h14⟩ := h9 i1 f1 cs av1 h12 h11
              refine ⟨u, ?_, h14⟩
              have hf1 : f1 < sz t' := by have := (List.getElem?_eq_some_iff.1 h11).1; rwa [cellsN_len hfl cs (List.mem_of_getElem? h12)] at this
              have := mul_lt (s := sz t') hi1 (Nat.le_refl _)
              rw [get_splice (by omega), if_neg (by omega)]
              exact h13
    · exact h.elim
  · exact h.elim

theorem clrF_ok (hs : StOk W C ρ s a w) {τ : List (Nat × Ty)} {t e : TypeId} {ty : Ty} {bt : Nat} {x : Operand} (ho : o.op = .call ⟨.builtin .clear, #[x], #[t]⟩) (ht : P.underlying t = some (.slice e))
    (hk : kindOf P τ e = some (ty, bt)) {m zz b o' lo n c : Nat} (hev : s.ev x = .fs m zz b o' lo n c) (h : clrF ty s m zz b o' lo n c K) : WRes false P W C ρ s a w o K := by
  obtain ⟨i, z, hi, hz, hsz, hzz, hb, rfl⟩ := kindOf_spec hk
  have hexec : ∀ dv w', a.eval x = dv → (Builtin.clear_ #[t] o.type #[dv]).run P w = .ok (.tuple #[]) w' → (execOp a.eval o).run P w = .ok (.value (.tuple #[])) w' := by
    intro dv w' hx hr
    unfold execOp; rw [ho]
    simp [resolve, invoke, builtin, hx, hr]
  have hx := hs.fr.ev x
  rw [hev] at hx
  unfold clrF at h
  split at h
  · rename_i tn xs es yn hlk
    obtain ⟨⟨o1, c1, zs⟩, he, ⟨rfl, rfl, rfl, rfl, hle⟩, hK⟩ := someK_get h
    obtain ⟨hfl, hob, hfam⟩ := hs.hp.obj m _ hlk
    obtain ⟨T, vs, h2, h3, h4, h5, h6⟩ := hfam b _ _ _ he
    dsimp only at hle h2 h3 h4 h5 h6 hK hx he
    have hbne : ∀ x1, ρ m ≠ some (some (b, x1)) := (hs.hp.apartF m _ m _ b hlk hlk (by simp [FootO, he])).1
    generalize hv : a.eval x = v at hx
    cases hx with
    | @fs _ _ _ _ _ _ _ ad hlc had =>
      have famch : ∀ (w' : World) (zs' : List (inn tn).D), (∀ k, k ≠ b → w'.heap[k]? = w.heap[k]?) → Reads W C ρ w' (inn tn) b o1 c1 zs' → ObjOk W C ρ w' m (.nrow tn xs (fput es b (o1, c1, zs')) yn) := by
        intro w' zs' hk hR
        refine ⟨hfl, ?_, fun b1 o2 c2 zs2 he2 => ?_⟩
        · rcases hob with h8 | ⟨b', o'', c', T', vs', h8, h9, h10, h11, h12, h13, h14⟩
          · exact .inl h8
          · have hne : b' ≠ b := fun e => hbne _ (e ▸ h8)
            refine .inr ⟨b', o'', c', T', vs', h8, (hk b' hne).trans h9, h10, h11, h12, ?_, h14⟩
            unfold fput
            rw [if_neg hne]; exact h13
        · unfold fput at he2
          by_cases e : b1 = b
          · subst e
            rw [if_pos rfl] at he2
            cases he2
            exact hR
          · rw [if_neg e] at he2
            exact (hfam b1 o2 c2 zs2 he2).world (hk b1 e)
      have footch : ∀ (y1 : Nat × Nat × List (inn tn).D) (k : Nat), FootO (.nrow tn xs (fput es b y1) yn) k → FootO (.nrow tn xs es yn) k := by
        intro y1 k hk
        show (es k).isSome = true
        have hk : (fput es b y1 k).isSome = true := hk
        unfold fput at hk
        split at hk
        · rename_i e; subst e; rw [he]; rfl
        · exact hk
      rcases Nat.eq_zero_or_pos n with h0 | hpos
      · refine ⟨_, .tuple #[], _, w, ρ, hK, .inl (hexec _ _ hv (by subst h0; simp [Builtin.clear_, run_underlying ht])), Sub0.refl _, .junk _, rfl, rfl, ?_, fun e => by cases e⟩
        refine hs.hp.change' hlk (b := b) (.inr (by simp [FootO, he])) rfl rfl rfl rfl (fun k hk => rfl) (footch _) (famch _ _ (fun k hk => rfl) ?_)
        have hR : Reads W C ρ w (inn tn) b o1 c1 zs := ⟨T, vs, h2, h3, h4, h5, h6⟩
        subst h0
        unfold clrL
        split
        · exact hR.take lo
        · simpa using hR
      · have hm0 : lo * sz (inn tn) + n * sz (inn tn) ≤ c1 * sz (inn tn) := by rw [← Nat.add_mul]; exact Nat.mul_le_mul_right _ (by omega)
        rw [had (by omega)] at hv
        have hr := run_clear (rt := o.type) (cap := c1 - lo) ht hi hz hzz h2 hpos (o' := o1 + lo * sz (inn tn)) (by omega)
        refine ⟨_, .tuple #[], _, _, ρ, hK, .inl (hexec _ _ hv hr), Sub0.refl _, .junk _, rfl, rfl, ?_, fun e => by cases e⟩
        exact hs.hp.change' hlk (b := b) (.inr (by simp [FootO, he])) rfl rfl rfl (by simp) (fun k hk => heap_setRow_other _ _ _ _ hk) (footch _) (famch _ _ (fun k hk => heap_setRow_other _ _ _ _ hk) (Reads.clear (inn_flat' hfl) hzz h2 h3 h4 h5 h6 hle))
  · exact h.elim

theorem clr_ok (hs : StOk W C ρ s a w) {τ : List (Nat × Ty)} {t e : TypeId} {ty : Ty} {bt : Nat} {x : Operand} (ho : o.op = .call ⟨.builtin .clear, #[x], #[t]⟩) (ht : P.underlying t = some (.slice e))
    (hk : kindOf P τ e = some (ty, bt)) (h : wst s (.clr ty x) K) : WRes false P W C ρ s a w o K := by
  simp only [wst] at h
  split at h
  · exact clrN_ok hs ho ht hk h
  rename_i hfl0
  have hfl0 : flat ty = true := by simpa using hfl0
  split at h
  · rename_i hev
    exact clrF_ok hs ho ht hk hev h
  rotate_left
  · exact h.elim
  obtain ⟨i, z, hi, hz, hsz, hzz, hb, rfl⟩ := kindOf_spec hk
  have hzs : z.cells.size = sz ty := by
    have := congrArg List.length hzz
    rw [Array.length_toList] at this
    rw [zer_length] at this
    exact this
  have hexec : ∀ dv w', a.eval x = dv → (Builtin.clear_ #[t] o.type #[dv]).run P w = .ok (.tuple #[]) w' → (execOp a.eval o).run P w = .ok (.value (.tuple #[])) w' := by
    intro dv w' hx hr
    unfold execOp; rw [ho]
    simp [resolve, invoke, builtin, hx, hr]
  have hx := hs.fr.ev x
  · rename_i m z' lo len hav
    rw [hav] at hx
    split at h
    · rename_i t' xs hlk
      obtain rfl := castK_eq h
      replace h := castK_same h
      obtain ⟨⟨rfl, hle⟩, hK⟩ := h
      generalize hv : a.eval x = v at hx
      have unchanged : len = 0 → (Builtin.clear_ #[t] o.type #[v]).run P w = .ok (.tuple #[]) w → WRes false P W C ρ s a w o K := fun h0 hr => by
        subst h0
        refine ⟨_, .tuple #[], _, w, ρ, hK, .inl (hexec _ _ hv hr), Sub0.refl _, .junk _, rfl, rfl, ?_, fun e => by cases e⟩
        refine hs.hp.same fun k => ?_
        show lk (upd s.L m _) k = _
        rw [lk_upd]
        split
        · rename_i e; subst e; rw [hlk]; simp only [Option.map_some, clrL, Nat.add_zero, List.replicate_zero, List.append_nil, List.take_append_drop]; split <;> rename_i e
          · rw [e, List.take_length]
          · rfl
        · rfl
      cases hx with
      | sub0 hm => exact unchanged rfl (by simp [Builtin.clear_, run_underlying ht])
      | @sub _ _ _ _ b o' cap ad hm hlc had =>
        rcases Nat.eq_zero_or_pos len with h0 | hpos
        · exact unchanged h0 (by subst h0; simp [Builtin.clear_, run_underlying ht])
        · rcases hs.hp.obj m _ hlk with ⟨h1, _⟩ | ⟨b', o'', c', T, vs, h1, h2, h3, h4, h5, h6⟩
          · rw [hm] at h1; cases h1
          · rw [hm] at h1; cases h1
            have hmade := made_rows (W := W) (C := C) (ρ := ρ) t' hfl0 hzz len
            have hnl : (Builtin.zeroCells z.cells len).toList.length = len * sz t' := by rw [zero_made, hzs, hmade.1]; simp
            have hm0 : lo * sz t' + len * sz t' ≤ cap * sz t' := by rw [← Nat.add_mul]; exact Nat.mul_le_mul_right _ (by omega)
            have hfit : o' + lo * sz t' + (Builtin.zeroCells z.cells len).toList.length ≤ vs.length := by rw [hnl]; omega
            have hone : ∀ u ∈ (Builtin.zeroCells z.cells len).toList, u.oneCell' = true := by rw [zero_made, hzs]; exact hmade.one
            have hst := run_storeCells_at P b (o' + lo * sz t') T (Builtin.zeroCells z.cells len).toList 0 ⟨vs⟩ w h2 (by simpa using hfit) hone
            simp only [Nat.add_zero] at hst
            obtain ⟨q, rfl⟩ : ∃ q, len = q + 1 := ⟨len - 1, by omega⟩
            rw [had (by omega)] at hv
            have hr : (Builtin.clear_ #[t] o.type #[.slice (some ⟨b, o' + lo * sz t', none⟩) (q + 1) (cap - lo)]).run P w = .ok (.tuple #[]) (w.setRow b ⟨spliceV vs (o' + lo * sz t') (Builtin.zeroCells z.cells (q + 1)).toList⟩) := by
              simp only [Builtin.clear_]
              simp [run_underlying ht, zeroValue, typeInfo, hi, hz]
              simp at hst
              simp [hst, spliceV]
            refine ⟨_, .tuple #[], _, _, ρ, hK, .inl (hexec _ _ hv hr), Sub0.refl _, .junk _, rfl, rfl, ?_, fun e => by cases e⟩
            refine hs.hp.change hlk hm rfl rfl rfl (by simp) (fun k hk => heap_setRow_other _ _ _ _ hk) (clr_cut hle (.inr ⟨b, o', cap, T, _, hm, heap_setRow_same _ _ _ h2, ?_, ?_, h5, ?_⟩))
            · simp only [spliceV, List.length_append, List.length_take, List.length_drop]; omega
            · simp; omega
            · intro i1 f1 x1 av1 h7 h8
              have hf1 : f1 < sz t' := by have := (List.getElem?_eq_some_iff.1 h8).1; rwa [enc_length] at this
              rw [clr_get _ _ _ _ _ hle] at h7
              rw [get_splice hfit, hnl]
              split at h7
              · rename_i hin
                cases h7
                have hlt := mul_lt (s := sz t') (show i1 - lo < q + 1 by omega) (Nat.le_refl _)
                have e1 : i1 * sz t' = lo * sz t' + (i1 - lo) * sz t' := by rw [← Nat.add_mul]; congr 1; omega
                obtain ⟨u, h9, h10⟩ := hmade.2 (i1 - lo) f1 _ _ (by rw [List.getElem?_replicate, if_pos (by omega)]) h8
                refine ⟨u, ?_, h10⟩
                rw [if_pos (by omega), zero_made, hzs, ← h9]
                congr 1; omega
              · rename_i hout
                obtain ⟨u, h9, h10⟩ := h6 _ f1 x1 av1 h7 h8
                refine ⟨u, ?_, h10⟩
                rw [if_neg]
                · exact h9
                · by_cases hlo : i1 < lo
                  · have := mul_lt (s := sz t') hlo (Nat.le_refl _); omega
                  · have : (lo + (q + 1)) * sz t' ≤ i1 * sz t' := Nat.mul_le_mul_right _ (by omega)
                    rw [Nat.add_mul] at this; omega
    · exact h.elim

theorem flat_rep {l : List Value} {z : Nat} (hl : l.length = z) : ∀ {n i f : Nat}, i < n → f < z → (List.replicate n l).flatten[i * z + f]? = l[f]?
  | 0, i, f, hi, _ => by omega
  | n + 1, 0, f, _, hf => by
    rw [List.replicate_succ, List.flatten_cons, List.getElem?_append_left (by omega)]; simp
  | n + 1, i + 1, f, hi, hf => by
    rw [List.replicate_succ, List.flatten_cons, List.getElem?_append_right (by rw [hl, Nat.add_mul]; omega), hl, show (i + 1) * z + f - z = i * z + f by rw [Nat.add_mul]; omega]
    exact flat_rep hl (by omega) hf
theorem newr_ok (hs : StOk W C ρ s a w) {t : TypeId} {i : TypeInfo} {z : Value} {ty : Ty} {n : Nat} (ho : o.op = .alloc t) (hi : P.info? t = some i) (hz : i.zero = some z) (hzz : z.cells.toList = (List.replicate n (zer ty)).flatten)
    (h : wst s (.newr ty n) K) : WRes true P W C ρ s a w o K := by
  simp only [wst] at h
  obtain ⟨⟨hn0, hflt⟩, h⟩ := h
  have hn := nset_sub (hs.hp.above s.nx (Nat.le_refl _)) (some (w.heap.size, 0, n))
  refine ⟨_, .pointer (some ⟨w.heap.size, 0, none⟩), _, w.alloc (.cells z.cells t), nset ρ s.nx (some (w.heap.size, 0, n)), h, .inl ?_, hn, .arp (nset_same _ _ _), rfl, rfl, ?_, fun _ => (Below.refl _ _).alloc (Nat.le_refl _) _⟩
  · unfold execOp; rw [ho]
    simp [Instr.alloc, newVar, newRow, zeroValue, typeInfo, hi, hz]
  · have hzl : (zer ty).length = sz ty := zer_length ty
    have hr : RowsAt W C ρ ty (List.replicate n (dflt ty)) (List.replicate n (zer ty)).flatten := by
      refine ⟨by simp [hzl], fun i f x av h1 h2 => ?_⟩
      have hlt : i < n := by have := (List.getElem?_eq_some_iff.1 h1).1; simpa using this
      rw [List.getElem?_replicate, if_pos hlt] at h1
      cases h1
      rw [enc_dflt ty hflt, List.getElem?_map, Option.map_eq_some_iff] at h2
      obtain ⟨u, h3, rfl⟩ := h2
      have hf : f < sz ty := by rw [← hzl]; exact (List.getElem?_eq_some_iff.1 h3).1
      refine ⟨u, ?_, .v _⟩
      rw [flat_rep hzl hlt hf]; exact h3
    have := row_new hs.hp (Below.refl _ _) rfl (e := t) (c := n) (rest := []) hr (by simp [hzl]) (by simp) (by unfold mostLen; omega)
    rw [List.append_nil, ← hzz] at this
    exact this

theorem cpyL_get {α : Type} {xs ys : List α} {lo len : Nat} (h : lo + len ≤ xs.length) (i : Nat) : (cpyL xs ys lo len)[i]? = if lo ≤ i ∧ i < lo + min len ys.length then ys[i - lo]? else xs[i]? := by
  unfold cpyL
  rw [List.append_assoc, List.getElem?_append]
  have h1 : (xs.take lo).length = lo := by rw [List.length_take]; omega
  rw [h1]
  by_cases e : i < lo
  · rw [if_pos e, if_neg (by omega), List.getElem?_take, if_pos e]
  · rw [if_neg e, List.getElem?_append]
    have h2 : (ys.take (min len ys.length)).length = min len ys.length := by rw [List.length_take]; omega
    rw [h2]
    by_cases e2 : i - lo < min len ys.length
    · rw [if_pos e2, if_pos (by omega), List.getElem?_take, if_pos e2]
    · rw [if_neg e2, if_neg (by omega), List.getElem?_drop]
      congr 1; omega
theorem cpyL_len {α : Type} {xs ys : List α} {lo len : Nat} (h : lo + len ≤ xs.length) : (cpyL xs ys lo len).length = xs.length := by
  unfold cpyL; simp; omega

theorem cpy_ok (hs : StOk W C ρ s a w) {τ : List (Nat × Ty)} {t e : TypeId} {ty : Ty} {bt : Nat} {x y : Operand} (ho : o.op = .call ⟨.builtin .copy, #[x, y], #[t, t]⟩) (ht : P.underlying t = some (.slice e))
    (hk : kindOf P τ e = some (ty, bt)) (h : wst s (.cpy ty x y) K) : WRes false P W C ρ s a w o K := by
  simp only [wst] at h
  obtain ⟨i, z, hi, hz, hsz, hzz, hb, rfl⟩ := kindOf_spec hk
  obtain ⟨ys, A, c0, news, h, hy, hrows, hA, hcell⟩ := rows_ok hs h
  have hexec : ∀ dv v' w', a.eval x = dv → (Builtin.copy_ #[t, t] o.type #[dv, .slice A ys.length c0]).run P w = .ok v' w' → (execOp a.eval o).run P w = .ok (.value v') w' := by
    intro dv v' w' hx hr
    unfold execOp; rw [ho]
    simp [resolve, invoke, builtin, hx, hy, hr]
  have hx := hs.fr.ev x
  split at h
  · rename_i m z' lo len hav
    rw [hav] at hx
    split at h
    · rename_i t' xs hlk
      obtain rfl := castK_eq h
      replace h := castK_same h
      obtain ⟨⟨rfl, hle⟩, hK⟩ := h
      generalize hv : a.eval x = v at hx
      have hml : min ys.length len = min len ys.length := Nat.min_comm _ _
      have hfirst : (Builtin.firstCells i.size (min len ys.length) (.slice A ys.length c0)).run P w = .ok (news.take (min len ys.length * i.size)).toArray w := by
        rw [hsz]
        have hnl := hrows.1
        have hmm : min len ys.length * sz t' ≤ ys.length * sz t' := Nat.mul_le_mul_right _ (by omega)
        cases A with
        | none =>
          have := hA rfl; subst this
          have : news = [] := by simpa using hnl
          subst this
          simp [Builtin.firstCells]
        | some ad =>
          refine run_firstCells_some w _ _ ad _ _ _ (by rw [List.length_take]; omega) fun j u hj => hcell ad rfl j u ?_
          rw [List.getElem?_take] at hj
          split at hj
          · exact hj
          · cases hj
      have unchanged : min len ys.length = 0 → (Builtin.copy_ #[t, t] o.type #[v, .slice A ys.length c0]).run P w = .ok (.int .i64 (min len ys.length : Nat)) w → WRes false P W C ρ s a w o K := fun h0 hr => by
        refine ⟨_, _, _, w, ρ, hK, .inl (hexec _ _ _ hv hr), Sub0.refl _, .v _, rfl, rfl, ?_, fun e => by cases e⟩
        refine hs.hp.same fun k => ?_
        show lk (upd s.L m _) k = _
        rw [lk_upd]
        split
        · rename_i e; subst e; rw [hlk]; simp only [Option.map_some, cpyL, h0, List.take_zero, List.append_nil, Nat.add_zero, List.take_append_drop]
        · rfl
      cases hx with
      | sub0 hm =>
        refine unchanged (by simp) ?_
        rw [show min 0 ys.length = 0 by simp] at hfirst ⊢
        simp only [Builtin.copy_]
        simp [run_underlying ht, sizeOf, typeInfo, hi, Builtin.lenOf, goInt]
        simp at hfirst
        simp [hfirst]
      | @sub _ _ _ _ b o' cap ad hm hlc had =>
        rcases Nat.eq_zero_or_pos (min len ys.length) with h0 | hpos
        · refine unchanged h0 ?_
          rw [h0] at hfirst ⊢
          simp only [Builtin.copy_]
          simp [run_underlying ht, sizeOf, typeInfo, hi, Builtin.lenOf, goInt, hml, h0]
          simp at hfirst
          simp [hfirst, storeCells]
        · rcases hs.hp.obj m _ hlk with ⟨h1, _⟩ | ⟨b', o'', c', T, vs, h1, h2, h3, h4, h5, h6⟩
          · rw [hm] at h1; cases h1
          · rw [hm] at h1; cases h1
            have hnl := hrows.1
            generalize hq : min len ys.length = q at *
            have hmm : q * sz t' ≤ ys.length * sz t' := Nat.mul_le_mul_right _ (by omega)
            have hm0 : lo * sz t' + len * sz t' ≤ cap * sz t' := by rw [← Nat.add_mul]; exact Nat.mul_le_mul_right _ (by omega)
            have hm1 : q * sz t' ≤ len * sz t' := Nat.mul_le_mul_right _ (by omega)
            have hnl2 : (news.take (q * sz t')).length = q * sz t' := by rw [List.length_take]; omega
            have hfit : o' + lo * sz t' + (news.take (q * sz t')).length ≤ vs.length := by rw [hnl2]; omega
            have hone : ∀ u ∈ news.take (q * sz t'), u.oneCell' = true := fun u hu => hrows.one u (List.mem_of_mem_take hu)
            have hst := run_storeCells_at P b (o' + lo * sz t') T (news.take (q * sz t')) 0 ⟨vs⟩ w h2 (by simpa using hfit) hone
            simp only [Nat.add_zero] at hst
            rw [had (by omega)] at hv
            rw [hsz] at hfirst
            have hr : (Builtin.copy_ #[t, t] o.type #[.slice (some ⟨b, o' + lo * sz t', none⟩) len (cap - lo), .slice A ys.length c0]).run P w = .ok (.int .i64 (q : Nat)) (w.setRow b ⟨spliceV vs (o' + lo * sz t') (news.take (q * sz t'))⟩) := by
              simp only [Builtin.copy_]
              simp [run_underlying ht, sizeOf, typeInfo, hi, Builtin.lenOf, goInt, hml, hsz, hfirst, hst, spliceV]
            refine ⟨_, _, _, _, ρ, hK, .inl (hexec _ _ _ hv hr), Sub0.refl _, .v _, rfl, rfl, ?_, fun e => by cases e⟩
            refine hs.hp.change hlk hm rfl rfl rfl (by simp) (fun k hk => heap_setRow_other _ _ _ _ hk) (.inr ⟨b, o', cap, T, _, hm, heap_setRow_same _ _ _ h2, ?_, ?_, h5, ?_⟩)
            · simp only [spliceV, List.length_append, List.length_take, List.length_drop]; omega
            · rw [cpyL_len hle]; exact h4
            · intro i1 f1 x1 av1 h7 h8
              have hf1 : f1 < sz t' := by have := (List.getElem?_eq_some_iff.1 h8).1; rwa [enc_length] at this
              rw [cpyL_get hle, hq] at h7
              rw [get_splice hfit, hnl2]
              split at h7
              · rename_i hin
                have hlt := mul_lt (s := sz t') (show i1 - lo < q by omega) (Nat.le_refl _)
                have e1 : i1 * sz t' = lo * sz t' + (i1 - lo) * sz t' := by rw [← Nat.add_mul]; congr 1; omega
                obtain ⟨u, h9, h10⟩ := hrows.2 (i1 - lo) f1 _ _ h7 h8
                refine ⟨u, ?_, h10⟩
                rw [if_pos (by omega), List.getElem?_take, if_pos (by omega), ← h9]
                congr 1; omega
              · rename_i hout
                obtain ⟨u, h9, h10⟩ := h6 _ f1 x1 av1 h7 h8
                refine ⟨u, ?_, h10⟩
                rw [if_neg]
                · exact h9
                · by_cases hlo : i1 < lo
                  · have := mul_lt (s := sz t') hlo (Nat.le_refl _); omega
                  · have : (lo + q) * sz t' ≤ i1 * sz t' := Nat.mul_le_mul_right _ (by omega)
                    rw [Nat.add_mul] at this; omega
    · exact h.elim
  · exact h.elim

theorem rows_flat {t : Ty} {xs : List t.D} {news : List Value} (h : RowsAt W C ρ t xs news) : DenL W C ρ (xs.map (enc t)).flatten news := by
  refine ⟨by rw [flat_len, h.1], fun k av u h1 h2 => ?_⟩
  obtain ⟨i, f, x, rfl, hlt, h3, h4⟩ := flat_get t xs k av h1
  obtain ⟨u', h5, h6⟩ := h.2 i f x av h3 h4
  rw [h2] at h5; cases h5; exact h6
theorem b2s_ok (hs : StOk W C ρ s a w) {t d e : TypeId} {ty : Ty} {x : Operand} (ho : o.op = .convert t d x) (ht : P.underlying t = some (.slice e)) (hd : P.underlying d = some .string) (he : P.underlying e = some (.int .u8))
    (h : wst s (.b2s ty x) K) : WRes true P W C ρ s a w o K := by
  simp only [wst] at h
  obtain ⟨ys, A, c, news, ⟨h1, h⟩, hy, hrows, hA, hcell⟩ := rows_ok hs h
  unfold someK at h
  split at h
  · rename_i l hl
    have hn := u8s_den (rows_flat hrows) hl
    refine ⟨_, .string (bstr l), s, w, ρ, h, .inl ?_, Sub0.refl _, .v _, rfl, rfl, hs.hp, fun _ => Below.refl _ _⟩
    unfold execOp; rw [ho]
    simp only [Sem.run_bind, hy, run_convert_bytes_string w t d e A _ _ ht he hd]
    have hnl : news.length = ys.length := by rw [hrows.1, h1, Nat.mul_one]
    cases A with
    | none =>
      have := hA rfl; subst this
      have hl0 : l = [] := by
        have : l.length = 0 := by rw [← List.length_map (f := Value.int .u8), ← hn]; exact hnl
        exact List.length_eq_zero_iff.1 this
      subst hl0
      rfl
    | some ad =>
      have hld : (loadCells ad ys.length).run P w = .ok news.toArray w := by
        have := run_firstCells_some (P := P) w 1 ys.length ad ys.length c news (by omega) (hcell ad rfl)
        simpa [Builtin.firstCells] using this
      rw [run_bytesToString w ad ys.length c l (by rw [hld, hn])]
      rfl
  · exact h.elim

theorem mmk_ok (hs : StOk W C ρ s a w) {t : TypeId} {r : Option Operand} {kk : KK} {mp : Bool} (ho : o.op = .makeMap t r) (hr : r = none ∨ ∃ k n, r = some (.const (.int k n))) (hm : mapOf P t = some (kk, mp)) (h : wst s (.mmk kk mp) K) : WRes true P W C ρ s a w o K := by
  obtain ⟨k, e, ie, hu, hk, hi, hz⟩ := mapOf_spec hm
  simp only [wst] at h
  have hn := nset_sub (hs.hp.above s.nx (Nat.le_refl _)) (some (w.heap.size, 0, 0))
  refine ⟨_, .map (some w.heap.size), _, w.alloc (.map #[] 0), nset ρ s.nx (some (w.heap.size, 0, 0)), h, .inl ?_, hn, .mp (nset_same _ _ _), rfl, rfl, ?_, fun _ => (Below.refl _ _).alloc (Nat.le_refl _) _⟩
  · unfold execOp; rw [ho]
    rcases hr with rfl | ⟨k', n, rfl⟩
    · have h0 : (Instr.makeMap t none).run P w = .ok (.map (some w.heap.size)) (w.alloc (.map #[] 0)) := rfl
      simp [h0]
    · have h0 : (Instr.makeMap t (some (.int k' n))).run P w = .ok (.map (some w.heap.size)) (w.alloc (.map #[] 0)) := by
        have h2 : (newObj (.map #[] 0)).run P w = .ok w.heap.size (w.alloc (.map #[] 0)) := rfl
        simp [Instr.makeMap, run_underlying hu, asInt, asIntOf, h2]
      simp [h0, Act.eval]
  · exact hs.hp.alloc (Below.refl _ _) rfl ⟨w.heap.size, #[], 0, nset_same _ _ _, (MapKept.heap_alloc w _).1, .nil⟩

theorem valK_ok {mp : Bool} {av : AVal} {v : Value} {K : ByteArray → Prop} (hd : Den W C ρ av v) (h : valK mp av K) : ∃ x, v = valV mp x ∧ K x := by
  unfold valK at h
  split at h
  · rename_i e; subst e
    split at h
    · exact ⟨_, by rw [den_v hd]; rfl, h⟩
    · exact h.elim
  · rename_i e
    split at h
    · obtain ⟨rfl, h⟩ := h
      exact ⟨_, by rw [den_v hd]; simp [valV, e], h⟩
    · exact h.elim

theorem mput_ok (hs : StOk W C ρ s a w) {t : TypeId} {m k v : Operand} {kk : KK} {mp : Bool} (ho : o.op = .mapUpdate t m k v ∨ o.op = .insert t m k v) (hm : mapOf P t = some (kk, mp)) (h : wst s (.mput kk mp m k v) K) : WRes false P W C ρ s a w o K := by
  obtain ⟨kt, e, ie, hu, hk, hi, hz⟩ := mapOf_spec hm
  simp only [wst] at h
  have hdm := hs.fr.ev m
  have hdk := hs.fr.ev k
  have hdv := hs.fr.ev v
  split at h
  · rename_i n hx
    rw [hx] at hdm
    split at h
    · rename_i kk' mp' es hl
      obtain ⟨⟨rfl, rfl⟩, h⟩ := h
      obtain ⟨key, hok, hkv, h⟩ := keyK_ok hdk h
      obtain ⟨x, hxv, hK⟩ := valK_ok hdv h
      generalize hvm : a.eval m = vm at hdm
      cases hdm with
      | @mp _ b hb =>
        obtain ⟨b', l, c, h1, h2, h3⟩ := hs.hp.obj n _ hl
        rw [hb] at h1; cases h1
        have hrun : ∀ l' c', (Instr.mapUpdate t (.map (some b)) (keyV key) (valV mp' x)).run P w = .ok () { w with heap := w.heap.setIfInBounds b (.map l' c') } → MapOk kk' mp' ((key, x) :: es) l'.toList → WRes false P W C ρ s a w o K := by
          intro l' c' hrun hmo
          have hlt : b < w.heap.size := (Array.getElem?_eq_some_iff.1 h2).1
          refine ⟨_, undef, _, { w with heap := w.heap.setIfInBounds b (.map l' c') }, ρ, hK, .inr ⟨?_, rfl⟩, Sub0.refl _, .junk _, rfl, rfl, ?_, fun e => by cases e⟩
          · unfold execOp
            rcases ho with ho | ho <;> rw [ho] <;> simp [hvm, hkv, hxv, hrun]
          · refine hs.hp.change hl hb rfl rfl rfl (by simp) (fun k hk => ?_) ⟨b, l', c', hb, ?_, hmo⟩
            · simp only [Array.getElem?_setIfInBounds]
              rw [if_neg (by omega)]
            · simp [Array.getElem?_setIfInBounds, hlt]
        rcases h3.find hk hok w with ⟨h4, h5, h6⟩ | ⟨j, e0, y, h4, h5, h6, h7, h8⟩
        · refine hrun (l.push ⟨keyV key, valV mp' x, c⟩) (c + 1) ?_ ?_
          · simp [Instr.mapUpdate, run_underlying hu, MapKept.run_getObj_map h2, kk_check hk hok, h4, MapKept.run_setObj_map _ h2]
          · have := h3.push hok h6 x c
            simpa using this
        · refine hrun (l.modify j fun e => { e with key := keyV key, val := valV mp' x }) c ?_ ?_
          · have h5' : l[j]? = some e0 := by simpa using h5
            simp [Instr.mapUpdate, run_underlying hu, MapKept.run_getObj_map h2, kk_check hk hok, h4, h5', h6, kk_stays, MapKept.run_setObj_map _ h2]
          · have := h3.modify hok h5 h6 x
            simpa using this
    · exact h.elim
  · exact h.elim

def mildW : IOp → Bool
  | .mmk _ _ => true
  | .box _ => true
  | .new _ => true
  | .newr _ _ => true
  | .b2s _ _ => true
  | .mk _ _ _ _ => true
  | .blds _ _ _ => true
  | _ => false

theorem wst_ok (hs : StOk W C ρ s a w) {τ : List (Nat × Ty)} {io : IOp} (hl : lowW P τ o.op = some io) (h : wst s io K) : WRes (mildW io) P W C ρ s a w o K := by
  generalize ho : o.op = op at hl
  unfold lowW at hl
  split at hl
  · cases hl; exact box_ok hs ho h
  · split at hl
    · rename_i hi
      split at hl
      · rename_i hz
        split at hl
        · split at hl
          · rename_i hzz; cases hl; exact newr_ok hs ho hi hz (sameVs_eq hzz) h
          · cases hl
        · cases hl; exact new_ok hs ho hi hz h
      · cases hl
    · cases hl
  · split at hl
    · rename_i hi; cases hl; exact store_ok hs ho hi h
    · cases hl
  · split at hl
    · rename_i ht
      split at hl
      · rename_i hk; cases hl; exact mk_ok hs ho ht hk h
      · cases hl
    · cases hl
  · split at hl
    · rename_i ht
      split at hl
      · rename_i hk
        split at hl
        · rename_i hps; cases hl; exact blds_ok hs ho ht hk hps h
        · cases hl
      · cases hl
    · cases hl
  · split at hl
    · rename_i ht
      split at hl
      · rename_i hk; cases hl; exact clr_ok hs ho ht hk h
      · cases hl
    · cases hl
  · split at hl
    · rename_i e
      subst e
      split at hl
      · rename_i ht
        split at hl
        · rename_i hk; cases hl; exact cpy_ok hs ho ht hk h
        · cases hl
      · cases hl
    · cases hl
  · split at hl
    · rename_i e
      subst e
      split at hl
      · rename_i ht
        split at hl
        · rename_i hk; cases hl; exact app_ok hs ho ht hk h
        · cases hl
      · cases hl
    · cases hl
  · split at hl
    · rename_i ht hd
      split at hl
      · rename_i he hk; cases hl; exact b2s_ok hs ho ht hd he h
      · cases hl
    · cases hl
  · split at hl
    · rename_i hm; cases hl; exact mmk_ok hs ho (.inl rfl) hm h
    · cases hl
  · split at hl
    · rename_i hm; cases hl; exact mmk_ok hs ho (.inr ⟨_, _, rfl⟩) hm h
    · cases hl
  · split at hl
    · rename_i hm; cases hl; exact mput_ok hs (.inl ho) hm h
    · cases hl
  · split at hl
    · rename_i hm; cases hl; exact mput_ok hs (.inr ho) hm h
    · cases hl
  · cases hl
end
end Go.Proofs.YtnbfnpnephfjaaaE

/-! Specifications of functions, and calls. -/
namespace Go.Proofs.YtnbfnpnephfjaaaE
open Go Go.RowKit
set_option linter.unusedSimpArgs false
set_option linter.unusedVariables false

def pos : List Nat → Nat → Option Nat
  | [], _ => none
  | x :: r, m => if x = m then some 0 else (pos r m).map (· + 1)
def nodupB : List Nat → Bool
  | [] => true
  | x :: r => !r.contains x && nodupB r
def allP {α : Type _} (f : α → Prop) : List α → Prop
  | [] => True
  | x :: r => f x ∧ allP f r
theorem allP_mem {α : Type _} {f : α → Prop} : ∀ {l : List α}, allP f l → ∀ x ∈ l, f x
  | _ :: _, h, x, hx => by
    rcases List.mem_cons.1 hx with rfl | hx
    · exact h.1
    · exact allP_mem h.2 x hx

/-! A row of rows as it reads. -/
def famG {t : Ty} (es : Fam t) (b : Nat) : List (inn t).D := match es b with
  | some y => y.2.2
  | none => []
def contR (t : Ty) (es : Fam t) : Ref → List (inn t).D
  | .nil => []
  | .own b o n c => (famG es b).take n
def plain1 (t : Ty) (es : Fam t) (e : NR t) : t.D := setIn t e.x (contR t es e.r)
def plainN (t : Ty) (xs : List (NR t)) (es : Fam t) (ys : List t.D) : List t.D := xs.map (plain1 t es) ++ ys
def RefOk {t : Ty} (es : Fam t) : Ref → Prop
  | .nil => True
  | .own b o n c => ∃ zs, es b = some (o, c, zs) ∧ n ≤ zs.length
def refsOk {t : Ty} (xs : List (NR t)) (es : Fam t) : Prop := ∀ e ∈ xs, RefOk es e.r

/-- A value as a callee sees it: the objects that it is given have numbers of its own, all else it can only read. -/
def view1 (kp : Bool) (ms : List Nat) (L : Hp) : AVal → AVal
  | .v x => .v x
  | .rs t xs => .rs t xs
  | .re t x f => .re t x f
  | .rp t xs => .rp t xs
  | .ptr m off => match pos ms m with
    | some i => .ptr i off
    | none => .junk
  | .elt m z j f => match pos ms m with
    | some i => .elt i z j f
    | none => .junk
  | .sub m z lo len => match pos ms m with
    | some i => .sub i z lo len
    | none => if kp = true then .junk else match lk L m with
      | some (.row t xs) => .rs t ((xs.drop lo).take len)
      | some (.nrow t xs es ys) => .rs t (((plainN t xs es ys).drop lo).take len)
      | _ => .junk
  | .fs m z b o lo k c => match pos ms m with
    | some i => .fs i z b o lo k c
    | none => if kp = true then .junk else match lk L m with
      | some (.nrow t xs es ys) => .rs (inn t) (((famG es b).drop lo).take k)
      | _ => .junk
  | .fp m z b o j f => match pos ms m with
    | some i => .fp i z b o j f
    | none => .junk
  | _ => .junk
def vok1 (kp : Bool) (ms : List Nat) (L : Hp) : AVal → Prop
  | .sub m z lo len => match pos ms m with
    | some _ => True
    | none => if kp = true then True else match lk L m with
      | some (.row t xs) => z = sz t ∧ lo + len ≤ xs.length
      | some (.nrow t xs es ys) => z = sz t ∧ lo + len ≤ xs.length + ys.length ∧ refsOk xs es
      | _ => True
  | .fs m z b o lo k c => match pos ms m with
    | some _ => True
    | none => if kp = true then True else match lk L m with
      | some (.nrow t xs es ys) => someK (es b) fun y => y.1 = o ∧ y.2.1 = c ∧ z = sz (inn t) ∧ lo + k ≤ y.2.2.length
      | _ => True
  | _ => True
def view (kp : Bool) (ms : List Nat) (L : Hp) : AVal → AVal
  | .agg cs => .agg (cs.map (view1 kp ms L))
  | .fn f cs => .fn f (cs.map (view1 kp ms L))
  | av => view1 kp ms L av
def vok (kp : Bool) (ms : List Nat) (L : Hp) : AVal → Prop
  | .agg cs => allP (vok1 kp ms L) cs
  | .fn _ cs => allP (vok1 kp ms L) cs
  | av => vok1 kp ms L av
def viewO (kp : Bool) (ms : List Nat) (L : Hp) : AObj → AObj
  | .box cs => .box (cs.map (view1 kp ms L))
  | .row t xs => .row t xs
  | .set kk mp es => .set kk mp es
  | .nrow t xs es ys => .nrow t xs es ys
def vokO (kp : Bool) (ms : List Nat) (L : Hp) : AObj → Prop
  | .box cs => allP (vok1 kp ms L) cs
  | .row _ _ => True
  | .set _ _ _ => True
  | .nrow _ _ _ ys => ys = []
/-- What may be handed back. -/
def okN : AObj → Bool
  | .row t _ => flat t
  | .nrow _ _ _ (_ :: _) => false
  | _ => true
def okL : Hp → Bool
  | [] => true
  | (_, o) :: r => okN o && okL r
theorem okL_get : ∀ {L : Hp}, okL L = true → ∀ {m : Nat} {o : AObj}, lk L m = some o → okN o = true
  | (k, x) :: r, h, m, o, hm => by
    simp [okL] at h
    simp only [lk] at hm
    split at hm
    · cases hm; exact h.1
    · exact okL_get h.2 hm

def nth : List Nat → Nat → Option Nat
  | [], _ => none
  | x :: r, k => if k = 0 then some x else nth r (k - 1)
/-- The callee's numbers, back in the caller's: what was handed over has its name again, all else is new. -/
def rn (ms : List Nat) (nx k : Nat) : Nat := match nth ms k with
  | some m => m
  | none => nx + k
def ren1 (kp : Bool) (n : Nat → Nat) : AVal → AVal
  | .v x => .v x
  | .ptr m off => .ptr (n m) off
  | .elt m z j f => .elt (n m) z j f
  | .sub m z lo len => .sub (n m) z lo len
  | .rs t xs => if kp = true then .rs t xs else .junk
  | .fs m z b o lo k c => .fs (n m) z b o lo k c
  | .fp m z b o j f => .fp (n m) z b o j f
  | _ => .junk
def ren2 (kp : Bool) (n : Nat → Nat) : AVal → AVal
  | .agg cs => .agg (cs.map (ren1 kp n))
  | av => ren1 kp n av
def ren (kp : Bool) (n : Nat → Nat) : AVal → AVal
  | .tup cs => .tup (cs.map (ren2 kp n))
  | av => ren2 kp n av
def renO (kp : Bool) (n : Nat → Nat) : AObj → AObj
  | .box cs => .box (cs.map (ren1 kp n))
  | .row t xs => .row t xs
  | .set kk mp es => .set kk mp es
  | .nrow t xs es ys => .nrow t xs es ys
def renL (kp : Bool) (n : Nat → Nat) : Hp → Hp
  | [] => []
  | (m, o) :: r => (n m, renO kp n o) :: renL kp n r
def eraAll (L : Hp) : List Nat → Hp
  | [] => L
  | m :: r => eraAll (era L m) r
def num (k : Nat) : List AObj → Hp
  | [] => []
  | o :: r => (k, o) :: num (k + 1) r
def objsK (L : Hp) : List Nat → (List AObj → Prop) → Prop
  | [], K => K []
  | m :: r, K => match lk L m with
    | some o => objsK L r fun os => K (o :: os)
    | none => False

structure Spec where
  take : Hp → List AVal → List Nat
  f : List AVal → List AObj → (AVal → Hp → Nat → Prop) → Prop
  /-- What can only be read comes back as such (then no own row may be read in passing). -/
  keep : Bool

def callK (sp : Spec) (s : S) (args : List AVal) (K : AVal → S → Prop) : Prop :=
  nodupB (sp.take s.L args) = true ∧ allP (vok sp.keep (sp.take s.L args) s.L) args ∧ objsK s.L (sp.take s.L args) fun objs =>
    allP (vokO sp.keep (sp.take s.L args) s.L) objs ∧
    sp.f (args.map (view sp.keep (sp.take s.L args) s.L)) (objs.map (viewO sp.keep (sp.take s.L args) s.L)) fun r L' nx' =>
      K (ren sp.keep (rn (sp.take s.L args) s.nx) r) { s with L := renL sp.keep (rn (sp.take s.L args) s.nx) L' ++ eraAll s.L (sp.take s.L args), nx := s.nx + nx' }

/-- The function does what is said of it, wherever it is called. -/
def Valid (P : Program) (f : Nat) (sp : Spec) : Prop :=
  ∀ (W : World) (C : CR) (ρ : Nm) (args : List AVal) (vals : List Value) (objs : List AObj) (K : AVal → Hp → Nat → Prop),
    DenL W C ρ args vals → HpOk W C ρ objs.length W (num 0 objs) → sp.f args objs K →
    Calls P f ⟨vals⟩ W fun e w' => ∃ r v L' nx' ρ', e = .returned v ∧ Den W C ρ' r v ∧ HpOk W C ρ' nx' w' L' ∧ (∀ i, i < objs.length → ρ' i = ρ i) ∧ okL L' = true ∧ K r L' nx'

theorem pos_get : ∀ {ms : List Nat} {m i : Nat}, pos ms m = some i → ms[i]? = some m
  | x :: r, m, i, h => by
    simp only [pos] at h
    split at h
    · cases h; simp; assumption
    · rw [Option.map_eq_some_iff] at h
      obtain ⟨j, hj, rfl⟩ := h
      simpa using pos_get hj
theorem pos_none : ∀ {ms : List Nat} {m : Nat}, pos ms m = none → m ∉ ms
  | [], m, _ => by simp
  | x :: r, m, h => by
    simp only [pos] at h
    split at h
    · cases h
    · rename_i hne
      simp at h
      simp only [List.mem_cons, not_or]
      exact ⟨fun e => hne e.symm, pos_none h⟩
theorem nodup_of : ∀ {ms : List Nat}, nodupB ms = true → ms.Nodup
  | [], _ => List.nodup_nil
  | x :: r, h => by
    simp [nodupB] at h
    exact List.nodup_cons.2 ⟨h.1, nodup_of h.2⟩
theorem lk_eraAll : ∀ (ms : List Nat) (L : Hp) (k : Nat), lk (eraAll L ms) k = if k ∈ ms then none else lk L k
  | [], L, k => by simp [eraAll]
  | m :: r, L, k => by
    rw [eraAll, lk_eraAll r, lk_era]
    by_cases h : k ∈ r
    · simp [h]
    · by_cases e : k = m <;> simp [h, e]
theorem lk_append {L M : Hp} {k : Nat} : lk (L ++ M) k = (lk L k).orElse fun _ => lk M k := by
  induction L with
  | nil => simp [lk]
  | cons x r ih =>
    obtain ⟨i, o⟩ := x
    simp only [List.cons_append, lk]
    split
    · rfl
    · exact ih
theorem lk_renL {kp : Bool} {f : Nat → Nat} (inj : ∀ a b, f a = f b → a = b) : ∀ (L : Hp) {m : Nat} {o : AObj}, lk (renL kp f L) m = some o → ∃ k o', m = f k ∧ o = renO kp f o' ∧ lk L k = some o'
  | [], m, o, h => by simp [renL, lk] at h
  | (j, x) :: r, m, o, h => by
    simp only [renL, lk] at h
    split at h
    · rename_i e; cases h; exact ⟨j, x, e.symm, rfl, by simp [lk]⟩
    · rename_i e
      obtain ⟨k, o', h1, h2, h3⟩ := lk_renL inj r h
      refine ⟨k, o', h1, h2, ?_⟩
      simp only [lk]
      rw [if_neg (fun e2 => e (by rw [e2, h1]))]; exact h3
theorem nth_eq : ∀ (l : List Nat) (k : Nat), nth l k = l[k]?
  | [], k => by simp [nth]
  | x :: r, 0 => by simp [nth]
  | x :: r, k + 1 => by simp [nth, nth_eq r]
theorem lk_num : ∀ (os : List AObj) (k j : Nat), lk (num k os) j = if k ≤ j then os[j - k]? else none
  | [], k, j => by simp [num, lk]
  | o :: r, k, j => by
    simp only [num, lk]
    by_cases h : k = j
    · subst h; simp
    · rw [if_neg h, lk_num r]
      by_cases hk : k ≤ j
      · rw [if_pos hk, if_pos (by omega)]
        have : j - k = (j - (k + 1)) + 1 := by omega
        rw [this]; simp
      · rw [if_neg hk, if_neg (by omega)]
theorem objsK_get {L : Hp} : ∀ {ms : List Nat} {K : List AObj → Prop}, objsK L ms K → ∃ os, K os ∧ os.length = ms.length ∧ ∀ (i m : Nat), ms[i]? = some m → ∃ o, os[i]? = some o ∧ lk L m = some o
  | [], K, h => ⟨[], h, rfl, fun i m h => by simp at h⟩
  | m :: r, K, h => by
    simp only [objsK] at h
    split at h
    · rename_i o ho
      obtain ⟨os, hK, hl, hg⟩ := objsK_get h
      refine ⟨o :: os, hK, by simp [hl], fun i m' hm => ?_⟩
      cases i with
      | zero => simp at hm; subst hm; exact ⟨o, rfl, ho⟩
      | succ i => simpa using hg i m' (by simpa using hm)
    · exact h.elim

section
variable {P : Program} {W : World} {C : CR} {ρ : Nm} {kp : Bool} {s : S} {a : Act} {w : World}

theorem enc_den0 {W' : World} {C' : CR} {ρ' : Nm} {t : Ty} (hf : flat t = true) {x : t.D} {f : Nat} {av : AVal} {u : Value} (h : (enc t x)[f]? = some av) (hd : Den W C ρ av u) : Den W' C' ρ' av u := by
  obtain ⟨y, rfl⟩ := enc_v t hf x av (List.mem_of_getElem? h)
  rw [den_v hd]; exact .v y
theorem rs_den0 {W' : World} {C' : CR} {ρ' : Nm} (hr : ∀ {A : Option Addr} {n : Nat} {vs : Nat → Value}, RdAt W C A n vs → RdAt W' C' A n vs) {t : Ty} (hf : flat t = true) {xs : List t.D} {v : Value} (h : Den W C ρ (.rs t xs) v) : Den W' C' ρ' (.rs t xs) v := by
  cases h with
  | rs vs h1 h2 h3 => exact .rs vs (hr h1) h2 (fun i f x av h4 h5 => enc_den0 hf h5 (h3 i f x av h4 h5))
/-- An element's cell, told of another world. -/
theorem enc_den {W' : World} {C' : CR} {ρ' : Nm} (hr : ∀ {A : Option Addr} {n : Nat} {vs : Nat → Value}, RdAt W C A n vs → RdAt W' C' A n vs) {t : Ty} {x : t.D} {f : Nat} {av : AVal} {u : Value} (h : (enc t x)[f]? = some av) (hd : Den W C ρ av u) : Den W' C' ρ' av u := by
  by_cases hf : flat t = true
  · exact enc_den0 hf h hd
  · have hf : flat t = false := by simpa using hf
    rw [enc_nest t hf] at h
    by_cases hl : f < (hdE t x).length
    · rw [List.getElem?_append_left hl] at h
      obtain ⟨y, rfl, _⟩ := hd_v t x av (List.mem_of_getElem? h)
      rw [den_v hd]; exact .v y
    · rw [List.getElem?_append_right (by omega)] at h
      have := (List.getElem?_eq_some_iff.1 h).1
      simp at this
      rw [show f - (hdE t x).length = 0 by omega] at h
      simp at h
      subst h
      exact rs_den0 hr (inn_flat' hf) hd

/-- The objects that are handed over. -/
def Gone (ρ : Nm) (L : Hp) (ms : List Nat) (b : Nat) : Prop := ∃ m ∈ ms, ∃ o, lk L m = some o ∧ Foot ρ m o b
def nmOf (ρ : Nm) (ms : List Nat) : Nm := fun i => match ms[i]? with
  | some m => ρ m
  | none => none

def GoneC (kp : Bool) (W : World) (C : CR) (ρ : Nm) (L : Hp) (ms : List Nat) : CR := ⟨Gone ρ L ms, fun b => Gone ρ L ms b ∨ (kp = true ∧ (W.heap.size ≤ b ∨ C.unr b)), fun _ h => .inl h⟩
theorem gone_own {nx : Nat} {L : Hp} (hp : HpOk W C ρ nx w L) {ms : List Nat} {b : Nat} (h : Gone ρ L ms b) : b < w.heap.size ∧ (W.heap.size ≤ b ∨ C.chg b) := by
  obtain ⟨m, hm, o, ho, hf⟩ := h
  exact hp.foot_own ho hf

theorem rd_rebase {nx : Nat} {L : Hp} (hp : HpOk W C ρ nx w L) {ms : List Nat} {A : Option Addr} {n : Nat} {vs : Nat → Value} (h : RdAt W C A n vs) : RdAt w (GoneC kp W C ρ L ms) A n vs := by
  rcases h with h | ⟨ad, h1, h2, h3, h4⟩
  · exact .inl h
  · refine .inr ⟨ad, h1, Nat.lt_of_lt_of_le h2 hp.size, fun hg => ?_, fun k hk => ?_⟩
    · rcases hg with hg | ⟨_, hg | hg⟩
      · rcases (gone_own hp hg).2 with h | h
        · omega
        · exact h3 (C.le _ h)
      · omega
      · exact h3 hg
    · have hb : (ad.add k).block = ad.block := by unfold Addr.add; split <;> rfl
      rw [World.cell?_of_block (w := W) (hp.old (ad.add k).block (by rw [hb]; exact h2) (by rw [hb]; exact fun e => h3 (C.le _ e)))]
      exact h4 k hk

theorem gone_not {nx : Nat} {L : Hp} (hp : HpOk W C ρ nx w L) {ms : List Nat} {m : Nat} {o : AObj} (hm : m ∉ ms) (ho : lk L m = some o) {b : Nat} (hf : Foot ρ m o b) : ¬ Gone ρ L ms b := fun ⟨m', hm', o', ho', hf'⟩ => hp.foot_apart ho ho' (fun e => hm (e ▸ hm')) hf hf'
/-- A row of a block of its own is read. -/
theorem reads_view {nx : Nat} {L : Hp} (hp : HpOk W C ρ nx w L) {ms : List Nat} (hkp : ¬ kp = true) {t : Ty} {b o' c : Nat} {xs : List t.D} (hR : Reads W C ρ w t b o' c xs) (hb : b < w.heap.size) (hng : ¬ Gone ρ L ms b) {lo len : Nat} (hle : lo + len ≤ xs.length) {ad : Addr} (had : lo < c → ad = ⟨b, o' + lo * sz t, none⟩) (hlc : lo + len ≤ c) :
    Den w (GoneC kp W C ρ L ms) (nmOf ρ ms) (.rs t ((xs.drop lo).take len)) (.slice (some ad) len (c - lo)) := by
  obtain ⟨T, vs, h2, h3, h4, h5, h6⟩ := hR
  have hr := part_rows h3 h4 h6 hle
  have hlen : ((xs.drop lo).take len).length = len := by simp; omega
  have key := Den.rs (W := w) (C := GoneC kp W C ρ L ms) (ρ := nmOf ρ ms) (t := t) (xs := (xs.drop lo).take len) (A := some ad) (c := c - lo) (fun k => ((vs.drop (o' + lo * sz t)).take (len * sz t)).getD k undef)
    ?_ (by rw [hlen]; omega) ?_
  · rw [hlen] at key; exact key
  · rw [hlen]
    by_cases h0 : len = 0
    · left; simp [h0]
    · right
      have hlt : lo < c := by omega
      refine ⟨ad, rfl, ?_, ?_, fun k hk => ?_⟩
      · rw [had hlt]; exact hb
      · rw [had hlt]
        rintro (hg | ⟨e, _⟩)
        · exact hng hg
        · exact hkp e
      · rw [had hlt]
        have hl2 : k < ((vs.drop (o' + lo * sz t)).take (len * sz t)).length := by rw [hr.1, hlen]; exact hk
        exact part_cells h2 _ (len * sz t) k _ (getD_of hl2 undef)
  · intro i f x av h7 h8
    obtain ⟨u, h9, h10⟩ := hr.2 i f x av h7 h8
    have : ((vs.drop (o' + lo * sz t)).take (len * sz t)).getD (i * sz t + f) undef = u := by simp only [List.getD, h9]; rfl
    rw [this]; exact enc_den (fun h => rd_rebase hp h) h8 h10
/-- A row of rows is read. -/
theorem nrow_view {nx : Nat} {L : Hp} (hp : HpOk W C ρ nx w L) {ms : List Nat} (hkp : ¬ kp = true) {m : Nat} {t : Ty} {xs : List (NR t)} {es : Fam t} {ys : List t.D} (hl : lk L m = some (.nrow t xs es ys)) (hm : m ∉ ms) {b o' c : Nat} (hb : ρ m = some (some (b, o', c)))
    {lo len : Nat} (hle : lo + len ≤ xs.length + ys.length) (hok : refsOk xs es) {ad : Addr} (had : lo < c → ad = ⟨b, o' + lo * sz t, none⟩) (hlc : lo + len ≤ c) :
    Den w (GoneC kp W C ρ L ms) (nmOf ρ ms) (.rs t (((plainN t xs es ys).drop lo).take len)) (.slice (some ad) len (c - lo)) := by
  obtain ⟨hfl, hob, hfam⟩ := hp.obj m _ hl
  rcases hob with ⟨h1, _⟩ | ⟨b', o'', c', T, vs, h1, h2, h3, h4, h5, h5', h6⟩
  · rw [hb] at h1; cases h1
  · rw [hb] at h1; cases h1
    have hpl : (plainN t xs es ys).length = xs.length + ys.length := by simp [plainN]
    have hlen : (((plainN t xs es ys).drop lo).take len).length = len := by simp [hpl]; omega
    have hng := gone_not hp hm hl (.inl ⟨_, hb⟩)
    have hmul : (lo + len) * sz t ≤ c * sz t := Nat.mul_le_mul_right _ hlc
    rw [Nat.add_mul] at hmul
    have key := Den.rs (W := w) (C := GoneC kp W C ρ L ms) (ρ := nmOf ρ ms) (t := t) (xs := ((plainN t xs es ys).drop lo).take len) (A := some ad) (c := c - lo) (fun k => ((vs.drop (o' + lo * sz t)).take (len * sz t)).getD k undef)
      ?_ (by rw [hlen]; omega) ?_
    · rw [hlen] at key; exact key
    · rw [hlen]
      by_cases h0 : len = 0
      · left; simp [h0]
      · right
        have hlt : lo < c := by omega
        refine ⟨ad, rfl, ?_, ?_, fun k hk => ?_⟩
        · rw [had hlt]; exact (hp.own m _ b _ hl hb).1
        · rw [had hlt]
          rintro (hg | ⟨e, _⟩)
          · exact hng hg
          · exact hkp e
        · rw [had hlt]
          have hl2 : k < ((vs.drop (o' + lo * sz t)).take (len * sz t)).length := by rw [List.length_take, List.length_drop]; omega
          exact part_cells h2 _ (len * sz t) k _ (getD_of hl2 undef)
    · intro i f x av h7 h8
      have hf : f < sz t := by have := (List.getElem?_eq_some_iff.1 h8).1; rwa [enc_length] at this
      rw [List.getElem?_take] at h7
      split at h7
      · rename_i hi
        rw [List.getElem?_drop] at h7
        have hmi := mul_lt (s := sz t) hi (Nat.le_refl _)
        have hlm : (lo + i) * sz t = lo * sz t + i * sz t := Nat.add_mul _ _ _
        have hval : ∀ u, vs[o' + (lo + i) * sz t + f]? = some u → ((vs.drop (o' + lo * sz t)).take (len * sz t)).getD (i * sz t + f) undef = u := fun u hu => by
          have : ((vs.drop (o' + lo * sz t)).take (len * sz t))[i * sz t + f]? = some u := by
            rw [List.getElem?_take, if_pos (by omega), List.getElem?_drop, ← hu]; congr 1; omega
          simp only [List.getD, this]; rfl
        unfold plainN at h7
        by_cases hlt : lo + i < xs.length
        · rw [List.getElem?_append_left (by simpa using hlt), List.getElem?_map, Option.map_eq_some_iff] at h7
          obtain ⟨q, hq, rfl⟩ := h7
          have hCL : (cellsN t m xs ys)[lo + i]? = some (encN t m q) := by
            unfold cellsN
            rw [List.getElem?_append_left (by simpa using hlt), List.getElem?_map, hq]; rfl
          have hlq := hd_length t hfl q.x
          unfold plain1 at h8
          rw [enc_nest t hfl, set_hd, set_inl t hfl] at h8
          by_cases hl2 : f < (hdE t q.x).length
          · rw [List.getElem?_append_left hl2] at h8
            obtain ⟨u, h9, h10⟩ := h6 _ f _ av hCL (by unfold encN; rw [List.getElem?_append_left hl2]; exact h8)
            rw [hval u h9]
            obtain ⟨y, rfl, _⟩ := hd_v t q.x av (List.mem_of_getElem? h8)
            rw [den_v h10]; exact .v y
          · have hfe : f = (hdE t q.x).length := by omega
            subst hfe
            rw [List.getElem?_append_right (Nat.le_refl _)] at h8
            simp at h8
            subst h8
            obtain ⟨u, h9, h10⟩ := h6 _ (hdE t q.x).length _ (refA m (sz (inn t)) q.r) hCL (by unfold encN; rw [List.getElem?_append_right (Nat.le_refl _)]; simp)
            rw [hval u h9]
            have hro := hok q (List.mem_of_getElem? hq)
            cases hqr : q.r with
            | nil =>
              rw [hqr] at h10
              rw [den_v h10]
              exact .rs (t := inn t) (xs := []) (A := none) (c := 0) (fun _ => undef) (.inl (by simp)) (Nat.le_refl _) (fun i f x av h => by simp at h)
            | own b1 o1 n1 c1 =>
              rw [hqr] at h10 hro
              obtain ⟨zs, hz1, hz2⟩ := hro
              have hgf : famG es b1 = zs := by unfold famG; rw [hz1]
              cases h10 with
              | @fs _ _ _ _ _ _ _ ad1 hlc1 had1 =>
                have hfo : FootO (.nrow t xs es ys) b1 := by simp [FootO, hz1]
                have := reads_view (kp := kp) hp hkp (hfam b1 _ _ _ hz1) (hp.ownF m _ b1 hl hfo).1 (gone_not hp hm hl (.inr hfo)) (lo := 0) (len := n1) (by omega) (ad := ad1) had1 hlc1
                show Den _ _ _ (.rs (inn t) ((famG es b1).take n1)) _
                rw [hgf]
                simpa using this
        · rw [List.getElem?_append_right (by simpa using hlt), List.length_map] at h7
          have hCL : (cellsN t m xs ys)[lo + i]? = some (enc t x) := by
            unfold cellsN
            rw [List.getElem?_append_right (by simpa using hlt), List.length_map, List.getElem?_map, h7]; rfl
          obtain ⟨u, h9, h10⟩ := h6 _ f _ av hCL h8
          rw [hval u h9]
          exact enc_den (fun h => rd_rebase hp h) h8 h10
      · cases h7

theorem view1_den {nx : Nat} {L : Hp} (hp : HpOk W C ρ nx w L) {ms : List Nat} {av : AVal} {v : Value} (hd : Den W C ρ av v) (hv : vok1 kp ms L av) :
    Den w (GoneC kp W C ρ L ms) (nmOf ρ ms) (view1 kp ms L av) v := by
  have hnm : ∀ {i m : Nat} {y}, pos ms m = some i → ρ m = some y → nmOf ρ ms i = some y := fun hi hy => by
    simp [nmOf, pos_get hi, hy]
  cases hd with
  | v => exact .v _
  | junk => exact .junk _
  | arp hm => exact .junk _
  | ptr hm =>
    simp only [view1]; split
    · rename_i hi; exact .ptr (hnm hi hm)
    · exact .junk _
  | elt hm =>
    simp only [view1]; split
    · rename_i hi; exact .elt (hnm hi hm)
    · exact .junk _
  | fp =>
    simp only [view1]; split
    · exact .fp
    · exact .junk _
  | @fs m z b o lo k c ad hle had =>
    simp only [view1, vok1] at hv ⊢
    split
    · exact .fs hle had
    · rename_i hi
      simp only [hi] at hv
      split
      · exact .junk _
      · rename_i hkp
        rw [if_neg hkp] at hv
        split
        · rename_i t xs es ys hl
          simp only [hl] at hv
          obtain ⟨⟨o1, c1, zs⟩, he, rfl, rfl, rfl, hlz⟩ := someK_get hv
          have hfo : FootO (.nrow t xs es ys) b := by simp [FootO, he]
          have hgf : famG es b = zs := by unfold famG; rw [he]
          rw [hgf]
          exact reads_view hp hkp ((hp.obj m _ hl).2.2 b _ _ _ he) (hp.ownF m _ b hl hfo).1 (gone_not hp (pos_none hi) hl (.inr hfo)) hlz had hle
        · exact .junk _
  | @sub m z lo len b o c ad hm hle had =>
    simp only [view1, vok1] at hv ⊢
    split
    · rename_i hi; exact .sub (hnm hi hm) hle had
    · rename_i hi
      simp only [hi] at hv
      split
      · exact .junk _
      · rename_i hkp
        rw [if_neg hkp] at hv
        split
        · rename_i t xs hl
          simp only [hl] at hv
          obtain ⟨rfl, hxl⟩ := hv
          rcases hp.obj m _ hl with ⟨h1, _⟩ | ⟨b', o', c', T, vs, h1, h2, h3, h4, h5, h6⟩
          · rw [hm] at h1; cases h1
          · rw [hm] at h1; cases h1
            exact reads_view hp hkp ⟨T, vs, h2, h3, h4, h5, h6⟩ (hp.own m _ b _ hl hm).1 (gone_not hp (pos_none hi) hl (.inl ⟨_, hm⟩)) hxl had hle
        · rename_i t xs es ys hl
          simp only [hl] at hv
          obtain ⟨rfl, hxl, hok⟩ := hv
          exact nrow_view hp hkp hl (pos_none hi) hm hxl hok had hle
        · exact .junk _
  | @sub0 m z hm =>
    simp only [view1, vok1] at hv ⊢
    split
    · rename_i hi; exact .sub0 (hnm hi hm)
    · rename_i hi
      split
      · exact .junk _
      · rename_i hkp
        split
        · rename_i t xs hl
          have hx0 : xs = [] := by
            rcases hp.obj m _ hl with ⟨_, h⟩ | ⟨b', o'', c', T, vs, h1, _⟩
            · exact h
            · rw [hm] at h1; cases h1
          subst hx0
          exact .rs (t := t) (xs := []) (A := none) (c := 0) (fun _ => undef) (.inl (by simp)) (Nat.le_refl _) (fun i f x av h => by simp at h)
        · rename_i t xs es ys hl
          have hx0 : xs = [] ∧ ys = [] := by
            rcases (hp.obj m _ hl).2.1 with ⟨_, h⟩ | ⟨b', o'', c', T, vs, h1, _⟩
            · exact h
            · rw [hm] at h1; cases h1
          obtain ⟨rfl, rfl⟩ := hx0
          exact .rs (t := t) (xs := []) (A := none) (c := 0) (fun _ => undef) (.inl (by simp)) (Nat.le_refl _) (fun i f x av h => by simp at h)
        · exact .junk _
  | rs vs h1 h2 h3 => exact .rs vs (rd_rebase hp h1) h2 (fun i f x av h4 h5 => enc_den (fun h => rd_rebase hp h) h5 (h3 i f x av h4 h5))
  | re vs h1 h2 => exact .re vs (rd_rebase hp h1) (fun k av hk => enc_den (fun h => rd_rebase hp h) hk (h2 k av hk))
  | rp vs h1 h2 => exact .rp vs (rd_rebase hp h1) (fun i f x av h4 h5 => enc_den (fun h => rd_rebase hp h) h5 (h2 i f x av h4 h5))
  | mp h => exact .junk _
  | agg vs h1 h2 => exact .junk _
  | tup vs h1 h2 => exact .junk _
  | fn vs h1 h2 => exact .junk _

theorem view1_denL {nx : Nat} {L : Hp} (hp : HpOk W C ρ nx w L) {ms : List Nat} {cs : List AVal} {vs : List Value} (hd : DenL W C ρ cs vs) (hv : allP (vok1 kp ms L) cs) :
    DenL w (GoneC kp W C ρ L ms) (nmOf ρ ms) (cs.map (view1 kp ms L)) vs := by
  refine ⟨by simp [hd.1], fun k av u h1 h2 => ?_⟩
  rw [List.getElem?_map, Option.map_eq_some_iff] at h1
  obtain ⟨av', h3, rfl⟩ := h1
  exact view1_den hp (hd.2 k av' u h3 h2) (allP_mem hv _ (List.mem_of_getElem? h3))

theorem view_den {nx : Nat} {L : Hp} (hp : HpOk W C ρ nx w L) {ms : List Nat} {av : AVal} {v : Value} (hd : Den W C ρ av v) (hv : vok kp ms L av) :
    Den w (GoneC kp W C ρ L ms) (nmOf ρ ms) (view kp ms L av) v := by
  cases av with
  | agg cs => cases hd with
    | agg vs h1 h2 => have := view1_denL hp ⟨h1, h2⟩ hv; exact .agg vs this.1 this.2
  | fn f cs => cases hd with
    | fn vs h1 h2 => have := view1_denL hp ⟨h1, h2⟩ hv; exact .fn vs this.1 this.2
  | _ => exact view1_den hp hd hv

theorem ren1_den {w' : World} {C' : CR} {ρc ρ' : Nm} {n : Nat → Nat} (hk : kp = true → ∀ {A : Option Addr} {n' : Nat} {vs : Nat → Value}, RdAt w' C' A n' vs → RdAt W C A n' vs) (hn : ∀ k y, ρc k = some y → ρ' (n k) = some y) {av : AVal} {v : Value} (h : Den w' C' ρc av v) : Den W C ρ' (ren1 kp n av) v := by
  cases h with
  | v => exact .v _
  | ptr h => exact .ptr (hn _ _ h)
  | elt h => exact .elt (hn _ _ h)
  | sub h h1 h2 => exact .sub (hn _ _ h) h1 h2
  | sub0 h => exact .sub0 (hn _ _ h)
  | fs h1 h2 => exact .fs h1 h2
  | fp => exact .fp
  | rs vs h1 h2 h3 =>
    simp only [ren1]
    split
    · rename_i e; exact .rs vs (hk e h1) h2 (fun i f x av h4 h5 => enc_den (hk e) h5 (h3 i f x av h4 h5))
    · exact .junk _
  | _ => exact .junk _
theorem ren1_denL {w' : World} {C' : CR} {ρc ρ' : Nm} {n : Nat → Nat} (hk : kp = true → ∀ {A : Option Addr} {n' : Nat} {vs : Nat → Value}, RdAt w' C' A n' vs → RdAt W C A n' vs) (hn : ∀ k y, ρc k = some y → ρ' (n k) = some y) {cs : List AVal} {vs : List Value} (h : DenL w' C' ρc cs vs) : DenL W C ρ' (cs.map (ren1 kp n)) vs := by
  refine ⟨by simp [h.1], fun k av u h1 h2 => ?_⟩
  rw [List.getElem?_map, Option.map_eq_some_iff] at h1
  obtain ⟨av', h3, rfl⟩ := h1
  exact ren1_den hk hn (h.2 k av' u h3 h2)
theorem ren2_den {w' : World} {C' : CR} {ρc ρ' : Nm} {n : Nat → Nat} (hk : kp = true → ∀ {A : Option Addr} {n' : Nat} {vs : Nat → Value}, RdAt w' C' A n' vs → RdAt W C A n' vs) (hn : ∀ k y, ρc k = some y → ρ' (n k) = some y) {av : AVal} {v : Value} (h : Den w' C' ρc av v) : Den W C ρ' (ren2 kp n av) v := by
  cases av with
  | agg cs => cases h with
    | agg vs h1 h2 => have := ren1_denL (W := W) (C := C) (kp := kp) hk hn ⟨h1, h2⟩; exact .agg vs this.1 this.2
  | _ => exact ren1_den hk hn h
theorem ren_den {w' : World} {C' : CR} {ρc ρ' : Nm} {n : Nat → Nat} (hk : kp = true → ∀ {A : Option Addr} {n' : Nat} {vs : Nat → Value}, RdAt w' C' A n' vs → RdAt W C A n' vs) (hn : ∀ k y, ρc k = some y → ρ' (n k) = some y) {av : AVal} {v : Value} (h : Den w' C' ρc av v) : Den W C ρ' (ren kp n av) v := by
  cases av with
  | tup cs => cases h with
    | tup vs h1 h2 =>
      refine .tup vs (by simp [h1]) fun k av u h3 h4 => ?_
      rw [List.getElem?_map, Option.map_eq_some_iff] at h3
      obtain ⟨av', h5, rfl⟩ := h3
      exact ren2_den hk hn (h2 k av' u h5 h4)
  | _ => exact ren2_den hk hn h

/-- The same cells, of another number, in another world (nothing of them is read elsewhere). -/
theorem nrow_cells {W' : World} {C' : CR} {ρ' : Nm} {t : Ty} {m m' : Nat} {xs : List (NR t)} {o' : Nat} {vs : List Value} (h : ∀ (i f : Nat) (cs : List AVal) (av : AVal), (cellsN t m xs [])[i]? = some cs → cs[f]? = some av → ∃ u, vs[o' + i * sz t + f]? = some u ∧ Den W C ρ av u) :
    ∀ (i f : Nat) (cs : List AVal) (av : AVal), (cellsN t m' xs [])[i]? = some cs → cs[f]? = some av → ∃ u, vs[o' + i * sz t + f]? = some u ∧ Den W' C' ρ' av u := by
  intro i f cs av h1 h2
  unfold cellsN at h1 h
  rw [List.map_nil, List.append_nil, List.getElem?_map, Option.map_eq_some_iff] at h1
  obtain ⟨q, hq, rfl⟩ := h1
  have hh := fun av' => h i f (encN t m q) av' (by rw [List.map_nil, List.append_nil, List.getElem?_map, hq]; rfl)
  unfold encN at h2 hh
  by_cases hf : f < (hdE t q.x).length
  · rw [List.getElem?_append_left hf] at h2 hh
    obtain ⟨u, h3, h4⟩ := hh av h2
    obtain ⟨y, rfl, _⟩ := hd_v t q.x av (List.mem_of_getElem? h2)
    exact ⟨u, h3, by rw [den_v h4]; exact .v y⟩
  · have hfe : f = (hdE t q.x).length := by have := (List.getElem?_eq_some_iff.1 h2).1; simp at this; omega
    subst hfe
    obtain ⟨u, h3, h4⟩ := hh (refA m (sz (inn t)) q.r) (by simp)
    simp at h2
    subst h2
    refine ⟨u, h3, ?_⟩
    cases hr : q.r with
    | nil => rw [hr] at h4; rw [den_v h4]; exact .v _
    | own b o n c =>
      rw [hr] at h4
      cases h4 with
      | fs h5 h6 => exact .fs h5 h6

theorem callK_ok {f : Nat} {sp : Spec} (hsp : Valid P f sp) {K : AVal → S → Prop} (hp : HpOk W C ρ s.nx w s.L) {args : List AVal} {vals : List Value} (hd : DenL W C ρ args vals) (h : callK sp s args K) :
    Calls P f ⟨vals⟩ w fun e w' => ∃ r v s' ρ', e = .returned v ∧ Sub0 ρ ρ' ∧ Den W C ρ' r v ∧ HpOk W C ρ' s'.nx w' s'.L ∧ s'.σ = s.σ ∧ s'.n = s.n ∧ K r s' ∧ (sp.take s.L args = [] → Below w.heap.size w w') := by
  obtain ⟨hnd, hvok, h⟩ := h
  obtain ⟨os, ⟨hvo, hf⟩, hol, hog⟩ := objsK_get h
  generalize hmsd : sp.take s.L args = ms at *
  generalize hkpd : sp.keep = kp at *
  have hms : ∀ m ∈ ms, ∃ o, lk s.L m = some o := fun m hm => by
    obtain ⟨i, hi, rfl⟩ := List.getElem_of_mem hm
    obtain ⟨o, _, ho⟩ := hog i _ (List.getElem?_eq_getElem hi)
    exact ⟨o, ho⟩
  have hnodup := nodup_of hnd
  have hdv : DenL w (GoneC kp W C ρ s.L ms) (nmOf ρ ms) (args.map (view kp ms s.L)) vals := by
    refine ⟨by simp [hd.1], fun k av u h1 h2 => ?_⟩
    rw [List.getElem?_map, Option.map_eq_some_iff] at h1
    obtain ⟨av', h3, rfl⟩ := h1
    exact view_den hp (hd.2 k av' u h3 h2) (allP_mem hvok _ (List.mem_of_getElem? h3))
  have hget : ∀ j o, lk (num 0 (os.map (viewO kp ms s.L))) j = some o → ∃ m o', ms[j]? = some m ∧ lk s.L m = some o' ∧ o = viewO kp ms s.L o' ∧ o' ∈ os := fun j o hj => by
    rw [lk_num] at hj
    simp only [Nat.zero_le, if_true, Nat.sub_zero, List.getElem?_map, Option.map_eq_some_iff] at hj
    obtain ⟨o', h1, rfl⟩ := hj
    have hj' : j < ms.length := by have := (List.getElem?_eq_some_iff.1 h1).1; omega
    obtain ⟨o2, h2, h3⟩ := hog j _ (List.getElem?_eq_getElem hj')
    rw [h1] at h2; cases h2
    exact ⟨_, _, List.getElem?_eq_getElem hj', h3, rfl, List.mem_of_getElem? h1⟩
  have hnm : ∀ j m, ms[j]? = some m → nmOf ρ ms j = ρ m := fun j m hj => by simp [nmOf, hj]
  have hpc : HpOk w (GoneC kp W C ρ s.L ms) (nmOf ρ ms) (os.map (viewO kp ms s.L)).length w (num 0 (os.map (viewO kp ms s.L))) := by
    have hfoot : ∀ {m : Nat} {o' : AObj} {b : Nat}, FootO (viewO kp ms s.L o') b → FootO o' b := fun {m o' b} h => by cases o' <;> exact h
    refine ⟨fun j o hj => ?_, fun j o j' o' b x b' x' hj hj' hne h1 h2 => ?_, fun j o b x hj hx => ?_, fun j o j' o' b hj hj' hf => ?_, fun j o b hj hf => ?_, fun j hj => ?_, rfl, rfl, rfl, Nat.le_refl _, fun _ _ _ => rfl⟩
    · obtain ⟨m, o', h1, h2, rfl, h3⟩ := hget j o hj
      have hob := hp.obj m o' h2
      have hv := allP_mem hvo o' h3
      cases o' with
      | box cs =>
        obtain ⟨b, T, vs, h4, h5, h6⟩ := hob
        exact ⟨b, T, vs, by rw [hnm j m h1]; exact h4, h5, view1_denL hp h6 hv⟩
      | row t xs =>
        rcases hob with ⟨h4, h5⟩ | ⟨b, o, c, T, vs, h4, h5, h6, h7, h8, h9⟩
        · exact .inl ⟨by rw [hnm j m h1]; exact h4, h5⟩
        · exact .inr ⟨b, o, c, T, vs, by rw [hnm j m h1]; exact h4, h5, h6, h7, h8, fun i f x av h10 h11 => let ⟨u, h12, h13⟩ := h9 i f x av h10 h11; ⟨u, h12, enc_den (fun h => rd_rebase hp h) h11 h13⟩⟩
      | set kk mp es => obtain ⟨b, l, c, h4, h5, h6⟩ := hob; exact ⟨b, l, c, by rw [hnm j m h1]; exact h4, h5, h6⟩
      | nrow t xs es ys =>
        have hy0 : ys = [] := hv
        subst hy0
        obtain ⟨hfl, hob, hfam⟩ := hob
        refine ⟨hfl, ?_, fun b o c zs he => let ⟨T, vs, h5, h6, h7, h8, h9⟩ := hfam b o c zs he; ⟨T, vs, h5, h6, h7, h8, fun i f x av h10 h11 => let ⟨u, h12, h13⟩ := h9 i f x av h10 h11; ⟨u, h12, enc_den (fun h => rd_rebase hp h) h11 h13⟩⟩⟩
        rcases hob with ⟨h4, h5⟩ | ⟨b, o, c, T, vs, h4, h5, h6, h7, h8, h8', h9⟩
        · exact .inl ⟨by rw [hnm j m h1]; exact h4, h5⟩
        · exact .inr ⟨b, o, c, T, vs, by rw [hnm j m h1]; exact h4, h5, h6, h7, h8, h8', nrow_cells h9⟩
    · obtain ⟨m, o1, h3, h4, _, _⟩ := hget j o hj
      obtain ⟨m', o2, h5, h6, _, _⟩ := hget j' o' hj'
      rw [hnm j m h3] at h1
      rw [hnm j' m' h5] at h2
      refine hp.apart m o1 m' o2 b x b' x' h4 h6 (fun e => hne ?_) h1 h2
      subst e
      have e1 := List.getElem?_eq_some_iff.1 h3
      have e2 := List.getElem?_eq_some_iff.1 h5
      exact (List.getElem_inj hnodup).1 (e1.2.trans e2.2.symm)
    · obtain ⟨m, o1, h3, h4, _, _⟩ := hget j o hj
      rw [hnm j m h3] at hx
      exact ⟨(hp.own m o1 b x h4 hx).1, .inr ⟨m, List.mem_of_getElem? h3, o1, h4, .inl ⟨x, hx⟩⟩⟩
    · obtain ⟨m, o1, h3, h4, rfl, _⟩ := hget j o hj
      obtain ⟨m', o2, h5, h6, rfl, _⟩ := hget j' o' hj'
      have := hp.apartF m o1 m' o2 b h4 h6 (hfoot (m := m) hf)
      refine ⟨fun x hx => this.1 x (by rw [hnm j' m' h5] at hx; exact hx), fun hne hf2 => this.2 (fun e => hne ?_) (hfoot (m := m') hf2)⟩
      subst e
      have e1 := List.getElem?_eq_some_iff.1 h3
      have e2 := List.getElem?_eq_some_iff.1 h5
      exact (List.getElem_inj hnodup).1 (e1.2.trans e2.2.symm)
    · obtain ⟨m, o1, h3, h4, rfl, _⟩ := hget j o hj
      have hf' := hfoot (m := m) hf
      exact ⟨(hp.ownF m o1 b h4 hf').1, .inr ⟨m, List.mem_of_getElem? h3, o1, h4, .inr hf'⟩⟩
    · have : ms[j]? = none := by simp at hj; simp; omega
      simp [nmOf, this]
  refine (hsp w (GoneC kp W C ρ s.L ms) (nmOf ρ ms) _ vals _ _ hdv hpc hf).mono ?_
  rintro e w' ⟨r, v, L', nx', ρc, rfl, hr, hpl, hpin, hokl, hK⟩
  let ρ2 : Nm := fun m => if m < s.nx then ρ m else ρc (m - s.nx)
  have hlt : ∀ m y, ρ m = some y → m < s.nx := fun m y hy => Nat.lt_of_not_le fun hle => by rw [hp.above m hle] at hy; cases hy
  have hsub : Sub0 ρ ρ2 := fun m y hy => by show (if m < s.nx then ρ m else _) = _; rw [if_pos (hlt m y hy)]; exact hy
  have hold : ∀ m o, lk s.L m = some o → m < s.nx := fun m o hm => by
    have hob := hp.obj m o hm
    cases o with
    | box cs => obtain ⟨b, T, vs, h4, _⟩ := hob; exact hlt m _ h4
    | row t xs =>
      rcases hob with ⟨h4, _⟩ | ⟨b, o, c, T, vs, h4, _⟩
      · exact hlt m _ h4
      · exact hlt m _ h4
    | set kk mp es => obtain ⟨b, l, c, h4, _⟩ := hob; exact hlt m _ h4
    | nrow t xs es ys =>
      rcases hob.2.1 with ⟨h4, _⟩ | ⟨b, o, c, T, vs, h4, _⟩
      · exact hlt m _ h4
      · exact hlt m _ h4
  have hmlt : ∀ m ∈ ms, m < s.nx := fun m hm => let ⟨o, ho⟩ := hms m hm; hold m o ho
  have hlen : (os.map (viewO kp ms s.L)).length = ms.length := by simp [hol]
  -- the callee's numbers
  have rn_in : ∀ k m, ms[k]? = some m → rn ms s.nx k = m := fun k m hk => by simp [rn, nth_eq, hk]
  have rn_out : ∀ k, ms[k]? = none → rn ms s.nx k = s.nx + k := fun k hk => by simp [rn, nth_eq, hk]
  have rn_inj : ∀ a b, rn ms s.nx a = rn ms s.nx b → a = b := fun a b hab => by
    cases ha : ms[a]? with
    | some m =>
      rw [rn_in a m ha] at hab
      cases hb : ms[b]? with
      | some m' =>
        rw [rn_in b m' hb] at hab
        subst hab
        have e1 := List.getElem?_eq_some_iff.1 ha
        have e2 := List.getElem?_eq_some_iff.1 hb
        exact (List.getElem_inj hnodup).1 (e1.2.trans e2.2.symm)
      | none => rw [rn_out b hb] at hab; have := hmlt m (List.mem_of_getElem? ha); omega
    | none =>
      rw [rn_out a ha] at hab
      cases hb : ms[b]? with
      | some m' => rw [rn_in b m' hb] at hab; have := hmlt m' (List.mem_of_getElem? hb); omega
      | none => rw [rn_out b hb] at hab; omega
  have hρ2 : ∀ k, ρ2 (rn ms s.nx k) = ρc k := fun k => by
    cases hk : ms[k]? with
    | some m =>
      rw [rn_in k m hk]
      show (if m < s.nx then ρ m else _) = _
      rw [if_pos (hmlt m (List.mem_of_getElem? hk))]
      have := hpin k (by rw [hlen]; exact (List.getElem?_eq_some_iff.1 hk).1)
      rw [this, hnm k m hk]
    | none =>
      rw [rn_out k hk]
      show (if s.nx + k < s.nx then _ else ρc (s.nx + k - s.nx)) = _
      rw [if_neg (by omega), Nat.add_sub_cancel_left]
  have hback : kp = true → ∀ {A : Option Addr} {n : Nat} {vs : Nat → Value}, RdAt w (GoneC kp W C ρ s.L ms) A n vs → RdAt W C A n vs := fun hkt {A n vs} h => by
    rcases h with h | ⟨ad, h1, h2, h3, h4⟩
    · exact .inl h
    · have hlt : ad.block < W.heap.size := Nat.lt_of_not_le fun e => h3 (.inr ⟨hkt, .inl e⟩)
      have hu : ¬ C.unr ad.block := fun e => h3 (.inr ⟨hkt, .inr e⟩)
      refine .inr ⟨ad, h1, hlt, hu, fun k hk => ?_⟩
      have hb : (ad.add k).block = ad.block := by unfold Addr.add; split <;> rfl
      have := h4 k hk
      rwa [World.cell?_of_block (w := W) (hp.old (ad.add k).block (by rw [hb]; exact hlt) (by rw [hb]; exact fun e => hu (C.le _ e)))] at this
  have hn : ∀ k y, ρc k = some y → ρ2 (rn ms s.nx k) = some y := fun k y hy => by rw [hρ2]; exact hy
  refine ⟨_, v, { s with L := renL kp (rn ms s.nx) L' ++ eraAll s.L ms, nx := s.nx + nx' }, ρ2, rfl, hsub, ren_den hback hn hr, ?_, rfl, rfl, hK, fun hnil => ⟨hpl.os, hpl.tape, hpl.output, hpl.size, fun k hk => hpl.old k hk (by rintro ⟨m, hm, _⟩; rw [hnil] at hm; cases hm)⟩⟩
  -- the heap behind the call
  have hlk : ∀ m o, lk (renL kp (rn ms s.nx) L' ++ eraAll s.L ms) m = some o → (∃ k o', m = rn ms s.nx k ∧ o = renO kp (rn ms s.nx) o' ∧ lk L' k = some o') ∨ (m ∉ ms ∧ lk s.L m = some o) := fun m o hm => by
    rw [lk_append] at hm
    cases hl : lk (renL kp (rn ms s.nx) L') m with
    | some o' =>
      rw [hl] at hm; simp at hm; subst hm
      exact .inl (lk_renL rn_inj L' hl)
    | none =>
      rw [hl] at hm
      simp only [Option.orElse_none] at hm
      rw [lk_eraAll] at hm
      split at hm
      · cases hm
      · rename_i hnm; exact .inr ⟨hnm, hm⟩
  have hρ2k : ∀ k y, ρ2 (rn ms s.nx k) = some y → ρc k = some y := fun k y hy => by rw [← hρ2]; exact hy
  have hold2 : ∀ m o, lk s.L m = some o → ∀ y, ρ2 m = some y → ρ m = some y := fun m o hm y hy => by
    have h' : (if m < s.nx then ρ m else ρc (m - s.nx)) = some y := hy
    rw [if_pos (hold m o hm)] at h'; exact h'
  have hngone : ∀ m o b, m ∉ ms → lk s.L m = some o → Foot ρ m o b → ¬ Gone ρ s.L ms b := fun m o b hm ho hx => gone_not hp hm ho hx
  have hft2 : ∀ m o b, lk s.L m = some o → Foot ρ2 m o b → Foot ρ m o b := fun m o b hm hf => by
    rcases hf with ⟨x, hx⟩ | hf
    · exact .inl ⟨x, hold2 m o hm _ hx⟩
    · exact .inr hf
  have hren : ∀ o' b, FootO (renO kp (rn ms s.nx) o') b → FootO o' b := fun o' b h => by cases o' <;> exact h
  have hftc : ∀ k o' b, Foot ρ2 (rn ms s.nx k) (renO kp (rn ms s.nx) o') b → Foot ρc k o' b := fun k o' b hf => by
    rcases hf with ⟨x, hx⟩ | hf
    · exact .inl ⟨x, hρ2k _ _ hx⟩
    · exact .inr (hren _ _ hf)
  have hap : ∀ m o m' o' b, lk (renL kp (rn ms s.nx) L' ++ eraAll s.L ms) m = some o → lk (renL kp (rn ms s.nx) L' ++ eraAll s.L ms) m' = some o' → m ≠ m' → Foot ρ2 m o b → Foot ρ2 m' o' b → False := fun m o m' o' b hm hm' hne h1 h2 => by
    have cross : ∀ k o1 m2 o2, lk L' k = some o1 → m2 ∉ ms → lk s.L m2 = some o2 → Foot ρc k o1 b → Foot ρ m2 o2 b → False := fun k o1 m2 o2 hk hn2 hm2 f1 f2 => by
      have h5 := (hp.foot_own hm2 f2).1
      rcases (hpl.foot_own hk f1).2 with h4 | h4
      · omega
      · exact hngone m2 o2 b hn2 hm2 f2 h4
    rcases hlk m o hm with ⟨k, o1, rfl, rfl, hk⟩ | ⟨hn1, hm1⟩ <;> rcases hlk m' o' hm' with ⟨k', o2, rfl, rfl, hk'⟩ | ⟨hn2, hm2⟩
    · exact hpl.foot_apart hk hk' (fun e => hne (by rw [e])) (hftc _ _ _ h1) (hftc _ _ _ h2)
    · exact cross k o1 m' o' hk hn2 hm2 (hftc _ _ _ h1) (hft2 _ _ _ hm2 h2)
    · exact cross k' o2 m o hk' hn1 hm1 (hftc _ _ _ h2) (hft2 _ _ _ hm1 h1)
    · exact hp.foot_apart hm1 hm2 hne (hft2 _ _ _ hm1 h1) (hft2 _ _ _ hm2 h2)
  have how : ∀ m o b, lk (renL kp (rn ms s.nx) L' ++ eraAll s.L ms) m = some o → Foot ρ2 m o b → b < w'.heap.size ∧ (W.heap.size ≤ b ∨ C.chg b) := fun m o b hm hf => by
    rcases hlk m o hm with ⟨k, o1, rfl, rfl, hk⟩ | ⟨hn1, hm1⟩
    · obtain ⟨h4, h5⟩ := hpl.foot_own hk (hftc _ _ _ hf)
      refine ⟨h4, ?_⟩
      rcases h5 with h5 | h5
      · exact .inl (Nat.le_trans hp.size h5)
      · exact (gone_own hp h5).2
    · obtain ⟨h4, h5⟩ := hp.foot_own hm1 (hft2 _ _ _ hm1 hf)
      exact ⟨Nat.lt_of_lt_of_le h4 hpl.size, h5⟩
  refine ⟨fun m o hm => ?_, fun m o m' o' b x b' x' hm hm' hne h1 h2 => ?_, fun m o b x hm hx => how m o b hm (.inl ⟨x, hx⟩), fun m o m' o' b hm hm' hf => ⟨fun x hx => ?_, fun hne hf' => hap m o m' o' b hm hm' hne (.inr hf) (.inr hf')⟩, fun m o b hm hf => how m o b hm (.inr hf), fun m hm => ?_, hpl.os.trans hp.os, hpl.tape.trans hp.tape, hpl.output.trans hp.output, Nat.le_trans hp.size hpl.size,
    fun b hb hc => ?_⟩
  · rcases hlk m o hm with ⟨k, o', rfl, rfl, hk⟩ | ⟨hnm', hm'⟩
    · have hob := hpl.obj k o' hk
      have hokn := okL_get hokl hk
      cases o' with
      | box cs =>
        obtain ⟨b, T, vs, h4, h5, h6⟩ := hob
        exact ⟨b, T, vs, hn _ _ h4, h5, ren1_denL hback hn h6⟩
      | row t xs =>
        rcases hob with ⟨h4, h5⟩ | ⟨b, o, c, T, vs, h4, h5, h6, h7, h8, h9⟩
        · exact .inl ⟨hn _ _ h4, h5⟩
        · exact .inr ⟨b, o, c, T, vs, hn _ _ h4, h5, h6, h7, h8, fun i f x av h10 h11 => let ⟨u, h12, h13⟩ := h9 i f x av h10 h11; ⟨u, h12, enc_den0 hokn h11 h13⟩⟩
      | set kk mp es => obtain ⟨b, l, c, h4, h5, h6⟩ := hob; exact ⟨b, l, c, hn _ _ h4, h5, h6⟩
      | nrow t xs es ys =>
        cases ys with
        | cons y r => cases hokn
        | nil =>
          obtain ⟨hfl, hob, hfam⟩ := hob
          refine ⟨hfl, ?_, fun b o c zs he => let ⟨T, vs, h5, h6, h7, h8, h9⟩ := hfam b o c zs he; ⟨T, vs, h5, h6, h7, h8, fun i f x av h10 h11 => let ⟨u, h12, h13⟩ := h9 i f x av h10 h11; ⟨u, h12, enc_den0 (inn_flat' hfl) h11 h13⟩⟩⟩
          rcases hob with ⟨h4, h5⟩ | ⟨b, o, c, T, vs, h4, h5, h6, h7, h8, h8', h9⟩
          · exact .inl ⟨hn _ _ h4, h5⟩
          · exact .inr ⟨b, o, c, T, vs, hn _ _ h4, h5, h6, h7, h8, h8', nrow_cells h9⟩
    · exact ((hp.obj m o hm').world (fun b x hx => hpl.old b (hp.own m o b x hm' hx).1 (hngone m o b hnm' hm' (.inl ⟨x, hx⟩))) (fun b hf => hpl.old b (hp.ownF m o b hm' hf).1 (hngone m o b hnm' hm' (.inr hf)))).mono hsub
  · intro e; subst e
    exact hap m o m' o' b hm hm' hne (.inl ⟨x, h1⟩) (.inl ⟨x', h2⟩)
  · by_cases e : m = m'
    · subst e
      rw [hm] at hm'; cases hm'
      rcases hlk m o hm with ⟨k, o1, rfl, rfl, hk⟩ | ⟨hn1, hm1⟩
      · exact (hpl.apartF k o1 k o1 b hk hk (hren _ _ hf)).1 x (hρ2k _ _ hx)
      · exact (hp.apartF m o m o b hm1 hm1 hf).1 x (hold2 m o hm1 _ hx)
    · exact hap m o m' o' b hm hm' e (.inr hf) (.inl ⟨x, hx⟩)
  · show (if m < s.nx then ρ m else ρc (m - s.nx)) = none
    have hm' : s.nx + nx' ≤ m := hm
    rw [if_neg (by omega)]
    exact hpl.above _ (by omega)
  · rw [hpl.old b (Nat.lt_of_lt_of_le hb hp.size) (fun hg => ?_)]
    · exact hp.old b hb hc
    · rcases (gone_own hp hg).2 with h | h
      · omega
      · exact hc h
end
end Go.Proofs.YtnbfnpnephfjaaaE

/-! One state is weaker than another. -/
namespace Go.Proofs.YtnbfnpnephfjaaaE
open Go Go.RowKit
set_option linter.unusedSimpArgs false
set_option linter.unusedVariables false

/-- For each name of the second state the object of the first, and how many of its elements (of how many cells) are passed over. -/
abbrev Th := List (Nat × Option (Nat × Nat × Nat))

/-- The name of an object of the second state, as found in the first. -/
def uniN (θ : Th) (m' m : Nat) (K : Th → Prop) : Prop :=
  match lk θ m' with
  | some x => x = some (m, 0, 0) ∧ K θ
  | none => K ((m', some (m, 0, 0)) :: θ)
def uniK (θ : Th) (m' m k z : Nat) (K : Th → Prop) : Prop :=
  if k = 0 then uniN θ m' m K else match lk θ m' with
  | some x => x = some (m, k, z) ∧ K θ
  | none => K ((m', some (m, k, z)) :: θ)
def uniNil (θ : Th) (m' : Nat) (K : Th → Prop) : Prop :=
  match lk θ m' with
  | some x => x = none ∧ K θ
  | none => K ((m', none) :: θ)

def uni1 (θ : Th) (av av' : AVal) (K : Th → Prop) : Prop :=
  match av' with
  | .junk => K θ
  | .v x' => match av with
    | .v x => x = x' ∧ K θ
    | _ => False
  | .sub m' z' lo' len' => match av with
    | .sub m z lo len => (z = z' ∧ lo' ≤ lo ∧ len = len') ∧ uniK θ m' m (lo - lo') z K
    | .v (.slice none 0 0) => (lo' = 0 ∧ len' = 0) ∧ uniNil θ m' K
    | _ => False
  | .ptr m' off' => match av with
    | .ptr m off => off = off' ∧ uniN θ m' m K
    | _ => False
  | .elt m' z' i' f' => match av with
    | .elt m z i f => (z = z' ∧ i = i' ∧ f = f') ∧ uniN θ m' m K
    | _ => False
  | .mp m' => match av with
    | .mp m => uniN θ m' m K
    | _ => False
  | .arp m' n' => match av with
    | .arp m n => n = n' ∧ uniN θ m' m K
    | _ => False
  | .rs t xs => av = .rs t xs ∧ K θ
  | .re t x f => av = .re t x f ∧ K θ
  | .rp t xs => av = .rp t xs ∧ K θ
  | .fs m' z' b' o' lo' n' c' => match av with
    | .fs m z b o lo n c => (z = z' ∧ b = b' ∧ o = o' ∧ lo = lo' ∧ n = n' ∧ c = c') ∧ uniN θ m' m K
    | _ => False
  | .fp m' z' b' o' i' f' => match av with
    | .fp m z b o i f => (z = z' ∧ b = b' ∧ o = o' ∧ i = i' ∧ f = f') ∧ uniN θ m' m K
    | _ => False
  | _ => False
def uniL (θ : Th) : List AVal → List AVal → (Th → Prop) → Prop
  | [], [], K => K θ
  | a :: r, a' :: r', K => uni1 θ a a' fun θ => uniL θ r r' K
  | _, _, _ => False
def uni (θ : Th) (av av' : AVal) (K : Th → Prop) : Prop :=
  match av' with
  | .agg cs' => match av with
    | .agg cs => uniL θ cs cs' K
    | _ => False
  | .fn f' cs' => match av with
    | .fn f cs => f = f' ∧ uniL θ cs cs' K
    | _ => False
  | av' => uni1 θ av av' K
def uniS (θ : Th) (σ : List (Nat × AVal)) : List (Nat × AVal) → (Th → Prop) → Prop
  | [], K => K θ
  | (d, av') :: r, K => match lk σ d with
    | some av => uni θ av av' fun θ => uniS θ σ r K
    | none => False
def uniO (θ : Th) (k z : Nat) (o o' : AObj) (K : Th → Prop) : Prop :=
  match o' with
  | .box cs' => match o with
    | .box cs => k = 0 ∧ uniL θ cs cs' K
    | _ => False
  | .row t' xs' => match o with
    | .row t xs => castK t' t xs fun xs => if k = 0 then xs = xs' ∧ K θ else (z = sz t' ∧ k ≤ xs.length ∧ xs.drop k = xs') ∧ K θ
    | _ => False
  | .set kk' mp' es' => match o with
    | .set kk mp es => (k = 0 ∧ kk = kk' ∧ mp = mp' ∧ es = es') ∧ K θ
    | _ => False
  | .nrow t' xs' es' ys' => match o with
    | .nrow t xs es ys => castP t' t ⟨xs, es, ys⟩ fun p => (k = 0 ∧ p.xs = xs' ∧ p.es = es' ∧ p.ys = ys') ∧ K θ
    | _ => False
def uniH (θ : Th) (L : Hp) : Hp → (Th → Prop) → Prop
  | [], K => K θ
  | (m', o') :: r, K => match lk θ m' with
    | some (some (m, k, z)) => match lk L m with
      | some o => uniO θ k z o o' fun θ => uniH θ L r K
      | none => False
    | some none => match o' with
      | .row t xs' => xs' = [] ∧ uniH θ L r K
      | .nrow t xs' es' ys' => (flat t = false ∧ xs' = [] ∧ ys' = [] ∧ ∀ b, es' b = none) ∧ uniH θ L r K
      | _ => False
    | none => match lk L m' with
      | some o => uniO ((m', some (m', 0, 0)) :: θ) 0 0 o o' fun θ => uniH θ L r K
      | none => False
def boxesOf : Hp → Hp
  | [] => []
  | (m, .box cs) :: r => (m, .box cs) :: boxesOf r
  | _ :: r => boxesOf r
def rowsOf : Hp → Hp
  | [] => []
  | (m, .row t xs) :: r => (m, .row t xs) :: rowsOf r
  | (m, .set kk mp es) :: r => (m, .set kk mp es) :: rowsOf r
  | (m, .nrow t xs es ys) :: r => (m, .nrow t xs es ys) :: rowsOf r
  | _ :: r => rowsOf r
def keysLt (n : Nat) : Th → Bool
  | [] => true
  | (m, _) :: r => decide (m < n) && keysLt n r
def tgts : Th → List Nat
  | [] => []
  | (_, some (m, _, _)) :: r => m :: tgts r
  | (_, none) :: r => tgts r
/-- The first state has all that the second one tells. -/
def idT : Nat → Th
  | 0 => []
  | n + 1 => (n, some (n, 0, 0)) :: idT n
def SubS (p : Nat) (s s' : S) : Prop := s'.n = s.n ∧ uniS (idT p) s.σ s'.σ fun θ => uniH θ s.L (boxesOf s'.L) fun θ => uniH θ s.L (rowsOf s'.L) fun θ => nodupB (tgts θ) = true ∧ keysLt s'.nx θ = true

section
variable {W : World} {C : CR} {ρ : Nm}

def shf (k z : Nat) : Option (Nat × Nat × Nat) → Option (Nat × Nat × Nat) := Option.map fun y => (y.1, y.2.1 + k * z, y.2.2 - k)
theorem shf_zero (z : Nat) (x : Option (Nat × Nat × Nat)) : shf 0 z x = x := by cases x <;> simp [shf]
theorem shf_zero' (z : Nat) (x : Option (Option (Nat × Nat × Nat))) : x.map (shf 0 z) = x := by cases x <;> simp [shf_zero]
def rhoT (ρ : Nm) (θ : Th) : Nm := fun m' => match lk θ m' with
  | some (some (m, k, z)) => (ρ m).map (shf k z)
  | some none => some none
  | none => none
def ExtT (θ θ' : Th) : Prop := ∀ k x, lk θ k = some x → lk θ' k = some x
theorem ExtT.refl (θ : Th) : ExtT θ θ := fun _ _ h => h
theorem ExtT.trans {a b c : Th} (h : ExtT a b) (k : ExtT b c) : ExtT a c := fun m x hx => k m x (h m x hx)
theorem ExtT.sub {θ θ' : Th} (h : ExtT θ θ') : Sub0 (rhoT ρ θ) (rhoT ρ θ') := fun m x hx => by
  unfold rhoT at hx ⊢
  cases hl : lk θ m with
  | none => rw [hl] at hx; cases hx
  | some y => rw [hl] at hx; rw [h m y hl]; exact hx
theorem ExtT.cons {θ : Th} {m : Nat} {x : Option (Nat × Nat × Nat)} (h : lk θ m = none) : ExtT θ ((m, x) :: θ) := fun k y hk => by
  simp only [lk]
  split
  · rename_i e; subst e; rw [h] at hk; cases hk
  · exact hk

theorem uniN_ok {θ : Th} {m' m : Nat} {K : Th → Prop} (h : uniN θ m' m K) : ∃ θ', ExtT θ θ' ∧ K θ' ∧ rhoT ρ θ' m' = ρ m := by
  unfold uniN at h
  split at h
  · rename_i x hx
    obtain ⟨rfl, hK⟩ := h
    exact ⟨θ, .refl _, hK, by simp [rhoT, hx, shf_zero']⟩
  · rename_i hx
    exact ⟨_, .cons hx, h, by simp [rhoT, lk, shf_zero']⟩
theorem uniK_ok {θ : Th} {m' m k z : Nat} {K : Th → Prop} (h : uniK θ m' m k z K) : ∃ θ', ExtT θ θ' ∧ K θ' ∧ rhoT ρ θ' m' = (ρ m).map (shf k z) := by
  unfold uniK at h
  split at h
  · rename_i hk
    subst hk
    obtain ⟨θ', h1, h2, h3⟩ := uniN_ok (ρ := ρ) h
    exact ⟨θ', h1, h2, by rw [h3, shf_zero']⟩
  · split at h
    · rename_i x hx
      obtain ⟨rfl, hK⟩ := h
      exact ⟨θ, .refl _, hK, by simp [rhoT, hx]⟩
    · rename_i hx
      exact ⟨_, .cons hx, h, by simp [rhoT, lk]⟩
theorem uniNil_ok {θ : Th} {m' : Nat} {K : Th → Prop} (h : uniNil θ m' K) : ∃ θ', ExtT θ θ' ∧ K θ' ∧ rhoT ρ θ' m' = some none := by
  unfold uniNil at h
  split at h
  · rename_i x hx
    obtain ⟨rfl, hK⟩ := h
    exact ⟨θ, .refl _, hK, by simp [rhoT, hx]⟩
  · rename_i hx
    exact ⟨_, .cons hx, h, by simp [rhoT, lk]⟩

theorem uni1_ok {θ : Th} {av av' : AVal} {K : Th → Prop} (h : uni1 θ av av' K) : ∃ θ', ExtT θ θ' ∧ K θ' ∧ ∀ v, Den W C ρ av v → Den W C (rhoT ρ θ') av' v := by
  unfold uni1 at h
  split at h
  · exact ⟨θ, .refl _, h, fun v _ => .junk v⟩
  · split at h
    · obtain ⟨rfl, hK⟩ := h
      exact ⟨θ, .refl _, hK, fun v hd => by rw [den_v hd]; exact .v _⟩
    · exact h.elim
  · split at h
    · rename_i m' z' lo' len' _ m z lo len
      obtain ⟨⟨rfl, hlo, rfl⟩, h⟩ := h
      obtain ⟨θ', h1, h2, h3⟩ := uniK_ok (ρ := ρ) h
      refine ⟨θ', h1, h2, fun v hd => ?_⟩
      cases hd with
      | sub hm hle had =>
        rename_i b o c ad
        rw [hm] at h3
        have e : c - lo = (c - (lo - lo')) - lo' := by omega
        rw [e]
        refine .sub h3 (by omega) (fun hlt => ?_)
        rw [had (by omega), Nat.add_assoc, ← Nat.add_mul, Nat.sub_add_cancel hlo]
      | sub0 hm =>
        rw [hm] at h3
        obtain rfl : lo' = 0 := by omega
        exact .sub0 h3
    · obtain ⟨⟨rfl, rfl⟩, h⟩ := h
      obtain ⟨θ', h1, h2, h3⟩ := uniNil_ok (ρ := ρ) h
      refine ⟨θ', h1, h2, fun v hd => ?_⟩
      rw [den_v hd]; exact .sub0 h3
    · exact h.elim
  · split at h
    · obtain ⟨rfl, h⟩ := h
      obtain ⟨θ', h1, h2, h3⟩ := uniN_ok (ρ := ρ) h
      refine ⟨θ', h1, h2, fun v hd => ?_⟩
      cases hd with
      | ptr hm => exact .ptr (h3.trans hm)
    · exact h.elim
  · split at h
    · obtain ⟨⟨rfl, rfl, rfl⟩, h⟩ := h
      obtain ⟨θ', h1, h2, h3⟩ := uniN_ok (ρ := ρ) h
      refine ⟨θ', h1, h2, fun v hd => ?_⟩
      cases hd with
      | elt hm => exact .elt (h3.trans hm)
    · exact h.elim
  · split at h
    · obtain ⟨θ', h1, h2, h3⟩ := uniN_ok (ρ := ρ) h
      refine ⟨θ', h1, h2, fun v hd => ?_⟩
      cases hd with
      | mp hm => exact .mp (h3.trans hm)
    · exact h.elim
  · split at h
    · obtain ⟨rfl, h⟩ := h
      obtain ⟨θ', h1, h2, h3⟩ := uniN_ok (ρ := ρ) h
      refine ⟨θ', h1, h2, fun v hd => ?_⟩
      cases hd with
      | arp hm => exact .arp (h3.trans hm)
    · exact h.elim
  · obtain ⟨rfl, hK⟩ := h
    refine ⟨θ, .refl _, hK, fun v hd => ?_⟩
    cases hd with
    | rs vs h1 h2 h3 => exact .rs vs h1 h2 (fun i f x av h4 h5 => enc_den (fun h => h) h5 (h3 i f x av h4 h5))
  · obtain ⟨rfl, hK⟩ := h
    refine ⟨θ, .refl _, hK, fun v hd => ?_⟩
    cases hd with
    | re vs h1 h2 => exact .re vs h1 (fun k av hk => enc_den (fun h => h) hk (h2 k av hk))
  · obtain ⟨rfl, hK⟩ := h
    refine ⟨θ, .refl _, hK, fun v hd => ?_⟩
    cases hd with
    | rp vs h1 h2 => exact .rp vs h1 (fun i f x av h4 h5 => enc_den (fun h => h) h5 (h2 i f x av h4 h5))
  · split at h
    · obtain ⟨⟨rfl, rfl, rfl, rfl, rfl, rfl⟩, h⟩ := h
      obtain ⟨θ', h1, h2, h3⟩ := uniN_ok (ρ := ρ) h
      refine ⟨θ', h1, h2, fun v hd => ?_⟩
      cases hd with
      | fs h4 h5 => exact .fs h4 h5
    · exact h.elim
  · split at h
    · obtain ⟨⟨rfl, rfl, rfl, rfl, rfl⟩, h⟩ := h
      obtain ⟨θ', h1, h2, h3⟩ := uniN_ok (ρ := ρ) h
      refine ⟨θ', h1, h2, fun v hd => ?_⟩
      cases hd with
      | fp => exact .fp
    · exact h.elim
  · exact h.elim

theorem uniL_ok : ∀ {cs cs' : List AVal} {θ : Th} {K : Th → Prop}, uniL θ cs cs' K → ∃ θ', ExtT θ θ' ∧ K θ' ∧ ∀ vs, DenL W C ρ cs vs → DenL W C (rhoT ρ θ') cs' vs
  | [], [], θ, K, h => ⟨θ, .refl _, h, fun vs hd => by have := hd.nil_inv; subst this; exact .nil⟩
  | a :: r, a' :: r', θ, K, h => by
    obtain ⟨θ1, h1, h2, h3⟩ := uni1_ok (W := W) (C := C) (ρ := ρ) h
    obtain ⟨θ2, h4, h5, h6⟩ := uniL_ok h2
    refine ⟨θ2, h1.trans h4, h5, fun vs hd => ?_⟩
    obtain ⟨v, vs', rfl, hd1, hd2⟩ := hd.cons_inv
    exact DenL.cons ((h3 v hd1).mono h4.sub) (h6 vs' hd2)
  | [], _ :: _, θ, K, h => h.elim
  | _ :: _, [], θ, K, h => h.elim

theorem uni_ok {θ : Th} {av av' : AVal} {K : Th → Prop} (h : uni θ av av' K) : ∃ θ', ExtT θ θ' ∧ K θ' ∧ ∀ v, Den W C ρ av v → Den W C (rhoT ρ θ') av' v := by
  unfold uni at h
  split at h
  · split at h
    · obtain ⟨θ', h1, h2, h3⟩ := uniL_ok (W := W) (C := C) (ρ := ρ) h
      refine ⟨θ', h1, h2, fun v hd => ?_⟩
      cases hd with
      | agg vs h4 h5 => have := h3 vs ⟨h4, h5⟩; exact .agg vs this.1 this.2
    · exact h.elim
  · split at h
    · obtain ⟨rfl, h⟩ := h
      obtain ⟨θ', h1, h2, h3⟩ := uniL_ok (W := W) (C := C) (ρ := ρ) h
      refine ⟨θ', h1, h2, fun v hd => ?_⟩
      cases hd with
      | fn vs h4 h5 => have := h3 vs ⟨h4, h5⟩; exact .fn vs this.1 this.2
    · exact h.elim
  · exact uni1_ok h

theorem uniS_ok {σ : List (Nat × AVal)} {a : Act} (hσ : ∀ d av, lk σ d = some av → ∃ v, a.tmps[d]? = some v ∧ Den W C ρ av v) : ∀ {σ' : List (Nat × AVal)} {θ : Th} {K : Th → Prop}, uniS θ σ σ' K →
    ∃ θ', ExtT θ θ' ∧ K θ' ∧ ∀ d av, lk σ' d = some av → ∃ v, a.tmps[d]? = some v ∧ Den W C (rhoT ρ θ') av v
  | [], θ, K, h => ⟨θ, .refl _, h, fun d av hl => by simp [lk] at hl⟩
  | (d, av') :: r, θ, K, h => by
    simp only [uniS] at h
    split at h
    · rename_i av hav
      obtain ⟨θ1, h1, h2, h3⟩ := uni_ok (W := W) (C := C) (ρ := ρ) h
      obtain ⟨θ2, h4, h5, h6⟩ := uniS_ok hσ h2
      refine ⟨θ2, h1.trans h4, h5, fun d2 av2 hl => ?_⟩
      simp only [lk] at hl
      split at hl
      · rename_i e
        subst e
        cases hl
        obtain ⟨v, hv, hd⟩ := hσ d av hav
        exact ⟨v, hv, (h3 v hd).mono h4.sub⟩
      · exact h6 d2 av2 hl
    · exact h.elim

/-- The same cells, of another number. -/
theorem nrow_cells2 {ρ' : Nm} {t : Ty} {m m' : Nat} {xs : List (NR t)} {ys : List t.D} {o' : Nat} {vs : List Value} (h : ∀ (i f : Nat) (cs : List AVal) (av : AVal), (cellsN t m xs ys)[i]? = some cs → cs[f]? = some av → ∃ u, vs[o' + i * sz t + f]? = some u ∧ Den W C ρ av u) :
    ∀ (i f : Nat) (cs : List AVal) (av : AVal), (cellsN t m' xs ys)[i]? = some cs → cs[f]? = some av → ∃ u, vs[o' + i * sz t + f]? = some u ∧ Den W C ρ' av u := by
  intro i f cs av h1 h2
  unfold cellsN at h1
  rw [List.getElem?_append, List.length_map] at h1
  split at h1
  · rename_i hlt
    refine nrow_cells (xs := xs) (m := m) (m' := m') (fun i f cs av h3 h4 => h i f cs av ?_ h4) i f cs av ?_ h2
    · unfold cellsN at h3 ⊢
      rw [List.map_nil, List.append_nil] at h3
      rw [List.getElem?_append_left (by have := (List.getElem?_eq_some_iff.1 h3).1; exact this)]; exact h3
    · unfold cellsN
      rw [List.map_nil, List.append_nil]; exact h1
  · rename_i hge
    have h3 : (cellsN t m xs ys)[i]? = some cs := by
      unfold cellsN
      rw [List.getElem?_append_right (by simpa using hge), List.length_map]; exact h1
    rw [List.getElem?_map, Option.map_eq_some_iff] at h1
    obtain ⟨y, _, rfl⟩ := h1
    obtain ⟨u, h4, h5⟩ := h i f _ av h3 h2
    exact ⟨u, h4, enc_den (fun h => h) h2 h5⟩
theorem uniO_ok {w : World} {θ : Th} {o o' : AObj} {m m' k z : Nat} {K : Th → Prop} (ho : ObjOk W C ρ w m o) (hm : lk θ m' = some (some (m, k, z))) (h : uniO θ k z o o' K) :
    ∃ θ', ExtT θ θ' ∧ K θ' ∧ ObjOk W C (rhoT ρ θ') w m' o' ∧ ∀ b, FootO o' b → FootO o b := by
  have hr : ∀ θ', ExtT θ θ' → rhoT ρ θ' m' = (ρ m).map (shf k z) := fun θ' he => by simp [rhoT, he _ _ hm]
  unfold uniO at h
  split at h
  · split at h
    · obtain ⟨b, T, vs, h1, h2, h3⟩ := ho
      obtain ⟨rfl, h⟩ := h
      obtain ⟨θ', h4, h5, h6⟩ := uniL_ok (W := W) (C := C) (ρ := ρ) h
      exact ⟨θ', h4, h5, ⟨b, T, vs, (by rw [hr _ h4, shf_zero', h1]), h2, h6 vs h3⟩, fun _ h => h.elim⟩
    · exact h.elim
  · split at h
    · obtain rfl := castK_eq h
      have h2 := castK_same h
      clear h
      split at h2
      · rename_i hk
        subst hk
        obtain ⟨rfl, hK⟩ := h2
        refine ⟨θ, .refl _, hK, ?_, fun _ h => h.elim⟩
        rcases ho with ⟨h4, h5⟩ | ⟨b, o, c, T, vs, h4, h5, h6, h7, h8, h9⟩
        · exact .inl ⟨by rw [hr _ (.refl _), shf_zero', h4], h5⟩
        · exact .inr ⟨b, o, c, T, vs, by rw [hr _ (.refl _), shf_zero', h4], h5, h6, h7, h8, fun i f x av h10 h11 => let ⟨u, h12, h13⟩ := h9 i f x av h10 h11; ⟨u, h12, enc_den (fun h => h) h11 h13⟩⟩
      · obtain ⟨⟨rfl, hk, rfl⟩, hK⟩ := h2
        refine ⟨θ, .refl _, hK, ?_, fun _ h => h.elim⟩
        rcases ho with ⟨h4, h5⟩ | ⟨b, o, c, T, vs, h4, h5, h6, h7, h8, h9⟩
        · exact .inl ⟨by rw [hr _ (.refl _), h4]; rfl, by rw [h5]; simp⟩
        · rename_i tt xs hk0
          refine .inr ⟨b, o + k * sz tt, c - k, T, vs, by rw [hr _ (.refl _), h4]; rfl, h5, ?_, by rw [List.length_drop]; omega, by omega, fun i f x av h10 h11 => ?_⟩
          · have : k * sz tt + (c - k) * sz tt = c * sz tt := by rw [← Nat.add_mul]; congr 1; omega
            omega
          · rw [List.getElem?_drop] at h10
            obtain ⟨u, h12, h13⟩ := h9 (k + i) f x av h10 h11
            refine ⟨u, ?_, enc_den (fun h => h) h11 h13⟩
            rw [← h12]
            congr 1
            rw [Nat.add_mul]; omega
    · exact h.elim
  · split at h
    · obtain ⟨⟨rfl, rfl, rfl, rfl⟩, hK⟩ := h
      obtain ⟨b, l, c, h1, h2, h3⟩ := ho
      exact ⟨θ, .refl _, hK, ⟨b, l, c, by rw [hr _ (.refl _), shf_zero', h1], h2, h3⟩, fun _ h => h.elim⟩
    · exact h.elim
  · split at h
    · rename_i t xs es ys
      obtain ⟨rfl, ⟨rfl, rfl, rfl, rfl⟩, hK⟩ := castP_get h
      obtain ⟨hfl, hob, hfam⟩ := ho
      try dsimp only at hfam
      refine ⟨θ, .refl _, hK, ⟨hfl, ?_, fun b o c zs he => let ⟨T, vs, h5, h6, h7, h8, h9⟩ := hfam b o c zs he; ⟨T, vs, h5, h6, h7, h8, fun i f x av h10 h11 => let ⟨u, h12, h13⟩ := h9 i f x av h10 h11; ⟨u, h12, enc_den (fun h => h) h11 h13⟩⟩⟩, fun _ h => h⟩
      rcases hob with ⟨h4, h5⟩ | ⟨b, o, c, T, vs, h4, h5, h6, h7, h8, h8', h9⟩
      · exact .inl ⟨by rw [hr _ (.refl _), shf_zero', h4], h5⟩
      · exact .inr ⟨b, o, c, T, vs, by rw [hr _ (.refl _), shf_zero', h4], h5, h6, h7, h8, h8', nrow_cells2 h9⟩
    · exact h.elim

theorem uniH_ok {w : World} {nx : Nat} {L : Hp} (hp : HpOk W C ρ nx w L) : ∀ {L' : Hp} {θ : Th} {K : Th → Prop}, uniH θ L L' K →
    ∃ θ', ExtT θ θ' ∧ K θ' ∧ ∀ m' o', lk L' m' = some o' → ObjOk W C (rhoT ρ θ') w m' o' ∧ ((∃ m x o, lk θ' m' = some (some (m, x)) ∧ lk L m = some o ∧ ∀ b, FootO o' b → FootO o b) ∨ (lk θ' m' = some none ∧ ∀ b, ¬ FootO o' b))
  | [], θ, K, h => ⟨θ, .refl _, h, fun m' o' hl => by simp [lk] at hl⟩
  | (m', o') :: r, θ, K, h => by
    simp only [uniH] at h
    split at h
    · rename_i m k z hm
      split at h
      · rename_i o ho
        obtain ⟨θ1, h1, h2, h3, hF⟩ := uniO_ok (hp.obj m o ho) hm h
        obtain ⟨θ2, h4, h5, h6⟩ := uniH_ok hp h2
        refine ⟨θ2, h1.trans h4, h5, fun m2 o2 hl => ?_⟩
        simp only [lk] at hl
        split at hl
        · rename_i e; subst e; cases hl
          exact ⟨h3.mono h4.sub, .inl ⟨m, (k, z), o, h4 _ _ (h1 _ _ hm), ho, hF⟩⟩
        · exact h6 m2 o2 hl
      · exact h.elim
    · rename_i hm
      split at h
      · obtain ⟨rfl, h⟩ := h
        obtain ⟨θ2, h4, h5, h6⟩ := uniH_ok hp h
        refine ⟨θ2, h4, h5, fun m2 o2 hl => ?_⟩
        simp only [lk] at hl
        split at hl
        · rename_i e; subst e; cases hl
          exact ⟨.inl ⟨by simp [rhoT, h4 _ _ hm], rfl⟩, .inr ⟨h4 _ _ hm, fun _ h => h⟩⟩
        · exact h6 m2 o2 hl
      · obtain ⟨⟨hfl, rfl, rfl, hes⟩, h⟩ := h
        obtain ⟨θ2, h4, h5, h6⟩ := uniH_ok hp h
        refine ⟨θ2, h4, h5, fun m2 o2 hl => ?_⟩
        simp only [lk] at hl
        split at hl
        · rename_i e; subst e; cases hl
          exact ⟨⟨hfl, .inl ⟨by simp [rhoT, h4 _ _ hm], rfl, rfl⟩, fun b o c zs he => by rw [hes b] at he; cases he⟩, .inr ⟨h4 _ _ hm, fun b h => by simp [FootO, hes b] at h⟩⟩
        · exact h6 m2 o2 hl
      · exact h.elim
    · rename_i hm
      split at h
      · rename_i o ho
        obtain ⟨θ1, h1, h2, h3, hF⟩ := uniO_ok (m' := m') (hp.obj m' o ho) (by simp [lk]) h
        obtain ⟨θ2, h4, h5, h6⟩ := uniH_ok hp h2
        refine ⟨θ2, (ExtT.cons hm).trans (h1.trans h4), h5, fun m2 o2 hl => ?_⟩
        simp only [lk] at hl
        split at hl
        · rename_i e; subst e; cases hl
          exact ⟨h3.mono h4.sub, .inl ⟨m', (0, 0), o, h4 _ _ (h1 _ _ (by simp [lk])), ho, hF⟩⟩
        · exact h6 m2 o2 hl
      · exact h.elim

theorem lk_split {L : Hp} {m : Nat} {o : AObj} (h : lk L m = some o) : lk (boxesOf L) m = some o ∨ lk (rowsOf L) m = some o := by
  induction L with
  | nil => simp [lk] at h
  | cons x r ih =>
    obtain ⟨i, ob⟩ := x
    simp only [lk] at h
    split at h
    · rename_i e; cases h; subst e
      cases o with
      | box cs => left; simp [boxesOf, lk]
      | row t xs => right; simp [rowsOf, lk]
      | set kk mp es => right; simp [rowsOf, lk]
      | nrow t xs es ys => right; simp [rowsOf, lk]
    · rename_i e
      rcases ih h with ih | ih
      · left; cases ob <;> simp [boxesOf, lk, e, ih]
      · right; cases ob <;> simp [rowsOf, lk, e, ih]

theorem tgts_inj : ∀ {θ : Th}, nodupB (tgts θ) = true → ∀ {a b m : Nat} {p q : Nat × Nat}, lk θ a = some (some (m, p)) → lk θ b = some (some (m, q)) → a = b
  | [], _, a, b, m, p, q, h, _ => by simp [lk] at h
  | (k, x) :: r, hn, a, b, m, p, q, ha, hb => by
    have mem : ∀ {r : Th} {j : Nat} {p : Nat × Nat}, lk r j = some (some (m, p)) → m ∈ tgts r := by
      intro r
      induction r with
      | nil => intro j p h; simp [lk] at h
      | cons y r ih =>
        intro j p h
        obtain ⟨i, z⟩ := y
        simp only [lk] at h
        split at h
        · cases h; simp [tgts]
        · cases z with
          | none => simpa [tgts] using ih h
          | some z => obtain ⟨z, z1, z2⟩ := z; simp [tgts, ih h]
    cases x with
    | none =>
      simp only [lk] at ha hb
      split at ha
      · cases ha
      · split at hb
        · cases hb
        · exact tgts_inj (by simpa [tgts] using hn) ha hb
    | some z =>
      obtain ⟨z, z1, z2⟩ := z
      simp [tgts, nodupB] at hn
      simp only [lk] at ha hb
      split at ha <;> split at hb
      · rename_i e1 e2; exact e1.symm.trans e2
      · cases ha; exact absurd (mem hb) hn.1
      · cases hb; exact absurd (mem ha) hn.1
      · exact tgts_inj hn.2 ha hb

theorem keysLt_none : ∀ {θ : Th} {n k : Nat}, keysLt n θ = true → n ≤ k → lk θ k = none
  | [], n, k, _, _ => rfl
  | (m, x) :: r, n, k, h, hk => by
    simp [keysLt] at h
    simp only [lk]
    rw [if_neg (by omega)]
    exact keysLt_none h.2 hk

theorem idT_get : ∀ (p i : Nat), i < p → lk (idT p) i = some (some (i, 0, 0))
  | p + 1, i, h => by
    simp only [idT, lk]
    by_cases e : p = i
    · subst e; simp
    · rw [if_neg e]; exact idT_get p i (by omega)
theorem rho_blk {ρ : Nm} {θ : Th} {m m1 b : Nat} {p1 x : Nat × Nat} (h : lk θ m = some (some (m1, p1))) (hx : rhoT ρ θ m = some (some (b, x))) : ∃ x1, ρ m1 = some (some (b, x1)) := by
  obtain ⟨k, z⟩ := p1
  simp only [rhoT, h] at hx
  cases hm : ρ m1 with
  | none => rw [hm] at hx; cases hx
  | some y =>
    rw [hm] at hx
    cases y with
    | none => simp [shf] at hx
    | some y =>
      simp only [Option.map_some, shf, Option.some.injEq] at hx
      obtain ⟨b', o, c⟩ := y
      simp only [Prod.mk.injEq] at hx
      obtain ⟨rfl, _⟩ := hx
      exact ⟨_, rfl⟩
/-- The heap of which the second state speaks. -/
theorem uni_heap {w : World} {nx nx' : Nat} {L L' : Hp} (hp : HpOk W C ρ nx w L) {θ : Th} (h5 : nodupB (tgts θ) = true) (h6 : keysLt nx' θ = true)
    (h7 : ∀ m' o', lk L' m' = some o' → ObjOk W C (rhoT ρ θ) w m' o' ∧ ((∃ m x o, lk θ m' = some (some (m, x)) ∧ lk L m = some o ∧ ∀ b, FootO o' b → FootO o b) ∨ (lk θ m' = some none ∧ ∀ b, ¬ FootO o' b))) : HpOk W C (rhoT ρ θ) nx' w L' := by
  have key : ∀ m o b, lk L' m = some o → Foot (rhoT ρ θ) m o b → ∃ m1 p1 o1, lk θ m = some (some (m1, p1)) ∧ lk L m1 = some o1 ∧ Foot ρ m1 o1 b ∧ (FootO o b → FootO o1 b) := fun m o b hm hf => by
    rcases (h7 m o hm).2 with ⟨m1, p1, o1, h8, h9, h10⟩ | ⟨h8, h9⟩
    · refine ⟨m1, p1, o1, h8, h9, ?_, h10 b⟩
      rcases hf with ⟨x, hx⟩ | hf
      · obtain ⟨x1, h⟩ := rho_blk h8 hx
        exact .inl ⟨x1, h⟩
      · exact .inr (h10 b hf)
    · rcases hf with ⟨x, hx⟩ | hf
      · simp [rhoT, h8] at hx
      · exact absurd hf (h9 b)
  have hap : ∀ m o m' o' b, lk L' m = some o → lk L' m' = some o' → m ≠ m' → Foot (rhoT ρ θ) m o b → Foot (rhoT ρ θ) m' o' b → False := fun m o m' o' b hm hm' hne h1 h2 => by
    obtain ⟨m1, p1, o1, h8, h9, h10, _⟩ := key m o b hm h1
    obtain ⟨m2, p2, o2, h11, h12, h13, _⟩ := key m' o' b hm' h2
    refine hp.foot_apart h9 h12 (fun e => hne ?_) h10 h13
    subst e
    exact tgts_inj h5 h8 h11
  have how : ∀ m o b, lk L' m = some o → Foot (rhoT ρ θ) m o b → b < w.heap.size ∧ (W.heap.size ≤ b ∨ C.chg b) := fun m o b hm hf => by
    obtain ⟨m1, p1, o1, h8, h9, h10, _⟩ := key m o b hm hf
    exact hp.foot_own h9 h10
  refine ⟨fun m o hm => (h7 m o hm).1, fun m o m' o' b x b' x' hm hm' hne hx hx' => ?_, fun m o b x hm hx => how m o b hm (.inl ⟨x, hx⟩), fun m o m' o' b hm hm' hf => ⟨fun x hx => ?_, fun hne hf' => hap m o m' o' b hm hm' hne (.inr hf) (.inr hf')⟩, fun m o b hm hf => how m o b hm (.inr hf), fun m hm => ?_, hp.os, hp.tape, hp.output, hp.size, hp.old⟩
  · intro e; subst e
    exact hap m o m' o' b hm hm' hne (.inl ⟨x, hx⟩) (.inl ⟨x', hx'⟩)
  · by_cases e : m = m'
    · subst e
      rw [hm] at hm'; cases hm'
      obtain ⟨m1, p1, o1, h8, h9, _, h10⟩ := key m o b hm (.inr hf)
      obtain ⟨x1, h⟩ := rho_blk h8 hx
      exact (hp.apartF m1 o1 m1 o1 b h9 h9 (h10 hf)).1 x1 h
    · exact hap m o m' o' b hm hm' e (.inr hf) (.inl ⟨x, hx⟩)
  · simp [rhoT, keysLt_none h6 hm]
theorem h7_join {w : World} {L L' : Hp} {θ2 θ3 : Th} (h4' : ExtT θ2 θ3) (h7 : ∀ m' o', lk (boxesOf L') m' = some o' → ObjOk W C (rhoT ρ θ2) w m' o' ∧ ((∃ m x o, lk θ2 m' = some (some (m, x)) ∧ lk L m = some o ∧ ∀ b, FootO o' b → FootO o b) ∨ (lk θ2 m' = some none ∧ ∀ b, ¬ FootO o' b)))
    (h7' : ∀ m' o', lk (rowsOf L') m' = some o' → ObjOk W C (rhoT ρ θ3) w m' o' ∧ ((∃ m x o, lk θ3 m' = some (some (m, x)) ∧ lk L m = some o ∧ ∀ b, FootO o' b → FootO o b) ∨ (lk θ3 m' = some none ∧ ∀ b, ¬ FootO o' b))) :
    ∀ m' o', lk L' m' = some o' → ObjOk W C (rhoT ρ θ3) w m' o' ∧ ((∃ m x o, lk θ3 m' = some (some (m, x)) ∧ lk L m = some o ∧ ∀ b, FootO o' b → FootO o b) ∨ (lk θ3 m' = some none ∧ ∀ b, ¬ FootO o' b)) := fun m' o' hl => by
  rcases lk_split hl with hl | hl
  · obtain ⟨h8, h9⟩ := h7 m' o' hl
    exact ⟨h8.mono h4'.sub, h9.imp (fun ⟨m, x, o, h10, h11, h12⟩ => ⟨m, x, o, h4' _ _ h10, h11, h12⟩) (fun h => ⟨h4' _ _ h.1, h.2⟩)⟩
  · exact h7' m' o' hl
theorem SubS.st {p : Nat} {s s' : S} (h : SubS p s s') {a : Act} {w : World} {ρ : Nm} (hs : StOk W C ρ s a w) : s'.n = s.n ∧ ∃ ρ', (∀ i, i < p → ρ' i = ρ i) ∧ StOk W C ρ' s' a w := by
  obtain ⟨he, h⟩ := h
  obtain ⟨θ1, h1, h2, h3⟩ := uniS_ok hs.fr.slot h
  obtain ⟨θ2, h4, h2', h7⟩ := uniH_ok hs.hp h2
  obtain ⟨θ3, h4', ⟨h5, h6⟩, h7'⟩ := uniH_ok hs.hp h2'
  refine ⟨he, rhoT ρ θ3, fun i hi => by simp [rhoT, h4' _ _ (h4 _ _ (h1 _ _ (idT_get p i hi))), shf_zero'], ⟨⟨fun d av hl => ?_, by rw [he]; exact hs.fr.size, hs.fr.defers⟩, uni_heap hs.hp h5 h6 (h7_join h4' h7 h7')⟩⟩
  obtain ⟨v, hv, hd⟩ := h3 d av hl; exact ⟨v, hv, (hd.mono h4.sub).mono h4'.sub⟩

/-- What is overwritten or unknown is left out. -/
def ded : List Nat → List (Nat × AVal) → List (Nat × AVal)
  | _, [] => []
  | seen, (d, av) :: r => if seen.contains d then ded seen r else match av with
    | .junk => ded (d :: seen) r
    | .tup _ => ded (d :: seen) r
    | av => (d, av) :: ded (d :: seen) r
def tidy (s : S) : S := { s with σ := ded [] s.σ }

theorem lk_ded : ∀ (σ : List (Nat × AVal)) (seen : List Nat) {d : Nat} {av : AVal}, lk (ded seen σ) d = some av → d ∉ seen ∧ lk σ d = some av
  | [], seen, d, av, h => by simp [ded, lk] at h
  | (i, x) :: r, seen, d, av, h => by
    simp only [ded] at h
    split at h
    · rename_i hc
      obtain ⟨h1, h2⟩ := lk_ded r seen h
      refine ⟨h1, ?_⟩
      simp only [lk]
      rw [if_neg (fun e => h1 (by subst e; simpa using hc))]
      exact h2
    · rename_i hc
      have hrec : lk (ded (i :: seen) r) d = some av → d ∉ seen ∧ lk ((i, x) :: r) d = some av := fun h => by
        obtain ⟨h1, h2⟩ := lk_ded r (i :: seen) h
        simp only [List.mem_cons, not_or] at h1
        refine ⟨h1.2, ?_⟩
        simp only [lk]
        rw [if_neg (fun e => h1.1 e.symm)]; exact h2
      split at h
      · exact hrec h
      · exact hrec h
      · simp only [lk] at h
        split at h
        · rename_i e; subst e; cases h
          exact ⟨by simpa using hc, by simp [lk]⟩
        · exact hrec h
theorem tidy_st {s : S} {a : Act} {w : World} {ρ : Nm} (hs : StOk W C ρ s a w) : StOk W C ρ (tidy s) a w :=
  ⟨⟨fun d av hl => hs.fr.slot d av (lk_ded _ _ hl).2, hs.fr.size, hs.fr.defers⟩, hs.hp⟩
end
end Go.Proofs.YtnbfnpnephfjaaaE

/-! Code: what is to be shown of it, and why that is enough. -/
namespace Go.Proofs.YtnbfnpnephfjaaaE
open Go Go.RowKit
set_option linter.unusedSimpArgs false
set_option linter.unusedVariables false

structure LO where
  d : Option Nat
  io : IOp
  g : Option (Nat × Bool)

/-- In which order the operations of a region that draws its order are taken. -/
inductive DI where
  | done
  | held (i : Nat) (t : DI)
  | alt (i : Nat) (t r : DI)
  | stop
inductive DT where
  | done
  | held (o : LO) (t : DT)
  | alt (o : LO) (t r : DT)
  | stop
  | bad

inductive IC where
  | ops (l : List LO)
  | draw (l : List LO) (t : DT)
  | skip
  | seq (a b : IC)
  | cond (x : Operand) (a b : IC)
  | block (id : Nat) (b : IC)
  | loop (b : IC)
  | exit (id : Nat)
  | ret
  | hold (c : IC)

inductive Ex where
  | normal
  | exit (id : Nat)
  | ret

def lowCall (o : Op) : Option IOp :=
  match o with
  | .call ⟨.value (.func f), args, _⟩ => some (.call f args.toList)
  | .call ⟨.value (.tmp t), args, _⟩ => some (.callv (.tmp t) args.toList)
  | _ => none
def low1 (P : Program) (τ : List (Nat × Ty)) (o : Op) : Option IOp :=
  match lowCall o with
  | some io => some io
  | none => match lowV P o with
    | some io => some io
    | none => lowW P τ o
def dOk (n : Nat) : Option Nat → Bool
  | none => true
  | some d => decide (d < n)
def lowOp (P : Program) (τ : List (Nat × Ty)) (n : Nat) (ops : List Oper) (o : Oper) : Option LO :=
  match low1 P τ o.op with
  | none => none
  | some io => if dOk n o.dst = true then match o.guard with
    | none => some ⟨o.dst, io, none⟩
    | some (j, b) => match (ops[j]?).bind (·.dst) with
      | some t => if t < n then some ⟨o.dst, io, some (t, b)⟩ else none
      | none => none
    else none
def lowOps (P : Program) (τ : List (Nat × Ty)) (n : Nat) (ops : List Oper) : List Oper → Option (List LO)
  | [] => some []
  | o :: r => match lowOp P τ n ops o, lowOps P τ n ops r with
    | some x, some xs => some (x :: xs)
    | _, _ => none
def isVal : IOp → Bool
  | .box _ => false
  | .new _ => false
  | .store _ _ _ => false
  | .mk _ _ _ _ => false
  | .blds _ _ _ => false
  | .app _ _ _ _ => false
  | .clr _ _ => false
  | .mmk _ _ => false
  | .mput _ _ _ _ _ => false
  | .call _ _ => false
  | .callv _ _ => false
  | .cpy _ _ _ => false
  | .newr _ _ => false
  | .b2s _ _ => false
  | _ => true
/-- Leaves all that was there as it was. -/
def mild : IOp → Bool
  | .store _ _ _ => false
  | .app _ _ _ _ => false
  | .clr _ _ => false
  | .mput _ _ _ _ _ => false
  | .callv _ _ => false
  | .cpy _ _ _ => false
  | .call f _ => !wildF.contains f
  | _ => true
def ins (x : Nat) (l : List Nat) : List Nat := if l.contains x then l else x :: l
def insAll : List Nat → List Nat → List Nat
  | [], l => l
  | x :: r, l => ins x (insAll r l)
def depsOf (o : Oper) : List Nat := o.after.toList.filterMap fun e => if Region.binds .any e then some e.on else none
def ancOf (acc : List (List Nat)) : List Nat → List Nat
  | [] => []
  | k :: r => ins k (insAll (acc.getD k []) (ancOf acc r))
/-- What each operation waits for, all through. -/
def ancs : List (List Nat) → List Oper → List (List Nat)
  | acc, [] => acc
  | acc, o :: r => ancs (acc ++ [ancOf acc (depsOf o)]) r
/-- Operation i may be taken first. -/
def mayHeld (ops : List Oper) (xs : List LO) (an : List (List Nat)) (listed : List Bool) (i : Nat) : Bool :=
  match ops[i]?, xs[i]? with
  | some oi, some xi => isVal xi.io && (List.range ops.length).all fun j => j == i || listed.getD j true || (an.getD j []).contains i || (match ops[j]?, xs[j]? with
      | some oj, some xj => oi.apart ops.toArray oj && (!isLd xi.io || mild xj.io)
      | _, _ => false)
  | _, _ => false
def readyL (ops : List Oper) (listed : List Bool) : List Nat :=
  (List.range ops.length).filter fun i => !listed.getD i true && (match ops[i]? with
    | some o => (depsOf o).all fun k => listed.getD k false
    | none => false)
def setB : List Bool → Nat → List Bool
  | [], _ => []
  | _ :: r, 0 => true :: r
  | b :: r, n + 1 => b :: setB r n
def closedB (ops : List Oper) (listed : List Bool) : Bool := (List.range ops.length).all fun j => !listed.getD j false || (match ops[j]? with
    | some o => (depsOf o).all fun k => listed.getD k false
    | none => false)
def buildD (ops : List Oper) (xs : List LO) (an : List (List Nat)) : Nat → List Bool → DI
  | 0, _ => .stop
  | n + 1, listed => match (readyL ops listed).find? (mayHeld ops xs an listed) with
    | some i => .held i (buildD ops xs an n (setB listed i))
    | none => match readyL ops listed with
      | [] => .done
      | rs => rs.foldr (fun i r => .alt i (buildD ops xs an n (setB listed i)) r) .stop
def altsOf : DI → List Nat
  | .alt i _ r => i :: altsOf r
  | _ => []
def chkD (ops : List Oper) (xs : List LO) (an : List (List Nat)) : Bool → DI → List Bool → Bool
  | hd, .done, listed => hd && (readyL ops listed).isEmpty
  | hd, .held i t, listed => hd && (readyL ops listed).contains i && mayHeld ops xs an listed i && closedB ops listed && chkD ops xs an true t (setB listed i)
  | hd, .alt i t r, listed => (!hd || altsOf (.alt i t r) == readyL ops listed) && chkD ops xs an true t (setB listed i) && chkD ops xs an false r listed
  | hd, .stop, _ => !hd
def depD : DI → Nat
  | .done => 0
  | .held _ t => depD t + 1
  | .alt _ t r => max (depD t + 1) (depD r)
  | .stop => 0
def linD : DT → Bool
  | .held _ t => linD t
  | .alt _ t .stop => linD t
  | .alt _ _ _ => false
  | _ => true
def fillT (xs : List LO) : DI → DT
  | .done => .done
  | .stop => .stop
  | .held i t => match xs[i]? with
    | some o => .held o (fillT xs t)
    | none => .bad
  | .alt i t r => match xs[i]? with
    | some o => .alt o (fillT xs t) (fillT xs r)
    | none => .bad
/-- A region that draws its order. -/
def lowD (P : Program) (τ : List (Nat × Ty)) (n : Nat) (l : List Oper) : Option IC :=
  match lowOps P τ n l l with
  | none => none
  | some xs =>
    let an := ancs [] l
    let t := buildD l xs an (l.length + 1) (List.replicate l.length false)
    if Region.noSelect ⟨l⟩ = true ∧ chkD l xs an true t (List.replicate l.length false) = true ∧ depD t ≤ l.length ∧ P.follows .mixedOrders = true then some (.draw xs (fillT xs t)) else none
def lowC (P : Program) (τ : List (Nat × Ty)) (n : Nat) : Code → Option IC
  | .skip => some .skip
  | .region _ ⟨l⟩ false => match lowOps P τ n l l with
    | some xs => some (.ops xs)
    | none => none
  | .region _ ⟨l⟩ true => lowD P τ n l
  | .seq a b => match lowC P τ n a, lowC P τ n b with
    | some x, some y => some (.seq x y)
    | _, _ => none
  | .cond x a b => match lowC P τ n a, lowC P τ n b with
    | some y, some z => some (.cond x y z)
    | _, _ => none
  | .block id b => match lowC P τ n b with
    | some x => some (.block id x)
    | none => none
  | .loop b => match lowC P τ n b with
    | some x => some (.loop x)
    | none => none
  | .exit id => some (.exit id)
  | .ret => some .ret
  | _ => none

def erase : IC → IC
  | .seq a b => .seq (erase a) (erase b)
  | .cond x a b => .cond x (erase a) (erase b)
  | .block id b => .block id (erase b)
  | .loop b => .loop (erase b)
  | .hold c => erase c
  | c => c

def callable (P : Program) (f : Nat) : Bool :=
  match P.funcs[f]? with
  | some fn => !(fn.name == "runtime.NumGoroutine") && fn.body.isSome
  | none => false

structure Env where
  P : Program
  τ : List (Nat × Ty)
  Γ : Nat → Option Spec
  n : Nat
  W : World
  C : CR
  pins : Nat
  ρ0 : Nm

def Env.good (E : Env) : Prop := (∀ i, i < E.pins → ∃ x, E.ρ0 i = some x) ∧ ∀ f sp, E.Γ f = some sp → callable E.P f = true ∧ Valid E.P f sp

def EvSt (E : Env) (s : S) (a : Act) (w : World) : Prop := s.n = E.n ∧ ∃ ρ, (∀ i, i < E.pins → ρ i = E.ρ0 i) ∧ StOk E.W E.C ρ s a w

def conc (E : Env) (Q : Ex → S → Prop) : Exit → Act → World → Prop
  | .normal, a, w => ∃ s, EvSt E s a w ∧ Q .normal s
  | .exit id, a, w => ∃ s, EvSt E s a w ∧ Q (.exit id) s
  | .ret, a, w => ∃ s, EvSt E s a w ∧ Q .ret s
  | _, _, _ => False

def OkI (E : Env) (ic : IC) (s : S) (Q : Ex → S → Prop) : Prop :=
  ∀ code, lowC E.P E.τ E.n code = some (erase ic) → ∀ a w, EvSt E s a w → code.wp E.P (conc E Q) a w

def gdK (s : S) (g : Option (Nat × Bool)) (K1 K2 : S → Prop) : Prop :=
  match g with
  | none => K1 s
  | some (t, b) => match lk s.σ t with
    | some (.v (.bool c)) => impK (c = b) (K1 (s.put (some t) (.v (.bool b)))) ∧ impK (c = !b) (K2 (s.put (some t) (.v (.bool (!b)))))
    | some (.v (.tuple _)) => K2 s
    | _ => False

def stepM (m : Bool) (Γ : Nat → Option Spec) (s : S) (io : IOp) (K : AVal → S → Prop) : Prop :=
  match io with
  | .box x => wst s (.box x) K
  | .new z => wst s (.new z) K
  | .newr t n => wst s (.newr t n) K
  | .b2s t x => wst s (.b2s t x) K
  | .cpy t x y => wst s (.cpy t x y) K
  | .store n p x => wst s (.store n p x) K
  | .mk t b x y => wst s (.mk t b x y) K
  | .blds t n ps => wst s (.blds t n ps) K
  | .app t b x y => wst s (.app t b x y) K
  | .clr t x => wst s (.clr t x) K
  | .mmk kk mp => wst s (.mmk kk mp) K
  | .mput kk mp m k v => wst s (.mput kk mp m k v) K
  | .call f args => someK (Γ f) fun sp => (m = true → wildF.contains f = false → sp.take s.L (args.map s.ev) = []) ∧ callK sp s (args.map s.ev) K
  | .callv x args => match s.ev x with
    | .fn f cap => someK (Γ f) fun sp => callK sp s (args.map s.ev ++ cap) K
    | _ => False
  | io => vst s io fun av => K av s

def vdt (Γ : Nat → Option Spec) : DT → S → (S → Prop) → Prop
  | .done, s, K => K s
  | .held o t, s, K => gdK s o.g (fun s => vst s o.io fun av => vdt Γ t (s.put o.d av) K) (fun s => vdt Γ t (s.put o.d (.v (.tuple #[]))) K)
  | .alt o t r, s, K => gdK s o.g (fun s => stepM true Γ s o.io fun av s' => vdt Γ t (s'.put o.d av) K) (fun s => vdt Γ t (s.put o.d (.v (.tuple #[]))) K) ∧ vdt Γ r s K
  | .stop, s, K => True
  | .bad, s, K => False

def vops (Γ : Nat → Option Spec) : List LO → S → (S → Prop) → Prop
  | [], s, K => K s
  | o :: r, s, K => gdK s o.g (fun s => stepM false Γ s o.io fun av s' => vops Γ r (s'.put o.d av) K) (fun s => vops Γ r (s.put o.d (.v (.tuple #[]))) K)

def drawQ (lin : Bool) (Γ : Nat → Option Spec) (p : Nat) (l : List LO) (t : DT) (s : S) (K : S → Prop) : Prop :=
  match lin with
  | true => vdt Γ t s K
  | false => vops Γ l s fun sl => K (tidy sl) ∧ vdt Γ t s fun s' => SubS p s' (tidy sl)

def vc (E : Env) : IC → S → (Ex → S → Prop) → Prop
  | .ops l, s, Q => vops E.Γ l s (Q .normal)
  | .draw l t, s, Q => drawQ (linD t) E.Γ E.pins l t s (Q .normal)
  | .skip, s, Q => Q .normal s
  | .seq a b, s, Q => vc E a s fun e s' => match e with
    | .normal => vc E b s' Q
    | .exit i => Q (.exit i) s'
    | .ret => Q .ret s'
  | .cond x a b, s, Q => match s.ev x with
    | .v (.bool t) => impK (t = true) (vc E a s Q) ∧ impK (t = false) (vc E b s Q)
    | _ => False
  | .block id c, s, Q => vc E c s fun e s' => match e with
    | .normal => Q .normal s'
    | .exit i => if i = id then Q .normal s' else Q (.exit i) s'
    | .ret => Q .ret s'
  | .exit id, s, Q => Q (.exit id) s
  | .ret, s, Q => Q .ret s
  | .loop c, s, Q => OkI E (.loop c) s Q
  | .hold c, s, Q => OkI E c s Q

section
variable {E : Env}

/-- The op's call of a Go function. -/
theorem run_call {P : Program} {f : Nat} {o : Oper} {a : Act} {w : World} {x : Operand} {args : Array Operand} {ts : Array TypeId} {cap : Array Value} (ho : o.op = .call ⟨.value x, args, ts⟩) (hx : a.eval x = .func (.func f) #[] cap) (hc : callable P f = true) :
    (execOp a.eval o).run P w = .ok (.enter f (args.map a.eval ++ cap)) w := by
  unfold callable at hc
  split at hc
  · rename_i fn hf
    simp only [Bool.and_eq_true, Bool.not_eq_true'] at hc
    unfold execOp; rw [ho]
    have h1 : ¬ fn.name = "runtime.NumGoroutine" := by simpa using hc.1
    have h2 : ¬ fn.body = none := by intro e; rw [e] at hc; simp at hc
    simp [resolve, hx, Deferred.ofValue, invoke, callFunc, hf, h1, h2]
  · cases hc

/-- One operation that is carried out. -/
theorem step_ok (hE : E.good) {s : S} {a : Act} {w : World} (hn : s.n = E.n) {ρ : Nm} (hs : StOk E.W E.C ρ s a w) {o : Oper} {io : IOp} (hl : low1 E.P E.τ o.op = some io) {K : AVal → S → Prop} {m : Bool} (h : stepM m E.Γ s io K)
    {next : Act → World → Prop} {Q : Exit → Act → World → Prop} (hnext : ∀ av v s' w' ρ', Sub0 ρ ρ' → K av s' → Den E.W E.C ρ' av v → FrOk E.W E.C ρ' s' a → HpOk E.W E.C ρ' s'.nx w' s'.L → s'.n = E.n → (m = true → mild io = true → Below w.heap.size w w') → next (a.put o.dst v) w') :
    o.wp E.P a w next Q := by
  have val : lowV E.P o.op = some io → vst s io (fun av => K av s) → o.wp E.P a w next Q := by
    intro hl h
    obtain ⟨av, v, hK, hd, hr⟩ := vst_ok hs hl h
    unfold Oper.wp
    rw [hr w (fun _ => Below.refl _ _)]
    exact hnext av v s w ρ (Sub0.refl _) hK hd hs.fr hs.hp hn (fun _ _ => Below.refl _ _)
  have wld : lowW E.P E.τ o.op = some io → wst s io K → o.wp E.P a w next Q := by
    intro hl h
    obtain ⟨av, v, s', w', ρ', hK, hr, hsub, hd, e1, e2, hp, hbl⟩ := wst_ok hs hl h
    have hbl' : m = true → mild io = true → Below w.heap.size w w' := fun _ hm => hbl (by
      unfold lowW at hl
      repeat' (split at hl)
      all_goals first
        | (cases hl; done)
        | (cases hl; first | rfl | (cases hm)))
    unfold Oper.wp
    rcases hr with hr | ⟨hr, rfl⟩
    · rw [hr]; exact hnext av v s' w' ρ' hsub hK hd (hs.fr.mono hsub e1 e2) hp (e2.trans hn) hbl'
    · rw [hr]; exact hnext av undef s' w' ρ' hsub hK hd (hs.fr.mono hsub e1 e2) hp (e2.trans hn) hbl'
  have call : ∀ {f : Nat} {x : Operand} {args : Array Operand} {ts : Array TypeId} {caps : List AVal} {capv : List Value}, o.op = .call ⟨.value x, args, ts⟩ → a.eval x = .func (.func f) #[] ⟨capv⟩ → DenL E.W E.C ρ caps capv →
      (someK (E.Γ f) fun sp => (m = true → mild io = true → sp.take s.L (args.toList.map s.ev ++ caps) = []) ∧ callK sp s (args.toList.map s.ev ++ caps) K) → o.wp E.P a w next Q := by
    intro f x args ts caps capv ho hx hcap h
    unfold someK at h
    split at h
    · rename_i sp hsp
      obtain ⟨htk, h⟩ := h
      obtain ⟨hc, hv⟩ := hE.2 f sp hsp
      have hd : DenL E.W E.C ρ (args.toList.map s.ev ++ caps) (args.toList.map a.eval ++ capv) := by
        refine DenL.append ⟨by simp, fun k av u h1 h2 => ?_⟩ hcap
        rw [List.getElem?_map, Option.map_eq_some_iff] at h1 h2
        obtain ⟨y, h3, rfl⟩ := h1
        obtain ⟨y', h4, rfl⟩ := h2
        rw [h3] at h4; cases h4
        exact hs.fr.ev y
      have := callK_ok hv hs.hp hd h
      unfold Oper.wp
      rw [run_call ho hx hc]
      have e : (⟨args.toList.map a.eval ++ capv⟩ : Array Value) = args.map a.eval ++ ⟨capv⟩ := by apply Array.toList_inj.1; simp
      rw [e] at this
      refine this.mono ?_
      rintro e w' ⟨r, v, s', ρ', rfl, hsub, hd, hp, e1, e2, hK, hbl⟩
      exact hnext r v s' w' ρ' hsub hK hd (hs.fr.mono hsub e1 e2) hp (e2.trans hn) (fun h1 h2 => hbl (htk h1 h2))
    · exact h.elim
  unfold low1 at hl
  split at hl
  · rename_i io' hlc
    cases hl
    unfold lowCall at hlc
    split at hlc
    · rename_i f args ts ho
      cases hlc
      exact call (caps := []) (capv := []) ho rfl .nil (by
        simp only [stepM] at h
        unfold someK at h ⊢
        split at h
        · rename_i sp hsp
          exact ⟨fun h1 h2 => by simpa using h.1 h1 (by simpa [mild] using h2), by simpa using h.2⟩
        · exact h)
    · rename_i t args ts ho
      cases hlc
      simp only [stepM] at h
      split at h
      · rename_i f cap hx
        have hd := hs.fr.ev (.tmp t)
        rw [hx] at hd
        generalize hv : a.eval (.tmp t) = v at hd
        cases hd with
        | fn vs h1 h2 => exact call ho hv ⟨h1, h2⟩ (by
          unfold someK at h ⊢
          split at h
          · rename_i sp hsp
            exact ⟨fun _ h2 => (by cases h2), h⟩
          · exact h)
      · exact h.elim
    · cases hlc
  · split at hl
    · rename_i io' hlv
      cases hl
      have : vst s io (fun av => K av s) := by
        unfold lowV at hlv
        repeat' (split at hlv)
        all_goals first
          | (cases hlv; done)
          | (cases hlv; exact h)
      exact val hlv this
    · have hlw := hl
      have : wst s io K := by
        unfold lowW at hlw
        repeat' (split at hlw)
        all_goals first
          | (cases hlw; done)
          | (cases hlw; exact h)
      exact wld hl this
end
end Go.Proofs.YtnbfnpnephfjaaaE

/-! Regions that draw their order. -/
namespace Go.Proofs.YtnbfnpnephfjaaaE
open Go Go.RowKit
set_option linter.unusedSimpArgs false
set_option linter.unusedVariables false

section
variable {P : Program} {ops : Array Oper} {Q : Exit → Act → World → Prop} {M : Nat → Bool}

/-- Whatever order is picked; what is mild leaves what was there. -/
def wpAnyM (P : Program) (ops : Array Oper) (Q : Exit → Act → World → Prop) (M : Nat → Bool) : Nat → Array Bool → Act → World → Prop
  | 0, listed, a, w => Region.ready .any ops listed = [] ∧ Q .normal a w
  | fuel + 1, listed, a, w => (Region.ready .any ops listed = [] → Q .normal a w) ∧
    ∀ i ∈ Region.ready .any ops listed, wpOp P ops Q i (fun a' w' => (M i = true → Below w.heap.size w w') ∧ wpAnyM P ops Q M fuel (listed.setIfInBounds i true) a' w') a w

theorem wpAny_of_M : ∀ (fuel : Nat) (listed : Array Bool) (a : Act) (w : World), wpAnyM P ops Q M fuel listed a w → wpAny P .any ops Q fuel listed a w
  | 0, _, _, _, h => h
  | fuel + 1, _, _, _, h => ⟨h.1, fun i hi => wpOp_mono (fun a' w' h' => wpAny_of_M fuel _ a' w' h'.2) (h.2 i hi)⟩

/-- All that a listed operation waits for is listed. -/
def Closed (ops : Array Oper) (listed : Array Bool) : Prop := ∀ j oj, ops[j]? = some oj → listed.getD j false = true → ∀ e ∈ oj.after, Region.binds .any e = true → listed.getD e.on false = true

/-- j waits for i, directly or not. -/
structure Waits (ops : Array Oper) (R : Nat → Nat → Prop) : Prop where
  step : ∀ j i, R j i → ∃ oj, ops[j]? = some oj ∧ ∃ e ∈ oj.after, Region.binds .any e = true ∧ (e.on = i ∨ (e.on < j ∧ R e.on i))

theorem Waits.listed {R : Nat → Nat → Prop} (hR : Waits ops R) {listed : Array Bool} (hc : Closed ops listed) : ∀ (j i : Nat), R j i → listed.getD j false = true → listed.getD i false = true := by
  intro j
  induction j using Nat.strongRecOn with
  | _ j ih =>
    intro i hji hj
    obtain ⟨oj, hoj, e, he, hb, hk⟩ := hR.step j i hji
    have := hc j oj hoj hj e he hb
    rcases hk with rfl | ⟨hlt, hk⟩
    · exact this
    · exact ih e.on hlt i hk this
theorem Waits.ready {R : Nat → Nat → Prop} (hR : Waits ops R) {listed : Array Bool} (hc : Closed ops listed) {j i : Nat} (hji : R j i) (hr : j ∈ Region.ready .any ops listed) : listed.getD i false = true := by
  obtain ⟨_, oj, hoj, hall⟩ := mem_ready.1 hr
  obtain ⟨oj', hoj', e, he, hb, hk⟩ := hR.step j i hji
  rw [hoj] at hoj'; cases hoj'
  have := hall e he hb
  rcases hk with rfl | ⟨hlt, hk⟩
  · exact this
  · exact hR.listed hc _ _ hk this

theorem Closed.set {listed : Array Bool} (hc : Closed ops listed) {j : Nat} (hr : j ∈ Region.ready .any ops listed) : Closed ops (listed.setIfInBounds j true) := by
  intro k ok hk hl e he hb
  apply getD_set_true
  by_cases e1 : j = k
  · subst e1
    obtain ⟨_, oj, hoj, hall⟩ := mem_ready.1 hr
    rw [hk] at hoj; cases hoj
    exact hall e he hb
  · rw [getD_set_ne false e1] at hl
    exact hc k ok hk hl e he hb

theorem anyM_first {R : Nat → Nat → Prop} (hR : Waits ops R) {i : Nat} {oi : Oper} {v : Value} {ld : Bool} (hi : ops[i]? = some oi) (hsel : ∀ (j : Nat) (o : Oper) cs b, ops[j]? = some o → o.op ≠ .select cs b)
    (hQ : ∀ c a w, ¬ Q (.panic c) a w) :
    ∀ (fuel : Nat) (listed : Array Bool) (a : Act) (w : World), Closed ops listed →
      (∀ j oj, ops[j]? = some oj → j ≠ i → listed.getD j true = false → R j i ∨ (oi.apart ops oj = true ∧ (ld = true → M j = true))) →
      i ∈ Region.ready .any ops listed → YieldsIf P ops (fun w' => ld = true → Below w.heap.size w w') oi v a →
      wpAnyM P ops Q M fuel (listed.setIfInBounds i true) (a.put oi.dst v) w → wpAnyM P ops Q M (fuel + 1) listed a w := by
  intro fuel
  induction fuel with
  | zero =>
    intro listed a w _ _ hr hy H
    refine ⟨fun h => (by rw [h] at hr; cases hr), fun j hj => ?_⟩
    by_cases hji : j = i
    · subst hji; exact hy.wpOp hi (fun _ => Below.refl _ _) ⟨fun _ => Below.refl _ _, H⟩
    · have := ready_mono hj hji
      rw [H.1] at this
      cases this
  | succ fuel ih =>
    intro listed a w hc hfree hr hy H
    refine ⟨fun h => (by rw [h] at hr; cases hr), fun j hj => ?_⟩
    by_cases hji : j = i
    · subst hji; exact hy.wpOp hi (fun _ => Below.refl _ _) ⟨fun _ => Below.refl _ _, H⟩
    · have h1 := H.2 j (ready_mono hj hji)
      obtain ⟨hjun, oj, hoj, hall⟩ := mem_ready.1 hj
      have hnw : ¬ R j i := fun h => by
        have := hR.ready hc h hj
        have h0 := (mem_ready.1 hr).1
        rcases Nat.lt_or_ge i listed.size with h' | h'
        · simp [h'] at h0 this; rw [h0] at this; cases this
        · simp [Array.getElem?_eq_none h'] at this
      obtain ⟨hap, hM⟩ := (hfree j oj hoj hji hjun).resolve_left hnw
      have h2 := wpOp_putIf hoj hap (fun cs b => hsel i oi cs b hi) (fun cs b => hsel j oj cs b hoj) (fun c a w h => absurd h (hQ c _ w)) hy h1
      have hfree' : ∀ k ok, ops[k]? = some ok → k ≠ i → (listed.setIfInBounds j true).getD k true = false → R k i ∨ (oi.apart ops ok = true ∧ (ld = true → M k = true)) := fun k ok hk hki hun => by
        refine hfree k ok hk hki ?_
        by_cases hjk : j = k
        · subst hjk; exact hjun
        · rw [getD_set_ne true hjk] at hun; exact hun
      refine wpOp_mono (fun a' w' h3 => ⟨h3.2.1, ih (listed.setIfInBounds j true) a' w' (hc.set hj) hfree' (ready_mono hr (Ne.symm hji)) ?_ ?_⟩) h2
      · rcases h3.1 with ⟨h4, h5⟩ | h4
        · refine .inl ⟨h4, fun w2 hw2 => h5 w2 fun hl => ?_⟩
          have b1 := h3.2.1 (hM hl)
          exact b1.trans ((hw2 hl).mono b1.size)
        · exact .inr h4
      · rw [Array.setIfInBounds_comm _ _ hji]
        exact h3.2.2
end

/-! ### The tree -/
section
variable {E : Env}

theorem mem_ins {x y : Nat} {l : List Nat} : y ∈ ins x l ↔ y = x ∨ y ∈ l := by
  unfold ins
  split
  · rename_i h
    constructor
    · exact .inr
    · rintro (rfl | h')
      · simpa using h
      · exact h'
  · simp
theorem mem_insAll {y : Nat} : ∀ {l m : List Nat}, y ∈ insAll l m ↔ y ∈ l ∨ y ∈ m
  | [], m => by simp [insAll]
  | x :: r, m => by rw [insAll, mem_ins, mem_insAll]; simp [or_assoc]
theorem mem_ancOf {acc : List (List Nat)} {i : Nat} : ∀ {ds : List Nat}, i ∈ ancOf acc ds → ∃ k ∈ ds, k = i ∨ i ∈ acc.getD k []
  | k :: r, h => by
    rw [ancOf, mem_ins, mem_insAll] at h
    rcases h with rfl | h | h
    · exact ⟨_, by simp, .inl rfl⟩
    · exact ⟨k, by simp, .inr h⟩
    · obtain ⟨k', h1, h2⟩ := mem_ancOf h
      exact ⟨k', by simp [h1], h2⟩
theorem ancs_spec : ∀ (r : List Oper) (acc : List (List Nat)) (j i : Nat), i ∈ (ancs acc r).getD j [] → i ∈ acc.getD j [] ∨ ∃ o, acc.length ≤ j ∧ r[j - acc.length]? = some o ∧ ∃ k ∈ depsOf o, k = i ∨ (k < j ∧ i ∈ (ancs acc r).getD k [])
  | [], acc, j, i, h => .inl h
  | o :: r, acc, j, i, h => by
    have keep : ∀ (r : List Oper) (acc : List (List Nat)) (k : Nat), k < acc.length → (ancs acc r).getD k [] = acc.getD k [] := by
      intro r
      induction r with
      | nil => intro acc k _; rfl
      | cons o r ih =>
        intro acc k hk
        rw [ancs, ih _ _ (by simp; omega)]
        simp [List.getD, List.getElem?_append_left hk]
    rw [ancs] at h
    rcases ancs_spec r _ j i h with h | ⟨o', h1, h2, k, h3, h4⟩
    · by_cases hj : j < acc.length
      · left; simpa [List.getD, List.getElem?_append_left hj] using h
      · right
        by_cases e : j = acc.length
        · subst e
          have h' : i ∈ ancOf acc (depsOf o) := by simpa [List.getD] using h
          obtain ⟨k, h5, h6⟩ := mem_ancOf h'
          refine ⟨o, Nat.le_refl _, by simp, k, h5, h6.imp id fun h7 => ?_⟩
          have hk : k < acc.length := by
            rcases Nat.lt_or_ge k acc.length with h8 | h8
            · exact h8
            · simp [List.getD, List.getElem?_eq_none h8] at h7
          refine ⟨hk, ?_⟩
          rw [ancs, keep _ _ _ (by simp; omega)]
          simpa [List.getD, List.getElem?_append_left hk] using h7
        · have : acc.length + 1 ≤ j := by omega
          simp [List.getD, List.getElem?_eq_none (show (acc ++ [ancOf acc (depsOf o)]).length ≤ j by simp; omega)] at h
    · right
      simp at h1 h2
      refine ⟨o', by omega, ?_, k, h3, ?_⟩
      · have : j - acc.length = (j - (acc.length + 1)) + 1 := by omega
        rw [this]; simpa using h2
      · rw [ancs]; exact h4

theorem mem_depsOf {o : Oper} {k : Nat} : k ∈ depsOf o ↔ ∃ e ∈ o.after, Region.binds .any e = true ∧ e.on = k := by
  unfold depsOf
  simp only [List.mem_filterMap, Array.mem_toList_iff]
  constructor
  · rintro ⟨e, he, h⟩
    split at h
    · rename_i hb; cases h; exact ⟨e, he, hb, rfl⟩
    · cases h
  · rintro ⟨e, he, hb, rfl⟩
    exact ⟨e, he, by simp [hb]⟩

theorem waits_ancs (l : List Oper) : Waits l.toArray fun j i => i ∈ (ancs [] l).getD j [] := ⟨fun j i h => by
  rcases ancs_spec l [] j i h with h | ⟨o, h1, h2, k, h3, h4⟩
  · simp [List.getD] at h
  · obtain ⟨e, he, hb, rfl⟩ := mem_depsOf.1 h3
    exact ⟨o, by simpa using h2, e, he, hb, h4⟩⟩

theorem mem_readyL {l : List Oper} {listed : List Bool} {j : Nat} : j ∈ readyL l listed ↔ j ∈ Region.ready .any l.toArray listed.toArray := by
  rw [mem_ready]
  unfold readyL
  simp only [List.mem_filter, List.mem_range]
  have e0 : listed.toArray.getD j true = listed.getD j true := by simp [List.getD, Array.getD_eq_getD_getElem?]
  cases ho : l[j]? with
  | none => simp [ho]
  | some o =>
    have hlt : j < l.length := (List.getElem?_eq_some_iff.1 ho).1
    simp only [hlt, true_and, ho, Bool.and_eq_true, Bool.not_eq_true', List.all_eq_true, e0]
    constructor
    · rintro ⟨h1, h2⟩
      refine ⟨h1, o, by simpa using ho, fun e he hb => ?_⟩
      have := h2 e.on (mem_depsOf.2 ⟨e, he, hb, rfl⟩)
      simpa [List.getD, Array.getD_eq_getD_getElem?] using this
    · rintro ⟨h1, o', h2, h3⟩
      have : o' = o := by simpa [ho] using h2.symm
      subst this
      refine ⟨h1, fun k hk => ?_⟩
      obtain ⟨e, he, hb, rfl⟩ := mem_depsOf.1 hk
      simpa [List.getD, Array.getD_eq_getD_getElem?] using h3 e he hb

theorem setB_eq : ∀ (l : List Bool) (i : Nat), (setB l i).toArray = l.toArray.setIfInBounds i true
  | [], i => by simp [setB]
  | b :: r, 0 => by apply Array.toList_inj.1; simp [setB]
  | b :: r, n + 1 => by
    have := congrArg Array.toList (setB_eq r n)
    apply Array.toList_inj.1
    simp at this ⊢
    simp [setB, this]

theorem closedB_ok {l : List Oper} {listed : List Bool} (h : closedB l listed = true) : Closed l.toArray listed.toArray := by
  intro j oj hj hl e he hb
  unfold closedB at h
  simp only [List.all_eq_true, List.mem_range, Bool.or_eq_true, Bool.not_eq_true'] at h
  have hj' : l[j]? = some oj := by simpa using hj
  have := h j (List.getElem?_eq_some_iff.1 hj').1
  have hl' : listed.getD j false = true := by simpa [List.getD, Array.getD_eq_getD_getElem?] using hl
  rcases this with h1 | h1
  · rw [hl'] at h1; cases h1
  · rw [hj'] at h1
    simp only [List.all_eq_true] at h1
    have := h1 e.on (mem_depsOf.2 ⟨e, he, hb, rfl⟩)
    simpa [List.getD, Array.getD_eq_getD_getElem?] using this

theorem lowOps_get {P : Program} {τ : List (Nat × Ty)} {n : Nat} {all : List Oper} : ∀ {l : List Oper} {xs : List LO}, lowOps P τ n all l = some xs → ∀ (i : Nat) (x : LO), xs[i]? = some x → ∃ o, l[i]? = some o ∧ lowOp P τ n all o = some x
  | [], xs, h, i, x, hx => by simp [lowOps] at h; subst h; simp at hx
  | o :: r, xs, h, i, x, hx => by
    simp only [lowOps] at h
    split at h
    · rename_i y ys hy hys
      cases h
      cases i with
      | zero => simp at hx; subst hx; exact ⟨o, by simp, hy⟩
      | succ i => simpa using lowOps_get hys i x (by simpa using hx)
    · cases h

theorem guard_ok {W : World} {C : CR} {ρ : Nm} {s : S} {a : Act} {w : World} (hs : StOk W C ρ s a w) {t : Nat} {b : Bool} (h : a.tmps[t]? = some (.bool b)) : StOk W C ρ (s.put (some t) (.v (.bool b))) a w := by
  refine ⟨⟨fun d av hl => ?_, hs.fr.size, hs.fr.defers⟩, hs.hp⟩
  simp only [S.put, lk] at hl
  by_cases e : t = d
  · subst e; rw [if_pos rfl] at hl; cases hl; exact ⟨_, h, .v _⟩
  · rw [if_neg e] at hl; exact hs.fr.slot d av hl

/-- An operation that is or is not wanted. -/
theorem gd_cases {s : S} {a : Act} {w : World} (hs : EvSt E s a w) {all : List Oper} {o : Oper} {x : LO} (hx : lowOp E.P E.τ E.n all o = some x) {K1 K2 : S → Prop} (h : gdK s x.g K1 K2) :
    x.d = o.dst ∧ low1 E.P E.τ o.op = some x.io ∧ (∀ t, o.dst = some t → t < E.n) ∧
    ((Region.wanted o (yielded all.toArray a.tmps) = true ∧ ∃ s', EvSt E s' a w ∧ K1 s') ∨ (Region.wanted o (yielded all.toArray a.tmps) = false ∧ ∃ s', EvSt E s' a w ∧ K2 s')) := by
  unfold lowOp at hx
  split at hx
  · cases hx
  · rename_i io hio
    split at hx
    · rename_i hd
      have hdn : ∀ t, o.dst = some t → t < E.n := fun t ht => by
        rw [ht] at hd; simpa [dOk] using hd
      split at hx
      · rename_i hg
        cases hx
        exact ⟨rfl, hio, hdn, .inl ⟨by simp [Region.wanted, hg], s, hs, h⟩⟩
      · rename_i j b hg
        split at hx
        · rename_i t ht
          split at hx
          · rename_i htn
            cases hx
            refine ⟨rfl, hio, hdn, ?_⟩
            simp only [gdK] at h
            split at h
            · rename_i c hc
              obtain ⟨hn, ρ, hpin, hok⟩ := hs
              obtain ⟨v, hv, hv2⟩ := hok.fr.slot t _ hc
              have := den_v hv2
              subst this
              have hy : yielded all.toArray a.tmps j = some c := by
                unfold yielded
                have : ((all.toArray[j]?).bind (·.dst)) = some t := by simpa using ht
                rw [this]; simp [hv]
              by_cases e : c = b
              · subst e
                exact .inl ⟨by simp [Region.wanted, hg, hy], s.put (some t) (.v (.bool c)), ⟨hn, ρ, hpin, guard_ok hok hv⟩, h.1 rfl⟩
              · have e' : c = !b := by cases b <;> cases c <;> simp_all
                subst e'
                exact .inr ⟨by cases b <;> simp [Region.wanted, hg, hy], s.put (some t) (.v (.bool (!b))), ⟨hn, ρ, hpin, guard_ok hok hv⟩, h.2 rfl⟩
            · rename_i c hc
              obtain ⟨hn, ρ, hpin, hok⟩ := hs
              obtain ⟨v, hv, hv2⟩ := hok.fr.slot t _ hc
              have := den_v hv2
              subst this
              have hy : yielded all.toArray a.tmps j = none := by
                unfold yielded
                have : ((all.toArray[j]?).bind (·.dst)) = some t := by simpa using ht
                rw [this]; simp [hv]
              exact .inr ⟨by simp [Region.wanted, hg, hy], s, ⟨hn, ρ, hpin, hok⟩, h⟩
            · exact h.elim
          · cases hx
        · cases hx
    · cases hx

theorem pin_sub (hE : E.good) {ρ ρ' : Nm} (hpin : ∀ i, i < E.pins → ρ i = E.ρ0 i) (hsub : Sub0 ρ ρ') : ∀ i, i < E.pins → ρ' i = E.ρ0 i := fun i hi => by
  obtain ⟨x, hx⟩ := hE.1 i hi
  rw [hx, hsub i x ((hpin i hi).trans hx)]

theorem put_st {s : S} {a : Act} {w : World} {ρ : Nm} (hpin : ∀ i, i < E.pins → ρ i = E.ρ0 i) (hn : s.n = E.n) (hfr : FrOk E.W E.C ρ s a) (hhp : HpOk E.W E.C ρ s.nx w s.L) {d : Option Nat} (hd : ∀ t, d = some t → t < E.n) {av : AVal} {v : Value} (hv : Den E.W E.C ρ av v) : EvSt E (s.put d av) (a.put d v) w := by
  refine ⟨?_, ρ, hpin, hfr.put (fun t ht => by rw [hn]; exact hd t ht) hv, ?_⟩
  · cases d <;> exact hn
  · cases d <;> exact hhp

theorem low_val {P : Program} {τ : List (Nat × Ty)} {o : Op} {io : IOp} (h : low1 P τ o = some io) (hv : isVal io = true) : lowV P o = some io := by
  unfold low1 at h
  split at h
  · rename_i io' hc'
    cases h
    unfold lowCall at hc'
    split at hc'
    · cases hc'; cases hv
    · cases hc'; cases hv
    · cases hc'
  · split at h
    · rename_i e; cases h; exact e
    · unfold lowW at h
      repeat' (split at h)
      all_goals first
        | (cases h; done)
        | (cases h; cases hv)

def mildAt (xs : List LO) (i : Nat) : Bool := match xs[i]? with
  | some x => mild x.io
  | none => false

theorem vdt_ok (hE : E.good) {l : List Oper} {xs : List LO} (hl : lowOps E.P E.τ E.n l l = some xs) (hsel : Region.noSelect l.toArray = true) {Q : Exit → Act → World → Prop} (hQ : ∀ c a w, ¬ Q (.panic c) a w) {K : S → Prop}
    (hK : ∀ s a w, EvSt E s a w → K s → Q .normal a w) :
    ∀ (t : DI) (hd : Bool) (listed : List Bool) (s : S) (a : Act) (w : World) (fuel : Nat), chkD l xs (ancs [] l) hd t listed = true → depD t ≤ fuel → vdt E.Γ (fillT xs t) s K → EvSt E s a w →
      (hd = true → wpAnyM E.P l.toArray Q (mildAt xs) fuel listed.toArray a w) ∧
      (∀ i ∈ altsOf t, ∃ f, fuel = f + 1 ∧ wpOp E.P l.toArray Q i (fun a' w' => (mildAt xs i = true → Below w.heap.size w w') ∧ wpAnyM E.P l.toArray Q (mildAt xs) f (listed.toArray.setIfInBounds i true) a' w') a w) := by
  intro t
  induction t with
  | done =>
    intro hd listed s a w fuel hc _ h hs
    refine ⟨fun hd' => ?_, fun i hi => by simp [altsOf] at hi⟩
    simp only [chkD, Bool.and_eq_true, List.isEmpty_iff] at hc
    have hr : Region.ready .any l.toArray listed.toArray = [] := by
      cases hx : Region.ready .any l.toArray listed.toArray with
      | nil => rfl
      | cons y r =>
        have := mem_readyL.2 (show y ∈ Region.ready .any l.toArray listed.toArray by rw [hx]; simp)
        rw [hc.2] at this; cases this
    cases fuel with
    | zero => exact ⟨hr, hK s a w hs h⟩
    | succ f => exact ⟨fun _ => hK s a w hs h, fun i hi => by rw [hr] at hi; cases hi⟩
  | stop =>
    intro hd listed s a w fuel hc _ h hs
    simp only [chkD] at hc
    exact ⟨fun e => by subst e; simp at hc, fun i hi => by simp [altsOf] at hi⟩
  | held i t ih =>
    intro hd listed s a w fuel hc hf h hs
    refine ⟨fun _ => ?_, fun i hi => by simp [altsOf] at hi⟩
    simp only [chkD, Bool.and_eq_true] at hc
    obtain ⟨⟨⟨⟨_, hr⟩, hm⟩, hcl⟩, hc⟩ := hc
    obtain ⟨f, rfl⟩ : ∃ f, fuel = f + 1 := ⟨fuel - 1, by simp [depD] at hf; omega⟩
    have hf' : depD t ≤ f := by simp [depD] at hf; omega
    simp only [fillT] at h
    split at h
    · rename_i x hx
      simp only [vdt] at h
      obtain ⟨o, ho, hlo⟩ := lowOps_get hl i x hx
      obtain ⟨hxd, hxio, hdn, hcs⟩ := gd_cases hs hlo h
      unfold mayHeld at hm
      rw [ho, hx] at hm
      simp only [Bool.and_eq_true, List.all_eq_true, List.mem_range, Bool.or_eq_true, beq_iff_eq] at hm
      obtain ⟨hval, hfree⟩ := hm
      have fin : ∀ v s', EvSt E s' (a.put o.dst v) w → vdt E.Γ (fillT xs t) s' K → YieldsIf E.P l.toArray (fun w' => isLd x.io = true → Below w.heap.size w w') o v a → _ := fun v s' hs' h' hy =>
        anyM_first (M := mildAt xs) (waits_ancs l) (ld := isLd x.io) (by simpa using ho) (Region.noSelect_spec hsel) hQ f listed.toArray a w (closedB_ok hcl)
          (fun j oj hj hji hun => by
            have hj' : l[j]? = some oj := by simpa using hj
            have hun' : listed.getD j true = false := by simpa [List.getD, Array.getD_eq_getD_getElem?] using hun
            rcases hfree j (List.getElem?_eq_some_iff.1 hj').1 with ((h1 | h1) | h1) | h1
            · exact absurd h1 hji
            · rw [hun'] at h1; cases h1
            · exact .inl (by simpa using h1)
            · rw [hj'] at h1
              split at h1
              · rename_i oj' xj e1 e2
                cases e1
                simp only [Bool.and_eq_true, Bool.or_eq_true, Bool.not_eq_true'] at h1
                refine .inr ⟨h1.1, fun hld => ?_⟩
                show mildAt xs j = true
                unfold mildAt
                rw [e2]
                exact h1.2.resolve_left (by rw [hld]; simp)
              · cases h1)
          (mem_readyL.1 (by simpa using hr)) hy (by rw [← setB_eq]; exact (ih true _ s' _ w f hc hf' h' hs').1 rfl)
      rcases hcs with ⟨hw, s', hs', h'⟩ | ⟨hw, s', hs', h'⟩
      · obtain ⟨hn, ρ, hpin, hok⟩ := hs'
        have hlv : lowV E.P o.op = some x.io := low_val hxio hval
        obtain ⟨av, v, hK', hdn', hy⟩ := vst_ok hok hlv h'
        refine fin v _ (put_st hpin hn hok.fr hok.hp hdn (av := av) hdn') (by rw [hxd] at hK'; exact hK') (.inl ⟨hw, hy⟩)
      · obtain ⟨hn, ρ, hpin, hok⟩ := hs'
        exact fin undef _ (put_st hpin hn hok.fr hok.hp hdn (.v _)) (by rw [hxd] at h'; exact h') (.inr ⟨hw, rfl⟩)
    · simp only [vdt] at h
  | alt i t r iht ihr =>
    intro hd listed s a w fuel hc hf h hs
    simp only [chkD, Bool.and_eq_true, Bool.or_eq_true, Bool.not_eq_true', beq_iff_eq] at hc
    obtain ⟨⟨hal, hct⟩, hcr⟩ := hc
    obtain ⟨f, rfl⟩ : ∃ f, fuel = f + 1 := ⟨fuel - 1, by simp [depD] at hf; omega⟩
    have hf1 : depD t ≤ f := by simp [depD] at hf; omega
    have hf2 : depD r ≤ f + 1 := by simp [depD] at hf; omega
    simp only [fillT] at h
    split at h
    case h_2 => simp only [vdt] at h
    rename_i x0 hx0
    simp only [vdt] at h
    obtain ⟨h, hrest⟩ := h
    have alts : ∀ j ∈ altsOf (.alt i t r), wpOp E.P l.toArray Q j (fun a' w' => (mildAt xs j = true → Below w.heap.size w w') ∧ wpAnyM E.P l.toArray Q (mildAt xs) f (listed.toArray.setIfInBounds j true) a' w') a w := by
      intro j hj
      simp only [altsOf, List.mem_cons] at hj
      by_cases hji : j = i
      · subst hji
        have hx := hx0
        · obtain ⟨o, ho, hlo⟩ := lowOps_get hl j x0 hx
          obtain ⟨hxd, hxio, hdn, hcs⟩ := gd_cases hs hlo h
          unfold wpOp
          have ho' : l.toArray[j]? = some o := by simpa using ho
          simp only [ho']
          rcases hcs with ⟨hw, s', hs', h'⟩ | ⟨hw, s', hs', h'⟩
          · rw [if_pos hw]
            obtain ⟨hn, ρ, hpin, hok⟩ := hs'
            refine .inl (step_ok hE hn hok hxio h' fun av v s2 w' ρ' hsub hK' hd' hfr hhp hn' hbl => ⟨fun hm => ?_, ?_⟩)
            · unfold mildAt at hm; rw [hx] at hm; exact hbl rfl hm
            · rw [hxd] at hK'
              rw [← setB_eq]
              exact (iht true _ _ _ w' f hct hf1 hK' (put_st (pin_sub hE hpin hsub) hn' hfr hhp hdn hd')).1 rfl
          · rw [if_neg (by rw [hw]; simp)]
            obtain ⟨hn, ρ, hpin, hok⟩ := hs'
            rw [hxd] at h'
            refine ⟨fun _ => Below.refl _ _, ?_⟩
            rw [← setB_eq]
            exact (iht true _ _ _ w f hct hf1 h' (put_st hpin hn hok.fr hok.hp hdn (.v _))).1 rfl
      · obtain ⟨f', e, h3⟩ := (ihr false listed s a w (f + 1) hcr hf2 hrest hs).2 j (hj.resolve_left hji)
        obtain rfl : f' = f := by omega
        exact h3
    refine ⟨fun hd' => ?_, fun j hj => ⟨f, rfl, alts j hj⟩⟩
    have hal' := hal.resolve_left (by rw [hd']; simp)
    have hrd : ∀ j, j ∈ Region.ready .any l.toArray listed.toArray → j ∈ altsOf (.alt i t r) := fun j hj => by rw [hal']; exact mem_readyL.2 hj
    refine ⟨fun h0 => ?_, fun j hj => alts j (hrd j hj)⟩
    exfalso
    have : i ∈ Region.ready .any l.toArray listed.toArray := mem_readyL.1 (by rw [← hal']; simp [altsOf])
    rw [h0] at this; cases this
end
end Go.Proofs.YtnbfnpnephfjaaaE

/-! Code: what is to be shown of it is enough; loops. -/
namespace Go.Proofs.YtnbfnpnephfjaaaE
open Go Go.RowKit
set_option linter.unusedSimpArgs false
set_option linter.unusedVariables false

section
variable {E : Env}

theorem vops_ok (hE : E.good) (all : List Oper) {Q : Exit → Act → World → Prop} : ∀ (l : List Oper) (xs : List LO) (s : S) (K : S → Prop), lowOps E.P E.τ E.n all l = some xs → vops E.Γ xs s K →
    (∀ s a w, EvSt E s a w → K s → Q .normal a w) → ∀ a w, EvSt E s a w → wpList E.P all.toArray Q l a w
  | [], xs, s, K, hl, h, hK, a, w, hs => by
    simp [lowOps] at hl
    subst hl
    exact hK s a w hs h
  | o :: r, xs, s, K, hl, h, hK, a, w, hs => by
    simp only [lowOps] at hl
    split at hl
    · rename_i x xs' hx hxs
      cases hl
      simp only [vops] at h
      obtain ⟨hxd, hxio, hdn, hcs⟩ := gd_cases hs hx h
      unfold wpList
      rcases hcs with ⟨hw, s', hs', h'⟩ | ⟨hw, s', hs', h'⟩
      · rw [if_pos hw]
        obtain ⟨hn, ρ, hpin, hok⟩ := hs'
        refine .inl (step_ok hE hn hok hxio h' fun av v s2 w' ρ' hsub hK' hd' hfr hhp hn' _ => ?_)
        rw [hxd] at hK'
        exact vops_ok hE all r xs' _ K hxs hK' hK _ _ (put_st (pin_sub hE hpin hsub) hn' hfr hhp hdn hd')
      · rw [if_neg (by rw [hw]; simp)]
        obtain ⟨hn, ρ, hpin, hok⟩ := hs'
        rw [hxd] at h'
        exact vops_ok hE all r xs' _ K hxs h' hK _ _ (put_st hpin hn hok.fr hok.hp hdn (.v undef))
    · cases hl

theorem wp_get {P : Program} {o : Oper} {a : Act} {w : World} {next : Act → World → Prop} (h : o.wp P a w next (fun _ _ _ => False)) : ∃ a' w', next a' w' := by
  unfold Oper.wp at h
  generalize (execOp a.eval o).run P w = r at h
  cases r with
  | ok n w' =>
    cases n <;> simp only [Oper.upon] at h <;> try (exact h.elim)
    · exact ⟨_, _, h⟩
    · exact ⟨_, _, h⟩
    · obtain ⟨e, w2, fr, hR, _⟩ := h []
      cases e with
      | returned v => exact ⟨_, _, hR⟩
      | panicked c => exact hR.elim
      | outgrown => obtain ⟨_, _, hq⟩ := hR; exact hq.elim
    · exact ⟨_, _, h⟩
    · obtain ⟨v, w2, hR, _⟩ := h default []
      exact ⟨_, _, hR⟩
  | halt x w' => cases x <;> simp only [Oper.upon] at h

/-- What is so behind all of the operations in their own order is so of some state. -/
theorem vops_get (hE : E.good) (all : List Oper) : ∀ (l : List Oper) (xs : List LO) (s : S) (K : S → Prop), lowOps E.P E.τ E.n all l = some xs → vops E.Γ xs s K → ∀ a w, EvSt E s a w → ∃ sl, K sl
  | [], xs, s, K, hl, h, a, w, hs => by
    simp [lowOps] at hl
    subst hl
    exact ⟨s, h⟩
  | o :: r, xs, s, K, hl, h, a, w, hs => by
    simp only [lowOps] at hl
    split at hl
    · rename_i x xs' hx hxs
      cases hl
      simp only [vops] at h
      obtain ⟨hxd, hxio, hdn, hcs⟩ := gd_cases hs hx h
      rcases hcs with ⟨hw, s', hs', h'⟩ | ⟨hw, s', hs', h'⟩
      · obtain ⟨hn, ρ, hpin, hok⟩ := hs'
        obtain ⟨a', w', s2, hs2, hK2⟩ := wp_get (step_ok hE hn hok hxio h' (next := fun a' w' => ∃ s2, EvSt E s2 a' w' ∧ vops E.Γ xs' s2 K) (Q := fun _ _ _ => False) fun av v s2 w' ρ' hsub hK' hd' hfr hhp hn' _ =>
          ⟨_, put_st (pin_sub hE hpin hsub) hn' hfr hhp hdn hd', by rw [hxd] at hK'; exact hK'⟩)
        exact vops_get hE all r xs' s2 K hxs hK2 a' w' hs2
      · obtain ⟨hn, ρ, hpin, hok⟩ := hs'
        rw [hxd] at h'
        exact vops_get hE all r xs' _ K hxs h' _ _ (put_st hpin hn hok.fr hok.hp hdn (.v undef))
    · cases hl

theorem low_inv {P : Program} {τ : List (Nat × Ty)} {n : Nat} {code : Code} {ic : IC} (h : lowC P τ n code = some ic) : match ic with
    | .ops xs => ∃ id l, code = .region id ⟨l⟩ false ∧ lowOps P τ n l l = some xs
    | .draw xs t => ∃ id l, code = .region id ⟨l⟩ true ∧ lowD P τ n l = some (.draw xs t)
    | .skip => code = .skip
    | .seq x y => ∃ a b, code = .seq a b ∧ lowC P τ n a = some x ∧ lowC P τ n b = some y
    | .cond c x y => ∃ a b, code = .cond c a b ∧ lowC P τ n a = some x ∧ lowC P τ n b = some y
    | .block id x => ∃ a, code = .block id a ∧ lowC P τ n a = some x
    | .loop x => ∃ a, code = .loop a ∧ lowC P τ n a = some x
    | .exit id => code = .exit id
    | .ret => code = .ret
    | .hold _ => False := by
  unfold lowC at h
  split at h
  · cases h; rfl
  · split at h
    · rename_i hx; cases h; exact ⟨_, _, rfl, hx⟩
    · cases h
  · have h' := h
    unfold lowD at h
    split at h
    · cases h
    · dsimp only at h
      split at h
      · cases h; exact ⟨_, _, rfl, h'⟩
      · cases h
  · split at h
    · rename_i h1 h2; cases h; exact ⟨_, _, rfl, h1, h2⟩
    · cases h
  · split at h
    · rename_i h1 h2; cases h; exact ⟨_, _, rfl, h1, h2⟩
    · cases h
  · split at h
    · rename_i h1; cases h; exact ⟨_, rfl, h1⟩
    · cases h
  · split at h
    · rename_i h1; cases h; exact ⟨_, rfl, h1⟩
    · cases h
  · cases h; rfl
  · cases h; rfl
  · cases h

/-- Every frame and world that is of the one state is of the other. -/
def Weak (E : Env) (s s' : S) : Prop := ∀ a w, EvSt E s a w → EvSt E s' a w

theorem SubS.weak {s s' : S} (h : SubS E.pins s s') : Weak E s s' := fun a w hs => by
  obtain ⟨hn, ρ, hpin, hok⟩ := hs
  obtain ⟨h1, ρ', h2, h3⟩ := h.st hok
  exact ⟨h1.trans hn, ρ', fun i hi => (h2 i hi).trans (hpin i hi), h3⟩

theorem conc_normal {Q : Ex → S → Prop} {s : S} {a : Act} {w : World} (hs : EvSt E s a w) (h : Q .normal s) : conc E Q .normal a w := ⟨s, hs, h⟩

theorem vc_ok (hE : E.good) : ∀ (ic : IC) (s : S) (Q : Ex → S → Prop), vc E ic s Q → OkI E ic s Q := by
  intro ic
  induction ic with
  | ops l =>
    intro s Q h code hl a w hs
    obtain ⟨id, l', rfl, hlo⟩ := low_inv hl
    exact wp_region_lit (vops_ok hE l' l' _ s (Q .normal) hlo h (fun s a w hs hk => ⟨s, hs, hk⟩) a w hs)
  | draw xs t =>
    intro s Q h code hl a w hs
    obtain ⟨id, l, rfl, hlo⟩ := low_inv hl
    unfold lowD at hlo
    split at hlo
    · cases hlo
    · rename_i xs' hxs
      dsimp only at hlo
      split at hlo
      · rename_i hc
        obtain ⟨hsel, hchk, hdep, hmix⟩ := hc
        cases hlo
        generalize buildD l xs (ancs [] l) (l.length + 1) (List.replicate l.length false) = td at hchk hdep h
        have base : ∀ (K : S → Prop), (∀ s a w, EvSt E s a w → K s → conc E Q .normal a w) → vdt E.Γ (fillT xs td) s K → (Code.region id l.toArray true).wp E.P (conc E Q) a w := fun K hK hv => by
          refine wp_region_any hmix (wpAny_of_M (M := mildAt xs) _ _ _ _ ?_)
          have hsz : l.toArray.size = l.length := by simp
          rw [hsz]
          have := (vdt_ok hE hxs hsel (Q := conc E Q) (fun c a w h => h) hK td true _ s a { w with drawn := w.drawn + 1 } l.length hchk hdep hv ?_).1 rfl
          · simpa using this
          · obtain ⟨hn, ρ, hpin, hok⟩ := hs
            exact ⟨hn, ρ, hpin, hok.fr, hok.hp.below (Below.drew (Below.refl _ _))⟩
        simp only [vc, drawQ] at h
        split at h
        · exact base _ (fun s a w hs hk => ⟨s, hs, hk⟩) h
        · obtain ⟨sl, h1, h2⟩ := vops_get hE l l xs s _ hxs h a w hs
          exact base _ (fun s a w hs hk => ⟨tidy sl, hk.weak a w hs, h1⟩) h2
      · cases hlo
  | skip =>
    intro s Q h code hl a w hs
    have e : code = .skip := low_inv hl
    subst e
    exact wp_skip ⟨s, hs, h⟩
  | seq x y ihx ihy =>
    intro s Q h code hl a w hs
    obtain ⟨c1, c2, rfl, h1, h2⟩ := low_inv hl
    refine wp_seq (wp_mono (ihx s _ h c1 h1 a w hs) ?_)
    intro e a' w' hq
    cases e with
    | normal => obtain ⟨s', hs', hk⟩ := hq; exact ihy s' Q hk c2 h2 a' w' hs'
    | exit i => exact hq
    | ret => exact hq
    | _ => exact hq.elim
  | cond c x y ihx ihy =>
    intro s Q h code hl a w hs
    obtain ⟨c1, c2, rfl, h1, h2⟩ := low_inv hl
    simp only [vc] at h
    split at h
    · rename_i t ht
      obtain ⟨hn, ρ, hpin, hok⟩ := hs
      refine wp_cond_split (ev_v hok ht) (fun e => ?_) (fun e => ?_)
      · exact ihx s Q (h.1 e) c1 h1 a w ⟨hn, ρ, hpin, hok⟩
      · exact ihy s Q (h.2 e) c2 h2 a w ⟨hn, ρ, hpin, hok⟩
    · exact h.elim
  | block id x ihx =>
    intro s Q h code hl a w hs
    obtain ⟨c1, rfl, h1⟩ := low_inv hl
    refine wp_block (wp_mono (ihx s _ h c1 h1 a w hs) ?_)
    intro e a' w' hq
    cases e with
    | normal => exact hq
    | exit i =>
      obtain ⟨s', hs', hk⟩ := hq
      simp only [Exit.inBlock]
      split
      · rename_i e; subst e; simp at hk; exact ⟨s', hs', hk⟩
      · rename_i e; simp [e] at hk; exact ⟨s', hs', hk⟩
    | ret => exact hq
    | _ => exact hq.elim
  | loop x _ => intro s Q h; exact h
  | hold x _ => intro s Q h code hl; exact h code hl
  | exit id =>
    intro s Q h code hl a w hs
    have e : code = .exit id := low_inv hl
    subst e
    exact wp_exit ⟨s, hs, h⟩
  | ret =>
    intro s Q h code hl a w hs
    have e : code = .ret := low_inv hl
    subst e
    exact wp_ret ⟨s, hs, h⟩

/-- A loop whose rounds go down. -/
theorem wp_loop_rel {P : Program} {c : Code} {Q : Exit → Act → World → Prop} (I : Nat → Act → World → Prop) (round : ∀ n a w, I n a w → c.wp P (Exit.then (fun a' w' => ∃ m, m < n ∧ I m a' w') Q) a w) :
    ∀ n a w, I n a w → (Code.loop c).wp P Q a w := by
  have key : ∀ n a w, I n a w → ∀ (b : Frame) (k : List Item) (cs : List Frame), ∃ e a' w', Q e a' w' ∧ Arrives P (lone (b.at a (.code c :: .inLoop c :: k)) cs w) b k cs e a' w' := by
    intro n
    induction n using Nat.strongRecOn with
    | _ n ih =>
      intro a w hI b k cs
      obtain ⟨e, a₁, w₁, hq, harr⟩ := round n a w hI b (.inLoop c :: k) cs
      cases e with
      | normal =>
        obtain ⟨m, hlt, hI₁⟩ := hq
        obtain ⟨e₂, a₂, w₂, hq₂, harr₂⟩ := ih m hlt a₁ w₁ hI₁ b k cs
        exact ⟨e₂, a₂, w₂, hq₂, .of_steps (Steps.trans harr (.one step_inLoop)) harr₂⟩
      | exit id => exact ⟨_, a₁, w₁, hq, .pass (x := .inLoop c) rfl (fun _ _ => .inl (by simp)) harr⟩
      | goto l => exact ⟨_, a₁, w₁, hq, .pass (x := .inLoop c) rfl (fun _ _ => .inl (by simp)) harr⟩
      | ret => exact ⟨_, a₁, w₁, hq, .pass (x := .inLoop c) rfl (fun _ _ => .inl (by simp)) harr⟩
      | panic ch => exact ⟨_, a₁, w₁, hq, .pass (x := .inLoop c) rfl (fun _ _ => .inl (by simp)) harr⟩
      | outgrown => exact ⟨_, a₁, w₁, hq, .pass (x := .inLoop c) rfl (fun _ _ => .inl (by simp)) harr⟩
  intro n a w hI b k cs
  obtain ⟨e, a', w', hq, harr⟩ := key n a w hI b k cs
  exact ⟨e, a', w', hq, .of_steps (.one step_loop) harr⟩

theorem OkI.weak {ic : IC} {s s' : S} {Q : Ex → S → Prop} (h : Weak E s s') (k : OkI E ic s' Q) : OkI E ic s Q := fun code hl a w hs => k code hl a w (h a w hs)
theorem OkI.hold {ic : IC} {s : S} {Q : Ex → S → Prop} (k : OkI E ic s Q) : OkI E (.hold ic) s Q := fun code hl a w hs => k code hl a w hs

theorem loop_ok (hE : E.good) {ic : IC} {s : S} {Q : Ex → S → Prop} {ι : Type} (Inv : ι → S) (I : ι → Prop) (μ : ι → Nat) (h0 : ∃ i, I i ∧ Weak E s (Inv i))
    (h : ∀ i, I i → vc E ic (Inv i) fun e s' => match e with
      | .normal => ∃ j, (I j ∧ μ j < μ i) ∧ Weak E s' (Inv j)
      | .exit k => Q (.exit k) s'
      | .ret => Q .ret s') : OkI E (.loop ic) s Q := by
  intro code hl a w hs
  obtain ⟨c1, rfl, h1⟩ := low_inv hl
  obtain ⟨i, hi, hw⟩ := h0
  refine wp_loop_rel (fun n a w => ∃ i, I i ∧ μ i = n ∧ EvSt E (Inv i) a w) ?_ (μ i) a w ⟨i, hi, rfl, hw a w hs⟩
  rintro n a w ⟨i, hi, rfl, hst⟩
  refine wp_mono (vc_ok hE ic (Inv i) _ (h i hi) c1 h1 a w hst) ?_
  intro e a' w' hq
  cases e with
  | normal =>
    obtain ⟨s', hs', j, ⟨hj, hlt⟩, hwk⟩ := hq
    exact ⟨μ j, hlt, j, hj, rfl, hwk a' w' hs'⟩
  | exit i => exact hq
  | ret => exact hq
  | _ => exact hq.elim

/-- A loop of at most so many rounds. -/
def loopL (E : Env) (ic : IC) : List Unit → S → (Ex → S → Prop) → Prop
  | [], _, _ => False
  | _ :: r, s, Q => vc E ic s fun e s' => match e with
    | .normal => loopL E ic r s' Q
    | .exit k => Q (.exit k) s'
    | .ret => Q .ret s'

theorem loop_unroll (hE : E.good) {ic : IC} {s : S} {Q : Ex → S → Prop} (l : List Unit) (h : loopL E ic l s Q) : OkI E (.loop ic) s Q := by
  intro code hl a w hs
  obtain ⟨c1, rfl, h1⟩ := low_inv hl
  refine wp_loop_rel (fun n a w => ∃ (l : List Unit) (s : S), l.length = n ∧ EvSt E s a w ∧ loopL E ic l s Q) ?_ l.length a w ⟨l, s, rfl, hs, h⟩
  rintro n a w ⟨l, s, rfl, hst, h⟩
  cases l with
  | nil => exact h.elim
  | cons u r =>
    refine wp_mono (vc_ok hE ic s _ h c1 h1 a w hst) ?_
    intro e a' w' hq
    cases e with
    | normal =>
      obtain ⟨s', hs', hk⟩ := hq
      exact ⟨r.length, by simp, r, s', rfl, hs', hk⟩
    | exit i => exact hq
    | ret => exact hq
    | _ => exact hq.elim
end
end Go.Proofs.YtnbfnpnephfjaaaE

/-! Functions: a specification is proved by the body's code. -/
namespace Go.Proofs.YtnbfnpnephfjaaaE
open Go Go.RowKit
set_option linter.unusedSimpArgs false
set_option linter.unusedVariables false

inductive RV where
  | tmp (t : Nat)
  | cell (t n : Nat) (ag : Bool)

def lowR (P : Program) : List ResultVar → Option (List RV)
  | [] => some []
  | .tmp t :: r => match lowR P r with
    | some l => some (.tmp t :: l)
    | none => none
  | .cell a t :: r => match cellsAt P t, lowR P r with
    | some (n, ag), some l => some (.cell a n ag :: l)
    | _, _ => none

def retL : List RV → S → (List AVal → Prop) → Prop
  | [], s, K => K []
  | .tmp t :: r, s, K => retL r s fun l => K (s.ev (.tmp t) :: l)
  | .cell t n ag :: r, s, K => loadP s.L n ag (s.ev (.tmp t)) fun av => retL r s fun l => K (av :: l)
def retK (rv : List RV) (s : S) (K : AVal → Prop) : Prop := retL rv s fun l => match l with
  | [x] => K x
  | l => K (.tup l)

def uniT (θ : Th) : List AVal → List AVal → (Th → Prop) → Prop
  | [], [], K => K θ
  | a :: r, a' :: r', K => uni θ a a' fun θ => uniT θ r r' K
  | _, _, _ => False
def uniR (θ : Th) (av av' : AVal) (K : Th → Prop) : Prop :=
  match av' with
  | .tup cs' => match av with
    | .tup cs => uniT θ cs cs' K
    | _ => False
  | av' => uni θ av av' K
/-- The result and the heap tell at least this. -/
def ResU (p : Nat) (s : S) (r r0 : AVal) (L0 : Hp) (nx0 : Nat) : Prop := uniR (idT p) r r0 fun θ => uniH θ s.L (boxesOf L0) fun θ => uniH θ s.L (rowsOf L0) fun θ => nodupB (tgts θ) = true ∧ keysLt nx0 θ = true ∧ okL L0 = true
def FinK (p : Nat) (s : S) (r : AVal) (K : AVal → Hp → Nat → Prop) : Prop := ∃ r0 L0 nx0, ResU p s r r0 L0 nx0 ∧ K r0 L0 nx0
def retQ (p : Nat) (rv : List RV) (K : AVal → Hp → Nat → Prop) : Ex → S → Prop := fun e s => match e with
  | .normal => retK rv s fun r => FinK p s r K
  | .ret => retK rv s fun r => FinK p s r K
  | .exit _ => False

def params (k : Nat) : List AVal → List (Nat × AVal)
  | [] => []
  | x :: r => (k, x) :: params (k + 1) r

section
variable {W : World} {C : CR} {ρ : Nm} {P : Program}

theorem uniT_ok : ∀ {cs cs' : List AVal} {θ : Th} {K : Th → Prop}, uniT θ cs cs' K → ∃ θ', ExtT θ θ' ∧ K θ' ∧ ∀ vs, DenL W C ρ cs vs → DenL W C (rhoT ρ θ') cs' vs
  | [], [], θ, K, h => ⟨θ, .refl _, h, fun vs hd => by have := hd.nil_inv; subst this; exact .nil⟩
  | a :: r, a' :: r', θ, K, h => by
    obtain ⟨θ1, h1, h2, h3⟩ := uni_ok (W := W) (C := C) (ρ := ρ) h
    obtain ⟨θ2, h4, h5, h6⟩ := uniT_ok h2
    refine ⟨θ2, h1.trans h4, h5, fun vs hd => ?_⟩
    obtain ⟨v, vs', rfl, hd1, hd2⟩ := hd.cons_inv
    exact DenL.cons ((h3 v hd1).mono h4.sub) (h6 vs' hd2)
  | [], _ :: _, θ, K, h => h.elim
  | _ :: _, [], θ, K, h => h.elim
theorem uniR_ok {θ : Th} {av av' : AVal} {K : Th → Prop} (h : uniR θ av av' K) : ∃ θ', ExtT θ θ' ∧ K θ' ∧ ∀ v, Den W C ρ av v → Den W C (rhoT ρ θ') av' v := by
  unfold uniR at h
  split at h
  · split at h
    · obtain ⟨θ', h1, h2, h3⟩ := uniT_ok (W := W) (C := C) (ρ := ρ) h
      refine ⟨θ', h1, h2, fun v hd => ?_⟩
      cases hd with
      | tup vs h4 h5 => have := h3 vs ⟨h4, h5⟩; exact .tup vs this.1 this.2
    · exact h.elim
  · exact uni_ok h

theorem ResU.ok {p : Nat} {s : S} {r r0 : AVal} {L0 : Hp} {nx0 nx : Nat} {w : World} {v : Value} (hp : HpOk W C ρ nx w s.L) (hd : Den W C ρ r v) (h : ResU p s r r0 L0 nx0) :
    ∃ ρ', (∀ i, i < p → ρ' i = ρ i) ∧ Den W C ρ' r0 v ∧ HpOk W C ρ' nx0 w L0 ∧ okL L0 = true := by
  obtain ⟨θ1, h1, h2, h3⟩ := uniR_ok (W := W) (C := C) (ρ := ρ) h
  obtain ⟨θ2', h4', h2', h7a⟩ := uniH_ok hp h2
  obtain ⟨θ2, h4b, ⟨h5, h6, hok⟩, h7b⟩ := uniH_ok hp h2'
  have h4 := h4'.trans h4b
  exact ⟨rhoT ρ θ2, fun i hi => by simp [rhoT, h4 _ _ (h1 _ _ (idT_get p i hi)), shf_zero'], (h3 v hd).mono h4.sub, uni_heap hp h5 h6 (h7_join h4b h7a h7b), hok⟩

def resOne (tmps : Array Value) (x : ResultVar) : Sem Value := match x with
  | .tmp t => pure (tmps.getD t undef)
  | .cell a t => do loadVar t (← asAddr (tmps.getD a undef))

theorem retL_ok {s : S} {a : Act} {w : World} (hs : StOk W C ρ s a w) : ∀ (rs : List ResultVar) (rv : List RV) (K : List AVal → Prop), lowR P rs = some rv → retL rv s K →
    ∃ l vs, K l ∧ DenL W C ρ l vs ∧ (rs.mapM (resOne a.tmps)).run P w = .ok vs w
  | [], rv, K, hl, h => by
    simp [lowR] at hl; subst hl
    exact ⟨[], [], h, .nil, by simp⟩
  | .tmp t :: r, rv, K, hl, h => by
    simp only [lowR] at hl
    split at hl
    · rename_i l hl2
      cases hl
      obtain ⟨l, vs, hK, hd, hr⟩ := retL_ok hs r _ _ hl2 h
      refine ⟨_, _, hK, DenL.cons (hs.fr.ev (.tmp t)) hd, ?_⟩
      simp only [List.mapM_cons, Sem.run_bind, resOne, Sem.run_pure, Result.andThen_ok, hr]
      rfl
    · cases hl
  | .cell p t :: r, rv, K, hl, h => by
    simp only [lowR] at hl
    split at hl
    · rename_i n ag l hc hl2
      cases hl
      simp only [retL] at h
      obtain ⟨ad, cs, hv, h1, h2⟩ := loadP_ok hs (hs.fr.ev (.tmp p)) h
      obtain ⟨av, v, hk, hd1, hr1⟩ := load_cells hc h1 h2
      obtain ⟨l, vs, hK, hd, hr⟩ := retL_ok hs r _ _ hl2 hk
      refine ⟨_, _, hK, DenL.cons hd1 hd, ?_⟩
      have hv' : a.tmps.getD p undef = .pointer (some ad) := hv
      simp only [List.mapM_cons, Sem.run_bind, resOne, hv', asAddr, Sem.run_pure, Result.andThen_ok, hr1 w (Below.refl _ _), hr]
    · cases hl

theorem results_ok {s : S} {a : Act} {w : World} (hs : StOk W C ρ s a w) {fn : Func} {rv : List RV} {K : AVal → Prop} (hl : lowR P fn.results.toList = some rv) (h : retK rv s K) :
    ∃ r v, K r ∧ Den W C ρ r v ∧ (results fn a.tmps).run P w = .ok v w := by
  obtain ⟨l, vs, hK, hd, hr⟩ := retL_ok hs _ _ _ hl h
  have hrun : ∀ v, (if h : (⟨vs⟩ : Array Value).size = 1 then (⟨vs⟩ : Array Value)[0] else .tuple ⟨vs⟩) = v → (results fn a.tmps).run P w = .ok v w := by
    intro v hv
    have e : results fn a.tmps = (do let vs ← fn.results.mapM (resOne a.tmps); pure (if h : vs.size = 1 then vs[0] else .tuple vs)) := rfl
    rw [e, Array.mapM_eq_mapM_toList]
    simp only [Sem.run_bind, Sem.run_map, hr, Result.andThen_ok, Sem.run_pure]
    rw [← hv]
  match l, hK, hd with
  | [x], hK, hd =>
    obtain ⟨v, vs', rfl, h1, h2⟩ := hd.cons_inv
    have := h2.nil_inv
    subst this
    exact ⟨x, v, hK, h1, hrun v rfl⟩
  | [], hK, hd =>
    have := hd.nil_inv
    subst this
    exact ⟨.tup [], _, hK, .tup [] rfl (fun k av u h => by simp at h), hrun _ rfl⟩
  | x :: y :: r, hK, hd =>
    refine ⟨.tup (x :: y :: r), _, hK, .tup vs hd.1 hd.2, hrun (.tuple ⟨vs⟩) ?_⟩
    have := hd.1
    rw [dif_neg (by simp [this])]

theorem lk_params : ∀ (l : List AVal) (k d : Nat), lk (params k l) d = if k ≤ d then l[d - k]? else none
  | [], k, d => by simp [params, lk]
  | x :: r, k, d => by
    simp only [params, lk]
    by_cases h : k = d
    · subst h; simp
    · rw [if_neg h, lk_params r]
      by_cases hk : k ≤ d
      · rw [if_pos hk, if_pos (by omega)]
        have : d - k = (d - (k + 1)) + 1 := by omega
        rw [this]; simp
      · rw [if_neg hk, if_neg (by omega)]

def allV (P : Program) : List (Nat × Spec) → Prop
  | [] => True
  | (f, sp) :: r => (callable P f = true ∧ Valid P f sp) ∧ allV P r
theorem good_of {P : Program} : ∀ {l : List (Nat × Spec)}, allV P l → ∀ f sp, lk l f = some sp → callable P f = true ∧ Valid P f sp
  | [], _, f, sp, h => by simp [lk] at h
  | (g, s) :: r, hv, f, sp, h => by
    simp only [lk] at h
    split at h
    · rename_i e; subst e; cases h; exact hv.1
    · exact good_of hv.2 f sp h

/-- A function does what is said of it, if its code does. -/
theorem valid_of {f : Nat} {fn : Func} {code : Code} {ic : IC} {rv : List RV} {τ : List (Nat × Ty)} {Γ : Nat → Option Spec} {sp : Spec} (hf : P.funcs[f]? = some fn) (hb : fn.body = some code)
    (hl : lowC P τ fn.ntmps code = some (erase ic)) (hr : lowR P fn.results.toList = some rv) (hΓ : ∀ f sp, Γ f = some sp → callable P f = true ∧ Valid P f sp)
(h : ∀ (E : Env) (args : List AVal) (objs : List AObj) (K : AVal → Hp → Nat → Prop), sp.f args objs K → E.good → E.Γ = Γ → E.pins = objs.length →
      args.length ≤ fn.ntmps ∧ vc E ic ⟨params 0 args, num 0 objs, objs.length, fn.ntmps⟩ (retQ objs.length rv K)) : Valid P f sp := by
  intro W C ρ args vals objs K hd hp hK
  have hE : (⟨P, τ, Γ, fn.ntmps, W, C, objs.length, ρ⟩ : Env).good := ⟨fun i hi => by
    have ho : lk (num 0 objs) i = some objs[i] := by rw [lk_num]; simp
    have := hp.obj i _ ho
    generalize objs[i] = o at this
    cases o with
    | box cs => obtain ⟨b, T, vs, h1, _⟩ := this; exact ⟨_, h1⟩
    | row t xs =>
      rcases this with ⟨h1, _⟩ | ⟨b, o, c, T, vs, h1, _⟩
      · exact ⟨_, h1⟩
      · exact ⟨_, h1⟩
    | set kk mp es => obtain ⟨b, l, c, h1, _⟩ := this; exact ⟨_, h1⟩
    | nrow t xs es ys =>
      rcases this.2.1 with ⟨h1, _⟩ | ⟨b, o, c, T, vs, h1, _⟩
      · exact ⟨_, h1⟩
      · exact ⟨_, h1⟩, hΓ⟩
  obtain ⟨hlen, hvc⟩ := h _ args objs K hK hE rfl rfl
  refine calls_of_wp hf hb ?_
  refine wp_mono (vc_ok hE ic _ _ hvc code hl _ W ⟨rfl, ρ, fun _ _ => rfl, ⟨⟨fun d av hl => ?_, ?_, rfl⟩, hp⟩⟩) ?_
  · rw [lk_params] at hl
    simp only [Nat.zero_le, if_true, Nat.sub_zero] at hl
    obtain ⟨u, h1, h2⟩ := hd.at hl
    refine ⟨u, ?_, h2⟩
    have hlt := (List.getElem?_eq_some_iff.1 h1).1
    show ((⟨vals⟩ : Array Value) ++ _)[d]? = some u
    rw [Array.getElem?_append_left (by simpa using hlt)]
    simpa using h1
  · have := hd.1
    simp
    omega
  · intro e a w' hq
    have fin : ∀ s, EvSt ⟨P, τ, Γ, fn.ntmps, W, C, objs.length, ρ⟩ s a w' → (retK rv s fun r => FinK objs.length s r K) → a.defers = [] ∧ ∃ v, (results fn a.tmps).run P w' = .ok v w' ∧
        ∃ r v' L' nx' ρ', Ending.returned v = .returned v' ∧ Den W C ρ' r v' ∧ HpOk W C ρ' nx' w' L' ∧ (∀ i, i < objs.length → ρ' i = ρ i) ∧ okL L' = true ∧ K r L' nx' := by
      rintro s ⟨hn, ρ', hpin, hs⟩ hk
      obtain ⟨r, v, ⟨r0, L0, nx0, hu, hK'⟩, hd', hrun⟩ := results_ok hs hr hk
      obtain ⟨ρ2, h0, h1, h2, h3⟩ := hu.ok hs.hp hd'
      exact ⟨hs.fr.defers, v, hrun, r0, v, L0, nx0, ρ2, rfl, h1, h2, fun i hi => (h0 i hi).trans (hpin i hi), h3, hK'⟩
    cases e with
    | normal => obtain ⟨s, hs, hk⟩ := hq; exact fin s hs hk
    | ret => obtain ⟨s, hs, hk⟩ := hq; exact fin s hs hk
    | exit i => obtain ⟨s, hs, hk⟩ := hq; exact hk.elim
    | _ => exact hq.elim
end
end Go.Proofs.YtnbfnpnephfjaaaE
