/- A part of a proof that a law of the given program holds for every input: no condition. -/
import Derived.Test.YtnbfnpnephfjaaaProg
import Derived.KernelRfl
import Derived.Test.YtnbfnpnephfjaaaKFnExactHeard1

set_option linter.unusedSimpArgs false
set_option linter.unusedVariables false
/-! The walk's rewriting rules. -/
namespace Go.Proofs.YtnbfnpnephfjaaaE
open Go Go.RowKit
/-! What is to be shown of code, under names that the kernel does not look into. -/
inductive VopsI (Γ : Nat → Option Spec) (l : List LO) (s : S) (K : S → Prop) : Prop
  | mk (h : vops Γ l s K)
inductive VdtI (Γ : Nat → Option Spec) (t : DT) (s : S) (K : S → Prop) : Prop
  | mk (h : vdt Γ t s K)
inductive VcI (E : Env) (c : IC) (s : S) (Q : Ex → S → Prop) : Prop
  | mk (h : vc E c s Q)
inductive LoopI (E : Env) (c : IC) (l : List Unit) (s : S) (Q : Ex → S → Prop) : Prop
  | mk (h : loopL E c l s Q)
theorem vopsI : @VopsI = @vops := by funext Γ l s K; exact propext ⟨fun h => h.1, .mk⟩
theorem vdtI : @VdtI = @vdt := by funext Γ l s K; exact propext ⟨fun h => h.1, .mk⟩
theorem vcI : @VcI = @vc := by funext Γ l s K; exact propext ⟨fun h => h.1, .mk⟩
theorem loopLI : @LoopI = @loopL := by funext E c l s K; exact propext ⟨fun h => h.1, .mk⟩
theorem vops_nil {Γ : Nat → Option Spec} {s : S} {K : S → Prop} : VopsI Γ [] s K = K s := by rw [vopsI]; rfl
theorem vops_cons {Γ : Nat → Option Spec} {o : LO} {r : List LO} {s : S} {K : S → Prop} : VopsI Γ (o :: r) s K = gdK s o.g (fun s => stepM false Γ s o.io fun av s' => VopsI Γ r (s'.put o.d av) K) (fun s => VopsI Γ r (s.put o.d (.v (.tuple #[]))) K) := by rw [vopsI]; rfl
theorem vdt_done {Γ : Nat → Option Spec} {s : S} {K : S → Prop} : VdtI Γ .done s K = K s := by rw [vdtI]; rfl
theorem vdt_stop {Γ : Nat → Option Spec} {s : S} {K : S → Prop} : VdtI Γ .stop s K = True := by rw [vdtI]; rfl
theorem vdt_held {Γ : Nat → Option Spec} {o : LO} {t : DT} {s : S} {K : S → Prop} : VdtI Γ (.held o t) s K = gdK s o.g (fun s => vst s o.io fun av => VdtI Γ t (s.put o.d av) K) (fun s => VdtI Γ t (s.put o.d (.v (.tuple #[]))) K) := by rw [vdtI]; rfl
theorem vdt_alt {Γ : Nat → Option Spec} {o : LO} {t r : DT} {s : S} {K : S → Prop} : VdtI Γ (.alt o t r) s K = (gdK s o.g (fun s => stepM true Γ s o.io fun av s' => VdtI Γ t (s'.put o.d av) K) (fun s => VdtI Γ t (s.put o.d (.v (.tuple #[]))) K) ∧ VdtI Γ r s K) := by rw [vdtI]; rfl
theorem drawQ_t {Γ : Nat → Option Spec} {p : Nat} {l : List LO} {t : DT} {s : S} {K : S → Prop} : drawQ true Γ p l t s K = VdtI Γ t s K := by rw [vdtI]; rfl
theorem drawQ_f {Γ : Nat → Option Spec} {p : Nat} {l : List LO} {t : DT} {s : S} {K : S → Prop} : drawQ false Γ p l t s K = VopsI Γ l s fun sl => K (tidy sl) ∧ VdtI Γ t s fun s' => SubS p s' (tidy sl) := by rw [vdtI, vopsI]; rfl
section
variable {E : Env} {s : S} {Q : Ex → S → Prop}
theorem vc_ops {l : List LO} : VcI E (.ops l) s Q = VopsI E.Γ l s (Q .normal) := by rw [vcI, vopsI]; rfl
theorem vc_draw {l : List LO} {t : DT} : VcI E (.draw l t) s Q = drawQ (linD t) E.Γ E.pins l t s (Q .normal) := by rw [vcI]; rfl
theorem vc_skip : VcI E .skip s Q = Q .normal s := by rw [vcI]; rfl
theorem vc_seq {a b : IC} : VcI E (.seq a b) s Q = VcI E a s fun e s' => match e with
    | .normal => VcI E b s' Q
    | .exit i => Q (.exit i) s'
    | .ret => Q .ret s' := by rw [vcI]; rfl
theorem vc_cond {x : Operand} {a b : IC} : VcI E (.cond x a b) s Q = match s.ev x with
    | .v (.bool t) => impK (t = true) (VcI E a s Q) ∧ impK (t = false) (VcI E b s Q)
    | _ => False := by rw [vcI]; rfl
theorem vc_block {id : Nat} {c : IC} : VcI E (.block id c) s Q = VcI E c s fun e s' => match e with
    | .normal => Q .normal s'
    | .exit i => if i = id then Q .normal s' else Q (.exit i) s'
    | .ret => Q .ret s' := by rw [vcI]; rfl
theorem vc_exit {id : Nat} : VcI E (.exit id) s Q = Q (.exit id) s := by rw [vcI]; rfl
theorem vc_ret : VcI E .ret s Q = Q .ret s := by rw [vcI]; rfl
theorem vc_loop {c : IC} : VcI E (.loop c) s Q = OkI E (.loop c) s Q := by rw [vcI]; rfl
theorem vc_hold {c : IC} : VcI E (.hold c) s Q = OkI E c s Q := by rw [vcI]; rfl
theorem loopL_nil {c : IC} : LoopI E c [] s Q = False := by rw [loopLI]; rfl
theorem loopL_cons {c : IC} {u : Unit} {r : List Unit} : LoopI E c (u :: r) s Q = VcI E c s fun e s' => match e with
    | .normal => LoopI E c r s' Q
    | .exit k => Q (.exit k) s'
    | .ret => Q .ret s' := by rw [loopLI, vcI]; rfl
end
theorem validI {P : Program} {f : Nat} {fn : Func} {code : Code} {ic : IC} {rv : List RV} {τ : List (Nat × Ty)} {Γ : Nat → Option Spec} {sp : Spec} (hf : P.funcs[f]? = some fn) (hb : fn.body = some code)
    (hl : lowC P τ fn.ntmps code = some (erase ic)) (hr : lowR P fn.results.toList = some rv) (hΓ : ∀ f sp, Γ f = some sp → callable P f = true ∧ Valid P f sp)
    (h : ∀ (E : Env) (args : List AVal) (objs : List AObj) (K : AVal → Hp → Nat → Prop), sp.f args objs K → E.good → E.Γ = Γ → E.pins = objs.length →
      args.length ≤ fn.ntmps ∧ VcI E ic ⟨params 0 args, num 0 objs, objs.length, fn.ntmps⟩ (retQ objs.length rv K)) : Valid P f sp := by
  rw [vcI] at h; exact valid_of hf hb hl hr hΓ h
theorem loopI {E : Env} (hE : E.good) {ic : IC} {s : S} {Q : Ex → S → Prop} {ι : Type} (Inv : ι → S) (I : ι → Prop) (μ : ι → Nat) (h0 : ∃ i, I i ∧ Weak E s (Inv i))
    (h : ∀ i, I i → VcI E ic (Inv i) fun e s' => match e with
      | .normal => ∃ j, (I j ∧ μ j < μ i) ∧ Weak E s' (Inv j)
      | .exit k => Q (.exit k) s'
      | .ret => Q .ret s') : OkI E (.loop ic) s Q := by
  rw [vcI] at h; exact loop_ok hE Inv I μ h0 h
theorem unrollI {E : Env} (hE : E.good) {ic : IC} {s : S} {Q : Ex → S → Prop} (l : List Unit) (h : LoopI E ic l s Q) : OkI E (.loop ic) s Q := by
  rw [loopLI] at h; exact loop_unroll hE l h
attribute [go_sem] drawQ_t drawQ_f vops_nil vops_cons vdt_done vdt_stop vdt_held vdt_alt vc_ops vc_draw vc_skip vc_seq vc_cond vc_block vc_exit vc_ret vc_loop vc_hold loopL_nil loopL_cons stepM gdK vst wst someK
@[congr] theorem drawQ_cg {b b' : Bool} {Γ : Nat → Option Spec} {p : Nat} {l : List LO} {t : DT} {s s' : S} {K : S → Prop} {b0 : Prop} (h0 : (True ∧ True) = b0) (h : b = b') (h2 : s = s') : drawQ b Γ p l t s K = drawQ b' Γ p l t s' K := by rw [h, h2]
/-! What stands behind an operation is looked at only when it is come to. -/
@[congr] theorem vops_cg {Γ : Nat → Option Spec} {l : List LO} {s s' : S} {K : S → Prop} {b0 : Prop} (h0 : (True ∧ True) = b0) (h : s = s') : VopsI Γ l s K = VopsI Γ l s' K := by rw [h]
@[congr] theorem vdt_cg {Γ : Nat → Option Spec} {t : DT} {s s' : S} {K : S → Prop} {b0 : Prop} (h0 : (True ∧ True) = b0) (h : s = s') : VdtI Γ t s K = VdtI Γ t s' K := by rw [h]
@[congr] theorem vc_cg {E : Env} {c : IC} {s s' : S} {Q : Ex → S → Prop} {b0 : Prop} (h0 : (True ∧ True) = b0) (h : s = s') : VcI E c s Q = VcI E c s' Q := by rw [h]
@[congr] theorem OkI_cg {E : Env} {c : IC} {s s' : S} {Q : Ex → S → Prop} {b0 : Prop} (h0 : (True ∧ True) = b0) (h : s = s') : OkI E c s Q = OkI E c s' Q := by rw [h]
@[congr] theorem loopL_cg {E : Env} {c : IC} {l : List Unit} {s s' : S} {Q : Ex → S → Prop} {b0 : Prop} (h0 : (True ∧ True) = b0) (h : s = s') : LoopI E c l s Q = LoopI E c l s' Q := by rw [h]
@[congr] theorem gdK_cg {s s' : S} {g : Option (Nat × Bool)} {K1 K2 : S → Prop} {b0 : Prop} (h0 : (True ∧ True) = b0) (h : s = s') : gdK s g K1 K2 = gdK s' g K1 K2 := by rw [h]
@[congr] theorem stepM_cg {m : Bool} {Γ : Nat → Option Spec} {s s' : S} {io : IOp} {K : AVal → S → Prop} {b0 : Prop} (h0 : (True ∧ True) = b0) (h : s = s') : stepM m Γ s io K = stepM m Γ s' io K := by rw [h]
@[congr] theorem vst_cg {s s' : S} {io : IOp} {K : AVal → Prop} {b0 : Prop} (h0 : (True ∧ True) = b0) (h : s = s') : vst s io K = vst s' io K := by rw [h]
@[congr] theorem wst_cg {s s' : S} {io : IOp} {K : AVal → S → Prop} {b0 : Prop} (h0 : (True ∧ True) = b0) (h : s = s') : wst s io K = wst s' io K := by rw [h]
@[congr] theorem someK_cg {α : Type} {x x' : Option α} {K : α → Prop} {b0 : Prop} (h0 : (True ∧ True) = b0) (h : x = x') : someK x K = someK x' K := by rw [h]
@[congr] theorem callK_cg {sp : Spec} {s s' : S} {l l' : List AVal} {K : AVal → S → Prop} {b0 : Prop} (h0 : (True ∧ True) = b0) (h : s = s') (h2 : l = l') : callK sp s l K = callK sp s' l' K := by rw [h, h2]
@[congr] theorem impK_cg {p p' q : Prop} {b0 : Prop} (h0 : (True ∧ True) = b0) (h : p = p') : impK p q = impK p' q := by rw [h]
theorem impK_t {q : Prop} : impK True q = q := by simp [impK]
theorem impK_f {q : Prop} : impK False q = True := by simp [impK]
theorem impK_any {p q : Prop} : impK p q = (p → q) := id rfl
attribute [go_sem] impK_t impK_f
attribute [go_sem 100] impK_any
@[congr] theorem specf_cg {sp : Spec} {l l' : List AVal} {o o' : List AObj} {K : AVal → Hp → Nat → Prop} {b0 : Prop} (h0 : (True ∧ True) = b0) (h : l = l') (h2 : o = o') : Spec.f sp l o K = Spec.f sp l' o' K := by rw [h, h2]
@[congr] theorem binV_cg {op : BinOp} {x x' y y' : Value} {K : Value → Prop} {b0 : Prop} (h0 : (True ∧ True) = b0) (h : x = x') (h2 : y = y') : binV op x y K = binV op x' y' K := by rw [h, h2]
@[congr] theorem cellsK_cg {ag : Bool} {n : Nat} {l l' : List AVal} {K : AVal → Prop} {b0 : Prop} (h0 : (True ∧ True) = b0) (h : l = l') : cellsK ag n l K = cellsK ag n l' K := by rw [h]
@[congr] theorem loadP_cg {L L' : Hp} {n : Nat} {ag : Bool} {p p' : AVal} {K : AVal → Prop} {b0 : Prop} (h0 : (True ∧ True) = b0) (h : L = L') (h2 : p = p') : loadP L n ag p K = loadP L' n ag p' K := by rw [h, h2]
@[congr] theorem fillA_cg {s s' : S} {ps : List (Nat × Nat × Operand)} {l l' : List AVal} {K : List AVal → Prop} {b0 : Prop} (h0 : (True ∧ True) = b0) (h : s = s') (h2 : l = l') : fillA s ps l K = fillA s' ps l' K := by rw [h, h2]
@[congr] theorem rowsK_cg {t : Ty} {L L' : Hp} {y y' : AVal} {K : List t.D → Prop} {b0 : Prop} (h0 : (True ∧ True) = b0) (h : L = L') (h2 : y = y') : rowsK t L y K = rowsK t L' y' K := by rw [h, h2]
@[congr] theorem appK_cg {t : Ty} {b : Nat} {sf sf' : Bool} {s s' : S} {x x' : AVal} {ys ys' : List t.D} {K : AVal → S → Prop} {b0 : Prop} (h0 : (True ∧ True) = b0) (h : s = s') (h2 : x = x') (h3 : ys = ys') (h4 : sf = sf') : appK t b sf s x ys K = appK t b sf' s' x' ys' K := by rw [h, h2, h3, h4]
@[congr] theorem keyK_cg {kk : KK} {av av' : AVal} {K : Key → Prop} {b0 : Prop} (h0 : (True ∧ True) = b0) (h : av = av') : keyK kk av K = keyK kk av' K := by rw [h]
@[congr] theorem valK_cg {mp : Bool} {av av' : AVal} {K : ByteArray → Prop} {b0 : Prop} (h0 : (True ∧ True) = b0) (h : av = av') : valK mp av K = valK mp av' K := by rw [h]
theorem keyK_int {n : Int} {K : Key → Prop} : keyK .int (.v (.int .i64 n)) K = K (.i n) := id rfl
theorem keyK_str {b : ByteArray} {K : Key → Prop} : keyK .str (.v (.string b)) K = K (.s b) := id rfl
theorem keyK_arr {n : Nat} {cs : List AVal} {K : Key → Prop} : keyK (.arr n) (.agg cs) K = (someK (i64s cs) fun l => l.length = n ∧ K (.a l)) := by
  simp only [keyK]; unfold someK; cases i64s cs <;> rfl
theorem keyK_pair {cs : List AVal} {K : Key → Prop} : keyK .pair (.agg cs) K = (someK (i64s cs) fun l => l.length = 2 ∧ K (.a l)) := by
  simp only [keyK]; unfold someK; cases i64s cs <;> rfl
theorem valK_t {x : ByteArray} {K : ByteArray → Prop} : valK true (.v (.string x)) K = K x := id rfl
theorem valK_f {b : Bool} {K : ByteArray → Prop} : valK false (.v (.bool b)) K = (b = true ∧ K ⟨#[]⟩) := id rfl
theorem mgetV_ff {es : List (Key × ByteArray)} {k : Key} : mgetV false false es k = .v (.bool (hasM es k)) := id rfl
theorem mgetV_ft {es : List (Key × ByteArray)} {k : Key} : mgetV false true es k = .tup [.v (.bool (hasM es k)), .v (.bool (hasM es k))] := id rfl
theorem mgetV_tf {es : List (Key × ByteArray)} {k : Key} : mgetV true false es k = .v (.string (strM es k)) := id rfl
theorem mgetV_tt {es : List (Key × ByteArray)} {k : Key} : mgetV true true es k = .tup [.v (.string (strM es k)), .v (.bool (hasM es k))] := id rfl
attribute [go_sem] keyK_int keyK_str keyK_arr keyK_pair valK_t valK_f mgetV_ff mgetV_ft mgetV_tf mgetV_tt
theorem selfB_ss {m z l n m' z' l' n' : Nat} : selfB (.sub m z l n) (.sub m' z' l' n') = decide (m = m') := id rfl
theorem selfB_v {x : Value} {y : AVal} : selfB (.v x) y = false := id rfl
theorem selfB_sv {m z l n : Nat} {x : Value} : selfB (.sub m z l n) (.v x) = false := id rfl
theorem selfB_sr {m z l n : Nat} {t : Ty} {xs : List t.D} : selfB (.sub m z l n) (.rs t xs) = false := id rfl
theorem selK_f {p q : Prop} : selK false p q = q := id rfl
theorem selK_t {p q : Prop} : selK true p q = (p ∨ q) := id rfl
@[congr] theorem selK_cg {sf sf' : Bool} {p q : Prop} {b0 : Prop} (h0 : (True ∧ True) = b0) (h : sf = sf') : selK sf p q = selK sf' p q := by rw [h]
theorem roomK_eq {L : Hp} {m l0 : Nat} {h : Int} : roomK L m l0 h = (match lk L m with | some (.row t xs) => (l0 : Int) + h ≤ (xs.length : Int) | some (.nrow t xs es ys) => (l0 : Int) + h ≤ (xs.length + ys.length : Nat) | _ => False) := id rfl
attribute [go_sem] selfB_ss selfB_v selfB_sv selfB_sr selK_f selK_t roomK_eq
@[congr] theorem castK_cg {t t' : Ty} {xs xs' : List t'.D} {K : List t.D → Prop} {b0 : Prop} (h0 : (True ∧ True) = b0) (h : xs = xs') : castK t t' xs K = castK t t' xs' K := by rw [h]
@[congr] theorem objsK_cg {L L' : Hp} {l l' : List Nat} {K : List AObj → Prop} {b0 : Prop} (h0 : (True ∧ True) = b0) (h : L = L') (h2 : l = l') : objsK L l K = objsK L' l' K := by rw [h, h2]
@[congr] theorem optI_cg {s s' : S} {x : Option Operand} {d d' : Int} {K : Int → Prop} {b0 : Prop} (h0 : (True ∧ True) = b0) (h : s = s') (h2 : d = d') : optI s x d K = optI s' x d' K := by rw [h, h2]
@[congr] theorem retL_cg {l : List RV} {s s' : S} {K : List AVal → Prop} {b0 : Prop} (h0 : (True ∧ True) = b0) (h : s = s') : retL l s K = retL l s' K := by rw [h]
@[congr] theorem retK_cg {l : List RV} {s s' : S} {K : AVal → Prop} {b0 : Prop} (h0 : (True ∧ True) = b0) (h : s = s') : retK l s K = retK l s' K := by rw [h]
@[congr] theorem uni1_cg {θ θ' : Th} {a a' b b' : AVal} {K : Th → Prop} {b0 : Prop} (h0 : (True ∧ True) = b0) (h : θ = θ') (h2 : a = a') (h3 : b = b') : uni1 θ a b K = uni1 θ' a' b' K := by rw [h, h2, h3]
@[congr] theorem uni_cg {θ θ' : Th} {a a' b b' : AVal} {K : Th → Prop} {b0 : Prop} (h0 : (True ∧ True) = b0) (h : θ = θ') (h2 : a = a') (h3 : b = b') : uni θ a b K = uni θ' a' b' K := by rw [h, h2, h3]
@[congr] theorem uniR_cg {θ θ' : Th} {a a' b b' : AVal} {K : Th → Prop} {b0 : Prop} (h0 : (True ∧ True) = b0) (h : θ = θ') (h2 : a = a') (h3 : b = b') : uniR θ a b K = uniR θ' a' b' K := by rw [h, h2, h3]
@[congr] theorem uniL_cg {θ θ' : Th} {a a' b b' : List AVal} {K : Th → Prop} {b0 : Prop} (h0 : (True ∧ True) = b0) (h : θ = θ') (h2 : a = a') (h3 : b = b') : uniL θ a b K = uniL θ' a' b' K := by rw [h, h2, h3]
@[congr] theorem uniT_cg {θ θ' : Th} {a a' b b' : List AVal} {K : Th → Prop} {b0 : Prop} (h0 : (True ∧ True) = b0) (h : θ = θ') (h2 : a = a') (h3 : b = b') : uniT θ a b K = uniT θ' a' b' K := by rw [h, h2, h3]
@[congr] theorem uniS_cg {θ θ' : Th} {a a' b b' : List (Nat × AVal)} {K : Th → Prop} {b0 : Prop} (h0 : (True ∧ True) = b0) (h : θ = θ') (h2 : a = a') (h3 : b = b') : uniS θ a b K = uniS θ' a' b' K := by rw [h, h2, h3]
@[congr] theorem uniO_cg {θ θ' : Th} {k z : Nat} {a a' b b' : AObj} {K : Th → Prop} {b0 : Prop} (h0 : (True ∧ True) = b0) (h : θ = θ') (h2 : a = a') (h3 : b = b') : uniO θ k z a b K = uniO θ' k z a' b' K := by rw [h, h2, h3]
@[congr] theorem uniH_cg {θ θ' : Th} {a a' b b' : Hp} {K : Th → Prop} {b0 : Prop} (h0 : (True ∧ True) = b0) (h : θ = θ') (h2 : a = a') (h3 : b = b') : uniH θ a b K = uniH θ' a' b' K := by rw [h, h2, h3]
@[congr] theorem atOff_cg {i i' : Int} {f : Nat → Prop} {l l' : List Nat} {j j' : Nat} {b0 : Prop} (h0 : (True ∧ True) = b0) (h : i = i') (h2 : l = l') (h3 : j = j') : atOff i f l j = atOff i' f l' j' := by rw [h, h2, h3]
attribute [go_sem] retQ retK retL binV cellsK loadP cellsOf splice fillA optI rowsK appK decN castK
  callK allP view1 vok1 view vok viewO vokO objsK pos nodupB idT keysLt tgts oneA
/-! Rows of rows. -/
@[congr] theorem loadN_cg {t : Ty} {m n s i i' f : Nat} {ag : Bool} {xs xs' : List (NR t)} {ys ys' : List t.D} {K : AVal → Prop} {b0 : Prop} (h0 : (True ∧ True) = b0) (h : xs = xs') (h2 : ys = ys') (h3 : i = i') : loadN t m xs ys n ag s i f K = loadN t m xs' ys' n ag s i' f K := by rw [h, h2, h3]
@[congr] theorem loadF_cg {t : Ty} {n z b b' o o' i i' f : Nat} {ag : Bool} {es es' : Fam t} {K : AVal → Prop} {b0 : Prop} (h0 : (True ∧ True) = b0) (h : es = es') (h2 : b = b') (h3 : i = i') (h4 : o = o') : loadF t (o := o) es n ag z b i f K = loadF t (o := o') es' n ag z b' i' f K := by rw [h, h2, h3, h4]
@[congr] theorem innK_cg {t : Ty} {m : Nat} {L L' : Hp} {es es' : Fam t} {av av' : AVal} {K : Ref → Fam t → Hp → Prop} {b0 : Prop} (h0 : (True ∧ True) = b0) (h : L = L') (h2 : es = es') (h3 : av = av') : innK t m L es av K = innK t m L' es' av' K := by rw [h, h2, h3]
@[congr] theorem nstoreK_cg {t : Ty} {m i i' f : Nat} {L L' : Hp} {xs xs' : List (NR t)} {es es' : Fam t} {ys ys' : List t.D} {cs cs' : List AVal} {K : Hp → Prop} {b0 : Prop} (h0 : (True ∧ True) = b0) (h : L = L') (h2 : xs = xs') (h3 : es = es') (h4 : ys = ys') (h5 : i = i') (h6 : cs = cs') : nstoreK t m L xs es ys i f cs K = nstoreK t m L' xs' es' ys' i' f cs' K := by rw [h, h2, h3, h4, h5, h6]
@[congr] theorem fstoreK_cg {t : Ty} {m z b b' o o' i i' f : Nat} {L L' : Hp} {xs xs' : List (NR t)} {es es' : Fam t} {ys ys' : List t.D} {cs cs' : List AVal} {K : Hp → Prop} {b0 : Prop} (h0 : (True ∧ True) = b0) (h : L = L') (h2 : xs = xs') (h3 : es = es') (h4 : ys = ys') (h5 : i = i') (h6 : cs = cs') (h7 : b = b') (h8 : o = o') : fstoreK t m L xs es ys z b o i f cs K = fstoreK t m L' xs' es' ys' z b' o' i' f cs' K := by rw [h, h2, h3, h4, h5, h6, h7, h8]
@[congr] theorem bldN_cg {t : Ty} {s s' : S} {len : Nat} {l l' : List AVal} {K : AVal → S → Prop} {b0 : Prop} (h0 : (True ∧ True) = b0) (h : s = s') (h2 : l = l') : bldN t s len l K = bldN t s' len l' K := by rw [h, h2]
@[congr] theorem appF_cg {t : Ty} {bt m z b b' o o' lo lo' n n' c c' : Nat} {s s' : S} {ys ys' : List t.D} {K : AVal → S → Prop} {b0 : Prop} (h0 : (True ∧ True) = b0) (h : s = s') (h2 : ys = ys') (h3 : lo = lo') (h4 : n = n') (h5 : c = c') (h6 : b = b') (h7 : o = o') : appF t bt s m z b o lo n c ys K = appF t bt s' m z b' o' lo' n' c' ys' K := by rw [h, h2, h3, h4, h5, h6, h7]
@[congr] theorem clrF_cg {t : Ty} {m z b b' o o' lo lo' n n' c c' : Nat} {s s' : S} {K : AVal → S → Prop} {b0 : Prop} (h0 : (True ∧ True) = b0) (h : s = s') (h3 : lo = lo') (h4 : n = n') (h5 : c = c') (h6 : b = b') (h7 : o = o') : clrF t s m z b o lo n c K = clrF t s' m z b' o' lo' n' c' K := by rw [h, h3, h4, h5, h6, h7]
@[congr] theorem baseN_cg {t : Ty} {L L' : Hp} {x x' : AVal} {K : Option Nat → List (NR t) → Nat → Fam t → Hp → Prop} {b0 : Prop} (h0 : (True ∧ True) = b0) (h : L = L') (h2 : x = x') : baseN t L x K = baseN t L' x' K := by rw [h, h2]
@[congr] theorem appN_cg {t : Ty} {bt : Nat} {s s' : S} {x x' y y' : AVal} {K : AVal → S → Prop} {b0 : Prop} (h0 : (True ∧ True) = b0) (h : s = s') (h2 : x = x') (h3 : y = y') : appN t bt s x y K = appN t bt s' x' y' K := by rw [h, h2, h3]
@[congr] theorem clrN_cg {t : Ty} {s s' : S} {x x' : AVal} {K : AVal → S → Prop} {b0 : Prop} (h0 : (True ∧ True) = b0) (h : s = s') (h2 : x = x') : clrN t s x K = clrN t s' x' K := by rw [h, h2]
@[congr] theorem castP_cg {t t' : Ty} {p p' : NP t'} {K : NP t → Prop} {b0 : Prop} (h0 : (True ∧ True) = b0) (h : p = p') : castP t t' p K = castP t t' p' K := by rw [h]
theorem loadN_eq {t : Ty} {m : Nat} {xs : List (NR t)} {ys : List t.D} {n s i f : Nat} {ag : Bool} {K : AVal → Prop} : loadN t m xs ys n ag s i f K = ((s = sz t ∧ i < xs.length + ys.length ∧ f + n ≤ sz t) ∧ impK (i < xs.length) (cellsK ag n (((encN t m (xs.getD i (dfltN t))).drop f).take n) K) ∧
    impK (¬ i < xs.length) (cellsK ag n (((enc t (ys.getD (i - xs.length) (dflt t))).drop f).take n) K)) := id rfl
theorem loadF_eq {t : Ty} {es : Fam t} {n z b o i f : Nat} {ag : Bool} {K : AVal → Prop} : loadF t (o := o) es n ag z b i f K = someK (es b) fun y => (y.1 = o ∧ z = sz (inn t) ∧ i < y.2.2.length ∧ f + n ≤ z) ∧ cellsK ag n (((enc (inn t) (y.2.2.getD i (dflt (inn t)))).drop f).take n) K := id rfl
theorem encN_eq {t : Ty} {m : Nat} {e : NR t} : encN t m e = hdE t e.x ++ [refA m (sz (inn t)) e.r] := id rfl
theorem refA_nil {m z : Nat} : refA m z .nil = .v (.slice none 0 0) := id rfl
theorem refA_own {m z b o n c : Nat} : refA m z (.own b o n c) = .fs m z b o 0 n c := id rfl
section
variable {t : Ty} {m i f z b o lo n c m2 : Nat} {L : Hp} {xs : List (NR t)} {es : Fam t} {ys : List t.D} {cs : List AVal} {K3 : Ref → Fam t → Hp → Prop} {KH : Hp → Prop} {KS : AVal → S → Prop} {s : S} {l : List AVal} {av av' : AVal}
theorem innK_fs : innK t m L es (.fs m2 z b o lo n c) K3 = ((z = sz (inn t) ∧ lo = 0) ∧ K3 (.own b o n c) es L) := id rfl
theorem innK_nil : innK t m L es (.v (.slice none 0 0)) K3 = K3 .nil es L := id rfl
theorem innK_sub : innK t m L es (.sub m2 z lo n) K3 = (match lk L m2 with
    | some (.row t2 zs) => castK (inn t) t2 zs fun zs => (m2 ≠ m ∧ z = sz (inn t) ∧ lo = 0 ∧ n ≤ zs.length) ∧ ∀ r es', Abs es zs n r es' → K3 r es' (era L m2)
    | _ => False) := id rfl
theorem nstoreK_eq : nstoreK t m L xs es ys i f cs KH = if f + cs.length < sz t then i < xs.length ∧ someK (decH t (splice (hdE t (xs.getD i (dfltN t)).x) f cs)) fun x' => KH (upd L m (.nrow t (xs.set i ⟨x', (xs.getD i (dfltN t)).r⟩) es ys))
  else (f + cs.length = sz t ∧ i < xs.length + ys.length) ∧ someK (lastA cs) fun av => innK t m L es av fun r es' L' =>
    impK (i < xs.length) (someK (decH t (splice (hdE t (xs.getD i (dfltN t)).x) f (initA cs))) fun x' => KH (upd L' m (.nrow t (xs.set i ⟨x', r⟩) es' ys))) ∧
    impK (¬ i < xs.length) (i = xs.length ∧ someK (decH t (splice (hdE t (ys.getD 0 (dflt t))) f (initA cs))) fun x' => KH (upd L' m (.nrow t (xs ++ [⟨x', r⟩]) es' ys.tail))) := id rfl
theorem fstoreK_eq : fstoreK t m L xs es ys z b o i f cs KH = someK (es b) fun y => (y.1 = o ∧ z = sz (inn t) ∧ i < y.2.2.length ∧ f + cs.length ≤ z) ∧ someK (dec (inn t) (splice (enc (inn t) (y.2.2.getD i (dflt (inn t)))) f cs)) fun x' =>
    KH (upd L m (.nrow t xs (fput es b (o, y.2.1, y.2.2.set i x')) ys)) := id rfl
theorem lastA_one : lastA [av] = some av := id rfl
theorem lastA_more : lastA (av :: av' :: l) = lastA (av' :: l) := id rfl
theorem initA_one : initA [av] = [] := id rfl
theorem initA_more : initA (av :: av' :: l) = av :: initA (av' :: l) := id rfl
theorem bldN_0 : bldN t s 0 l KS = KS (.sub s.nx (sz t) 0 0) (s.add (.nrow t [] (fam0 t) [])) := id rfl
theorem bldN_1 : bldN t s 1 l KS = someK (lastA l) fun av => innK t s.nx s.L (fam0 t) av fun r es' L' => someK (decH t (initA l)) fun x' => KS (.sub s.nx (sz t) 0 1) ((s.hp L').add (.nrow t [⟨x', r⟩] es' [])) := id rfl
theorem appF_eq {bt : Nat} {ys : List t.D} : appF t bt s m z b o lo n c ys KS = (match lk s.L m with
  | some (.nrow tn xs es yn) => someK (es b) fun q => (z = sz (inn tn) ∧ q.1 = o ∧ q.2.1 = c ∧ lo + n ≤ q.2.2.length ∧ (n + ys.length) * bt ≤ appRoom) ∧ castK (inn tn) t ys fun ys =>
      impK (n + ys.length ≤ c - lo) (KS (.fs m z b o lo (n + ys.length) c) (s.hp (upd s.L m (.nrow tn xs (fput es b (o, c, q.2.2.take (lo + n) ++ ys ++ q.2.2.drop (lo + n + ys.length))) yn)))) ∧
      impK (¬ n + ys.length ≤ c - lo) (∀ b' c', es b' = none → n + ys.length ≤ c' → KS (.fs m z b' 0 0 (n + ys.length) c') (s.hp (upd s.L m (.nrow tn xs (fput es b' (0, c', (q.2.2.drop lo).take n ++ ys)) yn))))
  | _ => False) := id rfl
theorem clrF_eq {ti : Ty} : clrF ti s m z b o lo n c KS = (match lk s.L m with
  | some (.nrow tn xs es yn) => someK (es b) fun q => (ti = inn tn ∧ z = sz (inn tn) ∧ q.1 = o ∧ q.2.1 = c ∧ lo + n ≤ q.2.2.length) ∧
      KS .junk (s.hp (upd s.L m (.nrow tn xs (fput es b (o, c, clrL q.2.2 (dflt (inn tn)) lo n)) yn)))
  | _ => False) := id rfl
theorem baseN_nil {K5 : Option Nat → List (NR t) → Nat → Fam t → Hp → Prop} : baseN t L (.v (.slice none 0 0)) K5 = K5 none [] 0 (fam0 t) L := id rfl
theorem baseN_sub {K5 : Option Nat → List (NR t) → Nat → Fam t → Hp → Prop} : baseN t L (.sub m z lo n) K5 = (match lk L m with
    | some (.nrow t' xs es ys) => castP t t' ⟨xs, es, ys⟩ fun p => (z = sz t ∧ lo = 0 ∧ n ≤ p.xs.length ∧ p.ys = []) ∧ K5 (some m) p.xs n p.es (era L m)
    | _ => False) := id rfl
theorem appN_rs {bt : Nat} {x : AVal} {t' : Ty} {ys : List t'.D} : appN t bt s x (.rs t' ys) KS = baseN t s.L x fun _ xs len es L => castK t t' ys fun ys => ((len + ys.length) * bt ≤ appRoom ∧ len = xs.length) ∧ KS (.sub s.nx (sz t) 0 (len + ys.length)) ((s.hp L).add (.nrow t xs es ys)) := id rfl
theorem appN_sub {bt : Nat} {x : AVal} {z2 lo2 len2 : Nat} : appN t bt s x (.sub m2 z2 lo2 len2) KS = baseN t s.L x fun m xs len es L => if m = some m2 then
      (z2 = sz t ∧ lo2 + len2 ≤ xs.length ∧ (len + len2) * bt ≤ appRoom ∧ len + len2 ≤ xs.length) ∧
        selK true (KS (.sub s.nx (sz t) 0 (len + len2)) ((s.hp L).add (.nrow t (xs.take len ++ (xs.drop lo2).take len2 ++ xs.drop (len + len2)) es [])))
          (KS (.sub s.nx (sz t) 0 (len + len2)) ((s.hp L).add (.nrow t (xs.take len ++ (xs.drop lo2).take len2 ++ []) es [])))
    else match lk L m2 with
      | some (.nrow t' xs2 es2 ys2) => castP t t' ⟨xs2, es2, ys2⟩ fun p => (z2 = sz t ∧ lo2 + len2 ≤ p.xs.length ∧ p.ys = [] ∧ (len + len2) * bt ≤ appRoom ∧ len = xs.length) ∧
          ((∀ b, es b ≠ none → p.es b = none) → KS (.sub s.nx (sz t) 0 (len + len2)) ((s.hp (era L m2)).add (.nrow t (xs ++ (p.xs.drop lo2).take len2) (fjoin es p.es) [])))
      | _ => False := id rfl
theorem clrN_sub : clrN t s (.sub m z lo n) KS = (match lk s.L m with
    | some (.nrow t' xs es ys) => castP t t' ⟨xs, es, ys⟩ fun p => (z = sz t ∧ lo + n = p.xs.length ∧ p.ys = []) ∧ KS .junk (s.hp (upd s.L m (.nrow t (p.xs.take lo) p.es [])))
    | _ => False) := id rfl
end
theorem fput_same {t : Ty} {es : Fam t} {b : Nat} {y : Nat × Nat × List (inn t).D} : fput es b y b = some y := by simp [fput]
theorem dfltN_eq {t : Ty} : dfltN t = ⟨dflt t, .nil⟩ := id rfl
theorem okL_nil : okL [] = true := id rfl
theorem okL_cons {m : Nat} {o : AObj} {r : Hp} : okL ((m, o) :: r) = (okN o && okL r) := id rfl
theorem okN_box {cs : List AVal} : okN (.box cs) = true := id rfl
theorem okN_row {t : Ty} {xs : List t.D} : okN (.row t xs) = flat t := id rfl
theorem okN_set {kk : KK} {mp : Bool} {es : List (Key × ByteArray)} : okN (.set kk mp es) = true := id rfl
theorem okN_nrow {t : Ty} {xs : List (NR t)} {es : Fam t} : okN (.nrow t xs es (no_index [])) = true := id rfl
theorem boxesOf_nrow {m : Nat} {t : Ty} {xs : List (NR t)} {es : Fam t} {ys : List t.D} {r : Hp} : boxesOf ((m, .nrow t xs es ys) :: r) = boxesOf r := id rfl
theorem rowsOf_nrow {m : Nat} {t : Ty} {xs : List (NR t)} {es : Fam t} {ys : List t.D} {r : Hp} : rowsOf ((m, .nrow t xs es ys) :: r) = (m, .nrow t xs es ys) :: rowsOf r := id rfl
theorem uniO_nrow {θ : Th} {k z : Nat} {t t' : Ty} {xs : List (NR t)} {es : Fam t} {ys : List t.D} {xs' : List (NR t')} {es' : Fam t'} {ys' : List t'.D} {K : Th → Prop} : uniO θ k z (.nrow t xs es ys) (.nrow t' xs' es' ys') K = castP t' t ⟨xs, es, ys⟩ fun p => (k = 0 ∧ p.xs = xs' ∧ p.es = es' ∧ p.ys = ys') ∧ K θ := id rfl
theorem uni1_fs {θ : Th} {m z b o lo n c m' z' b' o' lo' n' c' : Nat} {K : Th → Prop} : uni1 θ (.fs m z b o lo n c) (.fs m' z' b' o' lo' n' c') K = ((z = z' ∧ b = b' ∧ o = o' ∧ lo = lo' ∧ n = n' ∧ c = c') ∧ uniN θ m' m K) := id rfl
theorem uni1_fp {θ : Th} {m z b o i f m' z' b' o' i' f' : Nat} {K : Th → Prop} : uni1 θ (.fp m z b o i f) (.fp m' z' b' o' i' f') K = ((z = z' ∧ b = b' ∧ o = o' ∧ i = i' ∧ f = f') ∧ uniN θ m' m K) := id rfl
theorem uni_fs {θ : Th} {av : AVal} {m' z' b' o' lo' n' c' : Nat} {K : Th → Prop} : uni θ av (.fs m' z' b' o' lo' n' c') K = uni1 θ av (.fs m' z' b' o' lo' n' c') K := id rfl
theorem uni_fp {θ : Th} {av : AVal} {m' z' b' o' i' f' : Nat} {K : Th → Prop} : uni θ av (.fp m' z' b' o' i' f') K = uni1 θ av (.fp m' z' b' o' i' f') K := id rfl
theorem uniR_fs {θ : Th} {av : AVal} {m' z' b' o' lo' n' c' : Nat} {K : Th → Prop} : uniR θ av (.fs m' z' b' o' lo' n' c') K = uni θ av (.fs m' z' b' o' lo' n' c') K := id rfl
theorem uniR_fp {θ : Th} {av : AVal} {m' z' b' o' i' f' : Nat} {K : Th → Prop} : uniR θ av (.fp m' z' b' o' i' f') K = uni θ av (.fp m' z' b' o' i' f') K := id rfl
theorem renO_nrow {kp : Bool} {n : Nat → Nat} {t : Ty} {xs : List (NR t)} {es : Fam t} {ys : List t.D} : renO kp n (.nrow t xs es ys) = .nrow t xs es ys := id rfl
theorem ren1_fs {kp : Bool} {n : Nat → Nat} {m z b o lo k c : Nat} : ren1 kp n (.fs m z b o lo k c) = .fs (n m) z b o lo k c := id rfl
theorem ren1_fp {kp : Bool} {n : Nat → Nat} {m z b o i f : Nat} : ren1 kp n (.fp m z b o i f) = .fp (n m) z b o i f := id rfl
theorem ren2_fs {kp : Bool} {n : Nat → Nat} {m z b o lo k c : Nat} : ren2 kp n (.fs m z b o lo k c) = .fs (n m) z b o lo k c := id rfl
theorem ren_fs {kp : Bool} {n : Nat → Nat} {m z b o lo k c : Nat} : ren kp n (.fs m z b o lo k c) = .fs (n m) z b o lo k c := id rfl
theorem ren2_fp {kp : Bool} {n : Nat → Nat} {m z b o i f : Nat} : ren2 kp n (.fp m z b o i f) = .fp (n m) z b o i f := id rfl
theorem ren_fp {kp : Bool} {n : Nat → Nat} {m z b o i f : Nat} : ren kp n (.fp m z b o i f) = .fp (n m) z b o i f := id rfl
theorem selfB_fs {m z b o lo n c : Nat} {y : AVal} : selfB (.fs m z b o lo n c) y = false := id rfl
theorem selfB_sf {m z l k m' z' b o lo n c : Nat} : selfB (.sub m z l k) (.fs m' z' b o lo n c) = false := id rfl
attribute [go_sem] loadN_eq loadF_eq encN_eq refA_nil refA_own innK_fs innK_nil innK_sub nstoreK_eq fstoreK_eq lastA_one lastA_more initA_one initA_more bldN_0 bldN_1 appF_eq clrF_eq baseN_nil baseN_sub appN_rs appN_sub clrN_sub castP_same fput_same dfltN_eq okL_nil okL_cons okN_box okN_row okN_set okN_nrow
  boxesOf_nrow rowsOf_nrow uniO_nrow uni1_fs uni1_fp uni_fs uni_fp uniR_fs uniR_fp renO_nrow ren1_fs ren1_fp ren2_fs ren_fs ren2_fp ren_fp selfB_fs selfB_sf
/-! The state's changes, each as a step that is written down. -/
theorem put_some {σ : List (Nat × AVal)} {L : Hp} {nx n d : Nat} {av : AVal} : S.put ⟨σ, L, nx, n⟩ (some d) av = ⟨(d, av) :: σ, L, nx, n⟩ := id rfl
theorem put_none {s : S} {av : AVal} : S.put s none av = s := id rfl
theorem add_eq {σ : List (Nat × AVal)} {L : Hp} {nx n : Nat} {o : AObj} : S.add ⟨σ, L, nx, n⟩ o = ⟨σ, (nx, o) :: L, nx + 1, n⟩ := id rfl
theorem hp_eq {σ : List (Nat × AVal)} {L L' : Hp} {nx n : Nat} : S.hp ⟨σ, L, nx, n⟩ L' = ⟨σ, L', nx, n⟩ := id rfl
theorem ev_tmp {σ : List (Nat × AVal)} {L : Hp} {nx n t : Nat} : S.ev ⟨σ, L, nx, n⟩ (.tmp t) = (lk σ t).getD .junk := id rfl
theorem ev_func {s : S} {f : Nat} : S.ev s (.func f) = .fn f [] := id rfl
theorem ev_int {s : S} {k : IntKind} {i : Int} : S.ev s (.const (.int k i)) = .v (.int k i) := id rfl
theorem ev_bool {s : S} {b : Bool} : S.ev s (.const (.bool b)) = .v (.bool b) := id rfl
theorem ev_str {s : S} {b : ByteArray} : S.ev s (.const (.string b)) = .v (.string b) := id rfl
theorem ev_nilf {s : S}  : S.ev s (.const .nilFunc) = .v .nilFunc := id rfl
theorem ev_nili {s : S}  : S.ev s (.const .nilIface) = .v .nilIface := id rfl
theorem ev_nilp {s : S} : S.ev s (.const (.pointer none)) = .v (.pointer none) := id rfl
theorem ev_nils {s : S} : S.ev s (.const (.slice none 0 0)) = .v (.slice none 0 0) := id rfl
theorem ev_agg {s : S} {cs : Array Value} : S.ev s (.const (.agg cs)) = .agg (cs.toList.map .v) := id rfl
theorem params_nil {k : Nat} : params k [] = [] := id rfl
theorem params_cons {k : Nat} {x : AVal} {r : List AVal} : params k (x :: r) = (k, x) :: params (k + 1) r := id rfl
theorem num_nil {k : Nat} : num k [] = [] := id rfl
theorem num_cons {k : Nat} {x : AObj} {r : List AObj} : num k (x :: r) = (k, x) :: num (k + 1) r := id rfl
theorem lk_nil {α : Type _} {k : Nat} : lk ([] : List (Nat × α)) k = none := id rfl
theorem lk_cons {α : Type _} {i k : Nat} {x : α} {r : List (Nat × α)} : lk ((i, x) :: r) k = if i = k then some x else lk r k := id rfl
theorem upd_nil {k : Nat} {o : AObj} : upd [] k o = [] := id rfl
theorem upd_cons {i k : Nat} {x o : AObj} {r : Hp} : upd ((i, x) :: r) k o = if i = k then (i, o) :: r else (i, x) :: upd r k o := id rfl
theorem boxesOf_nil : boxesOf [] = [] := id rfl
theorem boxesOf_box {m : Nat} {cs : List AVal} {r : Hp} : boxesOf ((m, .box cs) :: r) = (m, .box cs) :: boxesOf r := id rfl
theorem boxesOf_row {m : Nat} {t : Ty} {xs : List t.D} {r : Hp} : boxesOf ((m, .row t xs) :: r) = boxesOf r := id rfl
theorem rowsOf_nil : rowsOf [] = [] := id rfl
theorem rowsOf_box {m : Nat} {cs : List AVal} {r : Hp} : rowsOf ((m, .box cs) :: r) = rowsOf r := id rfl
theorem rowsOf_row {m : Nat} {t : Ty} {xs : List t.D} {r : Hp} : rowsOf ((m, .row t xs) :: r) = (m, .row t xs) :: rowsOf r := id rfl
theorem boxesOf_set {m : Nat} {kk : KK} {mp : Bool} {es : List (Key × ByteArray)} {r : Hp} : boxesOf ((m, .set kk mp es) :: r) = boxesOf r := id rfl
theorem rowsOf_set {m : Nat} {kk : KK} {mp : Bool} {es : List (Key × ByteArray)} {r : Hp} : rowsOf ((m, .set kk mp es) :: r) = (m, .set kk mp es) :: rowsOf r := id rfl
theorem uniO_set {θ : Th} {k z : Nat} {kk kk' : KK} {mp mp' : Bool} {es es' : List (Key × ByteArray)} {K : Th → Prop} : uniO θ k z (.set kk mp es) (.set kk' mp' es') K = ((k = 0 ∧ kk = kk' ∧ mp = mp' ∧ es = es') ∧ K θ) := id rfl
theorem uni1_mp {θ : Th} {m m' : Nat} {K : Th → Prop} : uni1 θ (.mp m) (.mp m') K = uniN θ m' m K := id rfl
theorem uni_mp {θ : Th} {av : AVal} {m' : Nat} {K : Th → Prop} : uni θ av (.mp m') K = uni1 θ av (.mp m') K := id rfl
theorem uniR_mp {θ : Th} {av : AVal} {m' : Nat} {K : Th → Prop} : uniR θ av (.mp m') K = uni θ av (.mp m') K := id rfl
theorem uni1_arp {θ : Th} {m m' n n' : Nat} {K : Th → Prop} : uni1 θ (.arp m n) (.arp m' n') K = (n = n' ∧ uniN θ m' m K) := id rfl
theorem uni_arp {θ : Th} {av : AVal} {m' n' : Nat} {K : Th → Prop} : uni θ av (.arp m' n') K = uni1 θ av (.arp m' n') K := id rfl
theorem uniR_arp {θ : Th} {av : AVal} {m' n' : Nat} {K : Th → Prop} : uniR θ av (.arp m' n') K = uni θ av (.arp m' n') K := id rfl
attribute [go_sem] uni1_arp uni_arp uniR_arp boxesOf_set rowsOf_set uniO_set uni1_mp uni_mp uniR_mp
attribute [go_sem] boxesOf_nil boxesOf_box boxesOf_row rowsOf_nil rowsOf_box rowsOf_row
attribute [go_sem] put_some put_none add_eq hp_eq ev_tmp ev_func ev_int ev_bool ev_str ev_nilf ev_nili ev_nilp ev_nils ev_agg params_nil params_cons num_nil num_cons lk_nil lk_cons upd_nil upd_cons
theorem nc0 : ((0 : Nat) : Int) = 0 := id rfl
theorem nc1 : ((1 : Nat) : Int) = 1 := id rfl
theorem nc2 : ((2 : Nat) : Int) = 2 := id rfl
theorem nc3 : ((3 : Nat) : Int) = 3 := id rfl
theorem nc4 : ((4 : Nat) : Int) = 4 := id rfl
theorem nc5 : ((5 : Nat) : Int) = 5 := id rfl
theorem nc6 : ((6 : Nat) : Int) = 6 := id rfl
theorem nc7 : ((7 : Nat) : Int) = 7 := id rfl
theorem nc8 : ((8 : Nat) : Int) = 8 := id rfl
theorem nc9 : ((9 : Nat) : Int) = 9 := id rfl
theorem nc10 : ((10 : Nat) : Int) = 10 := id rfl
theorem nc11 : ((11 : Nat) : Int) = 11 := id rfl
theorem nc12 : ((12 : Nat) : Int) = 12 := id rfl
theorem nc13 : ((13 : Nat) : Int) = 13 := id rfl
theorem nc14 : ((14 : Nat) : Int) = 14 := id rfl
theorem nc15 : ((15 : Nat) : Int) = 15 := id rfl
theorem nc16 : ((16 : Nat) : Int) = 16 := id rfl
theorem offs_1_2 : offs 1 2 = [0, 1] := by decide
theorem offs_1_4 : offs 1 4 = [0, 1, 2, 3] := by decide
theorem offs_1_8 : offs 1 8 = [0, 1, 2, 3, 4, 5, 6, 7] := by decide
theorem offs_1_16 : offs 1 16 = [0, 1, 2, 3, 4, 5, 6, 7, 8, 9, 10, 11, 12, 13, 14, 15] := by decide
theorem offs_2_2 : offs 2 2 = [0, 2] := by decide
theorem offs_2_4 : offs 2 4 = [0, 2, 4, 6] := by decide
theorem offs_2_8 : offs 2 8 = [0, 2, 4, 6, 8, 10, 12, 14] := by decide
theorem offs_2_16 : offs 2 16 = [0, 2, 4, 6, 8, 10, 12, 14, 16, 18, 20, 22, 24, 26, 28, 30] := by decide
theorem offs_3_2 : offs 3 2 = [0, 3] := by decide
theorem offs_3_4 : offs 3 4 = [0, 3, 6, 9] := by decide
theorem offs_3_8 : offs 3 8 = [0, 3, 6, 9, 12, 15, 18, 21] := by decide
theorem offs_3_16 : offs 3 16 = [0, 3, 6, 9, 12, 15, 18, 21, 24, 27, 30, 33, 36, 39, 42, 45] := by decide
theorem offs_4_2 : offs 4 2 = [0, 4] := by decide
theorem offs_4_4 : offs 4 4 = [0, 4, 8, 12] := by decide
theorem offs_4_8 : offs 4 8 = [0, 4, 8, 12, 16, 20, 24, 28] := by decide
theorem offs_4_16 : offs 4 16 = [0, 4, 8, 12, 16, 20, 24, 28, 32, 36, 40, 44, 48, 52, 56, 60] := by decide
theorem atOff_nil {i : Int} {f : Nat → Prop} {j : Nat} : atOff i f [] j = True := id rfl
theorem atOff_cons {i : Int} {f : Nat → Prop} {o : Nat} {r : List Nat} {j : Nat} : atOff i f (o :: r) j = (impK (i = (j : Int)) (f o) ∧ atOff i f r (j + 1)) := id rfl
attribute [go_sem] nc0 nc1 nc2 nc3 nc4 nc5 nc6 nc7 nc8 nc9 nc10 nc11 nc12 nc13 nc14 nc15 nc16 offs_1_2 offs_1_4 offs_1_8 offs_1_16 offs_2_2 offs_2_4 offs_2_8 offs_2_16 offs_3_2 offs_3_4 offs_3_8 offs_3_16 offs_4_2 offs_4_4 offs_4_8 offs_4_16 atOff_nil atOff_cons
/-! The state behind a call. -/
section
variable {kp : Bool} {n : Nat → Nat} {m z j f lo len off nx k : Nat} {x : Value} {cs : List AVal} {o : AObj} {r : Hp} {ms : List Nat} {L : Hp} {t : Ty} {xs : List t.D}
theorem renL_nil : renL kp n [] = [] := id rfl
theorem renL_cons : renL kp n ((m, o) :: r) = (n m, renO kp n o) :: renL kp n r := id rfl
theorem renO_box : renO kp n (.box cs) = .box (cs.map (ren1 kp n)) := id rfl
theorem renO_row : renO kp n (.row t xs) = .row t xs := id rfl
theorem ren1_v : ren1 kp n (.v x) = .v x := id rfl
theorem ren1_ptr : ren1 kp n (.ptr m off) = .ptr (n m) off := id rfl
theorem ren1_elt : ren1 kp n (.elt m z j f) = .elt (n m) z j f := id rfl
theorem ren1_sub : ren1 kp n (.sub m z lo len) = .sub (n m) z lo len := id rfl
theorem ren1_rs : ren1 kp n (.rs t xs) = if kp = true then .rs t xs else .junk := id rfl
theorem ren1_junk : ren1 kp n .junk = .junk := id rfl
theorem ren2_rs : ren2 kp n (.rs t xs) = ren1 kp n (.rs t xs) := id rfl
theorem ren_rs : ren kp n (.rs t xs) = ren1 kp n (.rs t xs) := id rfl
theorem ren2_v : ren2 kp n (.v x) = .v x := id rfl
theorem ren2_ptr : ren2 kp n (.ptr m off) = .ptr (n m) off := id rfl
theorem ren2_elt : ren2 kp n (.elt m z j f) = .elt (n m) z j f := id rfl
theorem ren2_sub : ren2 kp n (.sub m z lo len) = .sub (n m) z lo len := id rfl
theorem ren2_agg : ren2 kp n (.agg cs) = .agg (cs.map (ren1 kp n)) := id rfl
theorem ren_v : ren kp n (.v x) = .v x := id rfl
theorem ren_ptr : ren kp n (.ptr m off) = .ptr (n m) off := id rfl
theorem ren_elt : ren kp n (.elt m z j f) = .elt (n m) z j f := id rfl
theorem ren_sub : ren kp n (.sub m z lo len) = .sub (n m) z lo len := id rfl
theorem ren_agg : ren kp n (.agg cs) = .agg (cs.map (ren1 kp n)) := id rfl
theorem ren_tup : ren kp n (.tup cs) = .tup (cs.map (ren2 kp n)) := id rfl
theorem rn_eq : rn ms nx k = (nth ms k).getD (nx + k) := by unfold rn; split <;> rename_i h <;> rw [h] <;> rfl
theorem nth_nil : nth [] k = none := id rfl
theorem nth_cons : nth (m :: ms) k = if k = 0 then some m else nth ms (k - 1) := id rfl
theorem eraAll_nil : eraAll L [] = L := id rfl
theorem eraAll_cons : eraAll L (m :: ms) = eraAll (era L m) ms := id rfl
theorem era_nil : era [] k = [] := id rfl
theorem era_cons : era ((m, o) :: r) k = if m = k then era r k else (m, o) :: era r k := id rfl
end
attribute [go_sem] ren1_rs ren1_junk ren2_rs ren_rs
attribute [go_sem] renL_nil renL_cons renO_box renO_row ren1_v ren1_ptr ren1_elt ren1_sub ren2_v ren2_ptr ren2_elt ren2_sub ren2_agg ren_v ren_ptr ren_elt ren_sub ren_agg ren_tup rn_eq nth_nil nth_cons eraAll_nil eraAll_cons era_nil era_cons
theorem om_some {α β : Type _} {f : α → β} {x : α} : Option.map f (some x) = some (f x) := id rfl
theorem om_none {α β : Type _} {f : α → β} : Option.map f (none : Option α) = none := id rfl
theorem bo_ff : (false || false) = false := id rfl
theorem bo_tf {b : Bool} : (true || b) = true := id rfl
theorem bo_ft : (false || true) = true := id rfl
theorem dc_true : decide True = true := by simp
theorem dc_false : decide False = false := by simp
theorem ga_0 {α : Type _} {a : α} {l : List α} : (a :: l)[0]? = some a := id rfl
theorem ga_1 {α : Type _} {a b : α} {l : List α} : (a :: b :: l)[1]? = some b := id rfl
theorem ga_2 {α : Type _} {a b c : α} {l : List α} : (a :: b :: c :: l)[2]? = some c := id rfl
theorem ga_3 {α : Type _} {a b c d : α} {l : List α} : (a :: b :: c :: d :: l)[3]? = some d := id rfl
theorem or_ft {p : Prop} : (False ∨ p) = p := by simp
theorem or_tt {p : Prop} : (p ∨ True) = True := by simp
theorem or_pf {p : Prop} : (p ∨ False) = p := by simp
attribute [go_sem] ga_0 ga_1 ga_2 ga_3 or_ft or_tt or_pf
theorem u8s_nil : u8s [] = some [] := id rfl
theorem u8s_cons {n : Int} {r : List AVal} : u8s (.v (.int .u8 n) :: r) = (u8s r).map (n :: ·) := id rfl
attribute [go_sem] u8s_nil u8s_cons
theorem i64s_nil : i64s [] = some [] := id rfl
theorem i64s_cons {n : Int} {r : List AVal} : i64s (.v (.int .i64 n) :: r) = (i64s r).map (n :: ·) := id rfl
attribute [go_sem] i64s_nil i64s_cons
theorem take_len {α : Type _} {xs : List α} : xs.take xs.length = xs := List.take_length
theorem le_self {n : Nat} : (n ≤ n) = True := by simp
section
variable {θ : Th} {K : Th → Prop} {m m' k z z' lo lo' len len' off off' i i' f f' d p : Nat} {x x' : Value} {t t' : Ty} {xs : List t.D} {y : t.D} {cs cs' r r' : List AVal} {a a' av av' : AVal} {σ : List (Nat × AVal)} {L rL : Hp} {o o' : AObj} {s s' : S}
theorem SubS_eq : SubS p s s' = (s'.n = s.n ∧ uniS (idT p) s.σ s'.σ fun θ => uniH θ s.L (boxesOf s'.L) fun θ => uniH θ s.L (rowsOf s'.L) fun θ => nodupB (tgts θ) = true ∧ keysLt s'.nx θ = true) := id rfl
theorem ResU_eq {r0 rr : AVal} {L0 : Hp} {nx0 : Nat} : ResU p s rr r0 L0 nx0 = (uniR (idT p) rr r0 fun θ => uniH θ s.L (boxesOf L0) fun θ => uniH θ s.L (rowsOf L0) fun θ => nodupB (tgts θ) = true ∧ keysLt nx0 θ = true ∧ okL L0 = true) := id rfl
theorem uniN_eq : uniN θ m' m K = (match lk θ m' with | some x => x = some (m, 0, 0) ∧ K θ | none => K ((m', some (m, 0, 0)) :: θ)) := id rfl
theorem uniK_eq : uniK θ m' m k z K = (if k = 0 then uniN θ m' m K else match lk θ m' with | some x => x = some (m, k, z) ∧ K θ | none => K ((m', some (m, k, z)) :: θ)) := id rfl
theorem uniNil_eq : uniNil θ m' K = (match lk θ m' with | some x => x = none ∧ K θ | none => K ((m', none) :: θ)) := id rfl
theorem uni1_junk : uni1 θ av .junk K = K θ := id rfl
theorem uni1_v : uni1 θ (.v x) (.v x') K = (x = x' ∧ K θ) := id rfl
theorem uni1_sub : uni1 θ (.sub m z lo len) (.sub m' z' lo' len') K = ((z = z' ∧ lo' ≤ lo ∧ len = len') ∧ uniK θ m' m (lo - lo') z K) := id rfl
theorem uni1_nil : uni1 θ (.v (.slice none 0 0)) (.sub m' z' lo' len') K = ((lo' = 0 ∧ len' = 0) ∧ uniNil θ m' K) := id rfl
theorem uni1_ptr : uni1 θ (.ptr m off) (.ptr m' off') K = (off = off' ∧ uniN θ m' m K) := id rfl
theorem uni1_elt : uni1 θ (.elt m z i f) (.elt m' z' i' f') K = ((z = z' ∧ i = i' ∧ f = f') ∧ uniN θ m' m K) := id rfl
theorem uni1_rs : uni1 θ av (.rs t xs) K = (av = .rs t xs ∧ K θ) := id rfl
theorem uni1_re : uni1 θ av (.re t y f) K = (av = .re t y f ∧ K θ) := id rfl
theorem uni1_rp : uni1 θ av (.rp t xs) K = (av = .rp t xs ∧ K θ) := id rfl
theorem uni_rp : uni θ av (.rp t xs) K = uni1 θ av (.rp t xs) K := id rfl
theorem uniL_nil : uniL θ [] [] K = K θ := id rfl
theorem uniL_cons : uniL θ (a :: r) (a' :: r') K = uni1 θ a a' fun θ => uniL θ r r' K := id rfl
theorem uni_agg : uni θ (.agg cs) (.agg cs') K = uniL θ cs cs' K := id rfl
theorem uni_fn : uni θ (.fn f cs) (.fn f' cs') K = (f = f' ∧ uniL θ cs cs' K) := id rfl
theorem uni_junk : uni θ av .junk K = K θ := id rfl
theorem uni_v : uni θ av (.v x') K = uni1 θ av (.v x') K := id rfl
theorem uni_sub : uni θ av (.sub m' z' lo' len') K = uni1 θ av (.sub m' z' lo' len') K := id rfl
theorem uni_ptr : uni θ av (.ptr m' off') K = uni1 θ av (.ptr m' off') K := id rfl
theorem uni_elt : uni θ av (.elt m' z' i' f') K = uni1 θ av (.elt m' z' i' f') K := id rfl
theorem uni_rs : uni θ av (.rs t xs) K = uni1 θ av (.rs t xs) K := id rfl
theorem uni_re : uni θ av (.re t y f) K = uni1 θ av (.re t y f) K := id rfl
theorem uniS_nil : uniS θ σ [] K = K θ := id rfl
theorem uniS_cons {r : List (Nat × AVal)} : uniS θ σ ((d, av') :: r) K = someK (lk σ d) fun av => uni θ av av' fun θ => uniS θ σ r K := by
  cases h : lk σ d <;> simp [uniS, someK, h]
theorem uniO_box : uniO θ k z (.box cs) (.box cs') K = (k = 0 ∧ uniL θ cs cs' K) := id rfl
theorem uniO_row {xs' : List t'.D} : uniO θ k z (.row t xs) (.row t' xs') K = castK t' t xs fun xs => if k = 0 then xs = xs' ∧ K θ else (z = sz t' ∧ k ≤ xs.length ∧ xs.drop k = xs') ∧ K θ := id rfl
theorem uniH_nil : uniH θ L [] K = K θ := id rfl
theorem uniH_cons : uniH θ L ((m', o') :: rL) K = (match lk θ m' with
    | some (some (m, k, z)) => match lk L m with
      | some o => uniO θ k z o o' fun θ => uniH θ L rL K
      | none => False
    | some none => match o' with
      | .row t xs' => xs' = [] ∧ uniH θ L rL K
      | .nrow t xs' es' ys' => (flat t = false ∧ xs' = [] ∧ ys' = [] ∧ ∀ b, es' b = none) ∧ uniH θ L rL K
      | _ => False
    | none => match lk L m' with
      | some o => uniO ((m', some (m', 0, 0)) :: θ) 0 0 o o' fun θ => uniH θ L rL K
      | none => False) := id rfl
theorem uniT_nil : uniT θ [] [] K = K θ := id rfl
theorem uniT_cons : uniT θ (a :: r) (a' :: r') K = uni θ a a' fun θ => uniT θ r r' K := id rfl
theorem uniR_tup : uniR θ (.tup cs) (.tup cs') K = uniT θ cs cs' K := id rfl
theorem uniR_agg : uniR θ av (.agg cs') K = uni θ av (.agg cs') K := id rfl
theorem uniR_fn : uniR θ av (.fn f' cs') K = uni θ av (.fn f' cs') K := id rfl
theorem uniR_v : uniR θ av (.v x') K = uni θ av (.v x') K := id rfl
theorem uniR_junk : uniR θ av .junk K = uni θ av .junk K := id rfl
theorem uniR_sub : uniR θ av (.sub m' z' lo' len') K = uni θ av (.sub m' z' lo' len') K := id rfl
theorem uniR_ptr : uniR θ av (.ptr m' off') K = uni θ av (.ptr m' off') K := id rfl
theorem uniR_elt : uniR θ av (.elt m' z' i' f') K = uni θ av (.elt m' z' i' f') K := id rfl
theorem uniR_rs : uniR θ av (.rs t xs) K = uni θ av (.rs t xs) K := id rfl
theorem uniR_re : uniR θ av (.re t y f) K = uni θ av (.re t y f) K := id rfl
end
attribute [go_sem] uni1_rp uni_rp
attribute [go_sem ↓] uniN_eq uniK_eq uniNil_eq
attribute [go_sem] SubS_eq ResU_eq uni1_junk uni1_v uni1_sub uni1_nil uni1_ptr uni1_elt uni1_rs uni1_re uniL_nil uniL_cons uni_agg uni_fn uni_junk uni_v uni_sub uni_ptr uni_elt uni_rs uni_re uniS_nil uniS_cons uniO_box uniO_row uniH_nil uniH_cons uniT_nil uniT_cons uniR_tup uniR_agg uniR_fn uniR_v uniR_junk uniR_sub uniR_ptr uniR_elt uniR_rs uniR_re
def isV : AVal → Prop
  | .v _ => True
  | _ => False
def vAll : List AVal → Prop
  | [] => True
  | x :: r => isV x ∧ vAll r
theorem isV_v {x : Value} : isV (.v x) = True := by simp [isV]
theorem vAll_nil : vAll [] = True := by simp [vAll]
theorem vAll_cons {x : AVal} {r : List AVal} : vAll (x :: r) = (isV x ∧ vAll r) := id rfl
theorem uniL_same {θ : Th} {K : Th → Prop} : ∀ {cs : List AVal}, vAll cs → uniL θ cs cs K = K θ
  | [], _ => rfl
  | x :: r, h => by
    cases x with
    | v y => simp only [uniL, uni1, true_and]; exact uniL_same h.2
    | _ => exact h.1.elim
theorem uni_same {θ : Th} {cs : List AVal} {K : Th → Prop} (h : vAll cs) : uni θ (.agg cs) (.agg cs) K = K θ := by simp only [uni]; exact uniL_same h
theorem uniO_same {θ : Th} {cs : List AVal} {K : Th → Prop} (h : vAll cs) : uniO θ 0 0 (.box cs) (.box cs) K = K θ := by simp only [uniO, true_and]; exact uniL_same h
attribute [go_sem] isV_v vAll_nil vAll_cons
attribute [go_sem high] uni_same uniO_same
def ifSeen (seen : List Nat) (d : Nat) (a b : List (Nat × AVal)) : List (Nat × AVal) := if seen.contains d = true then a else b
theorem ifSeen_nil {d : Nat} {a b : List (Nat × AVal)} : ifSeen [] d a b = b := by simp [ifSeen]
theorem ifSeen_cons {x d : Nat} {l : List Nat} {a b : List (Nat × AVal)} : ifSeen (x :: l) d a b = if d = x then a else ifSeen l d a b := by
  unfold ifSeen
  by_cases h : d = x
  · simp [h]
  · simp [h]
@[congr] theorem ifSeen_cg {l l' : List Nat} {d d' : Nat} {a b : List (Nat × AVal)} {b0 : Prop} (h0 : (True ∧ True) = b0) (h : l = l') (h2 : d = d') : ifSeen l d a b = ifSeen l' d' a b := by rw [h, h2]
theorem tidy_eq {σ : List (Nat × AVal)} {L : Hp} {nx n : Nat} : tidy ⟨σ, L, nx, n⟩ = ⟨ded [] σ, L, nx, n⟩ := id rfl
theorem ded_nil {seen : List Nat} : ded seen [] = [] := id rfl
theorem ded_junk {seen : List Nat} {d : Nat} {r : List (Nat × AVal)} : ded seen ((d, .junk) :: r) = ifSeen seen d (ded seen r) (ded (d :: seen) r) := id rfl
theorem ded_v {seen : List Nat} {d : Nat} {r : List (Nat × AVal)} {x : Value} : ded seen ((d, .v x) :: r) = ifSeen seen d (ded seen r) ((d, .v x) :: ded (d :: seen) r) := id rfl
theorem ded_ptr {seen : List Nat} {d : Nat} {r : List (Nat × AVal)} {m o : Nat} : ded seen ((d, .ptr m o) :: r) = ifSeen seen d (ded seen r) ((d, .ptr m o) :: ded (d :: seen) r) := id rfl
theorem ded_elt {seen : List Nat} {d : Nat} {r : List (Nat × AVal)} {m s i f : Nat} : ded seen ((d, .elt m s i f) :: r) = ifSeen seen d (ded seen r) ((d, .elt m s i f) :: ded (d :: seen) r) := id rfl
theorem ded_sub {seen : List Nat} {d : Nat} {r : List (Nat × AVal)} {m s l k : Nat} : ded seen ((d, .sub m s l k) :: r) = ifSeen seen d (ded seen r) ((d, .sub m s l k) :: ded (d :: seen) r) := id rfl
theorem ded_rs {seen : List Nat} {d : Nat} {r : List (Nat × AVal)} {t : Ty} {xs : List t.D} : ded seen ((d, .rs t xs) :: r) = ifSeen seen d (ded seen r) ((d, .rs t xs) :: ded (d :: seen) r) := id rfl
theorem ded_re {seen : List Nat} {d : Nat} {r : List (Nat × AVal)} {t : Ty} {x : t.D} {f : Nat} : ded seen ((d, .re t x f) :: r) = ifSeen seen d (ded seen r) ((d, .re t x f) :: ded (d :: seen) r) := id rfl
theorem ded_rp {seen : List Nat} {d : Nat} {r : List (Nat × AVal)} {t : Ty} {xs : List t.D} : ded seen ((d, .rp t xs) :: r) = ifSeen seen d (ded seen r) ((d, .rp t xs) :: ded (d :: seen) r) := id rfl
theorem ded_mp {seen : List Nat} {d : Nat} {r : List (Nat × AVal)} {m : Nat} : ded seen ((d, .mp m) :: r) = ifSeen seen d (ded seen r) ((d, .mp m) :: ded (d :: seen) r) := id rfl
theorem ded_arp {seen : List Nat} {d : Nat} {r : List (Nat × AVal)} {m n : Nat} : ded seen ((d, .arp m n) :: r) = ifSeen seen d (ded seen r) ((d, .arp m n) :: ded (d :: seen) r) := id rfl
attribute [go_sem] ded_rp ded_mp ded_arp
theorem ded_fs {seen : List Nat} {d : Nat} {r : List (Nat × AVal)} {m z b o lo n c : Nat} : ded seen ((d, .fs m z b o lo n c) :: r) = ifSeen seen d (ded seen r) ((d, .fs m z b o lo n c) :: ded (d :: seen) r) := id rfl
theorem ded_fp {seen : List Nat} {d : Nat} {r : List (Nat × AVal)} {m z b o i f : Nat} : ded seen ((d, .fp m z b o i f) :: r) = ifSeen seen d (ded seen r) ((d, .fp m z b o i f) :: ded (d :: seen) r) := id rfl
attribute [go_sem] ded_fs ded_fp
theorem ded_agg {seen : List Nat} {d : Nat} {r : List (Nat × AVal)} {cs : List AVal} : ded seen ((d, .agg cs) :: r) = ifSeen seen d (ded seen r) ((d, .agg cs) :: ded (d :: seen) r) := id rfl
theorem ded_tup {seen : List Nat} {d : Nat} {r : List (Nat × AVal)} {cs : List AVal} : ded seen ((d, .tup cs) :: r) = ifSeen seen d (ded seen r) (ded (d :: seen) r) := id rfl
theorem ded_fn {seen : List Nat} {d : Nat} {r : List (Nat × AVal)} {f : Nat} {cs : List AVal} : ded seen ((d, .fn f cs) :: r) = ifSeen seen d (ded seen r) ((d, .fn f cs) :: ded (d :: seen) r) := id rfl
attribute [go_sem] tidy_eq ifSeen_nil ifSeen_cons ded_nil ded_junk ded_v ded_ptr ded_elt ded_sub ded_rs ded_re ded_agg ded_tup ded_fn
theorem sub_self' {n : Nat} : n - n = 0 := by simp
attribute [go_sem] sub_self'
theorem tr_or {p : Prop} : (True ∨ p) = True := by simp
attribute [go_sem] take_len le_self tr_or om_some om_none bo_ff bo_tf bo_ft dc_true dc_false
theorem rep_0 {α : Type _} {a : α} : List.replicate 0 a = [] := id rfl
theorem rep_1 {α : Type _} {a : α} : List.replicate 1 a = [a] := id rfl
theorem rep_2 {α : Type _} {a : α} : List.replicate 2 a = [a, a] := id rfl
theorem rep_3 {α : Type _} {a : α} : List.replicate 3 a = [a, a, a] := id rfl
theorem rep_4 {α : Type _} {a : α} : List.replicate 4 a = [a, a, a, a] := id rfl
theorem rep_5 {α : Type _} {a : α} : List.replicate 5 a = [a, a, a, a, a] := id rfl
theorem rep_6 {α : Type _} {a : α} : List.replicate 6 a = [a, a, a, a, a, a] := id rfl
theorem rep_7 {α : Type _} {a : α} : List.replicate 7 a = [a, a, a, a, a, a, a] := id rfl
theorem rep_8 {α : Type _} {a : α} : List.replicate 8 a = [a, a, a, a, a, a, a, a] := id rfl
attribute [go_sem] rep_3 rep_4 rep_5 rep_6 rep_7 rep_8
theorem flat_nil {α : Type _} : ([] : List (List α)).flatten = [] := id rfl
theorem flat_cons {α : Type _} {a : List α} {r : List (List α)} : (a :: r).flatten = a ++ r.flatten := id rfl
attribute [go_sem] rep_0 rep_1 rep_2 flat_nil flat_cons
theorem linD_done : linD .done = true := id rfl
theorem linD_stop : linD .stop = true := id rfl
theorem linD_held {o : LO} {t : DT} : linD (.held o t) = linD t := id rfl
theorem linD_one {o : LO} {t : DT} : linD (.alt o t .stop) = linD t := id rfl
theorem linD_two {o o2 : LO} {t t2 r2 : DT} : linD (.alt o t (.alt o2 t2 r2)) = false := id rfl
attribute [go_sem] linD_done linD_stop linD_held linD_one linD_two
theorem true_imp (p : Prop) : (True → p) = p := by simp
theorem false_imp (p : Prop) : (False → p) = True := by simp
theorem tt_imp (p : Prop) : (true = true → p) = p := by simp
theorem ff_imp (p : Prop) : (false = false → p) = p := by simp
theorem tf_imp (p : Prop) : (true = false → p) = True := by simp
theorem ft_imp (p : Prop) : (false = true → p) = True := by simp
theorem wrap_id {n : Int} (h1 : -9223372036854775808 ≤ n) (h2 : n ≤ 9223372036854775807) : wr .i64 n = n := by rw [wr_eq, IntKind.wrap_i64]; omega
theorem fill_set {α : Type} (xs : List α) (d z : α) (k : Nat) (h : k < xs.length) : (xs.take k ++ List.replicate (xs.length - k) z).set k (xs.getD k d) = xs.take (k + 1) ++ List.replicate (xs.length - (k + 1)) z := by
  apply List.ext_getElem?
  intro i
  simp only [List.getElem?_set, List.getElem?_append, List.length_append, List.length_take, List.length_replicate, List.getElem?_take, List.getElem?_replicate]
  have h1 : min k xs.length = k := by omega
  have h2 : min (k + 1) xs.length = k + 1 := by omega
  rw [h1, h2]
  by_cases e : k = i
  · subst e
    simp [h, List.getD, show k < k + (xs.length - k) by omega]
  · by_cases e2 : i < k
    · simp [e, e2, show i < k + 1 by omega]
    · simp [e, e2, show ¬ i < k + 1 by omega, show i - k < xs.length - k ↔ i - (k + 1) < xs.length - (k + 1) by omega]
theorem fill_len {α : Type} (xs : List α) (z : α) (k : Nat) (h : k ≤ xs.length) : (xs.take k ++ List.replicate (xs.length - k) z).length = xs.length := by simp; omega
theorem cast_succ (k : Nat) : (k : Int) + 1 = ((k + 1 : Nat) : Int) := by omega
attribute [go_sem] wrap_id List.all_cons List.all_nil Bool.and_true Bool.true_and List.contains_nil List.contains_cons true_imp false_imp tt_imp ff_imp tf_imp ft_imp Bool.not_true Bool.not_false and_true true_and and_false false_and Nat.zero_add Nat.add_zero Option.getD_some Option.getD_none
  if_true if_false List.map_cons List.map_nil List.length_cons List.length_nil List.drop_zero List.drop_succ_cons List.take_succ_cons List.take_zero List.take_nil List.drop_nil List.nil_append List.cons_append List.append_nil
  decide_eq_true_eq decide_eq_false_iff_not Bool.not_eq_true' Bool.not_eq_false' Bool.not_eq_eq_eq_not ne_eq not_true_eq_false not_false_eq_true forall_const Int.toNat_natCast List.append_nil
end Go.Proofs.YtnbfnpnephfjaaaE

/-! A row of calls, each with its row of legs, as it reads. -/
namespace Go.Proofs.YtnbfnpnephfjaaaE
open Go Go.RowKit
set_option linter.unusedSimpArgs false
set_option linter.unusedVariables false
set_option maxRecDepth 20000
def Ref.blk : Ref → Option Nat
  | .nil => none
  | .own b _ _ _ => some b
abbrev xr (xs : List (NR .call)) (i : Nat) : Ref := (xs.getD i (⟨⟨false, []⟩, .nil⟩ : NR .call)).r
/-- The row reads as these calls; each inner row is one call's alone. -/
structure Nst (xs : List (NR .call)) (es : Fam .call) (cs : List Cal) : Prop where
  len : xs.length = cs.length
  pk : ∀ i, (xs.getD i (⟨⟨false, []⟩, .nil⟩ : NR .call)).x.pk = (cs.getD i (⟨false, []⟩ : Cal)).pk
  legs : ∀ i, contR .call es (xr xs i) = (cs.getD i (⟨false, []⟩ : Cal)).legs
  ok : ∀ i, RefOk es (xr xs i)
  sep : ∀ i j b, (xr xs i).blk = some b → (xr xs j).blk = some b → i = j
theorem getD_out {α : Type} {l : List α} {i : Nat} {d : α} (h : l.length ≤ i) : l.getD i d = d := by simp [List.getD, List.getElem?_eq_none h]
theorem getD_in {α : Type} {l : List α} {i : Nat} {d : α} (h : i < l.length) : l.getD i d = l[i] := by simp [List.getD, h]
theorem cont_frame {es es' : Fam .call} {r : Ref} (h : ∀ b, r.blk = some b → es' b = es b) : contR .call es' r = contR .call es r := by
  cases r with
  | nil => rfl
  | own b o n c => simp only [contR, famG, h b rfl]
theorem ok_frame {es es' : Fam .call} {r : Ref} (h : ∀ b, r.blk = some b → es' b = es b) (ho : RefOk es r) : RefOk es' r := by
  cases r with
  | nil => trivial
  | own b o n c => simpa only [RefOk, h b rfl] using ho
theorem ok_some {es : Fam .call} {r : Ref} {b : Nat} (ho : RefOk es r) (hb : r.blk = some b) : es b ≠ none := by
  cases r with
  | nil => cases hb
  | own b' o n c => obtain ⟨zs, h, _⟩ := ho; cases hb; rw [h]; exact fun h => by cases h
theorem Nst.plain {xs : List (NR .call)} {es : Fam .call} {cs : List Cal} (h : Nst xs es cs) : plainN .call xs es [] = cs := by
  unfold plainN
  rw [List.append_nil]
  refine List.ext_getElem (by simpa using h.len) fun i h1 h2 => ?_
  rw [List.length_map] at h1
  have e1 := h.pk i; have e2 := h.legs i
  rw [getD_in h1, getD_in h2] at e1
  rw [xr, getD_in h1, getD_in h2] at e2
  rw [List.getElem_map]
  show (⟨(xs[i]).x.pk, contR .call es (xs[i]).r⟩ : Cal) = cs[i]
  rw [e1, e2]
theorem Nst.refs {xs : List (NR .call)} {es : Fam .call} {cs : List Cal} (h : Nst xs es cs) : refsOk xs es := by
  intro e he
  obtain ⟨i, hi, rfl⟩ := List.getElem_of_mem he
  have := h.ok i
  rwa [xr, getD_in hi] at this
theorem Nst.nil (es : Fam .call) : Nst [] es [] := ⟨rfl, fun _ => rfl, fun _ => rfl, fun _ => trivial, fun i j b h => by cases h⟩
theorem getD_set {α : Type} (l : List α) (i j : Nat) (x d : α) : (l.set j x).getD i d = if i = j ∧ j < l.length then x else l.getD i d := by
  simp only [List.getD, List.getElem?_set]
  by_cases h : j = i
  · subst h
    by_cases h2 : j < l.length <;> simp [h2]
  · simp [h, Ne.symm h]
/-- A call is put in another's place. -/
theorem Nst.upd {xs : List (NR .call)} {es es' : Fam .call} {cs : List Cal} (h : Nst xs es cs) {j : Nat} (hj : j < cs.length) {p : Bool} {l0 zs : List Lg} {r : Ref}
    (hf : ∀ i, i ≠ j → ∀ b, (xr xs i).blk = some b → es' b = es b) (hr : RefOk es' r) (hc : contR .call es' r = zs) (hs : ∀ i, i ≠ j → ∀ b, r.blk = some b → (xr xs i).blk ≠ some b) :
    Nst (xs.set j ⟨⟨p, l0⟩, r⟩) es' (cs.set j ⟨p, zs⟩) := by
  have hj2 : j < xs.length := by rw [h.len]; exact hj
  have key : ∀ i, xr (xs.set j ⟨⟨p, l0⟩, r⟩) i = if i = j then r else xr xs i := fun i => by
    unfold xr; rw [getD_set]; by_cases hi : i = j <;> simp [hi, hj2]
  refine ⟨by simpa using h.len, fun i => ?_, fun i => ?_, fun i => ?_, fun i k b h1 h2 => ?_⟩
  · rw [getD_set, getD_set]
    by_cases hi : i = j
    · rw [if_pos ⟨hi, hj2⟩, if_pos ⟨hi, hj⟩]
    · rw [if_neg (fun e => hi e.1), if_neg (fun e => hi e.1)]; exact h.pk i
  · rw [key, getD_set]
    by_cases hi : i = j
    · rw [if_pos hi, if_pos ⟨hi, hj⟩]; exact hc
    · rw [if_neg hi, if_neg (fun e => hi e.1), cont_frame (hf i hi)]; exact h.legs i
  · rw [key]
    by_cases hi : i = j
    · rw [if_pos hi]; exact hr
    · rw [if_neg hi]; exact ok_frame (hf i hi) (h.ok i)
  · rw [key] at h1 h2
    by_cases hi : i = j <;> by_cases hk : k = j
    · omega
    · rw [if_pos hi] at h1; rw [if_neg hk] at h2; exact absurd h2 (hs k hk b h1)
    · rw [if_neg hi] at h1; rw [if_pos hk] at h2; exact absurd h1 (hs i hi b h2)
    · rw [if_neg hi] at h1; rw [if_neg hk] at h2; exact h.sep i k b h1 h2
/-- What a row of legs of its own becomes when it is stored. -/
theorem abs_frame {xs : List (NR .call)} {es es' : Fam .call} {cs : List Cal} (h : Nst xs es cs) {zs : List Lg} {n : Nat} {r : Ref} (ha : Abs (t := .call) es zs n r es') :
    (∀ i b, (xr xs i).blk = some b → es' b = es b) ∧ RefOk es' r ∧ contR .call es' r = zs.take n ∧ ∀ i b, r.blk = some b → (xr xs i).blk ≠ some b := by
  rcases ha with ⟨rfl, rfl, rfl⟩ | ⟨b, o, c, rfl, hn, hl, hc, rfl⟩
  · exact ⟨fun _ _ _ => rfl, trivial, by simp [contR], fun i b h => by cases h⟩
  · refine ⟨fun i b' hb => ?_, ⟨zs, by simp [fput], hl⟩, by simp [contR, famG, fput], fun i b' hb hb2 => ?_⟩
    · simp only [fput]
      rw [if_neg]
      rintro rfl
      exact ok_some (h.ok i) hb hn
    · cases hb
      exact ok_some (h.ok i) hb2 hn
theorem Nst.setA {xs : List (NR .call)} {es es' : Fam .call} {cs : List Cal} (h : Nst xs es cs) {j : Nat} (hj : j < cs.length) {p : Bool} {l0 zs : List Lg} {n : Nat} {r : Ref} (ha : Abs (t := .call) es zs n r es') :
    Nst (xs.set j ⟨⟨p, l0⟩, r⟩) es' (cs.set j ⟨p, zs.take n⟩) := by
  obtain ⟨a1, a2, a3, a4⟩ := abs_frame h ha
  exact h.upd hj (fun i _ b => a1 i b) a2 a3 (fun i _ b => a4 i b)
/-- A call is put behind the others. -/
theorem Nst.push {xs : List (NR .call)} {es es' : Fam .call} {cs : List Cal} (h : Nst xs es cs) {p : Bool} {l0 zs : List Lg} {r : Ref}
    (hf : ∀ i b, (xr xs i).blk = some b → es' b = es b) (hr : RefOk es' r) (hc : contR .call es' r = zs) (hs : ∀ i b, r.blk = some b → (xr xs i).blk ≠ some b) :
    Nst (xs ++ [⟨⟨p, l0⟩, r⟩]) es' (cs ++ [⟨p, zs⟩]) := by
  have happ : ∀ {α : Type} (l : List α) (x d : α) (i : Nat), (l ++ [x]).getD i d = if i = l.length then x else l.getD i d := fun l x d i => by
    simp only [List.getD, List.getElem?_append]
    by_cases h1 : i < l.length
    · rw [if_pos h1, if_neg (by omega)]
    · rw [if_neg h1]
      by_cases h2 : i = l.length
      · simp [h2]
      · rw [if_neg h2, List.getElem?_eq_none (by simp; omega), List.getElem?_eq_none (by omega)]
  have key : ∀ i, xr (xs ++ [⟨⟨p, l0⟩, r⟩]) i = if i = cs.length then r else xr xs i := fun i => by
    unfold xr; rw [happ, h.len]; split <;> rfl
  refine ⟨by simpa using h.len, fun i => ?_, fun i => ?_, fun i => ?_, fun i k b h1 h2 => ?_⟩
  · rw [happ, happ, h.len]; split
    · rfl
    · exact h.pk i
  · rw [key, happ]; split
    · exact hc
    · rw [cont_frame (hf i)]; exact h.legs i
  · rw [key]; split
    · exact hr
    · exact ok_frame (hf i) (h.ok i)
  · rw [key] at h1 h2
    by_cases hi : i = cs.length <;> by_cases hk : k = cs.length
    · omega
    · rw [if_pos hi] at h1; rw [if_neg hk] at h2; exact absurd h2 (hs k b h1)
    · rw [if_neg hi] at h1; rw [if_pos hk] at h2; exact absurd h1 (hs i b h2)
    · rw [if_neg hi] at h1; rw [if_neg hk] at h2; exact h.sep i k b h1 h2
theorem Nst.pushA {xs : List (NR .call)} {es es' : Fam .call} {cs : List Cal} (h : Nst xs es cs) {p : Bool} {l0 zs : List Lg} {n : Nat} {r : Ref} (ha : Abs (t := .call) es zs n r es') :
    Nst (xs ++ [⟨⟨p, l0⟩, r⟩]) es' (cs ++ [⟨p, zs.take n⟩]) := by
  obtain ⟨a1, a2, a3, a4⟩ := abs_frame h ha
  exact h.push a1 a2 a3 a4
/-- Zeros. -/
theorem Nst.zero (n : Nat) (es : Fam .call) : Nst (List.replicate n (⟨⟨false, []⟩, .nil⟩ : NR .call)) es (List.replicate n (⟨false, []⟩ : Cal)) := by
  have key : ∀ i, (List.replicate n (⟨⟨false, []⟩, .nil⟩ : NR .call)).getD i (⟨⟨false, []⟩, .nil⟩ : NR .call) = (⟨⟨false, []⟩, .nil⟩ : NR .call) := fun i => by
    by_cases h : i < n
    · rw [getD_in (by simpa using h)]; simp
    · exact getD_out (by simp; omega)
  have key2 : ∀ i, (List.replicate n (⟨false, []⟩ : Cal)).getD i (⟨false, []⟩ : Cal) = (⟨false, []⟩ : Cal) := fun i => by
    by_cases h : i < n
    · rw [getD_in (by simpa using h)]; simp
    · exact getD_out (by simp; omega)
  refine ⟨by simp, fun i => ?_, fun i => ?_, fun i => ?_, fun i k b h1 h2 => ?_⟩
  · rw [key, key2]
  · rw [xr, key, key2]; rfl
  · rw [xr, key]; trivial
  · rw [xr, key] at h1; cases h1
/-- A part of the row: the places that f tells. -/
theorem Nst.part {xs xs' : List (NR .call)} {es : Fam .call} {cs cs' : List Cal} (h : Nst xs es cs) (hl : xs'.length = cs'.length) (f : Nat → Nat) (hf : ∀ i j, i < cs'.length → j < cs'.length → f i = f j → i = j)
    (h1 : ∀ i, i < cs'.length → xs'.getD i (⟨⟨false, []⟩, .nil⟩ : NR .call) = xs.getD (f i) (⟨⟨false, []⟩, .nil⟩ : NR .call)) (h2 : ∀ i, i < cs'.length → cs'.getD i (⟨false, []⟩ : Cal) = cs.getD (f i) (⟨false, []⟩ : Cal)) : Nst xs' es cs' := by
  refine ⟨hl, fun i => ?_, fun i => ?_, fun i => ?_, fun i k b e1 e2 => ?_⟩
  · by_cases hi : i < cs'.length
    · rw [h1 i hi, h2 i hi]; exact h.pk _
    · rw [getD_out (by omega), getD_out (by omega)]
  · by_cases hi : i < cs'.length
    · rw [xr, h1 i hi, h2 i hi]; exact h.legs _
    · rw [xr, getD_out (by omega), getD_out (by omega)]; rfl
  · by_cases hi : i < cs'.length
    · rw [xr, h1 i hi]; exact h.ok _
    · rw [xr, getD_out (by omega)]; trivial
  · by_cases hi : i < cs'.length
    · by_cases hk : k < cs'.length
      · rw [xr, h1 i hi] at e1; rw [xr, h1 k hk] at e2; exact hf i k hi hk (h.sep _ _ b e1 e2)
      · rw [xr, getD_out (by omega)] at e2; cases e2
    · rw [xr, getD_out (by omega)] at e1; cases e1
theorem Nst.take {xs : List (NR .call)} {es : Fam .call} {cs : List Cal} (h : Nst xs es cs) (k : Nat) : Nst (xs.take k) es (cs.take k) := by
  have hl := h.len
  refine h.part (by simp [hl]) id (fun i j _ _ e => e) (fun i hi => ?_) (fun i hi => ?_)
  · rw [List.length_take] at hi
    simp only [id, List.getD, List.getElem?_take]; rw [if_pos (by omega)]
  · rw [List.length_take] at hi
    simp only [id, List.getD, List.getElem?_take]; rw [if_pos (by omega)]
theorem Nst.erase {xs : List (NR .call)} {es : Fam .call} {cs : List Cal} (h : Nst xs es cs) {k : Nat} (hk : k < cs.length) : Nst (xs.take k ++ xs.drop (k + 1)) es (cs.take k ++ cs.drop (k + 1)) := by
  have hl := h.len
  have key : ∀ {α : Type} (l : List α) (d : α), l.length = cs.length → ∀ i, (l.take k ++ l.drop (k + 1)).getD i d = l.getD (if i < k then i else i + 1) d := fun l d e i => by
    simp only [List.getD, List.getElem?_append, List.length_take]
    split
    · rw [if_pos (by omega), List.getElem?_take, if_pos (by omega)]
    · rw [if_neg (by omega), List.getElem?_drop]
      congr 2; omega
  refine h.part (by simp [hl]) (fun i => if i < k then i else i + 1) (fun i j _ _ e => by grind) (fun i hi => key _ _ hl i) (fun i hi => key _ _ rfl i)
theorem Nst.tk {xs : List (NR .call)} {es : Fam .call} {cs : List Cal} (h : Nst xs es cs) : List.take cs.length (plainN .call xs es []) = cs := by rw [h.plain, List.take_length]
theorem Nst.le {xs : List (NR .call)} {es : Fam .call} {cs : List Cal} (h : Nst xs es cs) : cs.length ≤ xs.length := by rw [h.len]; exact Nat.le_refl _
theorem Nst.own {xs : List (NR .call)} {es : Fam .call} {cs : List Cal} (h : Nst xs es cs) {j b o n c : Nat} (hr : xr xs j = .own b o n c) : ∃ zs, es b = some (o, c, zs) ∧ n ≤ zs.length ∧ zs.take n = (cs.getD j (⟨false, []⟩ : Cal)).legs := by
  have h1 := h.ok j
  have h2 := h.legs j
  rw [hr] at h1 h2
  obtain ⟨zs, e, hn⟩ := h1
  refine ⟨zs, e, hn, ?_⟩
  rw [← h2]
  simp only [contR, famG, e]
theorem Nst.nilL {xs : List (NR .call)} {es : Fam .call} {cs : List Cal} (h : Nst xs es cs) {j : Nat} (hr : xr xs j = .nil) : (cs.getD j (⟨false, []⟩ : Cal)).legs = [] := by
  have h2 := h.legs j
  rw [hr] at h2
  exact h2.symm
theorem fput_ne {es : Fam .call} {b b' : Nat} {y : Nat × Nat × List Lg} (h : b' ≠ b) : fput es b y b' = es b' := by simp [fput, h]
/-- A call's legs are changed where they lie. -/
theorem Nst.inn {xs : List (NR .call)} {es : Fam .call} {cs : List Cal} (h : Nst xs es cs) {j : Nat} (hj : j < cs.length) {b o n c n' c' : Nat} (hr : xr xs j = .own b o n c) {p : Bool} {l0 zs' : List Lg} (hn : n' ≤ zs'.length) :
    Nst (xs.set j ⟨⟨p, l0⟩, .own b o n' c'⟩) (fput es b (o, c', zs')) (cs.set j ⟨p, zs'.take n'⟩) := by
  have hb : (xr xs j).blk = some b := by rw [hr]; rfl
  refine h.upd hj (fun i hi b' hb' => fput_ne fun e => hi (h.sep i j b (e ▸ hb') hb)) ⟨zs', by simp [fput], hn⟩ (by simp [contR, famG, fput]) (fun i hi b' hb' hb2 => ?_)
  cases hb'
  exact hi (h.sep i j b hb2 hb)
theorem Nst.inn0 {xs : List (NR .call)} {es : Fam .call} {cs : List Cal} (h : Nst xs es cs) {j : Nat} (hj : j < cs.length) {b o n c : Nat} (hr : xr xs j = .own b o n c) {zs' : List Lg} (hn : n ≤ zs'.length) :
    Nst xs (fput es b (o, c, zs')) (cs.set j ⟨(cs.getD j (⟨false, []⟩ : Cal)).pk, zs'.take n⟩) := by
  have h1 := h.inn hj hr (c' := c) (p := (cs.getD j (⟨false, []⟩ : Cal)).pk) (l0 := (xs.getD j (⟨⟨false, []⟩, .nil⟩ : NR .call)).x.legs) hn
  have e : (⟨⟨(cs.getD j (⟨false, []⟩ : Cal)).pk, (xs.getD j (⟨⟨false, []⟩, .nil⟩ : NR .call)).x.legs⟩, .own b o n c⟩ : NR .call) = xs.getD j (⟨⟨false, []⟩, .nil⟩ : NR .call) := by
    rw [← h.pk j, ← hr]
  have hj2 : j < xs.length := by rw [h.len]; exact hj
  rw [e, getD_in hj2, List.set_getElem_self] at h1
  exact h1
/-- Only what stands at the head is changed. -/
theorem Nst.head {xs : List (NR .call)} {es : Fam .call} {cs : List Cal} (h : Nst xs es cs) {j : Nat} (hj : j < cs.length) {p : Bool} {l0 : List Lg} :
    Nst (xs.set j ⟨⟨p, l0⟩, xr xs j⟩) es (cs.set j ⟨p, (cs.getD j (⟨false, []⟩ : Cal)).legs⟩) :=
  h.upd hj (fun _ _ _ _ => rfl) (h.ok j) (h.legs j) (fun i hi b hb hb2 => hi (h.sep i j b hb2 hb))

end Go.Proofs.YtnbfnpnephfjaaaE

/-! The code of a function, in the engine's words. -/
namespace Go.Proofs.YtnbfnpnephfjaaaE
open Go Go.RowKit
@[reducible] def ic48 : IC := (.seq (.ops [⟨some 6, .mov (.const (.bool false)), none⟩]) (.seq (.ops [⟨some 7, .mov (.tmp 0), none⟩, ⟨some 8, .mov (.tmp 1), none⟩, ⟨some 9, .bin .geq (.tmp 7) (.tmp 8), none⟩, ⟨some 10, .mov (.tmp 9), none⟩, ⟨some 11, .mov (.tmp 0), some (10, true)⟩, ⟨some 12, .mov (.tmp 2), some (10, true)⟩, ⟨some 13, .bin .leq (.tmp 11) (.tmp 12), some (10, true)⟩, ⟨some 14, .pick (.tmp 10) (.tmp 13) (.const (.bool false)), none⟩, ⟨some 6, .mov (.tmp 14), none⟩]) .ret))
@[reducible] def rv48 : List RV := [.tmp 6]
theorem low48 : lowC Try.prog tau Try.f48.ntmps (Try.f48.body.getD .skip) = some (erase ic48) := by kernel_rfl
theorem res48 : lowR Try.prog Try.f48.results.toList = some rv48 := by kernel_rfl
theorem bod48 : Try.f48.body = some (Try.f48.body.getD .skip) := by kernel_rfl
theorem cal48 : callable Try.prog 48 = true := by kernel_rfl

end Go.Proofs.YtnbfnpnephfjaaaE

/-! The code of a function, in the engine's words. -/
namespace Go.Proofs.YtnbfnpnephfjaaaE
open Go Go.RowKit
@[reducible] def ic50 : IC := (.seq (.ops [⟨some 6, .mov (.const (.bool false)), none⟩]) (.seq (.ops [⟨some 7, .mov (.tmp 0), none⟩, ⟨some 8, .mov (.tmp 1), none⟩, ⟨some 9, .bin .geq (.tmp 7) (.tmp 8), none⟩, ⟨some 10, .mov (.tmp 9), none⟩, ⟨some 11, .mov (.tmp 0), some (10, true)⟩, ⟨some 12, .mov (.tmp 2), some (10, true)⟩, ⟨some 13, .bin .leq (.tmp 11) (.tmp 12), some (10, true)⟩, ⟨some 14, .pick (.tmp 10) (.tmp 13) (.const (.bool false)), none⟩, ⟨some 6, .mov (.tmp 14), none⟩]) .ret))
@[reducible] def rv50 : List RV := [.tmp 6]
theorem low50 : lowC Try.prog tau Try.f50.ntmps (Try.f50.body.getD .skip) = some (erase ic50) := by kernel_rfl
theorem res50 : lowR Try.prog Try.f50.results.toList = some rv50 := by kernel_rfl
theorem bod50 : Try.f50.body = some (Try.f50.body.getD .skip) := by kernel_rfl
theorem cal50 : callable Try.prog 50 = true := by kernel_rfl

end Go.Proofs.YtnbfnpnephfjaaaE

/-! The code of a function, in the engine's words. -/
namespace Go.Proofs.YtnbfnpnephfjaaaE
open Go Go.RowKit
@[reducible] def ic93 : IC := (.seq (.ops [⟨some 4, .mov (.const (.int .i64 0)), none⟩]) (.seq (.ops [⟨some 5, .mov (.tmp 1), none⟩, ⟨some 6, .mov (.tmp 0), none⟩, ⟨some 7, .len (.tmp 6), none⟩, ⟨some 8, .bin .sub (.tmp 5) (.tmp 7), none⟩, ⟨some 1, .mov (.tmp 8), none⟩]) (.seq (.seq (.ops [⟨some 9, .mov (.tmp 1), none⟩, ⟨some 10, .bin .lss (.tmp 9) (.const (.int .i64 0)), none⟩]) (.cond (.tmp 10) (.seq (.ops [⟨some 4, .mov (.const (.int .i64 (-1))), none⟩]) .ret) .skip)) (.seq (.ops [⟨some 11, .mov (.tmp 1), none⟩, ⟨some 4, .mov (.tmp 11), none⟩]) .ret))))
@[reducible] def rv93 : List RV := [.tmp 4]
theorem low93 : lowC Try.prog tau Try.f93.ntmps (Try.f93.body.getD .skip) = some (erase ic93) := by kernel_rfl
theorem res93 : lowR Try.prog Try.f93.results.toList = some rv93 := by kernel_rfl
theorem bod93 : Try.f93.body = some (Try.f93.body.getD .skip) := by kernel_rfl
theorem cal93 : callable Try.prog 93 = true := by kernel_rfl

end Go.Proofs.YtnbfnpnephfjaaaE

/-! The code of a function, in the engine's words. -/
namespace Go.Proofs.YtnbfnpnephfjaaaE
open Go Go.RowKit
@[reducible] def ic81 : IC := (.seq (.ops [⟨some 2, .box (.tmp 0), none⟩, ⟨some 4, .mov (.const (.int .i64 0)), none⟩]) (.seq (.ops [⟨some 5, .fadr 1 (.tmp 2), none⟩, ⟨some 6, .load 1 false (.tmp 5), none⟩, ⟨some 7, .mov (.tmp 1), none⟩, ⟨some 8, .call 93 [(.tmp 6), (.tmp 7)], none⟩, ⟨some 1, .mov (.tmp 8), none⟩]) (.seq (.seq (.ops [⟨some 9, .mov (.tmp 1), none⟩, ⟨some 10, .bin .lss (.tmp 9) (.const (.int .i64 0)), none⟩]) (.cond (.tmp 10) (.seq (.ops [⟨some 4, .mov (.const (.int .i64 (-1))), none⟩]) .ret) .skip)) (.seq (.ops [⟨some 11, .mov (.tmp 1), none⟩, ⟨some 4, .mov (.tmp 11), none⟩]) .ret))))
@[reducible] def rv81 : List RV := [.tmp 4]
theorem low81 : lowC Try.prog tau Try.f81.ntmps (Try.f81.body.getD .skip) = some (erase ic81) := by kernel_rfl
theorem res81 : lowR Try.prog Try.f81.results.toList = some rv81 := by kernel_rfl
theorem bod81 : Try.f81.body = some (Try.f81.body.getD .skip) := by kernel_rfl
theorem cal81 : callable Try.prog 81 = true := by kernel_rfl

end Go.Proofs.YtnbfnpnephfjaaaE

/-! The code of a function, in the engine's words. -/
namespace Go.Proofs.YtnbfnpnephfjaaaE
open Go Go.RowKit
@[reducible] def ic47 : IC := (.seq (.ops [⟨some 4, .mov (.const (.int .i64 0)), none⟩]) (.seq (.ops [⟨some 6, .mov (.tmp 1), none⟩, ⟨some 7, .mov (.tmp 0), none⟩, ⟨some 8, .len (.tmp 7), none⟩, ⟨some 9, .bin .sub (.tmp 6) (.tmp 8), none⟩, ⟨some 1, .mov (.tmp 9), none⟩]) (.seq (.seq (.ops [⟨some 10, .mov (.tmp 1), none⟩, ⟨some 11, .bin .lss (.tmp 10) (.const (.int .i64 0)), none⟩]) (.cond (.tmp 11) (.seq (.ops [⟨some 4, .mov (.const (.int .i64 (-1))), none⟩]) .ret) .skip)) (.seq (.seq (.ops [⟨some 5, .mov (.const (.int .i64 0)), none⟩]) (.block 0 (.loop (.seq (.seq (.ops [⟨some 12, .mov (.tmp 5), none⟩, ⟨some 13, .mov (.tmp 0), none⟩, ⟨some 14, .len (.tmp 13), none⟩, ⟨some 15, .bin .lss (.tmp 12) (.tmp 14), none⟩]) (.cond (.tmp 15) .skip (.exit 0))) (.seq (.block 1 (.seq (.ops [⟨some 18, .mov (.tmp 0), none⟩, ⟨some 19, .mov (.tmp 5), none⟩, ⟨some 20, .iadr 2 (.tmp 18) (.tmp 19), none⟩, ⟨some 21, .load 2 true (.tmp 20), none⟩, ⟨some 22, .mov (.tmp 1), none⟩, ⟨some 23, .call 81 [(.tmp 21), (.tmp 22)], none⟩, ⟨some 1, .mov (.tmp 23), none⟩]) (.seq (.ops [⟨some 24, .mov (.tmp 1), none⟩, ⟨some 25, .bin .lss (.tmp 24) (.const (.int .i64 0)), none⟩]) (.cond (.tmp 25) (.seq (.ops [⟨some 4, .mov (.const (.int .i64 (-1))), none⟩]) .ret) .skip)))) (.ops [⟨some 16, .mov (.tmp 5), none⟩, ⟨some 17, .bin .add (.tmp 16) (.const (.int .i64 1)), none⟩, ⟨some 5, .mov (.tmp 17), none⟩])))))) (.seq (.ops [⟨some 26, .mov (.tmp 1), none⟩, ⟨some 4, .mov (.tmp 26), none⟩]) .ret)))))
@[reducible] def rv47 : List RV := [.tmp 4]
theorem low47 : lowC Try.prog tau Try.f47.ntmps (Try.f47.body.getD .skip) = some (erase ic47) := by kernel_rfl
theorem res47 : lowR Try.prog Try.f47.results.toList = some rv47 := by kernel_rfl
theorem bod47 : Try.f47.body = some (Try.f47.body.getD .skip) := by kernel_rfl
theorem cal47 : callable Try.prog 47 = true := by kernel_rfl

end Go.Proofs.YtnbfnpnephfjaaaE

/-! The code of a function, in the engine's words. -/
namespace Go.Proofs.YtnbfnpnephfjaaaE
open Go Go.RowKit
@[reducible] def ic13 : IC := (.seq (.ops [⟨some 2, .box (.tmp 0), none⟩, ⟨some 4, .mov (.const (.int .i64 0)), none⟩]) (.seq (.ops [⟨some 5, .fadr 1 (.tmp 2), none⟩, ⟨some 6, .load 1 false (.tmp 5), none⟩, ⟨some 7, .mov (.tmp 1), none⟩, ⟨some 8, .call 47 [(.tmp 6), (.tmp 7)], none⟩, ⟨some 1, .mov (.tmp 8), none⟩]) (.seq (.seq (.ops [⟨some 9, .mov (.tmp 1), none⟩, ⟨some 10, .bin .lss (.tmp 9) (.const (.int .i64 0)), none⟩]) (.cond (.tmp 10) (.seq (.ops [⟨some 4, .mov (.const (.int .i64 (-1))), none⟩]) .ret) .skip)) (.seq (.ops [⟨some 11, .mov (.tmp 1), none⟩, ⟨some 4, .mov (.tmp 11), none⟩]) .ret))))
@[reducible] def rv13 : List RV := [.tmp 4]
theorem low13 : lowC Try.prog tau Try.f13.ntmps (Try.f13.body.getD .skip) = some (erase ic13) := by kernel_rfl
theorem res13 : lowR Try.prog Try.f13.results.toList = some rv13 := by kernel_rfl
theorem bod13 : Try.f13.body = some (Try.f13.body.getD .skip) := by kernel_rfl
theorem cal13 : callable Try.prog 13 = true := by kernel_rfl

end Go.Proofs.YtnbfnpnephfjaaaE

/-! The code of a function, in the engine's words. -/
namespace Go.Proofs.YtnbfnpnephfjaaaE
open Go Go.RowKit
@[reducible] def ic107 : IC := (.seq (.ops [⟨some 1, .box (.tmp 0), none⟩, ⟨some 2, .new [(.int .i64 0), (.bool false)], none⟩]) (.seq (.ops [⟨some 3, .new [(.int .i64 0), (.bool false)], none⟩]) (.seq (.ops [⟨some 4, .fadr 0 (.tmp 1), none⟩, ⟨some 5, .load 1 false (.tmp 4), none⟩, ⟨some 6, .fadr 0 (.tmp 3), none⟩, ⟨none, .store 1 (.tmp 6) (.tmp 5), none⟩]) (.seq (.ops [⟨some 7, .fadr 1 (.tmp 1), none⟩, ⟨some 8, .load 1 false (.tmp 7), none⟩, ⟨some 9, .fadr 1 (.tmp 3), none⟩, ⟨none, .store 1 (.tmp 9) (.tmp 8), none⟩]) (.seq (.ops [⟨some 10, .load 2 true (.tmp 3), none⟩, ⟨none, .store 2 (.tmp 2) (.tmp 10), none⟩]) .ret)))))
@[reducible] def rv107 : List RV := [.cell 2 2 true]
theorem low107 : lowC Try.prog tau Try.f107.ntmps (Try.f107.body.getD .skip) = some (erase ic107) := by kernel_rfl
theorem res107 : lowR Try.prog Try.f107.results.toList = some rv107 := by kernel_rfl
theorem bod107 : Try.f107.body = some (Try.f107.body.getD .skip) := by kernel_rfl
theorem cal107 : callable Try.prog 107 = true := by kernel_rfl

end Go.Proofs.YtnbfnpnephfjaaaE

/-! The code of a function, in the engine's words. -/
namespace Go.Proofs.YtnbfnpnephfjaaaE
open Go Go.RowKit
@[reducible] def ic94 : IC := (.seq (.ops [⟨some 2, .mov (.const (.slice none 0 0)), none⟩]) (.seq (.ops [⟨some 5, .mov (.tmp 0), none⟩, ⟨some 6, .len (.tmp 5), none⟩, ⟨some 7, .mk .leg 16 (.tmp 6) (.tmp 6), none⟩, ⟨some 3, .mov (.tmp 7), none⟩]) (.seq (.seq (.ops [⟨some 4, .mov (.const (.int .i64 0)), none⟩]) (.block 0 (.loop (.seq (.seq (.ops [⟨some 8, .mov (.tmp 4), none⟩, ⟨some 9, .mov (.tmp 0), none⟩, ⟨some 10, .len (.tmp 9), none⟩, ⟨some 11, .bin .lss (.tmp 8) (.tmp 10), none⟩]) (.cond (.tmp 11) .skip (.exit 0))) (.seq (.block 1 (.ops [⟨some 14, .mov (.tmp 3), none⟩, ⟨some 15, .mov (.tmp 4), none⟩, ⟨some 16, .mov (.tmp 0), none⟩, ⟨some 17, .mov (.tmp 4), none⟩, ⟨some 18, .iadr 2 (.tmp 16) (.tmp 17), none⟩, ⟨some 19, .load 2 true (.tmp 18), none⟩, ⟨some 20, .call 107 [(.tmp 19)], none⟩, ⟨some 21, .iadr 2 (.tmp 14) (.tmp 15), none⟩, ⟨none, .store 2 (.tmp 21) (.tmp 20), none⟩])) (.ops [⟨some 12, .mov (.tmp 4), none⟩, ⟨some 13, .bin .add (.tmp 12) (.const (.int .i64 1)), none⟩, ⟨some 4, .mov (.tmp 13), none⟩])))))) (.seq (.ops [⟨some 22, .mov (.tmp 3), none⟩, ⟨some 2, .mov (.tmp 22), none⟩]) .ret))))
@[reducible] def rv94 : List RV := [.tmp 2]
theorem low94 : lowC Try.prog tau Try.f94.ntmps (Try.f94.body.getD .skip) = some (erase ic94) := by kernel_rfl
theorem res94 : lowR Try.prog Try.f94.results.toList = some rv94 := by kernel_rfl
theorem bod94 : Try.f94.body = some (Try.f94.body.getD .skip) := by kernel_rfl
theorem cal94 : callable Try.prog 94 = true := by kernel_rfl

end Go.Proofs.YtnbfnpnephfjaaaE

/-! The code of a function, in the engine's words. -/
namespace Go.Proofs.YtnbfnpnephfjaaaE
open Go Go.RowKit
@[reducible] def ic82 : IC := (.seq (.ops [⟨some 1, .box (.tmp 0), none⟩, ⟨some 2, .new [(.bool false), (.slice none 0 0)], none⟩]) (.seq (.ops [⟨some 3, .new [(.bool false), (.slice none 0 0)], none⟩]) (.seq (.ops [⟨some 4, .fadr 0 (.tmp 1), none⟩, ⟨some 5, .load 1 false (.tmp 4), none⟩, ⟨some 6, .fadr 0 (.tmp 3), none⟩, ⟨none, .store 1 (.tmp 6) (.tmp 5), none⟩]) (.seq (.ops [⟨some 7, .fadr 1 (.tmp 1), none⟩, ⟨some 8, .load 1 false (.tmp 7), none⟩, ⟨some 9, .call 94 [(.tmp 8)], none⟩, ⟨some 10, .fadr 1 (.tmp 3), none⟩, ⟨none, .store 1 (.tmp 10) (.tmp 9), none⟩]) (.seq (.ops [⟨some 11, .load 2 true (.tmp 3), none⟩, ⟨none, .store 2 (.tmp 2) (.tmp 11), none⟩]) .ret)))))
@[reducible] def rv82 : List RV := [.cell 2 2 true]
theorem low82 : lowC Try.prog tau Try.f82.ntmps (Try.f82.body.getD .skip) = some (erase ic82) := by kernel_rfl
theorem res82 : lowR Try.prog Try.f82.results.toList = some rv82 := by kernel_rfl
theorem bod82 : Try.f82.body = some (Try.f82.body.getD .skip) := by kernel_rfl
theorem cal82 : callable Try.prog 82 = true := by kernel_rfl

end Go.Proofs.YtnbfnpnephfjaaaE

/-! The code of a function, in the engine's words. -/
namespace Go.Proofs.YtnbfnpnephfjaaaE
open Go Go.RowKit
@[reducible] def ic108 : IC := (.seq (.ops [⟨some 2, .box (.tmp 0), none⟩, ⟨some 3, .box (.tmp 1), none⟩, ⟨some 4, .mov (.const (.bool false)), none⟩]) (.seq (.seq (.ops [⟨some 5, .fadr 0 (.tmp 2), none⟩, ⟨some 6, .load 1 false (.tmp 5), none⟩, ⟨some 7, .fadr 0 (.tmp 3), none⟩, ⟨some 8, .load 1 false (.tmp 7), none⟩, ⟨some 9, .bin .neq (.tmp 6) (.tmp 8), none⟩]) (.cond (.tmp 9) (.seq (.ops [⟨some 4, .mov (.const (.bool false)), none⟩]) .ret) .skip)) (.seq (.seq (.ops [⟨some 10, .fadr 1 (.tmp 2), none⟩, ⟨some 11, .load 1 false (.tmp 10), none⟩, ⟨some 12, .fadr 1 (.tmp 3), none⟩, ⟨some 13, .load 1 false (.tmp 12), none⟩, ⟨some 14, .beq true (.tmp 11) (.tmp 13), none⟩]) (.cond (.tmp 14) (.seq (.ops [⟨some 4, .mov (.const (.bool false)), none⟩]) .ret) .skip)) (.seq (.ops [⟨some 4, .mov (.const (.bool true)), none⟩]) .ret))))
@[reducible] def rv108 : List RV := [.tmp 4]
theorem low108 : lowC Try.prog tau Try.f108.ntmps (Try.f108.body.getD .skip) = some (erase ic108) := by kernel_rfl
theorem res108 : lowR Try.prog Try.f108.results.toList = some rv108 := by kernel_rfl
theorem bod108 : Try.f108.body = some (Try.f108.body.getD .skip) := by kernel_rfl
theorem cal108 : callable Try.prog 108 = true := by kernel_rfl

end Go.Proofs.YtnbfnpnephfjaaaE

/-! The code of a function, in the engine's words. -/
namespace Go.Proofs.YtnbfnpnephfjaaaE
open Go Go.RowKit
@[reducible] def ic95 : IC := (.seq (.ops [⟨some 4, .mov (.const (.bool false)), none⟩]) (.seq (.seq (.ops [⟨some 6, .mov (.tmp 0), none⟩, ⟨some 7, .len (.tmp 6), none⟩, ⟨some 8, .mov (.tmp 1), none⟩, ⟨some 9, .len (.tmp 8), none⟩, ⟨some 10, .bin .neq (.tmp 7) (.tmp 9), none⟩]) (.cond (.tmp 10) (.seq (.ops [⟨some 4, .mov (.const (.bool false)), none⟩]) .ret) .skip)) (.seq (.seq (.ops [⟨some 5, .mov (.const (.int .i64 0)), none⟩]) (.block 0 (.loop (.seq (.seq (.ops [⟨some 11, .mov (.tmp 5), none⟩, ⟨some 12, .mov (.tmp 0), none⟩, ⟨some 13, .len (.tmp 12), none⟩, ⟨some 14, .bin .lss (.tmp 11) (.tmp 13), none⟩]) (.cond (.tmp 14) .skip (.exit 0))) (.seq (.block 1 (.seq (.draw [⟨some 17, .mov (.tmp 0), none⟩, ⟨some 18, .mov (.tmp 5), none⟩, ⟨some 19, .iadr 2 (.tmp 17) (.tmp 18), none⟩, ⟨some 20, .load 2 true (.tmp 19), none⟩, ⟨some 21, .mov (.tmp 1), none⟩, ⟨some 22, .mov (.tmp 5), none⟩, ⟨some 23, .iadr 2 (.tmp 21) (.tmp 22), none⟩, ⟨some 24, .load 2 true (.tmp 23), none⟩, ⟨some 25, .call 108 [(.tmp 20), (.tmp 24)], none⟩, ⟨some 26, .una .not (.tmp 25), none⟩] (.held ⟨some 17, .mov (.tmp 0), none⟩ (.held ⟨some 18, .mov (.tmp 5), none⟩ (.held ⟨some 19, .iadr 2 (.tmp 17) (.tmp 18), none⟩ (.held ⟨some 20, .load 2 true (.tmp 19), none⟩ (.held ⟨some 21, .mov (.tmp 1), none⟩ (.held ⟨some 22, .mov (.tmp 5), none⟩ (.held ⟨some 23, .iadr 2 (.tmp 21) (.tmp 22), none⟩ (.held ⟨some 24, .load 2 true (.tmp 23), none⟩ (.alt ⟨some 25, .call 108 [(.tmp 20), (.tmp 24)], none⟩ (.held ⟨some 26, .una .not (.tmp 25), none⟩ .done) .stop)))))))))) (.cond (.tmp 26) (.seq (.ops [⟨some 4, .mov (.const (.bool false)), none⟩]) .ret) .skip))) (.ops [⟨some 15, .mov (.tmp 5), none⟩, ⟨some 16, .bin .add (.tmp 15) (.const (.int .i64 1)), none⟩, ⟨some 5, .mov (.tmp 16), none⟩])))))) (.seq (.ops [⟨some 4, .mov (.const (.bool true)), none⟩]) .ret))))
@[reducible] def rv95 : List RV := [.tmp 4]
theorem low95 : lowC Try.prog tau Try.f95.ntmps (Try.f95.body.getD .skip) = some (erase ic95) := by kernel_rfl
theorem res95 : lowR Try.prog Try.f95.results.toList = some rv95 := by kernel_rfl
theorem bod95 : Try.f95.body = some (Try.f95.body.getD .skip) := by kernel_rfl
theorem cal95 : callable Try.prog 95 = true := by kernel_rfl

end Go.Proofs.YtnbfnpnephfjaaaE

/-! The code of a function, in the engine's words. -/
namespace Go.Proofs.YtnbfnpnephfjaaaE
open Go Go.RowKit
@[reducible] def ic83 : IC := (.seq (.ops [⟨some 2, .box (.tmp 0), none⟩, ⟨some 3, .box (.tmp 1), none⟩, ⟨some 4, .mov (.const (.bool false)), none⟩]) (.seq (.seq (.ops [⟨some 5, .fadr 0 (.tmp 2), none⟩, ⟨some 6, .load 1 false (.tmp 5), none⟩, ⟨some 7, .fadr 0 (.tmp 3), none⟩, ⟨some 8, .load 1 false (.tmp 7), none⟩, ⟨some 9, .beq true (.tmp 6) (.tmp 8), none⟩]) (.cond (.tmp 9) (.seq (.ops [⟨some 4, .mov (.const (.bool false)), none⟩]) .ret) .skip)) (.seq (.seq (.ops [⟨some 10, .fadr 1 (.tmp 2), none⟩, ⟨some 11, .load 1 false (.tmp 10), none⟩, ⟨some 12, .fadr 1 (.tmp 3), none⟩, ⟨some 13, .load 1 false (.tmp 12), none⟩, ⟨some 14, .call 95 [(.tmp 11), (.tmp 13)], none⟩, ⟨some 15, .una .not (.tmp 14), none⟩]) (.cond (.tmp 15) (.seq (.ops [⟨some 4, .mov (.const (.bool false)), none⟩]) .ret) .skip)) (.seq (.ops [⟨some 4, .mov (.const (.bool true)), none⟩]) .ret))))
@[reducible] def rv83 : List RV := [.tmp 4]
theorem low83 : lowC Try.prog tau Try.f83.ntmps (Try.f83.body.getD .skip) = some (erase ic83) := by kernel_rfl
theorem res83 : lowR Try.prog Try.f83.results.toList = some rv83 := by kernel_rfl
theorem bod83 : Try.f83.body = some (Try.f83.body.getD .skip) := by kernel_rfl
theorem cal83 : callable Try.prog 83 = true := by kernel_rfl

end Go.Proofs.YtnbfnpnephfjaaaE

/-! The code of a function, in the engine's words. -/
namespace Go.Proofs.YtnbfnpnephfjaaaE
open Go Go.RowKit
@[reducible] def ic51 : IC := (.seq (.ops [⟨some 4, .mov (.const (.bool false)), none⟩]) (.seq (.seq (.ops [⟨some 6, .mov (.tmp 0), none⟩, ⟨some 7, .len (.tmp 6), none⟩, ⟨some 8, .mov (.tmp 1), none⟩, ⟨some 9, .len (.tmp 8), none⟩, ⟨some 10, .bin .neq (.tmp 7) (.tmp 9), none⟩]) (.cond (.tmp 10) (.seq (.ops [⟨some 4, .mov (.const (.bool false)), none⟩]) .ret) .skip)) (.seq (.seq (.ops [⟨some 5, .mov (.const (.int .i64 0)), none⟩]) (.block 0 (.loop (.seq (.seq (.ops [⟨some 11, .mov (.tmp 5), none⟩, ⟨some 12, .mov (.tmp 0), none⟩, ⟨some 13, .len (.tmp 12), none⟩, ⟨some 14, .bin .lss (.tmp 11) (.tmp 13), none⟩]) (.cond (.tmp 14) .skip (.exit 0))) (.seq (.block 1 (.seq (.draw [⟨some 17, .mov (.tmp 0), none⟩, ⟨some 18, .mov (.tmp 5), none⟩, ⟨some 19, .iadr 2 (.tmp 17) (.tmp 18), none⟩, ⟨some 20, .load 2 true (.tmp 19), none⟩, ⟨some 21, .mov (.tmp 1), none⟩, ⟨some 22, .mov (.tmp 5), none⟩, ⟨some 23, .iadr 2 (.tmp 21) (.tmp 22), none⟩, ⟨some 24, .load 2 true (.tmp 23), none⟩, ⟨some 25, .call 83 [(.tmp 20), (.tmp 24)], none⟩, ⟨some 26, .una .not (.tmp 25), none⟩] (.held ⟨some 17, .mov (.tmp 0), none⟩ (.held ⟨some 18, .mov (.tmp 5), none⟩ (.held ⟨some 19, .iadr 2 (.tmp 17) (.tmp 18), none⟩ (.held ⟨some 20, .load 2 true (.tmp 19), none⟩ (.held ⟨some 21, .mov (.tmp 1), none⟩ (.held ⟨some 22, .mov (.tmp 5), none⟩ (.held ⟨some 23, .iadr 2 (.tmp 21) (.tmp 22), none⟩ (.held ⟨some 24, .load 2 true (.tmp 23), none⟩ (.alt ⟨some 25, .call 83 [(.tmp 20), (.tmp 24)], none⟩ (.held ⟨some 26, .una .not (.tmp 25), none⟩ .done) .stop)))))))))) (.cond (.tmp 26) (.seq (.ops [⟨some 4, .mov (.const (.bool false)), none⟩]) .ret) .skip))) (.ops [⟨some 15, .mov (.tmp 5), none⟩, ⟨some 16, .bin .add (.tmp 15) (.const (.int .i64 1)), none⟩, ⟨some 5, .mov (.tmp 16), none⟩])))))) (.seq (.ops [⟨some 4, .mov (.const (.bool true)), none⟩]) .ret))))
@[reducible] def rv51 : List RV := [.tmp 4]
theorem low51 : lowC Try.prog tau Try.f51.ntmps (Try.f51.body.getD .skip) = some (erase ic51) := by kernel_rfl
theorem res51 : lowR Try.prog Try.f51.results.toList = some rv51 := by kernel_rfl
theorem bod51 : Try.f51.body = some (Try.f51.body.getD .skip) := by kernel_rfl
theorem cal51 : callable Try.prog 51 = true := by kernel_rfl

end Go.Proofs.YtnbfnpnephfjaaaE

/-! The code of a function, in the engine's words. -/
namespace Go.Proofs.YtnbfnpnephfjaaaE
open Go Go.RowKit
@[reducible] def ic17 : IC := (.seq (.ops [⟨some 2, .box (.tmp 0), none⟩, ⟨some 3, .box (.tmp 1), none⟩, ⟨some 4, .mov (.const (.bool false)), none⟩]) (.seq (.seq (.ops [⟨some 5, .fadr 0 (.tmp 2), none⟩, ⟨some 6, .load 1 false (.tmp 5), none⟩, ⟨some 7, .fadr 0 (.tmp 3), none⟩, ⟨some 8, .load 1 false (.tmp 7), none⟩, ⟨some 9, .bin .neq (.tmp 6) (.tmp 8), none⟩]) (.cond (.tmp 9) (.seq (.ops [⟨some 4, .mov (.const (.bool false)), none⟩]) .ret) .skip)) (.seq (.seq (.ops [⟨some 10, .fadr 1 (.tmp 2), none⟩, ⟨some 11, .load 1 false (.tmp 10), none⟩, ⟨some 12, .fadr 1 (.tmp 3), none⟩, ⟨some 13, .load 1 false (.tmp 12), none⟩, ⟨some 14, .call 51 [(.tmp 11), (.tmp 13)], none⟩, ⟨some 15, .una .not (.tmp 14), none⟩]) (.cond (.tmp 15) (.seq (.ops [⟨some 4, .mov (.const (.bool false)), none⟩]) .ret) .skip)) (.seq (.ops [⟨some 4, .mov (.const (.bool true)), none⟩]) .ret))))
@[reducible] def rv17 : List RV := [.tmp 4]
theorem low17 : lowC Try.prog tau Try.f17.ntmps (Try.f17.body.getD .skip) = some (erase ic17) := by kernel_rfl
theorem res17 : lowR Try.prog Try.f17.results.toList = some rv17 := by kernel_rfl
theorem bod17 : Try.f17.body = some (Try.f17.body.getD .skip) := by kernel_rfl
theorem cal17 : callable Try.prog 17 = true := by kernel_rfl

end Go.Proofs.YtnbfnpnephfjaaaE

/-! Sizes, copies, comparisons. -/
namespace Go.Proofs.YtnbfnpnephfjaaaE
open Go Go.RowKit
set_option linter.unusedSimpArgs false
set_option linter.unusedVariables false
set_option maxRecDepth 20000
def spIn : Spec := ⟨fun _ _ => [], fun args objs K => match args, objs with
  | [.v (.int .i64 x), .v (.int .i64 a), .v (.int .i64 b)], [] => K (.v (.bool (decide (a ≤ x ∧ x ≤ b)))) [] 0
  | _, _ => False, false⟩
theorem spIn_t {L : Hp} {a : List AVal} : Spec.take spIn L a = [] := id rfl
theorem spIn_k : Spec.keep spIn = false := id rfl
theorem spIn_f {x} {a} {b} {K : AVal → Hp → Nat → Prop} : Spec.f spIn ([.v (.int .i64 x), .v (.int .i64 a), .v (.int .i64 b)]) ([]) K = (K (.v (.bool (decide (a ≤ x ∧ x ≤ b)))) [] 0) := id rfl
theorem valid48 : Valid Try.prog 48 spIn := by
  refine validI (Γ := lk []) Try.func48 bod48 low48 res48 (good_of trivial) ?_
  intro E args objs K h hE hG hP
  simp only [spIn] at h
  split at h
  · refine ⟨by simp [Try.ntmps48], ?_⟩
    rename_i x a b
    simp (config := { maxSteps := 2000000 }) only [go_sem, hG, hP, Nat.reduceEqDiff, ↓reduceIte, reduceCtorEq, Nat.reduceAdd, Nat.reduceSub, Nat.reduceMul, Nat.reduceLT, Nat.reduceLeDiff, Int.reduceAdd, Int.reduceSub, Int.reduceMul, Int.reduceLT, Int.reduceLE, Int.reduceEq, Int.reduceNeg, Int.reduceNe, Int.reduceGE, Int.reduceGT, Nat.reduceBEq, Int.reduceToNat]
    refine ⟨fun h1 => ⟨_, _, _, ?_, h⟩, fun h1 => ⟨_, _, _, ?_, h⟩⟩ <;> simp (config := { maxSteps := 2000000 }) only [go_sem, hG, hP, Nat.reduceEqDiff, ↓reduceIte, reduceCtorEq, Nat.reduceAdd, Nat.reduceSub, Nat.reduceMul, Nat.reduceLT, Nat.reduceLeDiff, Int.reduceAdd, Int.reduceSub, Int.reduceMul, Int.reduceLT, Int.reduceLE, Int.reduceEq, Int.reduceNeg, Int.reduceNe, Int.reduceGE, Int.reduceGT, Nat.reduceBEq, Int.reduceToNat] <;> simp <;> omega
  · exact h.elim
theorem valid50 : Valid Try.prog 50 spIn := by
  refine validI (Γ := lk []) Try.func50 bod50 low50 res50 (good_of trivial) ?_
  intro E args objs K h hE hG hP
  simp only [spIn] at h
  split at h
  · refine ⟨by simp [Try.ntmps50], ?_⟩
    rename_i x a b
    simp (config := { maxSteps := 2000000 }) only [go_sem, hG, hP, Nat.reduceEqDiff, ↓reduceIte, reduceCtorEq, Nat.reduceAdd, Nat.reduceSub, Nat.reduceMul, Nat.reduceLT, Nat.reduceLeDiff, Int.reduceAdd, Int.reduceSub, Int.reduceMul, Int.reduceLT, Int.reduceLE, Int.reduceEq, Int.reduceNeg, Int.reduceNe, Int.reduceGE, Int.reduceGT, Nat.reduceBEq, Int.reduceToNat]
    refine ⟨fun h1 => ⟨_, _, _, ?_, h⟩, fun h1 => ⟨_, _, _, ?_, h⟩⟩ <;> simp (config := { maxSteps := 2000000 }) only [go_sem, hG, hP, Nat.reduceEqDiff, ↓reduceIte, reduceCtorEq, Nat.reduceAdd, Nat.reduceSub, Nat.reduceMul, Nat.reduceLT, Nat.reduceLeDiff, Int.reduceAdd, Int.reduceSub, Int.reduceMul, Int.reduceLT, Int.reduceLE, Int.reduceEq, Int.reduceNeg, Int.reduceNe, Int.reduceGE, Int.reduceGT, Nat.reduceBEq, Int.reduceToNat] <;> simp <;> omega
  · exact h.elim
def szStep (l : Nat) (n : Int) : Int := if n - l < 0 then -1 else n - l
theorem szStep_bd {l : Nat} {n : Int} (h : -1099511627776 ≤ n) (h2 : n ≤ 1099511627776) : -1099511627776 ≤ szStep l n ∧ szStep l n ≤ 1099511627776 := by unfold szStep; split <;> omega
theorem szStep_neg {l : Nat} {n : Int} (h : szStep l n < 0) : szStep l n = -1 := by unfold szStep at h ⊢; split at h <;> rename_i h2 <;> first | rw [if_pos h2] | omega
theorem take_step {α : Type} {xs ys : List α} {k : Nat} (d : α) (h : xs.take k = ys.take k) (h1 : k < xs.length) (h2 : k < ys.length) (he : xs.getD k d = ys.getD k d) : xs.take (k + 1) = ys.take (k + 1) := by
  rw [List.take_succ_eq_append_getElem h1, List.take_succ_eq_append_getElem h2, h]
  simp [List.getD, List.getElem?_eq_getElem h1, List.getElem?_eq_getElem h2] at he
  rw [he]
theorem take_all {α : Type} {xs ys : List α} {k : Nat} (h : xs.take k = ys.take k) (hl : xs.length = ys.length) (hk : xs.length ≤ k) : xs = ys := by
  rwa [List.take_of_length_le hk, List.take_of_length_le (by omega)] at h
theorem getD_set_self {α : Type} (xs : List α) (j : Nat) (y d : α) (h : j < xs.length) : (xs.set j y).getD j d = y := by simp [List.getD, h]
theorem lg_ext {a b : Lg} (h0 : a.line = b.line) (h1 : a.held = b.held) : a = b := by cases a; cases b; simp_all
theorem cal_ext {a b : Cal} (h0 : a.pk = b.pk) (h1 : a.legs = b.legs) : a = b := by cases a; cases b; simp_all

/-! Sizes. -/
def spSzLegS : Spec := ⟨fun _ _ => [], fun args objs K => match args, objs with
  | [.rs .leg xs, .v (.int .i64 n)], [] => (xs.length ≤ 17592186044416 ∧ -1099511627776 ≤ n ∧ n ≤ 1099511627776) ∧ K (.v (.int .i64 (szStep xs.length n))) [] 0
  | _, _ => False, false⟩
theorem spSzLegS_t {L : Hp} {a : List AVal} : Spec.take spSzLegS L a = [] := id rfl
theorem spSzLegS_k : Spec.keep spSzLegS = false := id rfl
theorem spSzLegS_f {xs} {n} {K : AVal → Hp → Nat → Prop} : Spec.f spSzLegS ([.rs .leg xs, .v (.int .i64 n)]) ([]) K = ((xs.length ≤ 17592186044416 ∧ -1099511627776 ≤ n ∧ n ≤ 1099511627776) ∧ K (.v (.int .i64 (szStep xs.length n))) [] 0) := id rfl
theorem valid93 : Valid Try.prog 93 spSzLegS := by
  refine validI (Γ := lk []) Try.func93 bod93 low93 res93 (good_of trivial) ?_
  intro E args objs K h hE hG hP
  simp only [spSzLegS, szStep] at h
  split at h
  · refine ⟨by simp [Try.ntmps93], ?_⟩
    rename_i xs n
    obtain ⟨⟨b1, b2, b3⟩, h⟩ := h
    simp (config := { maxSteps := 2000000 }) only [go_sem, hG, hP, Nat.reduceEqDiff, ↓reduceIte, reduceCtorEq, Nat.reduceAdd, Nat.reduceSub, Nat.reduceMul, Nat.reduceLT, Nat.reduceLeDiff, Int.reduceAdd, Int.reduceSub, Int.reduceMul, Int.reduceLT, Int.reduceLE, Int.reduceEq, Int.reduceNeg, Int.reduceNe, Int.reduceGE, Int.reduceGT, Nat.reduceBEq, Int.reduceToNat]
    (try simp (disch := omega) only [wrap_id])
    refine ⟨fun h1 => ⟨_, _, _, ?_, h⟩, fun h1 => ⟨_, _, _, ?_, h⟩⟩ <;> simp (config := { maxSteps := 2000000 }) only [go_sem, hG, hP, Nat.reduceEqDiff, ↓reduceIte, reduceCtorEq, Nat.reduceAdd, Nat.reduceSub, Nat.reduceMul, Nat.reduceLT, Nat.reduceLeDiff, Int.reduceAdd, Int.reduceSub, Int.reduceMul, Int.reduceLT, Int.reduceLE, Int.reduceEq, Int.reduceNeg, Int.reduceNe, Int.reduceGE, Int.reduceGT, Nat.reduceBEq, Int.reduceToNat] <;> simp <;> omega
  · exact h.elim
def spSzCall : Spec := ⟨fun _ _ => [], fun args objs K => match args, objs with
  | [.agg [.v (.bool p), .rs .leg xs], .v (.int .i64 n)], [] => (xs.length ≤ 17592186044416 ∧ -1099511627776 ≤ n ∧ n ≤ 1099511627776) ∧ K (.v (.int .i64 (szStep xs.length n))) [] 0
  | _, _ => False, false⟩
theorem spSzCall_t {L : Hp} {a : List AVal} : Spec.take spSzCall L a = [] := id rfl
theorem spSzCall_k : Spec.keep spSzCall = false := id rfl
theorem spSzCall_f {p} {xs} {n} {K : AVal → Hp → Nat → Prop} : Spec.f spSzCall ([.agg [.v (.bool p), .rs .leg xs], .v (.int .i64 n)]) ([]) K = ((xs.length ≤ 17592186044416 ∧ -1099511627776 ≤ n ∧ n ≤ 1099511627776) ∧ K (.v (.int .i64 (szStep xs.length n))) [] 0) := id rfl
theorem valid81 : Valid Try.prog 81 spSzCall := by
  refine validI (Γ := lk [(93, spSzLegS)]) Try.func81 bod81 low81 res81 (good_of ⟨⟨cal93, valid93⟩, trivial⟩) ?_
  intro E args objs K h hE hG hP
  simp only [spSzCall] at h
  split at h
  · refine ⟨by simp [Try.ntmps81], ?_⟩
    rename_i p xs n
    obtain ⟨⟨b1, b2, b3⟩, h⟩ := h
    have hb := szStep_bd (l := xs.length) b2 b3
    simp (config := { maxSteps := 2000000 }) only [go_sem, hG, hP, Nat.reduceEqDiff, ↓reduceIte, reduceCtorEq, Nat.reduceAdd, Nat.reduceSub, Nat.reduceMul, Nat.reduceLT, Nat.reduceLeDiff, Int.reduceAdd, Int.reduceSub, Int.reduceMul, Int.reduceLT, Int.reduceLE, Int.reduceEq, Int.reduceNeg, Int.reduceNe, Int.reduceGE, Int.reduceGT, Nat.reduceBEq, Int.reduceToNat,  spSzLegS_f, spSzLegS_t, spSzLegS_k]
    refine ⟨⟨b1, b2, b3⟩, fun h1 => ⟨_, _, _, ?_, h⟩, fun h1 => ⟨_, _, _, ?_, h⟩⟩
    · simp (config := { maxSteps := 2000000 }) only [go_sem, hG, hP, Nat.reduceEqDiff, ↓reduceIte, reduceCtorEq, Nat.reduceAdd, Nat.reduceSub, Nat.reduceMul, Nat.reduceLT, Nat.reduceLeDiff, Int.reduceAdd, Int.reduceSub, Int.reduceMul, Int.reduceLT, Int.reduceLE, Int.reduceEq, Int.reduceNeg, Int.reduceNe, Int.reduceGE, Int.reduceGT, Nat.reduceBEq, Int.reduceToNat]
      rw [szStep_neg h1]
    · simp (config := { maxSteps := 2000000 }) only [go_sem, hG, hP, Nat.reduceEqDiff, ↓reduceIte, reduceCtorEq, Nat.reduceAdd, Nat.reduceSub, Nat.reduceMul, Nat.reduceLT, Nat.reduceLeDiff, Int.reduceAdd, Int.reduceSub, Int.reduceMul, Int.reduceLT, Int.reduceLE, Int.reduceEq, Int.reduceNeg, Int.reduceNe, Int.reduceGE, Int.reduceGT, Nat.reduceBEq, Int.reduceToNat]
  · exact h.elim
/-- What the sizes of calls leave of n. -/
def szCs : List Cal → Int → Int
  | [], n => n
  | c :: r, n => if szStep c.legs.length n < 0 then -1 else szCs r (szStep c.legs.length n)
def szCallsI (cs : List Cal) (n : Int) : Int := if szStep cs.length n < 0 then -1 else szCs cs (szStep cs.length n)
theorem szCs_bd : ∀ (cs : List Cal) (n : Int), -1 ≤ n → n ≤ 1099511627776 → -1 ≤ szCs cs n ∧ szCs cs n ≤ 1099511627776
  | [], n, h, h2 => ⟨h, h2⟩
  | c :: r, n, h, h2 => by
    unfold szCs
    split
    · omega
    · have := szStep_bd (l := c.legs.length) (n := n) (by omega) h2
      exact szCs_bd r _ (by omega) this.2
/-- All these lengths are small. -/
def legsOk (cs : List Cal) : Prop := ∀ c ∈ cs, c.legs.length ≤ 17592186044416
theorem legsOk_get {cs : List Cal} (h : legsOk cs) {j : Nat} (hj : j < cs.length) : (cs.getD j (⟨false, []⟩ : Cal)).legs.length ≤ 17592186044416 := by
  have := h cs[j] (List.getElem_mem hj)
  simpa [List.getD, hj] using this
theorem szCs_drop {cs : List Cal} {j : Nat} {n : Int} (hj : j < cs.length) : szCs (cs.drop j) n = if szStep (cs.getD j (⟨false, []⟩ : Cal)).legs.length n < 0 then -1 else szCs (cs.drop (j + 1)) (szStep (cs.getD j (⟨false, []⟩ : Cal)).legs.length n) := by
  rw [List.drop_eq_getElem_cons hj]
  simp [szCs, List.getD, hj]
def spSzCallS : Spec := ⟨fun _ _ => [], fun args objs K => match args, objs with
  | [.rs .call cs, .v (.int .i64 n)], [] => (cs.length ≤ 17592186044416 ∧ legsOk cs ∧ -1 ≤ n ∧ n ≤ 1099511627776) ∧ K (.v (.int .i64 (szCallsI cs n))) [] 0
  | _, _ => False, false⟩
theorem spSzCallS_t {L : Hp} {a : List AVal} : Spec.take spSzCallS L a = [] := id rfl
theorem spSzCallS_k : Spec.keep spSzCallS = false := id rfl
theorem spSzCallS_f {cs} {n} {K : AVal → Hp → Nat → Prop} : Spec.f spSzCallS ([.rs .call cs, .v (.int .i64 n)]) ([]) K = ((cs.length ≤ 17592186044416 ∧ legsOk cs ∧ -1 ≤ n ∧ n ≤ 1099511627776) ∧ K (.v (.int .i64 (szCallsI cs n))) [] 0) := id rfl
theorem valid47 : Valid Try.prog 47 spSzCallS := by
  refine validI (Γ := lk [(81, spSzCall)]) Try.func47 bod47 low47 res47 (good_of ⟨⟨cal81, valid81⟩, trivial⟩) ?_
  intro E args objs K h hE hG hP
  simp only [spSzCallS] at h
  split at h
  · refine ⟨by simp [Try.ntmps47], ?_⟩
    rename_i cs n
    obtain ⟨⟨b1, b2, b3, b4⟩, h⟩ := h
    simp (config := { maxSteps := 2000000 }) only [go_sem, hG, hP, Nat.reduceEqDiff, ↓reduceIte, reduceCtorEq, Nat.reduceAdd, Nat.reduceSub, Nat.reduceMul, Nat.reduceLT, Nat.reduceLeDiff, Int.reduceAdd, Int.reduceSub, Int.reduceMul, Int.reduceLT, Int.reduceLE, Int.reduceEq, Int.reduceNeg, Int.reduceNe, Int.reduceGE, Int.reduceGT, Nat.reduceBEq, Int.reduceToNat]
    (try simp (disch := omega) only [wrap_id])
    refine ⟨fun h1 => ⟨_, _, _, ?_, h⟩, fun h1 => ?_⟩
    · simp (config := { maxSteps := 2000000 }) only [go_sem, hG, hP, Nat.reduceEqDiff, ↓reduceIte, reduceCtorEq, Nat.reduceAdd, Nat.reduceSub, Nat.reduceMul, Nat.reduceLT, Nat.reduceLeDiff, Int.reduceAdd, Int.reduceSub, Int.reduceMul, Int.reduceLT, Int.reduceLE, Int.reduceEq, Int.reduceNeg, Int.reduceNe, Int.reduceGE, Int.reduceGT, Nat.reduceBEq, Int.reduceToNat]
      have : szCallsI cs n = -1 := by unfold szCallsI szStep; grind
      rw [this]
    · refine loopI hE (fun p : Nat × Int => ⟨[(0, .rs .call cs), (1, .v (.int .i64 p.2)), (5, .v (.int .i64 p.1))], [], 0, Try.f47.ntmps⟩) (fun p => p.1 ≤ cs.length ∧ 0 ≤ p.2 ∧ p.2 ≤ 1099511627776 ∧ szCallsI cs n = szCs (cs.drop p.1) p.2) (fun p => cs.length - p.1) ⟨(0, n - cs.length), ⟨Nat.zero_le _, by omega, by omega, by unfold szCallsI szStep; grind⟩, SubS.weak ?_⟩ ?_
      · simp (config := { maxSteps := 2000000 }) only [go_sem, hG, hP, Nat.reduceEqDiff, ↓reduceIte, reduceCtorEq, Nat.reduceAdd, Nat.reduceSub, Nat.reduceMul, Nat.reduceLT, Nat.reduceLeDiff, Int.reduceAdd, Int.reduceSub, Int.reduceMul, Int.reduceLT, Int.reduceLE, Int.reduceEq, Int.reduceNeg, Int.reduceNe, Int.reduceGE, Int.reduceGT, Nat.reduceBEq, Int.reduceToNat]
        all_goals simp
      · rintro ⟨j, m⟩ ⟨hj, hm0, hm1, hpre⟩
        dsimp only at hj hm0 hm1 hpre ⊢
        simp (config := { maxSteps := 2000000 }) only [go_sem, hG, hP, Nat.reduceEqDiff, ↓reduceIte, reduceCtorEq, Nat.reduceAdd, Nat.reduceSub, Nat.reduceMul, Nat.reduceLT, Nat.reduceLeDiff, Int.reduceAdd, Int.reduceSub, Int.reduceMul, Int.reduceLT, Int.reduceLE, Int.reduceEq, Int.reduceNeg, Int.reduceNe, Int.reduceGE, Int.reduceGT, Nat.reduceBEq, Int.reduceToNat,  spSzCall_f, spSzCall_t, spSzCall_k]
        (try simp (disch := omega) only [wrap_id])
        refine ⟨fun hlt => ?_, fun hge => ⟨_, _, _, ?_, h⟩⟩
        · repeat (refine And.intro (by first | omega | (simp; done) | (simp; omega) | (unfold appRoom; omega)) ?_)
          refine ⟨⟨legsOk_get b2 (by omega), by omega, by omega⟩, fun h2 => ⟨_, _, _, ?_, h⟩, fun h2 => ?_⟩
          · simp (config := { maxSteps := 2000000 }) only [go_sem, hG, hP, Nat.reduceEqDiff, ↓reduceIte, reduceCtorEq, Nat.reduceAdd, Nat.reduceSub, Nat.reduceMul, Nat.reduceLT, Nat.reduceLeDiff, Int.reduceAdd, Int.reduceSub, Int.reduceMul, Int.reduceLT, Int.reduceLE, Int.reduceEq, Int.reduceNeg, Int.reduceNe, Int.reduceGE, Int.reduceGT, Nat.reduceBEq, Int.reduceToNat]
            rw [hpre, szCs_drop (by omega), if_pos h2]
          · refine ⟨(j + 1, szStep (cs.getD j (⟨false, []⟩ : Cal)).legs.length m), ⟨⟨by dsimp only; omega, Int.not_lt.1 h2, (szStep_bd (by omega) (by omega)).2, by dsimp only; rw [hpre, szCs_drop (by omega), if_neg h2]⟩, by dsimp only; omega⟩, SubS.weak ?_⟩
            simp (config := { maxSteps := 2000000 }) only [go_sem, hG, hP, Nat.reduceEqDiff, ↓reduceIte, reduceCtorEq, Nat.reduceAdd, Nat.reduceSub, Nat.reduceMul, Nat.reduceLT, Nat.reduceLeDiff, Int.reduceAdd, Int.reduceSub, Int.reduceMul, Int.reduceLT, Int.reduceLE, Int.reduceEq, Int.reduceNeg, Int.reduceNe, Int.reduceGE, Int.reduceGT, Nat.reduceBEq, Int.reduceToNat]
            all_goals simp
        · simp (config := { maxSteps := 2000000 }) only [go_sem, hG, hP, Nat.reduceEqDiff, ↓reduceIte, reduceCtorEq, Nat.reduceAdd, Nat.reduceSub, Nat.reduceMul, Nat.reduceLT, Nat.reduceLeDiff, Int.reduceAdd, Int.reduceSub, Int.reduceMul, Int.reduceLT, Int.reduceLE, Int.reduceEq, Int.reduceNeg, Int.reduceNe, Int.reduceGE, Int.reduceGT, Nat.reduceBEq, Int.reduceToNat]
          have hj' : j = cs.length := by omega
          rw [hpre, hj', List.drop_length]; simp [szCs]
  · exact h.elim
def spSzPanel : Spec := ⟨fun _ _ => [], fun args objs K => match args, objs with
  | [.agg [.v (.int .i64 l), .rs .call cs], .v (.int .i64 n)], [] => (cs.length ≤ 17592186044416 ∧ legsOk cs ∧ -1 ≤ n ∧ n ≤ 1099511627776) ∧ K (.v (.int .i64 (szCallsI cs n))) [] 0
  | _, _ => False, false⟩
theorem spSzPanel_t {L : Hp} {a : List AVal} : Spec.take spSzPanel L a = [] := id rfl
theorem spSzPanel_k : Spec.keep spSzPanel = false := id rfl
theorem spSzPanel_f {l} {cs} {n} {K : AVal → Hp → Nat → Prop} : Spec.f spSzPanel ([.agg [.v (.int .i64 l), .rs .call cs], .v (.int .i64 n)]) ([]) K = ((cs.length ≤ 17592186044416 ∧ legsOk cs ∧ -1 ≤ n ∧ n ≤ 1099511627776) ∧ K (.v (.int .i64 (szCallsI cs n))) [] 0) := id rfl
theorem szCallsI_neg {cs : List Cal} {n : Int} (h0 : -1 ≤ n) (h1 : n ≤ 1099511627776) (h : szCallsI cs n < 0) : szCallsI cs n = -1 := by
  unfold szCallsI at h ⊢
  split
  · rfl
  · rename_i h2
    rw [if_neg h2] at h
    have := szCs_bd cs (szStep cs.length n) (by omega) (szStep_bd (by omega) h1).2
    omega
theorem valid13 : Valid Try.prog 13 spSzPanel := by
  refine validI (Γ := lk [(47, spSzCallS)]) Try.func13 bod13 low13 res13 (good_of ⟨⟨cal47, valid47⟩, trivial⟩) ?_
  intro E args objs K h hE hG hP
  simp only [spSzPanel] at h
  split at h
  · refine ⟨by simp [Try.ntmps13], ?_⟩
    rename_i l cs n
    obtain ⟨⟨b1, b2, b3, b4⟩, h⟩ := h
    simp (config := { maxSteps := 2000000 }) only [go_sem, hG, hP, Nat.reduceEqDiff, ↓reduceIte, reduceCtorEq, Nat.reduceAdd, Nat.reduceSub, Nat.reduceMul, Nat.reduceLT, Nat.reduceLeDiff, Int.reduceAdd, Int.reduceSub, Int.reduceMul, Int.reduceLT, Int.reduceLE, Int.reduceEq, Int.reduceNeg, Int.reduceNe, Int.reduceGE, Int.reduceGT, Nat.reduceBEq, Int.reduceToNat,  spSzCallS_f, spSzCallS_t, spSzCallS_k]
    refine ⟨⟨b1, b2, b3, b4⟩, fun h1 => ⟨_, _, _, ?_, h⟩, fun h1 => ⟨_, _, _, ?_, h⟩⟩
    · simp (config := { maxSteps := 2000000 }) only [go_sem, hG, hP, Nat.reduceEqDiff, ↓reduceIte, reduceCtorEq, Nat.reduceAdd, Nat.reduceSub, Nat.reduceMul, Nat.reduceLT, Nat.reduceLeDiff, Int.reduceAdd, Int.reduceSub, Int.reduceMul, Int.reduceLT, Int.reduceLE, Int.reduceEq, Int.reduceNeg, Int.reduceNe, Int.reduceGE, Int.reduceGT, Nat.reduceBEq, Int.reduceToNat]
      rw [szCallsI_neg b3 b4 h1]
    · simp (config := { maxSteps := 2000000 }) only [go_sem, hG, hP, Nat.reduceEqDiff, ↓reduceIte, reduceCtorEq, Nat.reduceAdd, Nat.reduceSub, Nat.reduceMul, Nat.reduceLT, Nat.reduceLeDiff, Int.reduceAdd, Int.reduceSub, Int.reduceMul, Int.reduceLT, Int.reduceLE, Int.reduceEq, Int.reduceNeg, Int.reduceNe, Int.reduceGE, Int.reduceGT, Nat.reduceBEq, Int.reduceToNat]
  · exact h.elim

end Go.Proofs.YtnbfnpnephfjaaaE

/-! The code of a function, in the engine's words. -/
namespace Go.Proofs.YtnbfnpnephfjaaaE
open Go Go.RowKit
@[reducible] def ic15 : IC := (.seq (.ops [⟨some 1, .box (.tmp 0), none⟩, ⟨some 2, .new [(.int .i64 0), (.slice none 0 0)], none⟩]) (.seq (.ops [⟨some 3, .new [(.int .i64 0), (.slice none 0 0)], none⟩]) (.seq (.ops [⟨some 4, .fadr 0 (.tmp 1), none⟩, ⟨some 5, .load 1 false (.tmp 4), none⟩, ⟨some 6, .fadr 0 (.tmp 3), none⟩, ⟨none, .store 1 (.tmp 6) (.tmp 5), none⟩]) (.seq (.ops [⟨some 7, .fadr 1 (.tmp 1), none⟩, ⟨some 8, .load 1 false (.tmp 7), none⟩, ⟨some 9, .call 49 [(.tmp 8)], none⟩, ⟨some 10, .fadr 1 (.tmp 3), none⟩, ⟨none, .store 1 (.tmp 10) (.tmp 9), none⟩]) (.seq (.ops [⟨some 11, .load 2 true (.tmp 3), none⟩, ⟨none, .store 2 (.tmp 2) (.tmp 11), none⟩]) .ret)))))
@[reducible] def rv15 : List RV := [.cell 2 2 true]
theorem low15 : lowC Try.prog tau Try.f15.ntmps (Try.f15.body.getD .skip) = some (erase ic15) := by kernel_rfl
theorem res15 : lowR Try.prog Try.f15.results.toList = some rv15 := by kernel_rfl
theorem bod15 : Try.f15.body = some (Try.f15.body.getD .skip) := by kernel_rfl
theorem cal15 : callable Try.prog 15 = true := by kernel_rfl

end Go.Proofs.YtnbfnpnephfjaaaE

/-! The code of a function, in the engine's words. -/
namespace Go.Proofs.YtnbfnpnephfjaaaE
open Go Go.RowKit
@[reducible] def ic49 : IC := (.seq (.ops [⟨some 2, .mov (.const (.slice none 0 0)), none⟩]) (.seq (.ops [⟨some 5, .mov (.tmp 0), none⟩, ⟨some 6, .len (.tmp 5), none⟩, ⟨some 7, .mk .call 32 (.tmp 6) (.tmp 6), none⟩, ⟨some 3, .mov (.tmp 7), none⟩]) (.seq (.seq (.ops [⟨some 4, .mov (.const (.int .i64 0)), none⟩]) (.block 0 (.loop (.seq (.seq (.ops [⟨some 8, .mov (.tmp 4), none⟩, ⟨some 9, .mov (.tmp 0), none⟩, ⟨some 10, .len (.tmp 9), none⟩, ⟨some 11, .bin .lss (.tmp 8) (.tmp 10), none⟩]) (.cond (.tmp 11) .skip (.exit 0))) (.seq (.block 1 (.ops [⟨some 14, .mov (.tmp 3), none⟩, ⟨some 15, .mov (.tmp 4), none⟩, ⟨some 16, .mov (.tmp 0), none⟩, ⟨some 17, .mov (.tmp 4), none⟩, ⟨some 18, .iadr 2 (.tmp 16) (.tmp 17), none⟩, ⟨some 19, .load 2 true (.tmp 18), none⟩, ⟨some 20, .call 82 [(.tmp 19)], none⟩, ⟨some 21, .iadr 2 (.tmp 14) (.tmp 15), none⟩, ⟨none, .store 2 (.tmp 21) (.tmp 20), none⟩])) (.ops [⟨some 12, .mov (.tmp 4), none⟩, ⟨some 13, .bin .add (.tmp 12) (.const (.int .i64 1)), none⟩, ⟨some 4, .mov (.tmp 13), none⟩])))))) (.seq (.ops [⟨some 22, .mov (.tmp 3), none⟩, ⟨some 2, .mov (.tmp 22), none⟩]) .ret))))
@[reducible] def rv49 : List RV := [.tmp 2]
theorem low49 : lowC Try.prog tau Try.f49.ntmps (Try.f49.body.getD .skip) = some (erase ic49) := by kernel_rfl
theorem res49 : lowR Try.prog Try.f49.results.toList = some rv49 := by kernel_rfl
theorem bod49 : Try.f49.body = some (Try.f49.body.getD .skip) := by kernel_rfl
theorem cal49 : callable Try.prog 49 = true := by kernel_rfl

end Go.Proofs.YtnbfnpnephfjaaaE

/-! Copies and comparisons. -/
namespace Go.Proofs.YtnbfnpnephfjaaaE
open Go Go.RowKit
set_option linter.unusedSimpArgs false
set_option linter.unusedVariables false
set_option maxRecDepth 20000
set_option maxHeartbeats 2000000
def spToLeg : Spec := ⟨fun _ _ => [], fun args objs K => match args, objs with
  | [.agg [.v (.int .i64 a0), .v (.bool a1)]], [] => K (.agg [.v (.int .i64 a0), .v (.bool a1)]) [] 0
  | _, _ => False, false⟩
theorem spToLeg_t {L : Hp} {a : List AVal} : Spec.take spToLeg L a = [] := id rfl
theorem spToLeg_k : Spec.keep spToLeg = false := id rfl
theorem spToLeg_f {a0} {a1} {K : AVal → Hp → Nat → Prop} : Spec.f spToLeg ([.agg [.v (.int .i64 a0), .v (.bool a1)]]) ([]) K = (K (.agg [.v (.int .i64 a0), .v (.bool a1)]) [] 0) := id rfl
theorem valid107 : Valid Try.prog 107 spToLeg := by
  refine validI (Γ := lk []) Try.func107 bod107 low107 res107 (good_of trivial) ?_
  intro E args objs K h hE hG hP
  simp only [spToLeg] at h
  split at h
  · refine ⟨by simp [Try.ntmps107], ?_⟩
    simp (config := { maxSteps := 2000000 }) only [go_sem, hG, hP, Nat.reduceEqDiff, ↓reduceIte, reduceCtorEq, Nat.reduceAdd, Nat.reduceSub, Nat.reduceMul, Nat.reduceLT, Nat.reduceLeDiff, Int.reduceAdd, Int.reduceSub, Int.reduceMul, Int.reduceLT, Int.reduceLE, Int.reduceEq, Int.reduceNeg, Int.reduceNe, Int.reduceGE, Int.reduceGT, Nat.reduceBEq, Int.reduceToNat]
    exact ⟨_, _, _, by simp (config := { maxSteps := 2000000 }) only [go_sem, hG, hP, Nat.reduceEqDiff, ↓reduceIte, reduceCtorEq, Nat.reduceAdd, Nat.reduceSub, Nat.reduceMul, Nat.reduceLT, Nat.reduceLeDiff, Int.reduceAdd, Int.reduceSub, Int.reduceMul, Int.reduceLT, Int.reduceLE, Int.reduceEq, Int.reduceNeg, Int.reduceNe, Int.reduceGE, Int.reduceGT, Nat.reduceBEq, Int.reduceToNat], h⟩
  · exact h.elim
def spToLegS : Spec := ⟨fun _ _ => [], fun args objs K => match args, objs with
  | [.rs .leg xs], [] => xs.length ≤ 1099511627776 ∧ K (.sub 0 2 0 xs.length) [(0, .row .leg xs)] 1
  | _, _ => False, false⟩
theorem spToLegS_t {L : Hp} {a : List AVal} : Spec.take spToLegS L a = [] := id rfl
theorem spToLegS_k : Spec.keep spToLegS = false := id rfl
theorem spToLegS_f {xs} {K : AVal → Hp → Nat → Prop} : Spec.f spToLegS ([.rs .leg xs]) ([]) K = (xs.length ≤ 1099511627776 ∧ K (.sub 0 2 0 xs.length) [(0, .row .leg xs)] 1) := id rfl
theorem valid94 : Valid Try.prog 94 spToLegS := by
  refine validI (Γ := lk [(107, spToLeg)]) Try.func94 bod94 low94 res94 (good_of ⟨⟨cal107, valid107⟩, trivial⟩) ?_
  intro E args objs K h hE hG hP
  simp only [spToLegS] at h
  split at h
  · refine ⟨by simp [Try.ntmps94], ?_⟩
    rename_i xs
    obtain ⟨hlen, h⟩ := h
    simp (config := { maxSteps := 2000000 }) only [go_sem, hG, hP, Nat.reduceEqDiff, ↓reduceIte, reduceCtorEq, Nat.reduceAdd, Nat.reduceSub, Nat.reduceMul, Nat.reduceLT, Nat.reduceLeDiff, Int.reduceAdd, Int.reduceSub, Int.reduceMul, Int.reduceLT, Int.reduceLE, Int.reduceEq, Int.reduceNeg, Int.reduceNe, Int.reduceGE, Int.reduceGT, Nat.reduceBEq, Int.reduceToNat]
    refine ⟨⟨by omega, by unfold appRoom; omega, by omega⟩, ?_⟩
    refine loopI hE (fun k : Nat => ⟨[(0, .rs .leg xs), (3, .sub 0 2 0 xs.length), (4, .v (.int .i64 k))], [(0, .row .leg (xs.take k ++ List.replicate (xs.length - k) (⟨0, false⟩ : Lg)))], 1, Try.f94.ntmps⟩) (fun k => k ≤ xs.length) (fun k => xs.length - k) ⟨0, Nat.zero_le _, SubS.weak ?_⟩ ?_
    · simp (config := { maxSteps := 2000000 }) only [go_sem, hG, hP, Nat.reduceEqDiff, ↓reduceIte, reduceCtorEq, Nat.reduceAdd, Nat.reduceSub, Nat.reduceMul, Nat.reduceLT, Nat.reduceLeDiff, Int.reduceAdd, Int.reduceSub, Int.reduceMul, Int.reduceLT, Int.reduceLE, Int.reduceEq, Int.reduceNeg, Int.reduceNe, Int.reduceGE, Int.reduceGT, Nat.reduceBEq, Int.reduceToNat]
      all_goals simp
    · intro k hk
      simp (config := { maxSteps := 2000000 }) only [go_sem, hG, hP, Nat.reduceEqDiff, ↓reduceIte, reduceCtorEq, Nat.reduceAdd, Nat.reduceSub, Nat.reduceMul, Nat.reduceLT, Nat.reduceLeDiff, Int.reduceAdd, Int.reduceSub, Int.reduceMul, Int.reduceLT, Int.reduceLE, Int.reduceEq, Int.reduceNeg, Int.reduceNe, Int.reduceGE, Int.reduceGT, Nat.reduceBEq, Int.reduceToNat,  spToLeg_f, spToLeg_t, spToLeg_k]
      (try simp (disch := omega) only [wrap_id])
      refine ⟨fun hlt => ?_, fun hge => ⟨_, _, _, ?_, h⟩⟩
      · rw [fill_len _ _ _ hk]
        repeat (refine And.intro (by first | omega | (simp; done) | (simp; omega) | (unfold appRoom; omega)) ?_)
        refine ⟨k + 1, by omega, SubS.weak ?_⟩
        simp (config := { maxSteps := 2000000 }) only [go_sem, hG, hP, Nat.reduceEqDiff, ↓reduceIte, reduceCtorEq, Nat.reduceAdd, Nat.reduceSub, Nat.reduceMul, Nat.reduceLT, Nat.reduceLeDiff, Int.reduceAdd, Int.reduceSub, Int.reduceMul, Int.reduceLT, Int.reduceLE, Int.reduceEq, Int.reduceNeg, Int.reduceNe, Int.reduceGE, Int.reduceGT, Nat.reduceBEq, Int.reduceToNat]
        rw [fill_set _ _ _ _ (by omega)]
        simp
      · simp (config := { maxSteps := 2000000 }) only [go_sem, hG, hP, Nat.reduceEqDiff, ↓reduceIte, reduceCtorEq, Nat.reduceAdd, Nat.reduceSub, Nat.reduceMul, Nat.reduceLT, Nat.reduceLeDiff, Int.reduceAdd, Int.reduceSub, Int.reduceMul, Int.reduceLT, Int.reduceLE, Int.reduceEq, Int.reduceNeg, Int.reduceNe, Int.reduceGE, Int.reduceGT, Nat.reduceBEq, Int.reduceToNat]
        simp [show k = xs.length by omega]
  · exact h.elim
def spToCall : Spec := ⟨fun _ _ => [], fun args objs K => match args, objs with
  | [.agg [.v (.bool p), .rs .leg xs]], [] => xs.length ≤ 1099511627776 ∧ K (.agg [.v (.bool p), .sub 0 2 0 xs.length]) [(0, .row .leg xs)] 1
  | _, _ => False, false⟩
theorem spToCall_t {L : Hp} {a : List AVal} : Spec.take spToCall L a = [] := id rfl
theorem spToCall_k : Spec.keep spToCall = false := id rfl
theorem spToCall_f {p} {xs} {K : AVal → Hp → Nat → Prop} : Spec.f spToCall ([.agg [.v (.bool p), .rs .leg xs]]) ([]) K = (xs.length ≤ 1099511627776 ∧ K (.agg [.v (.bool p), .sub 0 2 0 xs.length]) [(0, .row .leg xs)] 1) := id rfl
theorem valid82 : Valid Try.prog 82 spToCall := by
  refine validI (Γ := lk [(94, spToLegS)]) Try.func82 bod82 low82 res82 (good_of ⟨⟨cal94, valid94⟩, trivial⟩) ?_
  intro E args objs K h hE hG hP
  simp only [spToCall] at h
  split at h
  · refine ⟨by simp [Try.ntmps82], ?_⟩
    rename_i p xs
    obtain ⟨hlen, h⟩ := h
    simp (config := { maxSteps := 2000000 }) only [go_sem, hG, hP, Nat.reduceEqDiff, ↓reduceIte, reduceCtorEq, Nat.reduceAdd, Nat.reduceSub, Nat.reduceMul, Nat.reduceLT, Nat.reduceLeDiff, Int.reduceAdd, Int.reduceSub, Int.reduceMul, Int.reduceLT, Int.reduceLE, Int.reduceEq, Int.reduceNeg, Int.reduceNe, Int.reduceGE, Int.reduceGT, Nat.reduceBEq, Int.reduceToNat,  spToLegS_f, spToLegS_t, spToLegS_k]
    exact ⟨hlen, _, _, _, by simp (config := { maxSteps := 2000000 }) only [go_sem, hG, hP, Nat.reduceEqDiff, ↓reduceIte, reduceCtorEq, Nat.reduceAdd, Nat.reduceSub, Nat.reduceMul, Nat.reduceLT, Nat.reduceLeDiff, Int.reduceAdd, Int.reduceSub, Int.reduceMul, Int.reduceLT, Int.reduceLE, Int.reduceEq, Int.reduceNeg, Int.reduceNe, Int.reduceGE, Int.reduceGT, Nat.reduceBEq, Int.reduceToNat], h⟩
  · exact h.elim
/-- All these lengths are smaller yet. -/
def legsOk2 (cs : List Cal) : Prop := ∀ c ∈ cs, c.legs.length ≤ 1099511627776
theorem legsOk2_get {cs : List Cal} (h : legsOk2 cs) {j : Nat} (hj : j < cs.length) : (cs.getD j (⟨false, []⟩ : Cal)).legs.length ≤ 1099511627776 := by
  have := h cs[j] (List.getElem_mem hj)
  simpa [List.getD, hj] using this
def spToCallS : Spec := ⟨fun _ _ => [], fun args objs K => match args, objs with
  | [.rs .call cs], [] => (cs.length ≤ 1099511627776 ∧ legsOk2 cs) ∧ ∀ xs es, Nst xs es cs → K (.sub 0 2 0 cs.length) [(0, .nrow .call xs es [])] 1
  | _, _ => False, false⟩
theorem spToCallS_t {L : Hp} {a : List AVal} : Spec.take spToCallS L a = [] := id rfl
theorem spToCallS_k : Spec.keep spToCallS = false := id rfl
theorem spToCallS_f {cs} {K : AVal → Hp → Nat → Prop} : Spec.f spToCallS ([.rs .call cs]) ([]) K = ((cs.length ≤ 1099511627776 ∧ legsOk2 cs) ∧ ∀ xs es, Nst xs es cs → K (.sub 0 2 0 cs.length) [(0, .nrow .call xs es [])] 1) := id rfl
theorem valid49 : Valid Try.prog 49 spToCallS := by
  refine validI (Γ := lk [(82, spToCall)]) Try.func49 bod49 low49 res49 (good_of ⟨⟨cal82, valid82⟩, trivial⟩) ?_
  intro E args objs K h hE hG hP
  simp only [spToCallS] at h
  split at h
  · refine ⟨by simp [Try.ntmps49], ?_⟩
    rename_i cs
    obtain ⟨⟨hlen, hlegs⟩, h⟩ := h
    simp (config := { maxSteps := 2000000 }) only [go_sem, hG, hP, Nat.reduceEqDiff, ↓reduceIte, reduceCtorEq, Nat.reduceAdd, Nat.reduceSub, Nat.reduceMul, Nat.reduceLT, Nat.reduceLeDiff, Int.reduceAdd, Int.reduceSub, Int.reduceMul, Int.reduceLT, Int.reduceLE, Int.reduceEq, Int.reduceNeg, Int.reduceNe, Int.reduceGE, Int.reduceGT, Nat.reduceBEq, Int.reduceToNat]
    refine ⟨⟨by omega, by unfold appRoom; omega, by omega⟩, ?_⟩
    refine loopI hE (fun p : Nat × List (NR .call) × Fam .call => ⟨[(0, .rs .call cs), (3, .sub 0 2 0 cs.length), (4, .v (.int .i64 p.1))], [(0, .nrow .call p.2.1 p.2.2 [])], 1, Try.f49.ntmps⟩) (fun p => p.1 ≤ cs.length ∧ Nst p.2.1 p.2.2 (cs.take p.1 ++ List.replicate (cs.length - p.1) (⟨false, []⟩ : Cal))) (fun p => cs.length - p.1) ⟨(0, List.replicate cs.length (⟨⟨false, []⟩, .nil⟩ : NR .call), fam0 .call), ⟨Nat.zero_le _, by simpa using Nst.zero cs.length _⟩, SubS.weak ?_⟩ ?_
    · simp (config := { maxSteps := 2000000 }) only [go_sem, hG, hP, Nat.reduceEqDiff, ↓reduceIte, reduceCtorEq, Nat.reduceAdd, Nat.reduceSub, Nat.reduceMul, Nat.reduceLT, Nat.reduceLeDiff, Int.reduceAdd, Int.reduceSub, Int.reduceMul, Int.reduceLT, Int.reduceLE, Int.reduceEq, Int.reduceNeg, Int.reduceNe, Int.reduceGE, Int.reduceGT, Nat.reduceBEq, Int.reduceToNat]
      all_goals simp
    · rintro ⟨k, xs, es⟩ ⟨hk, hn⟩
      dsimp only at hk hn ⊢
      have hxl : xs.length = cs.length := by have := hn.len; simp at this; omega
      simp (config := { maxSteps := 2000000 }) only [go_sem, hG, hP, Nat.reduceEqDiff, ↓reduceIte, reduceCtorEq, Nat.reduceAdd, Nat.reduceSub, Nat.reduceMul, Nat.reduceLT, Nat.reduceLeDiff, Int.reduceAdd, Int.reduceSub, Int.reduceMul, Int.reduceLT, Int.reduceLE, Int.reduceEq, Int.reduceNeg, Int.reduceNe, Int.reduceGE, Int.reduceGT, Nat.reduceBEq, Int.reduceToNat,  spToCall_f, spToCall_t, spToCall_k]
      (try simp (disch := omega) only [wrap_id])
      refine ⟨fun hlt => ?_, fun hge => ⟨_, _, _, ?_, h xs es ?_⟩⟩
      · repeat (refine And.intro (by first | omega | (simp; done) | (simp; omega) | (unfold appRoom; omega)) ?_)
        refine ⟨legsOk2_get hlegs (by omega), by omega, by omega, fun r es' ha => ⟨fun _ => ⟨(k + 1, xs.set k ⟨⟨(cs.getD k (⟨false, []⟩ : Cal)).pk, []⟩, r⟩, es'), ⟨⟨by dsimp only; omega, ?_⟩, by dsimp only; omega⟩, SubS.weak ?_⟩, fun hx => absurd (show k < xs.length by omega) hx⟩⟩
        rotate_left
        · simp (config := { maxSteps := 2000000 }) only [go_sem, hG, hP, Nat.reduceEqDiff, ↓reduceIte, reduceCtorEq, Nat.reduceAdd, Nat.reduceSub, Nat.reduceMul, Nat.reduceLT, Nat.reduceLeDiff, Int.reduceAdd, Int.reduceSub, Int.reduceMul, Int.reduceLT, Int.reduceLE, Int.reduceEq, Int.reduceNeg, Int.reduceNe, Int.reduceGE, Int.reduceGT, Nat.reduceBEq, Int.reduceToNat]
          all_goals simp
        · have h2 := hn.setA (j := k) (p := (cs.getD k (⟨false, []⟩ : Cal)).pk) (l0 := []) (by simp; omega) ha
          rw [List.take_length] at h2
          have e : (⟨(cs.getD k (⟨false, []⟩ : Cal)).pk, (cs.getD k (⟨false, []⟩ : Cal)).legs⟩ : Cal) = cs.getD k (⟨false, []⟩ : Cal) := rfl
          rw [e, fill_set _ _ _ _ (by omega)] at h2
          exact h2
      · simp (config := { maxSteps := 2000000 }) only [go_sem, hG, hP, Nat.reduceEqDiff, ↓reduceIte, reduceCtorEq, Nat.reduceAdd, Nat.reduceSub, Nat.reduceMul, Nat.reduceLT, Nat.reduceLeDiff, Int.reduceAdd, Int.reduceSub, Int.reduceMul, Int.reduceLT, Int.reduceLE, Int.reduceEq, Int.reduceNeg, Int.reduceNe, Int.reduceGE, Int.reduceGT, Nat.reduceBEq, Int.reduceToNat]
      · simpa [show k = cs.length by omega] using hn
  · exact h.elim
def spToPanel : Spec := ⟨fun _ _ => [], fun args objs K => match args, objs with
  | [.agg [.v (.int .i64 l), .rs .call cs]], [] => (cs.length ≤ 1099511627776 ∧ legsOk2 cs) ∧ ∀ xs es, Nst xs es cs → K (.agg [.v (.int .i64 l), .sub 0 2 0 cs.length]) [(0, .nrow .call xs es [])] 1
  | _, _ => False, false⟩
theorem spToPanel_t {L : Hp} {a : List AVal} : Spec.take spToPanel L a = [] := id rfl
theorem spToPanel_k : Spec.keep spToPanel = false := id rfl
theorem spToPanel_f {l} {cs} {K : AVal → Hp → Nat → Prop} : Spec.f spToPanel ([.agg [.v (.int .i64 l), .rs .call cs]]) ([]) K = ((cs.length ≤ 1099511627776 ∧ legsOk2 cs) ∧ ∀ xs es, Nst xs es cs → K (.agg [.v (.int .i64 l), .sub 0 2 0 cs.length]) [(0, .nrow .call xs es [])] 1) := id rfl
theorem valid15 : Valid Try.prog 15 spToPanel := by
  refine validI (Γ := lk [(49, spToCallS)]) Try.func15 bod15 low15 res15 (good_of ⟨⟨cal49, valid49⟩, trivial⟩) ?_
  intro E args objs K h hE hG hP
  simp only [spToPanel] at h
  split at h
  · refine ⟨by simp [Try.ntmps15], ?_⟩
    rename_i l cs
    obtain ⟨⟨hlen, hlegs⟩, h⟩ := h
    simp (config := { maxSteps := 2000000 }) only [go_sem, hG, hP, Nat.reduceEqDiff, ↓reduceIte, reduceCtorEq, Nat.reduceAdd, Nat.reduceSub, Nat.reduceMul, Nat.reduceLT, Nat.reduceLeDiff, Int.reduceAdd, Int.reduceSub, Int.reduceMul, Int.reduceLT, Int.reduceLE, Int.reduceEq, Int.reduceNeg, Int.reduceNe, Int.reduceGE, Int.reduceGT, Nat.reduceBEq, Int.reduceToNat,  spToCallS_f, spToCallS_t, spToCallS_k]
    refine ⟨⟨hlen, hlegs⟩, fun xs es hn => ⟨_, _, _, ?_, h xs es hn⟩⟩
    simp (config := { maxSteps := 2000000 }) only [go_sem, hG, hP, Nat.reduceEqDiff, ↓reduceIte, reduceCtorEq, Nat.reduceAdd, Nat.reduceSub, Nat.reduceMul, Nat.reduceLT, Nat.reduceLeDiff, Int.reduceAdd, Int.reduceSub, Int.reduceMul, Int.reduceLT, Int.reduceLE, Int.reduceEq, Int.reduceNeg, Int.reduceNe, Int.reduceGE, Int.reduceGT, Nat.reduceBEq, Int.reduceToNat]
  · exact h.elim
def spEqLeg : Spec := ⟨fun _ _ => [], fun args objs K => match args, objs with
  | [.agg [.v (.int .i64 a0), .v (.bool a1)], .agg [.v (.int .i64 b0), .v (.bool b1)]], [] => K (.v (.bool (decide (a0 = b0 ∧ a1 = b1)))) [] 0
  | _, _ => False, false⟩
theorem spEqLeg_t {L : Hp} {a : List AVal} : Spec.take spEqLeg L a = [] := id rfl
theorem spEqLeg_k : Spec.keep spEqLeg = false := id rfl
theorem spEqLeg_f {a0} {a1} {b0} {b1} {K : AVal → Hp → Nat → Prop} : Spec.f spEqLeg ([.agg [.v (.int .i64 a0), .v (.bool a1)], .agg [.v (.int .i64 b0), .v (.bool b1)]]) ([]) K = (K (.v (.bool (decide (a0 = b0 ∧ a1 = b1)))) [] 0) := id rfl
theorem valid108 : Valid Try.prog 108 spEqLeg := by
  refine validI (Γ := lk []) Try.func108 bod108 low108 res108 (good_of trivial) ?_
  intro E args objs K h hE hG hP
  simp only [spEqLeg] at h
  split at h
  · refine ⟨by simp [Try.ntmps108], ?_⟩
    rename_i a0 a1 b0 b1
    simp (config := { maxSteps := 2000000 }) only [go_sem, hG, hP, Nat.reduceEqDiff, ↓reduceIte, reduceCtorEq, Nat.reduceAdd, Nat.reduceSub, Nat.reduceMul, Nat.reduceLT, Nat.reduceLeDiff, Int.reduceAdd, Int.reduceSub, Int.reduceMul, Int.reduceLT, Int.reduceLE, Int.reduceEq, Int.reduceNeg, Int.reduceNe, Int.reduceGE, Int.reduceGT, Nat.reduceBEq, Int.reduceToNat]
    refine ⟨fun h0 => ⟨_, _, _, ?_, h⟩, fun h0 => ⟨fun h1 => ⟨_, _, _, ?_, h⟩, fun h1 => ⟨_, _, _, ?_, h⟩⟩⟩ <;> simp (config := { maxSteps := 2000000 }) only [go_sem, hG, hP, Nat.reduceEqDiff, ↓reduceIte, reduceCtorEq, Nat.reduceAdd, Nat.reduceSub, Nat.reduceMul, Nat.reduceLT, Nat.reduceLeDiff, Int.reduceAdd, Int.reduceSub, Int.reduceMul, Int.reduceLT, Int.reduceLE, Int.reduceEq, Int.reduceNeg, Int.reduceNe, Int.reduceGE, Int.reduceGT, Nat.reduceBEq, Int.reduceToNat] <;> first | (simp; omega) | (cases a1 <;> cases b1 <;> simp_all)
  · exact h.elim
def spEqLegS : Spec := ⟨fun _ _ => [], fun args objs K => match args, objs with
  | [.rs .leg xs, .rs .leg ys], [] => (xs.length ≤ 1099511627776 ∧ ys.length ≤ 1099511627776) ∧ K (.v (.bool (decide (xs = ys)))) [] 0
  | _, _ => False, false⟩
theorem spEqLegS_t {L : Hp} {a : List AVal} : Spec.take spEqLegS L a = [] := id rfl
theorem spEqLegS_k : Spec.keep spEqLegS = false := id rfl
theorem spEqLegS_f {xs} {ys} {K : AVal → Hp → Nat → Prop} : Spec.f spEqLegS ([.rs .leg xs, .rs .leg ys]) ([]) K = ((xs.length ≤ 1099511627776 ∧ ys.length ≤ 1099511627776) ∧ K (.v (.bool (decide (xs = ys)))) [] 0) := id rfl
theorem valid95 : Valid Try.prog 95 spEqLegS := by
  refine validI (Γ := lk [(108, spEqLeg)]) Try.func95 bod95 low95 res95 (good_of ⟨⟨cal108, valid108⟩, trivial⟩) ?_
  intro E args objs K h hE hG hP
  simp only [spEqLegS] at h
  split at h
  · refine ⟨by simp [Try.ntmps95], ?_⟩
    rename_i xs ys
    obtain ⟨⟨hlen, hlen2⟩, h⟩ := h
    simp (config := { maxSteps := 2000000 }) only [go_sem, hG, hP, Nat.reduceEqDiff, ↓reduceIte, reduceCtorEq, Nat.reduceAdd, Nat.reduceSub, Nat.reduceMul, Nat.reduceLT, Nat.reduceLeDiff, Int.reduceAdd, Int.reduceSub, Int.reduceMul, Int.reduceLT, Int.reduceLE, Int.reduceEq, Int.reduceNeg, Int.reduceNe, Int.reduceGE, Int.reduceGT, Nat.reduceBEq, Int.reduceToNat]
    refine ⟨fun h1 => ⟨_, _, _, ?_, h⟩, fun h1 => ?_⟩
    · simp (config := { maxSteps := 2000000 }) only [go_sem, hG, hP, Nat.reduceEqDiff, ↓reduceIte, reduceCtorEq, Nat.reduceAdd, Nat.reduceSub, Nat.reduceMul, Nat.reduceLT, Nat.reduceLeDiff, Int.reduceAdd, Int.reduceSub, Int.reduceMul, Int.reduceLT, Int.reduceLE, Int.reduceEq, Int.reduceNeg, Int.reduceNe, Int.reduceGE, Int.reduceGT, Nat.reduceBEq, Int.reduceToNat]
      rw [decide_eq_false fun e => h1 (by rw [e])]
    · have hle : xs.length = ys.length := by omega
      refine loopI hE (fun k : Nat => ⟨[(0, .rs .leg xs), (1, .rs .leg ys), (5, .v (.int .i64 k))], [], 0, Try.f95.ntmps⟩) (fun k => k ≤ xs.length ∧ xs.take k = ys.take k) (fun k => xs.length - k) ⟨0, ⟨Nat.zero_le _, rfl⟩, SubS.weak ?_⟩ ?_
      · simp (config := { maxSteps := 2000000 }) only [go_sem, hG, hP, Nat.reduceEqDiff, ↓reduceIte, reduceCtorEq, Nat.reduceAdd, Nat.reduceSub, Nat.reduceMul, Nat.reduceLT, Nat.reduceLeDiff, Int.reduceAdd, Int.reduceSub, Int.reduceMul, Int.reduceLT, Int.reduceLE, Int.reduceEq, Int.reduceNeg, Int.reduceNe, Int.reduceGE, Int.reduceGT, Nat.reduceBEq, Int.reduceToNat]
        all_goals simp
      · intro k ⟨hk, hpre⟩
        simp (config := { maxSteps := 2000000 }) only [go_sem, hG, hP, Nat.reduceEqDiff, ↓reduceIte, reduceCtorEq, Nat.reduceAdd, Nat.reduceSub, Nat.reduceMul, Nat.reduceLT, Nat.reduceLeDiff, Int.reduceAdd, Int.reduceSub, Int.reduceMul, Int.reduceLT, Int.reduceLE, Int.reduceEq, Int.reduceNeg, Int.reduceNe, Int.reduceGE, Int.reduceGT, Nat.reduceBEq, Int.reduceToNat,  spEqLeg_f, spEqLeg_t, spEqLeg_k]
        (try simp (disch := omega) only [wrap_id])
        refine ⟨fun hlt => ?_, fun hge => ⟨_, _, _, ?_, h⟩⟩
        · repeat (refine And.intro (by first | omega | (simp; done) | (simp; omega) | (unfold appRoom; omega)) ?_)
          refine ⟨fun hne => ⟨_, _, _, ?_, h⟩, fun heq => ?_⟩
          · simp (config := { maxSteps := 2000000 }) only [go_sem, hG, hP, Nat.reduceEqDiff, ↓reduceIte, reduceCtorEq, Nat.reduceAdd, Nat.reduceSub, Nat.reduceMul, Nat.reduceLT, Nat.reduceLeDiff, Int.reduceAdd, Int.reduceSub, Int.reduceMul, Int.reduceLT, Int.reduceLE, Int.reduceEq, Int.reduceNeg, Int.reduceNe, Int.reduceGE, Int.reduceGT, Nat.reduceBEq, Int.reduceToNat]
            rw [decide_eq_false fun e => ?_]
            subst e
            simp at hne
          · refine ⟨k + 1, ⟨⟨by omega, take_step (⟨0, false⟩ : Lg) hpre (by omega) (by omega) (by simp at heq; exact lg_ext heq.1 heq.2)⟩, by omega⟩, SubS.weak ?_⟩
            simp (config := { maxSteps := 2000000 }) only [go_sem, hG, hP, Nat.reduceEqDiff, ↓reduceIte, reduceCtorEq, Nat.reduceAdd, Nat.reduceSub, Nat.reduceMul, Nat.reduceLT, Nat.reduceLeDiff, Int.reduceAdd, Int.reduceSub, Int.reduceMul, Int.reduceLT, Int.reduceLE, Int.reduceEq, Int.reduceNeg, Int.reduceNe, Int.reduceGE, Int.reduceGT, Nat.reduceBEq, Int.reduceToNat]
            all_goals simp
        · simp (config := { maxSteps := 2000000 }) only [go_sem, hG, hP, Nat.reduceEqDiff, ↓reduceIte, reduceCtorEq, Nat.reduceAdd, Nat.reduceSub, Nat.reduceMul, Nat.reduceLT, Nat.reduceLeDiff, Int.reduceAdd, Int.reduceSub, Int.reduceMul, Int.reduceLT, Int.reduceLE, Int.reduceEq, Int.reduceNeg, Int.reduceNe, Int.reduceGE, Int.reduceGT, Nat.reduceBEq, Int.reduceToNat]
          rw [decide_eq_true (take_all hpre hle (by omega))]
  · exact h.elim
def spEqCall : Spec := ⟨fun _ _ => [], fun args objs K => match args, objs with
  | [.agg [.v (.bool p), .rs .leg xs], .agg [.v (.bool q), .rs .leg ys]], [] => (xs.length ≤ 1099511627776 ∧ ys.length ≤ 1099511627776) ∧ K (.v (.bool (decide (p = q ∧ xs = ys)))) [] 0
  | _, _ => False, false⟩
theorem spEqCall_t {L : Hp} {a : List AVal} : Spec.take spEqCall L a = [] := id rfl
theorem spEqCall_k : Spec.keep spEqCall = false := id rfl
theorem spEqCall_f {p} {xs} {q} {ys} {K : AVal → Hp → Nat → Prop} : Spec.f spEqCall ([.agg [.v (.bool p), .rs .leg xs], .agg [.v (.bool q), .rs .leg ys]]) ([]) K = ((xs.length ≤ 1099511627776 ∧ ys.length ≤ 1099511627776) ∧ K (.v (.bool (decide (p = q ∧ xs = ys)))) [] 0) := id rfl
theorem valid83 : Valid Try.prog 83 spEqCall := by
  refine validI (Γ := lk [(95, spEqLegS)]) Try.func83 bod83 low83 res83 (good_of ⟨⟨cal95, valid95⟩, trivial⟩) ?_
  intro E args objs K h hE hG hP
  simp only [spEqCall] at h
  split at h
  · refine ⟨by simp [Try.ntmps83], ?_⟩
    rename_i p xs q ys
    obtain ⟨⟨hlen, hlen2⟩, h⟩ := h
    simp (config := { maxSteps := 2000000 }) only [go_sem, hG, hP, Nat.reduceEqDiff, ↓reduceIte, reduceCtorEq, Nat.reduceAdd, Nat.reduceSub, Nat.reduceMul, Nat.reduceLT, Nat.reduceLeDiff, Int.reduceAdd, Int.reduceSub, Int.reduceMul, Int.reduceLT, Int.reduceLE, Int.reduceEq, Int.reduceNeg, Int.reduceNe, Int.reduceGE, Int.reduceGT, Nat.reduceBEq, Int.reduceToNat,  spEqLegS_f, spEqLegS_t, spEqLegS_k]
    refine ⟨fun h0 => ⟨_, _, _, ?_, h⟩, fun h0 => ⟨⟨hlen, hlen2⟩, fun h1 => ⟨_, _, _, ?_, h⟩, fun h1 => ⟨_, _, _, ?_, h⟩⟩⟩ <;> simp (config := { maxSteps := 2000000 }) only [go_sem, hG, hP, Nat.reduceEqDiff, ↓reduceIte, reduceCtorEq, Nat.reduceAdd, Nat.reduceSub, Nat.reduceMul, Nat.reduceLT, Nat.reduceLeDiff, Int.reduceAdd, Int.reduceSub, Int.reduceMul, Int.reduceLT, Int.reduceLE, Int.reduceEq, Int.reduceNeg, Int.reduceNe, Int.reduceGE, Int.reduceGT, Nat.reduceBEq, Int.reduceToNat] <;> (cases p <;> cases q <;> simp_all)
  · exact h.elim
def spEqCallS : Spec := ⟨fun _ _ => [], fun args objs K => match args, objs with
  | [.rs .call xs, .rs .call ys], [] => (xs.length ≤ 1099511627776 ∧ ys.length ≤ 1099511627776 ∧ legsOk2 xs ∧ legsOk2 ys) ∧ K (.v (.bool (decide (xs = ys)))) [] 0
  | _, _ => False, false⟩
theorem spEqCallS_t {L : Hp} {a : List AVal} : Spec.take spEqCallS L a = [] := id rfl
theorem spEqCallS_k : Spec.keep spEqCallS = false := id rfl
theorem spEqCallS_f {xs} {ys} {K : AVal → Hp → Nat → Prop} : Spec.f spEqCallS ([.rs .call xs, .rs .call ys]) ([]) K = ((xs.length ≤ 1099511627776 ∧ ys.length ≤ 1099511627776 ∧ legsOk2 xs ∧ legsOk2 ys) ∧ K (.v (.bool (decide (xs = ys)))) [] 0) := id rfl
theorem valid51 : Valid Try.prog 51 spEqCallS := by
  refine validI (Γ := lk [(83, spEqCall)]) Try.func51 bod51 low51 res51 (good_of ⟨⟨cal83, valid83⟩, trivial⟩) ?_
  intro E args objs K h hE hG hP
  simp only [spEqCallS] at h
  split at h
  · refine ⟨by simp [Try.ntmps51], ?_⟩
    rename_i xs ys
    obtain ⟨⟨hlen, hlen2, hl1, hl2⟩, h⟩ := h
    simp (config := { maxSteps := 2000000 }) only [go_sem, hG, hP, Nat.reduceEqDiff, ↓reduceIte, reduceCtorEq, Nat.reduceAdd, Nat.reduceSub, Nat.reduceMul, Nat.reduceLT, Nat.reduceLeDiff, Int.reduceAdd, Int.reduceSub, Int.reduceMul, Int.reduceLT, Int.reduceLE, Int.reduceEq, Int.reduceNeg, Int.reduceNe, Int.reduceGE, Int.reduceGT, Nat.reduceBEq, Int.reduceToNat]
    refine ⟨fun h1 => ⟨_, _, _, ?_, h⟩, fun h1 => ?_⟩
    · simp (config := { maxSteps := 2000000 }) only [go_sem, hG, hP, Nat.reduceEqDiff, ↓reduceIte, reduceCtorEq, Nat.reduceAdd, Nat.reduceSub, Nat.reduceMul, Nat.reduceLT, Nat.reduceLeDiff, Int.reduceAdd, Int.reduceSub, Int.reduceMul, Int.reduceLT, Int.reduceLE, Int.reduceEq, Int.reduceNeg, Int.reduceNe, Int.reduceGE, Int.reduceGT, Nat.reduceBEq, Int.reduceToNat]
      rw [decide_eq_false fun e => h1 (by rw [e])]
    · have hle : xs.length = ys.length := by omega
      refine loopI hE (fun k : Nat => ⟨[(0, .rs .call xs), (1, .rs .call ys), (5, .v (.int .i64 k))], [], 0, Try.f51.ntmps⟩) (fun k => k ≤ xs.length ∧ xs.take k = ys.take k) (fun k => xs.length - k) ⟨0, ⟨Nat.zero_le _, rfl⟩, SubS.weak ?_⟩ ?_
      · simp (config := { maxSteps := 2000000 }) only [go_sem, hG, hP, Nat.reduceEqDiff, ↓reduceIte, reduceCtorEq, Nat.reduceAdd, Nat.reduceSub, Nat.reduceMul, Nat.reduceLT, Nat.reduceLeDiff, Int.reduceAdd, Int.reduceSub, Int.reduceMul, Int.reduceLT, Int.reduceLE, Int.reduceEq, Int.reduceNeg, Int.reduceNe, Int.reduceGE, Int.reduceGT, Nat.reduceBEq, Int.reduceToNat]
        all_goals simp
      · intro k ⟨hk, hpre⟩
        simp (config := { maxSteps := 2000000 }) only [go_sem, hG, hP, Nat.reduceEqDiff, ↓reduceIte, reduceCtorEq, Nat.reduceAdd, Nat.reduceSub, Nat.reduceMul, Nat.reduceLT, Nat.reduceLeDiff, Int.reduceAdd, Int.reduceSub, Int.reduceMul, Int.reduceLT, Int.reduceLE, Int.reduceEq, Int.reduceNeg, Int.reduceNe, Int.reduceGE, Int.reduceGT, Nat.reduceBEq, Int.reduceToNat,  spEqCall_f, spEqCall_t, spEqCall_k]
        (try simp (disch := omega) only [wrap_id])
        refine ⟨fun hlt => ?_, fun hge => ⟨_, _, _, ?_, h⟩⟩
        · repeat (refine And.intro (by first | omega | (simp; done) | (simp; omega) | (unfold appRoom; omega)) ?_)
          refine ⟨⟨legsOk2_get hl1 (by omega), legsOk2_get hl2 (by omega)⟩, ?_⟩
          refine ⟨fun hne => ⟨_, _, _, ?_, h⟩, fun heq => ?_⟩
          · simp (config := { maxSteps := 2000000 }) only [go_sem, hG, hP, Nat.reduceEqDiff, ↓reduceIte, reduceCtorEq, Nat.reduceAdd, Nat.reduceSub, Nat.reduceMul, Nat.reduceLT, Nat.reduceLeDiff, Int.reduceAdd, Int.reduceSub, Int.reduceMul, Int.reduceLT, Int.reduceLE, Int.reduceEq, Int.reduceNeg, Int.reduceNe, Int.reduceGE, Int.reduceGT, Nat.reduceBEq, Int.reduceToNat]
            rw [decide_eq_false fun e => ?_]
            subst e
            simp at hne
          · refine ⟨k + 1, ⟨⟨by omega, take_step (⟨false, []⟩ : Cal) hpre (by omega) (by omega) (by simp at heq; exact cal_ext heq.1 heq.2)⟩, by omega⟩, SubS.weak ?_⟩
            simp (config := { maxSteps := 2000000 }) only [go_sem, hG, hP, Nat.reduceEqDiff, ↓reduceIte, reduceCtorEq, Nat.reduceAdd, Nat.reduceSub, Nat.reduceMul, Nat.reduceLT, Nat.reduceLeDiff, Int.reduceAdd, Int.reduceSub, Int.reduceMul, Int.reduceLT, Int.reduceLE, Int.reduceEq, Int.reduceNeg, Int.reduceNe, Int.reduceGE, Int.reduceGT, Nat.reduceBEq, Int.reduceToNat]
            all_goals simp
        · simp (config := { maxSteps := 2000000 }) only [go_sem, hG, hP, Nat.reduceEqDiff, ↓reduceIte, reduceCtorEq, Nat.reduceAdd, Nat.reduceSub, Nat.reduceMul, Nat.reduceLT, Nat.reduceLeDiff, Int.reduceAdd, Int.reduceSub, Int.reduceMul, Int.reduceLT, Int.reduceLE, Int.reduceEq, Int.reduceNeg, Int.reduceNe, Int.reduceGE, Int.reduceGT, Nat.reduceBEq, Int.reduceToNat]
          rw [decide_eq_true (take_all hpre hle (by omega))]
  · exact h.elim
def spEqPanel : Spec := ⟨fun _ _ => [], fun args objs K => match args, objs with
  | [.agg [.v (.int .i64 a), .rs .call xs], .agg [.v (.int .i64 b), .rs .call ys]], [] => (xs.length ≤ 1099511627776 ∧ ys.length ≤ 1099511627776 ∧ legsOk2 xs ∧ legsOk2 ys) ∧ K (.v (.bool (decide (a = b ∧ xs = ys)))) [] 0
  | _, _ => False, false⟩
theorem spEqPanel_t {L : Hp} {a : List AVal} : Spec.take spEqPanel L a = [] := id rfl
theorem spEqPanel_k : Spec.keep spEqPanel = false := id rfl
theorem spEqPanel_f {a} {xs} {b} {ys} {K : AVal → Hp → Nat → Prop} : Spec.f spEqPanel ([.agg [.v (.int .i64 a), .rs .call xs], .agg [.v (.int .i64 b), .rs .call ys]]) ([]) K = ((xs.length ≤ 1099511627776 ∧ ys.length ≤ 1099511627776 ∧ legsOk2 xs ∧ legsOk2 ys) ∧ K (.v (.bool (decide (a = b ∧ xs = ys)))) [] 0) := id rfl
theorem valid17 : Valid Try.prog 17 spEqPanel := by
  refine validI (Γ := lk [(51, spEqCallS)]) Try.func17 bod17 low17 res17 (good_of ⟨⟨cal51, valid51⟩, trivial⟩) ?_
  intro E args objs K h hE hG hP
  simp only [spEqPanel] at h
  split at h
  · refine ⟨by simp [Try.ntmps17], ?_⟩
    rename_i a xs b ys
    obtain ⟨⟨hlen, hlen2, hl1, hl2⟩, h⟩ := h
    simp (config := { maxSteps := 2000000 }) only [go_sem, hG, hP, Nat.reduceEqDiff, ↓reduceIte, reduceCtorEq, Nat.reduceAdd, Nat.reduceSub, Nat.reduceMul, Nat.reduceLT, Nat.reduceLeDiff, Int.reduceAdd, Int.reduceSub, Int.reduceMul, Int.reduceLT, Int.reduceLE, Int.reduceEq, Int.reduceNeg, Int.reduceNe, Int.reduceGE, Int.reduceGT, Nat.reduceBEq, Int.reduceToNat,  spEqCallS_f, spEqCallS_t, spEqCallS_k]
    refine ⟨fun h0 => ⟨_, _, _, ?_, h⟩, fun h0 => ⟨⟨hlen, hlen2, hl1, hl2⟩, fun h1 => ⟨_, _, _, ?_, h⟩, fun h1 => ⟨_, _, _, ?_, h⟩⟩⟩ <;> simp (config := { maxSteps := 2000000 }) only [go_sem, hG, hP, Nat.reduceEqDiff, ↓reduceIte, reduceCtorEq, Nat.reduceAdd, Nat.reduceSub, Nat.reduceMul, Nat.reduceLT, Nat.reduceLeDiff, Int.reduceAdd, Int.reduceSub, Int.reduceMul, Int.reduceLT, Int.reduceLE, Int.reduceEq, Int.reduceNeg, Int.reduceNe, Int.reduceGE, Int.reduceGT, Nat.reduceBEq, Int.reduceToNat] <;> simp_all
  · exact h.elim

end Go.Proofs.YtnbfnpnephfjaaaE

/-! The code of a function, in the engine's words. -/
namespace Go.Proofs.YtnbfnpnephfjaaaE
open Go Go.RowKit
@[reducible] def ic14 : IC := (.seq (.ops [⟨some 1, .box (.tmp 0), none⟩, ⟨some 2, .mov (.const (.bool false)), none⟩]) (.seq (.seq (.ops [⟨some 8, .fadr 0 (.tmp 1), none⟩, ⟨some 9, .load 1 false (.tmp 8), none⟩, ⟨some 10, .call 48 [(.tmp 9), (.const (.int .i64 1)), (.const (.int .i64 40))], none⟩, ⟨some 11, .una .not (.tmp 10), none⟩]) (.cond (.tmp 11) (.seq (.ops [⟨some 2, .mov (.const (.bool false)), none⟩]) .ret) .skip)) (.seq (.ops [⟨some 12, .fadr 0 (.tmp 1), none⟩, ⟨some 13, .load 1 false (.tmp 12), none⟩, ⟨some 14, .mk .bool 1 (.tmp 13) (.tmp 13), none⟩, ⟨some 3, .mov (.tmp 14), none⟩]) (.seq (.seq (.ops [⟨some 4, .mov (.const (.int .i64 0)), none⟩]) (.block 0 (.loop (.seq (.seq (.ops [⟨some 15, .mov (.tmp 4), none⟩, ⟨some 16, .fadr 1 (.tmp 1), none⟩, ⟨some 17, .load 1 false (.tmp 16), none⟩, ⟨some 18, .len (.tmp 17), none⟩, ⟨some 19, .bin .lss (.tmp 15) (.tmp 18), none⟩]) (.cond (.tmp 19) .skip (.exit 0))) (.seq (.block 1 (.seq (.ops [⟨some 22, .fadr 1 (.tmp 1), none⟩, ⟨some 23, .load 1 false (.tmp 22), none⟩, ⟨some 24, .mov (.tmp 4), none⟩, ⟨some 25, .iadr 2 (.tmp 23) (.tmp 24), none⟩, ⟨some 26, .fadr 1 (.tmp 25), none⟩, ⟨some 27, .load 1 false (.tmp 26), none⟩, ⟨some 28, .len (.tmp 27), none⟩, ⟨some 5, .mov (.tmp 28), none⟩]) (.seq (.seq (.ops [⟨some 29, .mov (.tmp 5), none⟩, ⟨some 30, .call 48 [(.tmp 29), (.const (.int .i64 1)), (.const (.int .i64 8))], none⟩, ⟨some 31, .una .not (.tmp 30), none⟩, ⟨some 32, .mov (.tmp 31), none⟩, ⟨some 33, .mov (.tmp 5), some (32, false)⟩, ⟨some 34, .bin .lss (.tmp 33) (.const (.int .i64 2)), some (32, false)⟩, ⟨some 35, .mov (.tmp 34), some (32, false)⟩, ⟨some 36, .fadr 1 (.tmp 1), some (35, true)⟩, ⟨some 37, .load 1 false (.tmp 36), some (35, true)⟩, ⟨some 38, .mov (.tmp 4), some (35, true)⟩, ⟨some 39, .iadr 2 (.tmp 37) (.tmp 38), some (35, true)⟩, ⟨some 40, .fadr 0 (.tmp 39), some (35, true)⟩, ⟨some 41, .load 1 false (.tmp 40), some (35, true)⟩, ⟨some 42, .una .not (.tmp 41), some (35, true)⟩, ⟨some 43, .pick (.tmp 35) (.tmp 42) (.const (.bool false)), some (32, false)⟩, ⟨some 44, .pick (.tmp 32) (.const (.bool true)) (.tmp 43), none⟩]) (.cond (.tmp 44) (.seq (.ops [⟨some 2, .mov (.const (.bool false)), none⟩]) .ret) .skip)) (.seq (.ops [⟨some 6, .mov (.const (.int .i64 0)), none⟩]) (.block 2 (.loop (.seq (.seq (.ops [⟨some 45, .mov (.tmp 6), none⟩, ⟨some 46, .mov (.tmp 5), none⟩, ⟨some 47, .bin .lss (.tmp 45) (.tmp 46), none⟩]) (.cond (.tmp 47) .skip (.exit 2))) (.seq (.block 3 (.seq (.ops [⟨some 50, .fadr 1 (.tmp 1), none⟩, ⟨some 51, .load 1 false (.tmp 50), none⟩, ⟨some 52, .mov (.tmp 4), none⟩, ⟨some 53, .iadr 2 (.tmp 51) (.tmp 52), none⟩, ⟨some 54, .fadr 1 (.tmp 53), none⟩, ⟨some 55, .load 1 false (.tmp 54), none⟩, ⟨some 56, .mov (.tmp 6), none⟩, ⟨some 57, .iadr 2 (.tmp 55) (.tmp 56), none⟩, ⟨some 58, .fadr 0 (.tmp 57), none⟩, ⟨some 59, .load 1 false (.tmp 58), none⟩, ⟨some 7, .mov (.tmp 59), none⟩]) (.seq (.seq (.ops [⟨some 60, .mov (.tmp 7), none⟩, ⟨some 61, .fadr 0 (.tmp 1), none⟩, ⟨some 62, .load 1 false (.tmp 61), none⟩, ⟨some 63, .bin .sub (.tmp 62) (.const (.int .i64 1)), none⟩, ⟨some 64, .call 48 [(.tmp 60), (.const (.int .i64 0)), (.tmp 63)], none⟩, ⟨some 65, .una .not (.tmp 64), none⟩, ⟨some 66, .mov (.tmp 65), none⟩, ⟨some 67, .mov (.tmp 3), some (66, false)⟩, ⟨some 68, .mov (.tmp 7), some (66, false)⟩, ⟨some 69, .iadr 1 (.tmp 67) (.tmp 68), some (66, false)⟩, ⟨some 70, .load 1 false (.tmp 69), some (66, false)⟩, ⟨some 71, .pick (.tmp 66) (.const (.bool true)) (.tmp 70), none⟩]) (.cond (.tmp 71) (.seq (.ops [⟨some 2, .mov (.const (.bool false)), none⟩]) .ret) .skip)) (.ops [⟨some 72, .mov (.tmp 3), none⟩, ⟨some 73, .mov (.tmp 7), none⟩, ⟨some 74, .iadr 1 (.tmp 72) (.tmp 73), none⟩, ⟨none, .store 1 (.tmp 74) (.const (.bool true)), none⟩])))) (.ops [⟨some 48, .mov (.tmp 6), none⟩, ⟨some 49, .bin .add (.tmp 48) (.const (.int .i64 1)), none⟩, ⟨some 6, .mov (.tmp 49), none⟩]))))))))) (.ops [⟨some 20, .mov (.tmp 4), none⟩, ⟨some 21, .bin .add (.tmp 20) (.const (.int .i64 1)), none⟩, ⟨some 4, .mov (.tmp 21), none⟩])))))) (.seq (.ops [⟨some 2, .mov (.const (.bool true)), none⟩]) .ret)))))
@[reducible] def rv14 : List RV := [.tmp 2]
theorem low14 : lowC Try.prog tau Try.f14.ntmps (Try.f14.body.getD .skip) = some (erase ic14) := by kernel_rfl
theorem res14 : lowR Try.prog Try.f14.results.toList = some rv14 := by kernel_rfl
theorem bod14 : Try.f14.body = some (Try.f14.body.getD .skip) := by kernel_rfl
theorem cal14 : callable Try.prog 14 = true := by kernel_rfl

end Go.Proofs.YtnbfnpnephfjaaaE

/-! The code of a function, in the engine's words. -/
namespace Go.Proofs.YtnbfnpnephfjaaaE
open Go Go.RowKit
@[reducible] def ic16 : IC := (.seq (.ops [⟨some 1, .box (.tmp 0), none⟩, ⟨some 2, .mov (.const (.bool false)), none⟩]) (.seq (.seq (.ops [⟨some 8, .fadr 0 (.tmp 1), none⟩, ⟨some 9, .load 1 false (.tmp 8), none⟩, ⟨some 10, .call 50 [(.tmp 9), (.const (.int .i64 1)), (.const (.int .i64 40))], none⟩, ⟨some 11, .una .not (.tmp 10), none⟩]) (.cond (.tmp 11) (.seq (.ops [⟨some 2, .mov (.const (.bool false)), none⟩]) .ret) .skip)) (.seq (.ops [⟨some 12, .mmk .int false, none⟩, ⟨some 3, .mov (.tmp 12), none⟩]) (.seq (.seq (.ops [⟨some 13, .fadr 1 (.tmp 1), none⟩, ⟨some 14, .load 1 false (.tmp 13), none⟩, ⟨some 15, .len (.tmp 14), none⟩, ⟨some 16, .mov (.const (.int .i64 0)), none⟩]) (.block 0 (.loop (.seq (.ops [⟨some 17, .bin .lss (.tmp 16) (.tmp 15), none⟩]) (.seq (.cond (.tmp 17) .skip (.exit 0)) (.seq (.block 1 (.seq (.ops [⟨some 18, .iadr 2 (.tmp 14) (.tmp 16), none⟩, ⟨some 19, .load 2 true (.tmp 18), none⟩, ⟨some 5, .new [(.bool false), (.slice none 0 0)], none⟩, ⟨none, .store 2 (.tmp 5) (.tmp 19), none⟩]) (.seq (.seq (.ops [⟨some 20, .fadr 1 (.tmp 5), none⟩, ⟨some 21, .load 1 false (.tmp 20), none⟩, ⟨some 22, .len (.tmp 21), none⟩, ⟨some 23, .bin .lss (.tmp 22) (.const (.int .i64 1)), none⟩, ⟨some 24, .mov (.tmp 23), none⟩, ⟨some 25, .fadr 1 (.tmp 5), some (24, false)⟩, ⟨some 26, .load 1 false (.tmp 25), some (24, false)⟩, ⟨some 27, .len (.tmp 26), some (24, false)⟩, ⟨some 28, .bin .gtr (.tmp 27) (.const (.int .i64 8)), some (24, false)⟩, ⟨some 29, .pick (.tmp 24) (.const (.bool true)) (.tmp 28), none⟩, ⟨some 30, .mov (.tmp 29), none⟩, ⟨some 31, .fadr 1 (.tmp 5), some (30, false)⟩, ⟨some 32, .load 1 false (.tmp 31), some (30, false)⟩, ⟨some 33, .len (.tmp 32), some (30, false)⟩, ⟨some 34, .bin .lss (.tmp 33) (.const (.int .i64 2)), some (30, false)⟩, ⟨some 35, .mov (.tmp 34), some (30, false)⟩, ⟨some 36, .fadr 0 (.tmp 5), some (35, true)⟩, ⟨some 37, .load 1 false (.tmp 36), some (35, true)⟩, ⟨some 38, .una .not (.tmp 37), some (35, true)⟩, ⟨some 39, .pick (.tmp 35) (.tmp 38) (.const (.bool false)), some (30, false)⟩, ⟨some 40, .pick (.tmp 30) (.const (.bool true)) (.tmp 39), none⟩]) (.cond (.tmp 40) (.seq (.ops [⟨some 2, .mov (.const (.bool false)), none⟩]) .ret) .skip)) (.seq (.ops [⟨some 41, .fadr 1 (.tmp 5), none⟩, ⟨some 42, .load 1 false (.tmp 41), none⟩, ⟨some 43, .len (.tmp 42), none⟩, ⟨some 44, .mov (.const (.int .i64 0)), none⟩]) (.block 2 (.loop (.seq (.ops [⟨some 45, .bin .lss (.tmp 44) (.tmp 43), none⟩]) (.seq (.cond (.tmp 45) .skip (.exit 2)) (.seq (.block 3 (.seq (.ops [⟨some 46, .iadr 2 (.tmp 42) (.tmp 44), none⟩, ⟨some 47, .load 2 true (.tmp 46), none⟩, ⟨some 7, .new [(.int .i64 0), (.bool false)], none⟩, ⟨none, .store 2 (.tmp 7) (.tmp 47), none⟩]) (.seq (.seq (.ops [⟨some 48, .fadr 0 (.tmp 7), none⟩, ⟨some 49, .load 1 false (.tmp 48), none⟩, ⟨some 50, .fadr 0 (.tmp 1), none⟩, ⟨some 51, .load 1 false (.tmp 50), none⟩, ⟨some 52, .bin .sub (.tmp 51) (.const (.int .i64 1)), none⟩, ⟨some 53, .call 50 [(.tmp 49), (.const (.int .i64 0)), (.tmp 52)], none⟩, ⟨some 54, .una .not (.tmp 53), none⟩, ⟨some 55, .mov (.tmp 54), none⟩, ⟨some 56, .mov (.tmp 3), some (55, false)⟩, ⟨some 57, .fadr 0 (.tmp 7), some (55, false)⟩, ⟨some 58, .load 1 false (.tmp 57), some (55, false)⟩, ⟨some 59, .mget .int false false (.tmp 56) (.tmp 58), some (55, false)⟩, ⟨some 60, .pick (.tmp 55) (.const (.bool true)) (.tmp 59), none⟩]) (.cond (.tmp 60) (.seq (.ops [⟨some 2, .mov (.const (.bool false)), none⟩]) .ret) .skip)) (.ops [⟨some 61, .mov (.tmp 3), none⟩, ⟨some 62, .fadr 0 (.tmp 7), none⟩, ⟨some 63, .load 1 false (.tmp 62), none⟩, ⟨none, .mput .int false (.tmp 61) (.tmp 63) (.const (.bool true)), none⟩])))) (.ops [⟨some 64, .bin .add (.tmp 44) (.const (.int .i64 1)), none⟩, ⟨some 44, .mov (.tmp 64), none⟩])))))))))) (.ops [⟨some 65, .bin .add (.tmp 16) (.const (.int .i64 1)), none⟩, ⟨some 16, .mov (.tmp 65), none⟩]))))))) (.seq (.ops [⟨some 2, .mov (.const (.bool true)), none⟩]) .ret)))))
@[reducible] def rv16 : List RV := [.tmp 2]
theorem low16 : lowC Try.prog tau Try.f16.ntmps (Try.f16.body.getD .skip) = some (erase ic16) := by kernel_rfl
theorem res16 : lowR Try.prog Try.f16.results.toList = some rv16 := by kernel_rfl
theorem bod16 : Try.f16.body = some (Try.f16.body.getD .skip) := by kernel_rfl
theorem cal16 : callable Try.prog 16 = true := by kernel_rfl

end Go.Proofs.YtnbfnpnephfjaaaE

/-! The code of a function, in the engine's words. -/
namespace Go.Proofs.YtnbfnpnephfjaaaE
open Go Go.RowKit
@[reducible] def ic52 : IC := (.seq (.ops [⟨some 2, .box (.tmp 0), none⟩, ⟨some 4, .mov (.const (.int .i64 0)), none⟩, ⟨some 5, .mov (.const (.int .i64 0)), none⟩]) (.seq (.seq (.ops [⟨some 6, .mov (.const (.int .i64 0)), none⟩]) (.block 0 (.loop (.seq (.seq (.ops [⟨some 8, .mov (.tmp 6), none⟩, ⟨some 9, .fadr 1 (.tmp 2), none⟩, ⟨some 10, .load 1 false (.tmp 9), none⟩, ⟨some 11, .len (.tmp 10), none⟩, ⟨some 12, .bin .lss (.tmp 8) (.tmp 11), none⟩]) (.cond (.tmp 12) .skip (.exit 0))) (.seq (.block 1 (.seq (.ops [⟨some 7, .mov (.const (.int .i64 0)), none⟩]) (.block 2 (.loop (.seq (.seq (.ops [⟨some 15, .mov (.tmp 7), none⟩, ⟨some 16, .fadr 1 (.tmp 2), none⟩, ⟨some 17, .load 1 false (.tmp 16), none⟩, ⟨some 18, .mov (.tmp 6), none⟩, ⟨some 19, .iadr 2 (.tmp 17) (.tmp 18), none⟩, ⟨some 20, .fadr 1 (.tmp 19), none⟩, ⟨some 21, .load 1 false (.tmp 20), none⟩, ⟨some 22, .len (.tmp 21), none⟩, ⟨some 23, .bin .lss (.tmp 15) (.tmp 22), none⟩]) (.cond (.tmp 23) .skip (.exit 2))) (.seq (.block 3 (.seq (.ops [⟨some 26, .fadr 1 (.tmp 2), none⟩, ⟨some 27, .load 1 false (.tmp 26), none⟩, ⟨some 28, .mov (.tmp 6), none⟩, ⟨some 29, .iadr 2 (.tmp 27) (.tmp 28), none⟩, ⟨some 30, .fadr 1 (.tmp 29), none⟩, ⟨some 31, .load 1 false (.tmp 30), none⟩, ⟨some 32, .mov (.tmp 7), none⟩, ⟨some 33, .iadr 2 (.tmp 31) (.tmp 32), none⟩, ⟨some 34, .fadr 0 (.tmp 33), none⟩, ⟨some 35, .load 1 false (.tmp 34), none⟩, ⟨some 36, .mov (.tmp 1), none⟩, ⟨some 37, .bin .eql (.tmp 35) (.tmp 36), none⟩]) (.cond (.tmp 37) (.seq (.ops [⟨some 38, .mov (.tmp 6), none⟩, ⟨some 39, .mov (.tmp 7), none⟩, ⟨some 4, .mov (.tmp 38), none⟩, ⟨some 5, .mov (.tmp 39), none⟩]) .ret) .skip))) (.ops [⟨some 24, .mov (.tmp 7), none⟩, ⟨some 25, .bin .add (.tmp 24) (.const (.int .i64 1)), none⟩, ⟨some 7, .mov (.tmp 25), none⟩]))))))) (.ops [⟨some 13, .mov (.tmp 6), none⟩, ⟨some 14, .bin .add (.tmp 13) (.const (.int .i64 1)), none⟩, ⟨some 6, .mov (.tmp 14), none⟩])))))) (.seq (.ops [⟨some 4, .mov (.const (.int .i64 (-1))), none⟩, ⟨some 5, .mov (.const (.int .i64 (-1))), none⟩]) .ret)))
@[reducible] def rv52 : List RV := [.tmp 4, .tmp 5]
theorem low52 : lowC Try.prog tau Try.f52.ntmps (Try.f52.body.getD .skip) = some (erase ic52) := by kernel_rfl
theorem res52 : lowR Try.prog Try.f52.results.toList = some rv52 := by kernel_rfl
theorem bod52 : Try.f52.body = some (Try.f52.body.getD .skip) := by kernel_rfl
theorem cal52 : callable Try.prog 52 = true := by kernel_rfl

end Go.Proofs.YtnbfnpnephfjaaaE

/-! The code of a function, in the engine's words. -/
namespace Go.Proofs.YtnbfnpnephfjaaaE
open Go Go.RowKit
@[reducible] def ic53 : IC := (.seq (.ops [⟨some 2, .box (.tmp 0), none⟩, ⟨some 4, .mov (.const (.int .i64 0)), none⟩, ⟨some 5, .mov (.const (.int .i64 0)), none⟩]) (.seq (.seq (.ops [⟨some 10, .fadr 1 (.tmp 2), none⟩, ⟨some 11, .load 1 false (.tmp 10), none⟩, ⟨some 12, .len (.tmp 11), none⟩, ⟨some 13, .mov (.const (.int .i64 0)), none⟩]) (.block 0 (.loop (.seq (.ops [⟨some 14, .bin .lss (.tmp 13) (.tmp 12), none⟩]) (.seq (.cond (.tmp 14) .skip (.exit 0)) (.seq (.block 1 (.seq (.ops [⟨some 15, .mov (.tmp 13), none⟩, ⟨some 16, .iadr 2 (.tmp 11) (.tmp 13), none⟩, ⟨some 17, .load 2 true (.tmp 16), none⟩, ⟨some 7, .new [(.bool false), (.slice none 0 0)], none⟩, ⟨some 6, .mov (.tmp 15), none⟩, ⟨none, .store 2 (.tmp 7) (.tmp 17), none⟩]) (.seq (.ops [⟨some 18, .fadr 1 (.tmp 7), none⟩, ⟨some 19, .load 1 false (.tmp 18), none⟩, ⟨some 20, .len (.tmp 19), none⟩, ⟨some 21, .mov (.const (.int .i64 0)), none⟩]) (.block 2 (.loop (.seq (.ops [⟨some 22, .bin .lss (.tmp 21) (.tmp 20), none⟩]) (.seq (.cond (.tmp 22) .skip (.exit 2)) (.seq (.block 3 (.seq (.ops [⟨some 23, .mov (.tmp 21), none⟩, ⟨some 24, .iadr 2 (.tmp 19) (.tmp 21), none⟩, ⟨some 25, .load 2 true (.tmp 24), none⟩, ⟨some 9, .new [(.int .i64 0), (.bool false)], none⟩, ⟨some 8, .mov (.tmp 23), none⟩, ⟨none, .store 2 (.tmp 9) (.tmp 25), none⟩]) (.seq (.ops [⟨some 26, .fadr 0 (.tmp 9), none⟩, ⟨some 27, .load 1 false (.tmp 26), none⟩, ⟨some 28, .mov (.tmp 1), none⟩, ⟨some 29, .bin .eql (.tmp 27) (.tmp 28), none⟩]) (.cond (.tmp 29) (.seq (.ops [⟨some 30, .mov (.tmp 6), none⟩, ⟨some 31, .mov (.tmp 8), none⟩, ⟨some 4, .mov (.tmp 30), none⟩, ⟨some 5, .mov (.tmp 31), none⟩]) .ret) .skip)))) (.ops [⟨some 32, .bin .add (.tmp 21) (.const (.int .i64 1)), none⟩, ⟨some 21, .mov (.tmp 32), none⟩]))))))))) (.ops [⟨some 33, .bin .add (.tmp 13) (.const (.int .i64 1)), none⟩, ⟨some 13, .mov (.tmp 33), none⟩]))))))) (.seq (.ops [⟨some 4, .mov (.const (.int .i64 (-1))), none⟩, ⟨some 5, .mov (.const (.int .i64 (-1))), none⟩]) .ret)))
@[reducible] def rv53 : List RV := [.tmp 4, .tmp 5]
theorem low53 : lowC Try.prog tau Try.f53.ntmps (Try.f53.body.getD .skip) = some (erase ic53) := by kernel_rfl
theorem res53 : lowR Try.prog Try.f53.results.toList = some rv53 := by kernel_rfl
theorem bod53 : Try.f53.body = some (Try.f53.body.getD .skip) := by kernel_rfl
theorem cal53 : callable Try.prog 53 = true := by kernel_rfl

end Go.Proofs.YtnbfnpnephfjaaaE

/-! The code of a function, in the engine's words. -/
namespace Go.Proofs.YtnbfnpnephfjaaaE
open Go Go.RowKit
@[reducible] def ic18 : IC := (.seq (.ops [⟨some 3, .box (.tmp 0), none⟩, ⟨some 6, .mov (.const (.bool false)), none⟩]) (.seq (.ops [⟨some 12, .load 2 true (.tmp 3), none⟩, ⟨some 13, .mov (.tmp 1), none⟩, ⟨some 14, .call 52 [(.tmp 12), (.tmp 13)], none⟩, ⟨some 11, .mov (.tmp 14), none⟩, ⟨some 15, .ext (.tmp 11) 0, none⟩, ⟨some 16, .ext (.tmp 11) 1, none⟩, ⟨some 7, .mov (.tmp 15), none⟩, ⟨some 8, .mov (.tmp 16), none⟩]) (.seq (.ops [⟨some 18, .load 2 true (.tmp 3), none⟩, ⟨some 19, .mov (.tmp 2), none⟩, ⟨some 20, .call 52 [(.tmp 18), (.tmp 19)], none⟩, ⟨some 17, .mov (.tmp 20), none⟩, ⟨some 21, .ext (.tmp 17) 0, none⟩, ⟨some 22, .ext (.tmp 17) 1, none⟩, ⟨some 9, .mov (.tmp 21), none⟩, ⟨some 10, .mov (.tmp 22), none⟩]) (.seq (.ops [⟨some 23, .load 2 true (.tmp 3), none⟩, ⟨some 24, .call 14 [(.tmp 23)], none⟩, ⟨some 25, .mov (.tmp 24), none⟩, ⟨some 26, .mov (.tmp 7), some (25, true)⟩, ⟨some 27, .bin .geq (.tmp 26) (.const (.int .i64 0)), some (25, true)⟩, ⟨some 28, .pick (.tmp 25) (.tmp 27) (.const (.bool false)), none⟩, ⟨some 29, .mov (.tmp 28), none⟩, ⟨some 30, .mov (.tmp 7), some (29, true)⟩, ⟨some 31, .mov (.tmp 9), some (29, true)⟩, ⟨some 32, .bin .eql (.tmp 30) (.tmp 31), some (29, true)⟩, ⟨some 33, .pick (.tmp 29) (.tmp 32) (.const (.bool false)), none⟩, ⟨some 6, .mov (.tmp 33), none⟩]) .ret))))
@[reducible] def rv18 : List RV := [.tmp 6]
theorem low18 : lowC Try.prog tau Try.f18.ntmps (Try.f18.body.getD .skip) = some (erase ic18) := by kernel_rfl
theorem res18 : lowR Try.prog Try.f18.results.toList = some rv18 := by kernel_rfl
theorem bod18 : Try.f18.body = some (Try.f18.body.getD .skip) := by kernel_rfl
theorem cal18 : callable Try.prog 18 = true := by kernel_rfl

end Go.Proofs.YtnbfnpnephfjaaaE

/-! The code of a function, in the engine's words. -/
namespace Go.Proofs.YtnbfnpnephfjaaaE
open Go Go.RowKit
@[reducible] def ic19 : IC := (.seq (.ops [⟨some 3, .box (.tmp 0), none⟩, ⟨some 6, .mov (.const (.bool false)), none⟩]) (.seq (.seq (.ops [⟨some 11, .load 2 true (.tmp 3), none⟩, ⟨some 12, .call 16 [(.tmp 11)], none⟩, ⟨some 13, .una .not (.tmp 12), none⟩]) (.cond (.tmp 13) (.seq (.ops [⟨some 6, .mov (.const (.bool false)), none⟩]) .ret) .skip)) (.seq (.ops [⟨some 15, .load 2 true (.tmp 3), none⟩, ⟨some 16, .mov (.tmp 1), none⟩, ⟨some 17, .call 53 [(.tmp 15), (.tmp 16)], none⟩, ⟨some 14, .mov (.tmp 17), none⟩, ⟨some 18, .ext (.tmp 14) 0, none⟩, ⟨some 19, .ext (.tmp 14) 1, none⟩, ⟨some 7, .mov (.tmp 18), none⟩, ⟨some 8, .mov (.tmp 19), none⟩]) (.seq (.ops [⟨some 21, .load 2 true (.tmp 3), none⟩, ⟨some 22, .mov (.tmp 2), none⟩, ⟨some 23, .call 53 [(.tmp 21), (.tmp 22)], none⟩, ⟨some 20, .mov (.tmp 23), none⟩, ⟨some 24, .ext (.tmp 20) 0, none⟩, ⟨some 25, .ext (.tmp 20) 1, none⟩, ⟨some 9, .mov (.tmp 24), none⟩, ⟨some 10, .mov (.tmp 25), none⟩]) (.seq (.ops [⟨some 26, .mov (.tmp 7), none⟩, ⟨some 27, .bin .geq (.tmp 26) (.const (.int .i64 0)), none⟩, ⟨some 28, .mov (.tmp 27), none⟩, ⟨some 29, .mov (.tmp 7), some (28, true)⟩, ⟨some 30, .mov (.tmp 9), some (28, true)⟩, ⟨some 31, .bin .eql (.tmp 29) (.tmp 30), some (28, true)⟩, ⟨some 32, .pick (.tmp 28) (.tmp 31) (.const (.bool false)), none⟩, ⟨some 6, .mov (.tmp 32), none⟩]) .ret)))))
@[reducible] def rv19 : List RV := [.tmp 6]
theorem low19 : lowC Try.prog tau Try.f19.ntmps (Try.f19.body.getD .skip) = some (erase ic19) := by kernel_rfl
theorem res19 : lowR Try.prog Try.f19.results.toList = some rv19 := by kernel_rfl
theorem bod19 : Try.f19.body = some (Try.f19.body.getD .skip) := by kernel_rfl
theorem cal19 : callable Try.prog 19 = true := by kernel_rfl

end Go.Proofs.YtnbfnpnephfjaaaE

/-! Right panels; where a line stands. -/
namespace Go.Proofs.YtnbfnpnephfjaaaE
open Go Go.RowKit
set_option linter.unusedSimpArgs false
set_option linter.unusedVariables false
set_option maxRecDepth 20000
set_option maxHeartbeats 4000000
def okC (c : Cal) : Bool := decide (1 ≤ c.legs.length ∧ c.legs.length ≤ 8 ∧ (2 ≤ c.legs.length ∨ c.pk = true))
def linesOf (cs : List Cal) : List Int := (cs.map fun c => c.legs.map Lg.line).flatten
def panelOk (l : Int) (cs : List Cal) : Bool := decide (1 ≤ l ∧ l ≤ 40) && (cs.all okC && ((linesOf cs).all (fun x => decide (0 ≤ x ∧ x < l)) && decide (linesOf cs).Nodup))
/-- These lines are within bounds, and each stands there once. -/
structure Good (l : Int) (S : List Int) : Prop where
  bd : ∀ x ∈ S, 0 ≤ x ∧ x < l
  nd : S.Nodup
theorem panelOk_iff {l : Int} {cs : List Cal} : panelOk l cs = true ↔ (1 ≤ l ∧ l ≤ 40) ∧ (∀ c ∈ cs, okC c = true) ∧ Good l (linesOf cs) := by
  simp only [panelOk, Bool.and_eq_true, decide_eq_true_eq, List.all_eq_true]
  exact ⟨fun h => ⟨h.1, h.2.1, h.2.2.1, h.2.2.2⟩, fun h => ⟨h.1, h.2.1, h.2.2.1, h.2.2.2⟩⟩
theorem Good.nil (l : Int) : Good l [] := ⟨fun x h => absurd h List.not_mem_nil, List.nodup_nil⟩
theorem Good.snoc {l : Int} {S : List Int} (h : Good l S) {x : Int} (hb : 0 ≤ x ∧ x < l) (hx : x ∉ S) : Good l (S ++ [x]) := by
  refine ⟨fun y hy => ?_, ?_⟩
  · rcases List.mem_append.1 hy with hy | hy
    · exact h.bd y hy
    · rw [List.mem_singleton.1 hy]; exact hb
  · rw [List.nodup_append]
    refine ⟨h.nd, by simp, fun a ha b hb' e => ?_⟩
    rw [List.mem_singleton.1 hb'] at e; exact hx (e ▸ ha)
theorem Good.pre {l : Int} {S R : List Int} (h : Good l (S ++ R)) : Good l S := ⟨fun x hx => h.bd x (List.mem_append_left _ hx), (List.nodup_append.1 h.nd).1⟩
theorem Good.last {l : Int} {S : List Int} {x : Int} (h : Good l (S ++ [x])) : (0 ≤ x ∧ x < l) ∧ x ∉ S := by
  refine ⟨h.bd x (by simp), fun hx => ?_⟩
  exact (List.nodup_append.1 h.nd).2.2 x hx x (by simp) rfl
/-- The lines of the first j calls, and of k legs of the next. -/
def preL (cs : List Cal) (j k : Nat) : List Int := linesOf (cs.take j) ++ ((cs.getD j (⟨false, []⟩ : Cal)).legs.take k).map Lg.line
theorem preL_zero {cs : List Cal} : preL cs 0 0 = [] := by simp [preL, linesOf]
theorem preL_step {cs : List Cal} {j k : Nat} (h : k < (cs.getD j (⟨false, []⟩ : Cal)).legs.length) : preL cs j (k + 1) = preL cs j k ++ [((cs.getD j (⟨false, []⟩ : Cal)).legs.getD k (⟨0, false⟩ : Lg)).line] := by
  unfold preL
  rw [List.take_succ_eq_append_getElem h, getD_in h, List.map_append, ← List.append_assoc]
  rfl
theorem preL_next {cs : List Cal} {j : Nat} (h : j < cs.length) : preL cs (j + 1) 0 = preL cs j (cs.getD j (⟨false, []⟩ : Cal)).legs.length := by
  unfold preL linesOf
  rw [List.take_succ_eq_append_getElem h, getD_in h, List.map_append, List.flatten_append, List.take_length, List.take_zero, List.map_nil, List.append_nil]
  simp only [List.map_cons, List.map_nil, List.flatten_cons, List.flatten_nil, List.append_nil]
theorem preL_end {cs : List Cal} {j k : Nat} (h : cs.length ≤ j) : preL cs j k = linesOf cs := by
  unfold preL
  rw [getD_out h, List.take_of_length_le h]; simp
theorem preL_pref {cs : List Cal} {j k : Nat} (h : j < cs.length) : ∃ R, linesOf cs = preL cs j k ++ R := by
  refine ⟨((cs.getD j (⟨false, []⟩ : Cal)).legs.drop k).map Lg.line ++ linesOf (cs.drop (j + 1)), ?_⟩
  unfold preL
  rw [List.append_assoc, ← List.append_assoc (List.map _ _), ← List.map_append, List.take_append_drop]
  conv => lhs; rw [← List.take_append_drop j cs, List.drop_eq_getElem_cons h]
  rw [getD_in h]
  unfold linesOf
  rw [List.map_append, List.flatten_append, List.map_cons, List.flatten_cons]
/-- What a look at calls so far has shown. -/
structure Sofar (l : Int) (cs : List Cal) (j k : Nat) : Prop where
  lb : 1 ≤ l ∧ l ≤ 40
  jl : j ≤ cs.length
  kl : k ≤ (cs.getD j (⟨false, []⟩ : Cal)).legs.length
  good : Good l (preL cs j k)
  ok : ∀ i, i < j → okC (cs.getD i (⟨false, []⟩ : Cal)) = true
theorem Sofar.zero {l : Int} {cs : List Cal} (h : 1 ≤ l ∧ l ≤ 40) : Sofar l cs 0 0 := ⟨h, Nat.zero_le _, Nat.zero_le _, by rw [preL_zero]; exact Good.nil l, fun i h => absurd h (Nat.not_lt_zero _)⟩
theorem Sofar.yes {l : Int} {cs : List Cal} {j : Nat} (h : Sofar l cs j 0) (hj : cs.length ≤ j) : panelOk l cs = true := by
  refine panelOk_iff.2 ⟨h.lb, fun c hc => ?_, by have := h.good; rwa [preL_end hj] at this⟩
  obtain ⟨i, hi, rfl⟩ := List.getElem_of_mem hc
  have := h.ok i (by omega)
  rwa [getD_in hi] at this
theorem no_call {l : Int} {cs : List Cal} {j : Nat} (hj : j < cs.length) (hc : okC (cs.getD j (⟨false, []⟩ : Cal)) = false) : panelOk l cs = false := by
  rw [Bool.eq_false_iff]
  intro h
  have := (panelOk_iff.1 h).2.1 cs[j] (List.getElem_mem hj)
  rw [getD_in hj, this] at hc; cases hc
theorem no_leg {l : Int} {cs : List Cal} {j k : Nat} (hj : j < cs.length) (hk : k < (cs.getD j (⟨false, []⟩ : Cal)).legs.length) (hx : ¬ ((0 ≤ ((cs.getD j (⟨false, []⟩ : Cal)).legs.getD k (⟨0, false⟩ : Lg)).line ∧ ((cs.getD j (⟨false, []⟩ : Cal)).legs.getD k (⟨0, false⟩ : Lg)).line < l) ∧ ((cs.getD j (⟨false, []⟩ : Cal)).legs.getD k (⟨0, false⟩ : Lg)).line ∉ preL cs j k)) : panelOk l cs = false := by
  rw [Bool.eq_false_iff]
  intro h
  have h2 := (panelOk_iff.1 h).2.2
  obtain ⟨R, hR⟩ := preL_pref (cs := cs) (k := k + 1) hj
  rw [hR] at h2
  have h3 := h2.pre
  rw [preL_step hk] at h3
  exact hx h3.last
theorem Sofar.leg {l : Int} {cs : List Cal} {j k : Nat} (h : Sofar l cs j k) (hk : k < (cs.getD j (⟨false, []⟩ : Cal)).legs.length) (hx : (0 ≤ ((cs.getD j (⟨false, []⟩ : Cal)).legs.getD k (⟨0, false⟩ : Lg)).line ∧ ((cs.getD j (⟨false, []⟩ : Cal)).legs.getD k (⟨0, false⟩ : Lg)).line < l) ∧ ((cs.getD j (⟨false, []⟩ : Cal)).legs.getD k (⟨0, false⟩ : Lg)).line ∉ preL cs j k) : Sofar l cs j (k + 1) :=
  ⟨h.lb, h.jl, hk, by rw [preL_step hk]; exact h.good.snoc hx.1 hx.2, h.ok⟩
theorem Sofar.call {l : Int} {cs : List Cal} {j : Nat} (h : Sofar l cs j (cs.getD j (⟨false, []⟩ : Cal)).legs.length) (hj : j < cs.length) (hc : okC (cs.getD j (⟨false, []⟩ : Cal)) = true) : Sofar l cs (j + 1) 0 :=
  ⟨h.lb, hj, Nat.zero_le _, by rw [preL_next hj]; exact h.good, fun i hi => by
    by_cases e : i = j
    · rw [e]; exact hc
    · exact h.ok i (by omega)⟩
/-- A list of marks tells these lines. -/
def Marks (l : Int) (S : List Int) (u : List Bool) : Prop := (u.length : Int) = l ∧ ∀ i, i < u.length → u.getD i false = decide ((i : Int) ∈ S)
theorem Marks.set {l : Int} {S : List Int} {u : List Bool} (h : Marks l S u) {x : Int} (h0 : 0 ≤ x) (h1 : x < l) : Marks l (S ++ [x]) (u.set x.toNat true) := by
  refine ⟨by simpa using h.1, fun i hi => ?_⟩
  rw [List.length_set] at hi
  rw [getD_set]
  have := h.1
  by_cases e : i = x.toNat
  · rw [if_pos ⟨e, by omega⟩]
    have e2 : (i : Int) = x := by omega
    simp [e2]
  · rw [if_neg (fun c => e c.1), h.2 i hi]
    have e2 : ¬ (i : Int) = x := by omega
    simp [e2]
theorem Marks.zero {l : Int} (h : 0 ≤ l) : Marks l [] (List.replicate l.toNat false) := by
  refine ⟨by simp; omega, fun i hi => ?_⟩
  rw [getD_in hi]; simp
theorem Marks.get {l : Int} {S : List Int} {u : List Bool} (h : Marks l S u) {x : Int} (h0 : 0 ≤ x) (h1 : x < l) : u.getD x.toNat false = decide (x ∈ S) := by
  have := h.1
  rw [h.2 _ (by omega)]
  rw [show ((x.toNat : Nat) : Int) = x by omega]
def spPanelOk : Spec := ⟨fun _ _ => [], fun args objs K => match args, objs with
  | [.agg [.v (.int .i64 l), .rs .call cs]], [] => (cs.length ≤ 1099511627776 ∧ legsOk2 cs) ∧ K (.v (.bool (panelOk l cs))) [] 0
  | _, _ => False, false⟩
theorem spPanelOk_t {L : Hp} {a : List AVal} : Spec.take spPanelOk L a = [] := id rfl
theorem spPanelOk_k : Spec.keep spPanelOk = false := id rfl
theorem spPanelOk_f {l} {cs} {K : AVal → Hp → Nat → Prop} : Spec.f spPanelOk ([.agg [.v (.int .i64 l), .rs .call cs]]) ([]) K = ((cs.length ≤ 1099511627776 ∧ legsOk2 cs) ∧ K (.v (.bool (panelOk l cs))) [] 0) := id rfl
theorem panelOk_lines {l : Int} {cs : List Cal} (h : ¬ (1 ≤ l ∧ l ≤ 40)) : panelOk l cs = false := by
  rw [Bool.eq_false_iff]; intro h2; exact h (panelOk_iff.1 h2).1
theorem valid14 : Valid Try.prog 14 spPanelOk := by
  refine validI (Γ := lk [(48, spIn)]) Try.func14 bod14 low14 res14 (good_of ⟨⟨cal48, valid48⟩, trivial⟩) ?_
  intro E args objs K h hE hG hP
  simp only [spPanelOk] at h
  split at h
  · refine ⟨by simp [Try.ntmps14], ?_⟩
    rename_i l cs
    obtain ⟨⟨hlen, hlegs⟩, h⟩ := h
    simp (config := { maxSteps := 2000000 }) only [go_sem, hG, hP, Nat.reduceEqDiff, ↓reduceIte, reduceCtorEq, Nat.reduceAdd, Nat.reduceSub, Nat.reduceMul, Nat.reduceLT, Nat.reduceLeDiff, Int.reduceAdd, Int.reduceSub, Int.reduceMul, Int.reduceLT, Int.reduceLE, Int.reduceEq, Int.reduceNeg, Int.reduceNe, Int.reduceGE, Int.reduceGT, Nat.reduceBEq, Int.reduceToNat,  spIn_f, spIn_t, spIn_k]
    (try simp (disch := omega) only [wrap_id])
    refine ⟨fun h1 => ⟨_, _, _, ?_, h⟩, fun h1 => ?_⟩
    · simp (config := { maxSteps := 2000000 }) only [go_sem, hG, hP, Nat.reduceEqDiff, ↓reduceIte, reduceCtorEq, Nat.reduceAdd, Nat.reduceSub, Nat.reduceMul, Nat.reduceLT, Nat.reduceLeDiff, Int.reduceAdd, Int.reduceSub, Int.reduceMul, Int.reduceLT, Int.reduceLE, Int.reduceEq, Int.reduceNeg, Int.reduceNe, Int.reduceGE, Int.reduceGT, Nat.reduceBEq, Int.reduceToNat]
      rw [panelOk_lines]; simpa using h1
    · (try simp at h1)
      refine ⟨⟨by omega, by unfold appRoom; omega, by omega⟩, ?_⟩
      refine loopI hE (fun p : Nat × List Bool => ⟨[(1, .ptr 0 0), (3, .sub 1 1 0 l.toNat), (4, .v (.int .i64 p.1))], [(0, .box [.v (.int .i64 l), .rs .call cs]), (1, .row .bool p.2)], 2, Try.f14.ntmps⟩) (fun p => Sofar l cs p.1 0 ∧ Marks l (preL cs p.1 0) p.2) (fun p => cs.length - p.1) ⟨(0, List.replicate l.toNat false), ⟨Sofar.zero h1, by rw [preL_zero]; exact Marks.zero (by omega)⟩, SubS.weak ?_⟩ ?_
      · simp (config := { maxSteps := 2000000 }) only [go_sem, hG, hP, Nat.reduceEqDiff, ↓reduceIte, reduceCtorEq, Nat.reduceAdd, Nat.reduceSub, Nat.reduceMul, Nat.reduceLT, Nat.reduceLeDiff, Int.reduceAdd, Int.reduceSub, Int.reduceMul, Int.reduceLT, Int.reduceLE, Int.reduceEq, Int.reduceNeg, Int.reduceNe, Int.reduceGE, Int.reduceGT, Nat.reduceBEq, Int.reduceToNat]
        all_goals simp
      · rintro ⟨j, u⟩ ⟨hs, hm⟩
        dsimp only at hs hm ⊢
        have hj := hs.jl
        simp (config := { maxSteps := 2000000 }) only [go_sem, hG, hP, Nat.reduceEqDiff, ↓reduceIte, reduceCtorEq, Nat.reduceAdd, Nat.reduceSub, Nat.reduceMul, Nat.reduceLT, Nat.reduceLeDiff, Int.reduceAdd, Int.reduceSub, Int.reduceMul, Int.reduceLT, Int.reduceLE, Int.reduceEq, Int.reduceNeg, Int.reduceNe, Int.reduceGE, Int.reduceGT, Nat.reduceBEq, Int.reduceToNat,  spIn_f, spIn_t, spIn_k]
        (try simp (disch := omega) only [wrap_id])
        refine ⟨fun hlt => ?_, fun hge => ⟨_, _, _, ?_, h⟩⟩
        · have hlj := legsOk2_get hlegs (j := j) (by omega)
          repeat (refine And.intro (by first | omega | (simp; done) | (simp; omega) | (unfold appRoom; omega)) ?_)
          repeat' (first | (refine And.intro ?_ ?_) | (with_reducible intro _))
          all_goals first
            | omega
            | (refine ⟨_, _, _, ?_, h⟩; simp (config := { maxSteps := 2000000 }) only [go_sem, hG, hP, Nat.reduceEqDiff, ↓reduceIte, reduceCtorEq, Nat.reduceAdd, Nat.reduceSub, Nat.reduceMul, Nat.reduceLT, Nat.reduceLeDiff, Int.reduceAdd, Int.reduceSub, Int.reduceMul, Int.reduceLT, Int.reduceLE, Int.reduceEq, Int.reduceNeg, Int.reduceNe, Int.reduceGE, Int.reduceGT, Nat.reduceBEq, Int.reduceToNat]; rw [no_call (j := j) (by omega) (by simp [okC]; grind)]; done)
            | skip
          all_goals
            have hok : okC (cs.getD j (⟨false, []⟩ : Cal)) = true := by simp [okC]; grind
            have hl8 : (cs.getD j (⟨false, []⟩ : Cal)).legs.length ≤ 8 := (of_decide_eq_true hok).2.1
            refine loopI hE (fun p : Nat × List Bool => ⟨[(1, .ptr 0 0), (3, .sub 1 1 0 l.toNat), (4, .v (.int .i64 j)), (5, .v (.int .i64 (cs.getD j (⟨false, []⟩ : Cal)).legs.length)), (6, .v (.int .i64 p.1))], [(0, .box [.v (.int .i64 l), .rs .call cs]), (1, .row .bool p.2)], 2, Try.f14.ntmps⟩) (fun p => Sofar l cs j p.1 ∧ Marks l (preL cs j p.1) p.2) (fun p => (cs.getD j (⟨false, []⟩ : Cal)).legs.length - p.1) ⟨(0, u), ⟨hs, hm⟩, SubS.weak ?_⟩ ?_
            · simp (config := { maxSteps := 2000000 }) only [go_sem, hG, hP, Nat.reduceEqDiff, ↓reduceIte, reduceCtorEq, Nat.reduceAdd, Nat.reduceSub, Nat.reduceMul, Nat.reduceLT, Nat.reduceLeDiff, Int.reduceAdd, Int.reduceSub, Int.reduceMul, Int.reduceLT, Int.reduceLE, Int.reduceEq, Int.reduceNeg, Int.reduceNe, Int.reduceGE, Int.reduceGT, Nat.reduceBEq, Int.reduceToNat]
              all_goals simp
            · rintro ⟨k, v⟩ ⟨hs2, hm2⟩
              dsimp only at hs2 hm2 ⊢
              have hk := hs2.kl
              simp (config := { maxSteps := 2000000 }) only [go_sem, hG, hP, Nat.reduceEqDiff, ↓reduceIte, reduceCtorEq, Nat.reduceAdd, Nat.reduceSub, Nat.reduceMul, Nat.reduceLT, Nat.reduceLeDiff, Int.reduceAdd, Int.reduceSub, Int.reduceMul, Int.reduceLT, Int.reduceLE, Int.reduceEq, Int.reduceNeg, Int.reduceNe, Int.reduceGE, Int.reduceGT, Nat.reduceBEq, Int.reduceToNat,  spIn_f, spIn_t, spIn_k]
              (try simp (disch := omega) only [wrap_id])
              refine ⟨fun hlt2 => ?_, fun hge2 => ?_⟩
              · repeat (refine And.intro (by first | omega | (simp; done) | (simp; omega) | (unfold appRoom; omega)) ?_)
                have hvl := hm2.1
                have hb : ∀ {x : Int}, 0 ≤ x → x < l → v.getD x.toNat false = decide (x ∈ preL cs j k) := hm2.get
                repeat' (first | (refine And.intro ?_ ?_) | (with_reducible intro _))
                all_goals first
                  | omega
                  | (refine ⟨_, _, _, ?_, h⟩; simp (config := { maxSteps := 2000000 }) only [go_sem, hG, hP, Nat.reduceEqDiff, ↓reduceIte, reduceCtorEq, Nat.reduceAdd, Nat.reduceSub, Nat.reduceMul, Nat.reduceLT, Nat.reduceLeDiff, Int.reduceAdd, Int.reduceSub, Int.reduceMul, Int.reduceLT, Int.reduceLE, Int.reduceEq, Int.reduceNeg, Int.reduceNe, Int.reduceGE, Int.reduceGT, Nat.reduceBEq, Int.reduceToNat]; rw [no_leg (j := j) (k := k) (by omega) (by omega) (fun hx => ?_)]; have hx2 := hb hx.1.1 hx.1.2; grind)
                  | skip
                all_goals
                  have hx : (0 ≤ ((cs.getD j (⟨false, []⟩ : Cal)).legs.getD k (⟨0, false⟩ : Lg)).line ∧ ((cs.getD j (⟨false, []⟩ : Cal)).legs.getD k (⟨0, false⟩ : Lg)).line < l) ∧ ((cs.getD j (⟨false, []⟩ : Cal)).legs.getD k (⟨0, false⟩ : Lg)).line ∉ preL cs j k := by
                    have hx1 : 0 ≤ ((cs.getD j (⟨false, []⟩ : Cal)).legs.getD k (⟨0, false⟩ : Lg)).line ∧ ((cs.getD j (⟨false, []⟩ : Cal)).legs.getD k (⟨0, false⟩ : Lg)).line < l := by grind
                    have hx2 := hb hx1.1 hx1.2
                    grind
                  refine ⟨(k + 1, v.set ((cs.getD j (⟨false, []⟩ : Cal)).legs.getD k (⟨0, false⟩ : Lg)).line.toNat true), ⟨⟨hs2.leg (by omega) hx, ?_⟩, by dsimp only; omega⟩, SubS.weak ?_⟩
                  · dsimp only
                    rw [preL_step (by omega)]
                    exact hm2.set hx.1.1 hx.1.2
                  · simp (config := { maxSteps := 2000000 }) only [go_sem, hG, hP, Nat.reduceEqDiff, ↓reduceIte, reduceCtorEq, Nat.reduceAdd, Nat.reduceSub, Nat.reduceMul, Nat.reduceLT, Nat.reduceLeDiff, Int.reduceAdd, Int.reduceSub, Int.reduceMul, Int.reduceLT, Int.reduceLE, Int.reduceEq, Int.reduceNeg, Int.reduceNe, Int.reduceGE, Int.reduceGT, Nat.reduceBEq, Int.reduceToNat]
                    all_goals simp
              · refine ⟨(j + 1, v), ⟨⟨?_, ?_⟩, by dsimp only; omega⟩, SubS.weak ?_⟩
                · have e : k = (cs.getD j (⟨false, []⟩ : Cal)).legs.length := by omega
                  subst e
                  exact hs2.call (by omega) hok
                · have e : k = (cs.getD j (⟨false, []⟩ : Cal)).legs.length := by omega
                  subst e
                  rw [preL_next (by omega)]
                  exact hm2
                · simp (config := { maxSteps := 2000000 }) only [go_sem, hG, hP, Nat.reduceEqDiff, ↓reduceIte, reduceCtorEq, Nat.reduceAdd, Nat.reduceSub, Nat.reduceMul, Nat.reduceLT, Nat.reduceLeDiff, Int.reduceAdd, Int.reduceSub, Int.reduceMul, Int.reduceLT, Int.reduceLE, Int.reduceEq, Int.reduceNeg, Int.reduceNe, Int.reduceGE, Int.reduceGT, Nat.reduceBEq, Int.reduceToNat]
                  all_goals simp
        · simp (config := { maxSteps := 2000000 }) only [go_sem, hG, hP, Nat.reduceEqDiff, ↓reduceIte, reduceCtorEq, Nat.reduceAdd, Nat.reduceSub, Nat.reduceMul, Nat.reduceLT, Nat.reduceLeDiff, Int.reduceAdd, Int.reduceSub, Int.reduceMul, Int.reduceLT, Int.reduceLE, Int.reduceEq, Int.reduceNeg, Int.reduceNe, Int.reduceGE, Int.reduceGT, Nat.reduceBEq, Int.reduceToNat]
          rw [hs.yes (by omega)]
  · exact h.elim
theorem hasM_nil {k : Key} : hasM [] k = false := id rfl
theorem hasM_cons {k k' : Key} {x : ByteArray} {r : List (Key × ByteArray)} : hasM ((k', x) :: r) k = (decide (k' = k) || hasM r k) := by
  unfold hasM; simp only [getM]; by_cases h : k' = k <;> simp [h]
def Seen (S : List Int) (es : List (Key × ByteArray)) : Prop := ∀ x, hasM es (.i x) = decide (x ∈ S)
theorem Seen.put {S : List Int} {es : List (Key × ByteArray)} (h : Seen S es) (x : Int) (y : ByteArray) : Seen (S ++ [x]) ((.i x, y) :: es) := fun z => by
  rw [hasM_cons, h z]
  by_cases e : z = x
  · simp [e]
  · simp [e, Ne.symm e]
theorem valid16 : Valid Try.prog 16 spPanelOk := by
  refine validI (Γ := lk [(50, spIn)]) Try.func16 bod16 low16 res16 (good_of ⟨⟨cal50, valid50⟩, trivial⟩) ?_
  intro E args objs K h hE hG hP
  simp only [spPanelOk] at h
  split at h
  · refine ⟨by simp [Try.ntmps16], ?_⟩
    rename_i l cs
    obtain ⟨⟨hlen, hlegs⟩, h⟩ := h
    simp (config := { maxSteps := 2000000 }) only [go_sem, hG, hP, Nat.reduceEqDiff, ↓reduceIte, reduceCtorEq, Nat.reduceAdd, Nat.reduceSub, Nat.reduceMul, Nat.reduceLT, Nat.reduceLeDiff, Int.reduceAdd, Int.reduceSub, Int.reduceMul, Int.reduceLT, Int.reduceLE, Int.reduceEq, Int.reduceNeg, Int.reduceNe, Int.reduceGE, Int.reduceGT, Nat.reduceBEq, Int.reduceToNat,  spIn_f, spIn_t, spIn_k]
    (try simp (disch := omega) only [wrap_id])
    refine ⟨fun h1 => ⟨_, _, _, ?_, h⟩, fun h1 => ?_⟩
    · simp (config := { maxSteps := 2000000 }) only [go_sem, hG, hP, Nat.reduceEqDiff, ↓reduceIte, reduceCtorEq, Nat.reduceAdd, Nat.reduceSub, Nat.reduceMul, Nat.reduceLT, Nat.reduceLeDiff, Int.reduceAdd, Int.reduceSub, Int.reduceMul, Int.reduceLT, Int.reduceLE, Int.reduceEq, Int.reduceNeg, Int.reduceNe, Int.reduceGE, Int.reduceGT, Nat.reduceBEq, Int.reduceToNat]
      rw [panelOk_lines]; simpa using h1
    · (try simp at h1)
      refine loopI hE (fun p : Nat × List (Key × ByteArray) => ⟨[(1, .ptr 0 0), (3, .mp 1), (14, .rs .call cs), (15, .v (.int .i64 cs.length)), (16, .v (.int .i64 p.1))], [(0, .box [.v (.int .i64 l), .rs .call cs]), (1, .set .int false p.2)], 2, Try.f16.ntmps⟩) (fun p => Sofar l cs p.1 0 ∧ Seen (preL cs p.1 0) p.2) (fun p => cs.length - p.1) ⟨(0, []), ⟨Sofar.zero h1, by rw [preL_zero]; intro x; rfl⟩, SubS.weak ?_⟩ ?_
      · simp (config := { maxSteps := 2000000 }) only [go_sem, hG, hP, Nat.reduceEqDiff, ↓reduceIte, reduceCtorEq, Nat.reduceAdd, Nat.reduceSub, Nat.reduceMul, Nat.reduceLT, Nat.reduceLeDiff, Int.reduceAdd, Int.reduceSub, Int.reduceMul, Int.reduceLT, Int.reduceLE, Int.reduceEq, Int.reduceNeg, Int.reduceNe, Int.reduceGE, Int.reduceGT, Nat.reduceBEq, Int.reduceToNat]
        all_goals simp
      · rintro ⟨j, u⟩ ⟨hs, hm⟩
        dsimp only at hs hm ⊢
        have hj := hs.jl
        simp (config := { maxSteps := 2000000 }) only [go_sem, hG, hP, Nat.reduceEqDiff, ↓reduceIte, reduceCtorEq, Nat.reduceAdd, Nat.reduceSub, Nat.reduceMul, Nat.reduceLT, Nat.reduceLeDiff, Int.reduceAdd, Int.reduceSub, Int.reduceMul, Int.reduceLT, Int.reduceLE, Int.reduceEq, Int.reduceNeg, Int.reduceNe, Int.reduceGE, Int.reduceGT, Nat.reduceBEq, Int.reduceToNat,  spIn_f, spIn_t, spIn_k]
        (try simp (disch := omega) only [wrap_id])
        refine ⟨fun hlt => ?_, fun hge => ⟨_, _, _, ?_, h⟩⟩
        · have hlj := legsOk2_get hlegs (j := j) (by omega)
          repeat (refine And.intro (by first | omega | (simp; done) | (simp; omega) | (unfold appRoom; omega)) ?_)
          repeat' (first | (refine And.intro ?_ ?_) | (with_reducible intro _))
          all_goals first
            | omega
            | (refine ⟨_, _, _, ?_, h⟩; simp (config := { maxSteps := 2000000 }) only [go_sem, hG, hP, Nat.reduceEqDiff, ↓reduceIte, reduceCtorEq, Nat.reduceAdd, Nat.reduceSub, Nat.reduceMul, Nat.reduceLT, Nat.reduceLeDiff, Int.reduceAdd, Int.reduceSub, Int.reduceMul, Int.reduceLT, Int.reduceLE, Int.reduceEq, Int.reduceNeg, Int.reduceNe, Int.reduceGE, Int.reduceGT, Nat.reduceBEq, Int.reduceToNat]; rw [no_call (j := j) (by omega) (by simp [okC]; grind)]; done)
            | skip
          all_goals
            have hok : okC (cs.getD j (⟨false, []⟩ : Cal)) = true := by simp [okC]; grind
            have hl8 : (cs.getD j (⟨false, []⟩ : Cal)).legs.length ≤ 8 := (of_decide_eq_true hok).2.1
            refine loopI hE (fun p : Nat × List (Key × ByteArray) => ⟨[(1, .ptr 0 0), (3, .mp 1), (14, .rs .call cs), (15, .v (.int .i64 cs.length)), (16, .v (.int .i64 j)), (42, .rs .leg (cs.getD j (⟨false, []⟩ : Cal)).legs), (43, .v (.int .i64 (cs.getD j (⟨false, []⟩ : Cal)).legs.length)), (44, .v (.int .i64 p.1))], [(0, .box [.v (.int .i64 l), .rs .call cs]), (1, .set .int false p.2)], 2, Try.f16.ntmps⟩) (fun p => Sofar l cs j p.1 ∧ Seen (preL cs j p.1) p.2) (fun p => (cs.getD j (⟨false, []⟩ : Cal)).legs.length - p.1) ⟨(0, u), ⟨hs, hm⟩, SubS.weak ?_⟩ ?_
            · simp (config := { maxSteps := 2000000 }) only [go_sem, hG, hP, Nat.reduceEqDiff, ↓reduceIte, reduceCtorEq, Nat.reduceAdd, Nat.reduceSub, Nat.reduceMul, Nat.reduceLT, Nat.reduceLeDiff, Int.reduceAdd, Int.reduceSub, Int.reduceMul, Int.reduceLT, Int.reduceLE, Int.reduceEq, Int.reduceNeg, Int.reduceNe, Int.reduceGE, Int.reduceGT, Nat.reduceBEq, Int.reduceToNat]
              all_goals simp
            · rintro ⟨k, v⟩ ⟨hs2, hm2⟩
              dsimp only at hs2 hm2 ⊢
              have hk := hs2.kl
              simp (config := { maxSteps := 2000000 }) only [go_sem, hG, hP, Nat.reduceEqDiff, ↓reduceIte, reduceCtorEq, Nat.reduceAdd, Nat.reduceSub, Nat.reduceMul, Nat.reduceLT, Nat.reduceLeDiff, Int.reduceAdd, Int.reduceSub, Int.reduceMul, Int.reduceLT, Int.reduceLE, Int.reduceEq, Int.reduceNeg, Int.reduceNe, Int.reduceGE, Int.reduceGT, Nat.reduceBEq, Int.reduceToNat,  spIn_f, spIn_t, spIn_k]
              (try simp (disch := omega) only [wrap_id])
              refine ⟨fun hlt2 => ?_, fun hge2 => ?_⟩
              · repeat (refine And.intro (by first | omega | (simp; done) | (simp; omega) | (unfold appRoom; omega)) ?_)
                repeat' (first | (refine And.intro ?_ ?_) | (with_reducible intro _))
                all_goals first
                  | omega
                  | (refine ⟨_, _, _, ?_, h⟩; simp (config := { maxSteps := 2000000 }) only [go_sem, hG, hP, Nat.reduceEqDiff, ↓reduceIte, reduceCtorEq, Nat.reduceAdd, Nat.reduceSub, Nat.reduceMul, Nat.reduceLT, Nat.reduceLeDiff, Int.reduceAdd, Int.reduceSub, Int.reduceMul, Int.reduceLT, Int.reduceLE, Int.reduceEq, Int.reduceNeg, Int.reduceNe, Int.reduceGE, Int.reduceGT, Nat.reduceBEq, Int.reduceToNat]; rw [no_leg (j := j) (k := k) (by omega) (by omega) (fun hx => ?_)]; have hx2 := hm2 ((cs.getD j (⟨false, []⟩ : Cal)).legs.getD k (⟨0, false⟩ : Lg)).line; grind)
                  | skip
                all_goals
                  have hx : (0 ≤ ((cs.getD j (⟨false, []⟩ : Cal)).legs.getD k (⟨0, false⟩ : Lg)).line ∧ ((cs.getD j (⟨false, []⟩ : Cal)).legs.getD k (⟨0, false⟩ : Lg)).line < l) ∧ ((cs.getD j (⟨false, []⟩ : Cal)).legs.getD k (⟨0, false⟩ : Lg)).line ∉ preL cs j k := by
                    have hx2 := hm2 ((cs.getD j (⟨false, []⟩ : Cal)).legs.getD k (⟨0, false⟩ : Lg)).line
                    grind
                  refine ⟨(k + 1, (.i ((cs.getD j (⟨false, []⟩ : Cal)).legs.getD k (⟨0, false⟩ : Lg)).line, ⟨#[]⟩) :: v), ⟨⟨hs2.leg (by omega) hx, ?_⟩, by dsimp only; omega⟩, SubS.weak ?_⟩
                  · dsimp only
                    rw [preL_step (by omega)]
                    exact hm2.put _ _
                  · simp (config := { maxSteps := 2000000 }) only [go_sem, hG, hP, Nat.reduceEqDiff, ↓reduceIte, reduceCtorEq, Nat.reduceAdd, Nat.reduceSub, Nat.reduceMul, Nat.reduceLT, Nat.reduceLeDiff, Int.reduceAdd, Int.reduceSub, Int.reduceMul, Int.reduceLT, Int.reduceLE, Int.reduceEq, Int.reduceNeg, Int.reduceNe, Int.reduceGE, Int.reduceGT, Nat.reduceBEq, Int.reduceToNat]
                    all_goals simp
              · refine ⟨(j + 1, v), ⟨⟨?_, ?_⟩, by dsimp only; omega⟩, SubS.weak ?_⟩
                · have e : k = (cs.getD j (⟨false, []⟩ : Cal)).legs.length := by omega
                  subst e
                  exact hs2.call (by omega) hok
                · have e : k = (cs.getD j (⟨false, []⟩ : Cal)).legs.length := by omega
                  subst e
                  rw [preL_next (by omega)]
                  exact hm2
                · simp (config := { maxSteps := 2000000 }) only [go_sem, hG, hP, Nat.reduceEqDiff, ↓reduceIte, reduceCtorEq, Nat.reduceAdd, Nat.reduceSub, Nat.reduceMul, Nat.reduceLT, Nat.reduceLeDiff, Int.reduceAdd, Int.reduceSub, Int.reduceMul, Int.reduceLT, Int.reduceLE, Int.reduceEq, Int.reduceNeg, Int.reduceNe, Int.reduceGE, Int.reduceGT, Nat.reduceBEq, Int.reduceToNat]
                  all_goals simp
        · simp (config := { maxSteps := 2000000 }) only [go_sem, hG, hP, Nat.reduceEqDiff, ↓reduceIte, reduceCtorEq, Nat.reduceAdd, Nat.reduceSub, Nat.reduceMul, Nat.reduceLT, Nat.reduceLeDiff, Int.reduceAdd, Int.reduceSub, Int.reduceMul, Int.reduceLT, Int.reduceLE, Int.reduceEq, Int.reduceNeg, Int.reduceNe, Int.reduceGE, Int.reduceGT, Nat.reduceBEq, Int.reduceToNat]
          rw [hs.yes (by omega)]
  · exact h.elim
/-- The first of these calls that the line is in, and its leg there. -/
def isL (line : Int) (x : Lg) : Bool := decide (x.line = line)
def hasL (line : Int) (c : Cal) : Bool := c.legs.any (isL line)
def findI (cs : List Cal) (line : Int) : Int := if cs.findIdx (hasL line) < cs.length then (cs.findIdx (hasL line) : Nat) else -1
def findK (cs : List Cal) (line : Int) : Int := if cs.findIdx (hasL line) < cs.length then ((cs.getD (cs.findIdx (hasL line)) (⟨false, []⟩ : Cal)).legs.findIdx (isL line) : Nat) else -1
theorem idx_hit {α : Type} {P : α → Bool} {q : List α} {d : α} {j : Nat} (hj : j < q.length) (hpre : ∀ i, i < j → P (q.getD i d) = false) (h : P (q.getD j d) = true) : q.findIdx P = j := by
  rw [List.findIdx_eq hj]
  refine ⟨by rwa [getD_in hj] at h, fun i hi => ?_⟩
  have := hpre i hi
  rwa [getD_in (by omega)] at this
theorem idx_none {α : Type} {P : α → Bool} {q : List α} {d : α} (hpre : ∀ i, i < q.length → P (q.getD i d) = false) : ¬ q.findIdx P < q.length := fun h => by
  have h2 := List.findIdx_getElem (w := h)
  have := hpre _ h
  rw [getD_in h, h2] at this; cases this
theorem idx_is {α : Type} {P : α → Bool} {q : List α} (d : α) (h : q.findIdx P < q.length) : P (q.getD (q.findIdx P) d) = true ∧ ∀ i, i < q.findIdx P → P (q.getD i d) = false := by
  refine ⟨by rw [getD_in h]; exact List.findIdx_getElem (w := h), fun i hi => ?_⟩
  have := List.not_of_lt_findIdx hi
  rw [getD_in (by omega)]
  simpa using this
theorem has_not {line : Int} {c : Cal} (h : ∀ k, k < c.legs.length → (c.legs.getD k (⟨0, false⟩ : Lg)).line ≠ line) : hasL line c = false := by
  rw [Bool.eq_false_iff]
  intro h2
  obtain ⟨x, hx, hp⟩ := List.any_eq_true.1 h2
  obtain ⟨k, hk, rfl⟩ := List.getElem_of_mem hx
  have := h k hk
  rw [getD_in hk] at this
  exact this (of_decide_eq_true hp)
theorem has_at {line : Int} {c : Cal} {k : Nat} (hk : k < c.legs.length) (h : (c.legs.getD k (⟨0, false⟩ : Lg)).line = line) : hasL line c = true := by
  refine List.any_eq_true.2 ⟨c.legs[k], List.getElem_mem hk, ?_⟩
  rw [getD_in hk] at h
  simp [isL, h]
theorem find_hit {cs : List Cal} {line : Int} {j k : Nat} (hj : j < cs.length) (hk : k < (cs.getD j (⟨false, []⟩ : Cal)).legs.length) (h1 : ∀ i, i < j → hasL line (cs.getD i (⟨false, []⟩ : Cal)) = false) (h2 : ∀ i, i < k → ((cs.getD j (⟨false, []⟩ : Cal)).legs.getD i (⟨0, false⟩ : Lg)).line ≠ line)
    (h : ((cs.getD j (⟨false, []⟩ : Cal)).legs.getD k (⟨0, false⟩ : Lg)).line = line) : findI cs line = j ∧ findK cs line = k := by
  have e1 := idx_hit hj h1 (has_at hk h)
  have e2 : (cs.getD j (⟨false, []⟩ : Cal)).legs.findIdx (isL line) = k := idx_hit (d := (⟨0, false⟩ : Lg)) hk (fun i hi => by simpa [isL] using h2 i hi) (by simpa [isL] using h)
  unfold findI findK
  rw [e1, if_pos hj, if_pos hj, e2]
  exact ⟨rfl, rfl⟩
theorem find_none {cs : List Cal} {line : Int} (h : ∀ i, i < cs.length → hasL line (cs.getD i (⟨false, []⟩ : Cal)) = false) : findI cs line = -1 ∧ findK cs line = -1 := by
  have := idx_none h
  unfold findI findK
  rw [if_neg this, if_neg this]
  exact ⟨rfl, rfl⟩
def spFind : Spec := ⟨fun _ _ => [], fun args objs K => match args, objs with
  | [.agg [.v (.int .i64 l), .rs .call cs], .v (.int .i64 n)], [] => (cs.length ≤ 1099511627776 ∧ legsOk2 cs) ∧ K (.tup [.v (.int .i64 (findI cs n)), .v (.int .i64 (findK cs n))]) [] 0
  | _, _ => False, false⟩
theorem spFind_t {L : Hp} {a : List AVal} : Spec.take spFind L a = [] := id rfl
theorem spFind_k : Spec.keep spFind = false := id rfl
theorem spFind_f {l} {cs} {n} {K : AVal → Hp → Nat → Prop} : Spec.f spFind ([.agg [.v (.int .i64 l), .rs .call cs], .v (.int .i64 n)]) ([]) K = ((cs.length ≤ 1099511627776 ∧ legsOk2 cs) ∧ K (.tup [.v (.int .i64 (findI cs n)), .v (.int .i64 (findK cs n))]) [] 0) := id rfl
theorem valid52 : Valid Try.prog 52 spFind := by
  refine validI (Γ := lk []) Try.func52 bod52 low52 res52 (good_of trivial) ?_
  intro E args objs K h hE hG hP
  simp only [spFind] at h
  split at h
  · refine ⟨by simp [Try.ntmps52], ?_⟩
    rename_i l cs n
    obtain ⟨⟨hlen, hlegs⟩, h⟩ := h
    simp (config := { maxSteps := 2000000 }) only [go_sem, hG, hP, Nat.reduceEqDiff, ↓reduceIte, reduceCtorEq, Nat.reduceAdd, Nat.reduceSub, Nat.reduceMul, Nat.reduceLT, Nat.reduceLeDiff, Int.reduceAdd, Int.reduceSub, Int.reduceMul, Int.reduceLT, Int.reduceLE, Int.reduceEq, Int.reduceNeg, Int.reduceNe, Int.reduceGE, Int.reduceGT, Nat.reduceBEq, Int.reduceToNat]
    refine loopI hE (fun j : Nat => ⟨[(1, .v (.int .i64 n)), (2, .ptr 0 0), (6, .v (.int .i64 j))], [(0, .box [.v (.int .i64 l), .rs .call cs])], 1, Try.f52.ntmps⟩) (fun j => j ≤ cs.length ∧ ∀ i, i < j → hasL n (cs.getD i (⟨false, []⟩ : Cal)) = false) (fun j => cs.length - j) ⟨0, ⟨Nat.zero_le _, fun i hi => absurd hi (Nat.not_lt_zero _)⟩, SubS.weak ?_⟩ ?_
    · simp (config := { maxSteps := 2000000 }) only [go_sem, hG, hP, Nat.reduceEqDiff, ↓reduceIte, reduceCtorEq, Nat.reduceAdd, Nat.reduceSub, Nat.reduceMul, Nat.reduceLT, Nat.reduceLeDiff, Int.reduceAdd, Int.reduceSub, Int.reduceMul, Int.reduceLT, Int.reduceLE, Int.reduceEq, Int.reduceNeg, Int.reduceNe, Int.reduceGE, Int.reduceGT, Nat.reduceBEq, Int.reduceToNat]
      all_goals simp
    · rintro j ⟨hj, hpre⟩
      simp (config := { maxSteps := 2000000 }) only [go_sem, hG, hP, Nat.reduceEqDiff, ↓reduceIte, reduceCtorEq, Nat.reduceAdd, Nat.reduceSub, Nat.reduceMul, Nat.reduceLT, Nat.reduceLeDiff, Int.reduceAdd, Int.reduceSub, Int.reduceMul, Int.reduceLT, Int.reduceLE, Int.reduceEq, Int.reduceNeg, Int.reduceNe, Int.reduceGE, Int.reduceGT, Nat.reduceBEq, Int.reduceToNat]
      (try simp (disch := omega) only [wrap_id])
      refine ⟨fun hlt => ?_, fun hge => ⟨_, _, _, ?_, h⟩⟩
      · have hlj := legsOk2_get hlegs (j := j) (by omega)
        repeat (refine And.intro (by first | omega | (simp; done) | (simp; omega) | (unfold appRoom; omega)) ?_)
        refine loopI hE (fun k : Nat => ⟨[(1, .v (.int .i64 n)), (2, .ptr 0 0), (6, .v (.int .i64 j)), (7, .v (.int .i64 k))], [(0, .box [.v (.int .i64 l), .rs .call cs])], 1, Try.f52.ntmps⟩) (fun k => k ≤ (cs.getD j (⟨false, []⟩ : Cal)).legs.length ∧ ∀ i, i < k → ((cs.getD j (⟨false, []⟩ : Cal)).legs.getD i (⟨0, false⟩ : Lg)).line ≠ n) (fun k => (cs.getD j (⟨false, []⟩ : Cal)).legs.length - k) ⟨0, ⟨Nat.zero_le _, fun i hi => absurd hi (Nat.not_lt_zero _)⟩, SubS.weak ?_⟩ ?_
        · simp (config := { maxSteps := 2000000 }) only [go_sem, hG, hP, Nat.reduceEqDiff, ↓reduceIte, reduceCtorEq, Nat.reduceAdd, Nat.reduceSub, Nat.reduceMul, Nat.reduceLT, Nat.reduceLeDiff, Int.reduceAdd, Int.reduceSub, Int.reduceMul, Int.reduceLT, Int.reduceLE, Int.reduceEq, Int.reduceNeg, Int.reduceNe, Int.reduceGE, Int.reduceGT, Nat.reduceBEq, Int.reduceToNat]
          all_goals simp
        · rintro k ⟨hk, hpre2⟩
          simp (config := { maxSteps := 2000000 }) only [go_sem, hG, hP, Nat.reduceEqDiff, ↓reduceIte, reduceCtorEq, Nat.reduceAdd, Nat.reduceSub, Nat.reduceMul, Nat.reduceLT, Nat.reduceLeDiff, Int.reduceAdd, Int.reduceSub, Int.reduceMul, Int.reduceLT, Int.reduceLE, Int.reduceEq, Int.reduceNeg, Int.reduceNe, Int.reduceGE, Int.reduceGT, Nat.reduceBEq, Int.reduceToNat]
          (try simp (disch := omega) only [wrap_id])
          repeat (refine And.intro (by first | omega | (simp; done) | (simp; omega) | (unfold appRoom; omega)) ?_)
          refine ⟨fun hlt2 => ?_, fun hge2 => ?_⟩
          · repeat (refine And.intro (by first | omega | (simp; done) | (simp; omega) | (unfold appRoom; omega)) ?_)
            refine ⟨fun he => ⟨_, _, _, ?_, h⟩, fun hne => ?_⟩
            · obtain ⟨e1, e2⟩ := find_hit (line := n) (by omega) (by omega) hpre hpre2 he
              simp (config := { maxSteps := 2000000 }) only [go_sem, hG, hP, Nat.reduceEqDiff, ↓reduceIte, reduceCtorEq, Nat.reduceAdd, Nat.reduceSub, Nat.reduceMul, Nat.reduceLT, Nat.reduceLeDiff, Int.reduceAdd, Int.reduceSub, Int.reduceMul, Int.reduceLT, Int.reduceLE, Int.reduceEq, Int.reduceNeg, Int.reduceNe, Int.reduceGE, Int.reduceGT, Nat.reduceBEq, Int.reduceToNat]
              rw [e1, e2]; exact ⟨rfl, rfl⟩
            · refine ⟨k + 1, ⟨⟨by omega, fun i hi => ?_⟩, by omega⟩, SubS.weak ?_⟩
              · by_cases e : i = k
                · rw [e]; exact hne
                · exact hpre2 i (by omega)
              · simp (config := { maxSteps := 2000000 }) only [go_sem, hG, hP, Nat.reduceEqDiff, ↓reduceIte, reduceCtorEq, Nat.reduceAdd, Nat.reduceSub, Nat.reduceMul, Nat.reduceLT, Nat.reduceLeDiff, Int.reduceAdd, Int.reduceSub, Int.reduceMul, Int.reduceLT, Int.reduceLE, Int.reduceEq, Int.reduceNeg, Int.reduceNe, Int.reduceGE, Int.reduceGT, Nat.reduceBEq, Int.reduceToNat]
                all_goals simp
          · refine ⟨j + 1, ⟨⟨by omega, fun i hi => ?_⟩, by omega⟩, SubS.weak ?_⟩
            · by_cases e : i = j
              · rw [e]; exact has_not fun i hi => hpre2 i (by omega)
              · exact hpre i (by omega)
            · simp (config := { maxSteps := 2000000 }) only [go_sem, hG, hP, Nat.reduceEqDiff, ↓reduceIte, reduceCtorEq, Nat.reduceAdd, Nat.reduceSub, Nat.reduceMul, Nat.reduceLT, Nat.reduceLeDiff, Int.reduceAdd, Int.reduceSub, Int.reduceMul, Int.reduceLT, Int.reduceLE, Int.reduceEq, Int.reduceNeg, Int.reduceNe, Int.reduceGE, Int.reduceGT, Nat.reduceBEq, Int.reduceToNat]
              all_goals simp
      · simp (config := { maxSteps := 2000000 }) only [go_sem, hG, hP, Nat.reduceEqDiff, ↓reduceIte, reduceCtorEq, Nat.reduceAdd, Nat.reduceSub, Nat.reduceMul, Nat.reduceLT, Nat.reduceLeDiff, Int.reduceAdd, Int.reduceSub, Int.reduceMul, Int.reduceLT, Int.reduceLE, Int.reduceEq, Int.reduceNeg, Int.reduceNe, Int.reduceGE, Int.reduceGT, Nat.reduceBEq, Int.reduceToNat]
        obtain ⟨e1, e2⟩ := find_none (line := n) (fun i hi => hpre i (by omega))
        rw [e1, e2]; exact ⟨rfl, rfl⟩
  · exact h.elim
theorem valid53 : Valid Try.prog 53 spFind := by
  refine validI (Γ := lk []) Try.func53 bod53 low53 res53 (good_of trivial) ?_
  intro E args objs K h hE hG hP
  simp only [spFind] at h
  split at h
  · refine ⟨by simp [Try.ntmps53], ?_⟩
    rename_i l cs n
    obtain ⟨⟨hlen, hlegs⟩, h⟩ := h
    simp (config := { maxSteps := 2000000 }) only [go_sem, hG, hP, Nat.reduceEqDiff, ↓reduceIte, reduceCtorEq, Nat.reduceAdd, Nat.reduceSub, Nat.reduceMul, Nat.reduceLT, Nat.reduceLeDiff, Int.reduceAdd, Int.reduceSub, Int.reduceMul, Int.reduceLT, Int.reduceLE, Int.reduceEq, Int.reduceNeg, Int.reduceNe, Int.reduceGE, Int.reduceGT, Nat.reduceBEq, Int.reduceToNat]
    refine loopI hE (fun j : Nat => ⟨[(1, .v (.int .i64 n)), (11, .rs .call cs), (12, .v (.int .i64 cs.length)), (13, .v (.int .i64 j))], [(0, .box [.v (.int .i64 l), .rs .call cs])], 1, Try.f53.ntmps⟩) (fun j => j ≤ cs.length ∧ ∀ i, i < j → hasL n (cs.getD i (⟨false, []⟩ : Cal)) = false) (fun j => cs.length - j) ⟨0, ⟨Nat.zero_le _, fun i hi => absurd hi (Nat.not_lt_zero _)⟩, SubS.weak ?_⟩ ?_
    · simp (config := { maxSteps := 2000000 }) only [go_sem, hG, hP, Nat.reduceEqDiff, ↓reduceIte, reduceCtorEq, Nat.reduceAdd, Nat.reduceSub, Nat.reduceMul, Nat.reduceLT, Nat.reduceLeDiff, Int.reduceAdd, Int.reduceSub, Int.reduceMul, Int.reduceLT, Int.reduceLE, Int.reduceEq, Int.reduceNeg, Int.reduceNe, Int.reduceGE, Int.reduceGT, Nat.reduceBEq, Int.reduceToNat]
      all_goals simp
    · rintro j ⟨hj, hpre⟩
      simp (config := { maxSteps := 2000000 }) only [go_sem, hG, hP, Nat.reduceEqDiff, ↓reduceIte, reduceCtorEq, Nat.reduceAdd, Nat.reduceSub, Nat.reduceMul, Nat.reduceLT, Nat.reduceLeDiff, Int.reduceAdd, Int.reduceSub, Int.reduceMul, Int.reduceLT, Int.reduceLE, Int.reduceEq, Int.reduceNeg, Int.reduceNe, Int.reduceGE, Int.reduceGT, Nat.reduceBEq, Int.reduceToNat]
      (try simp (disch := omega) only [wrap_id])
      refine ⟨fun hlt => ?_, fun hge => ⟨_, _, _, ?_, h⟩⟩
      · have hlj := legsOk2_get hlegs (j := j) (by omega)
        repeat (refine And.intro (by first | omega | (simp; done) | (simp; omega) | (unfold appRoom; omega)) ?_)
        refine loopI hE (fun k : Nat => ⟨[(1, .v (.int .i64 n)), (11, .rs .call cs), (12, .v (.int .i64 cs.length)), (13, .v (.int .i64 j)), (6, .v (.int .i64 j)), (19, .rs .leg (cs.getD j (⟨false, []⟩ : Cal)).legs), (20, .v (.int .i64 (cs.getD j (⟨false, []⟩ : Cal)).legs.length)), (21, .v (.int .i64 k))], [(0, .box [.v (.int .i64 l), .rs .call cs])], 1, Try.f53.ntmps⟩) (fun k => k ≤ (cs.getD j (⟨false, []⟩ : Cal)).legs.length ∧ ∀ i, i < k → ((cs.getD j (⟨false, []⟩ : Cal)).legs.getD i (⟨0, false⟩ : Lg)).line ≠ n) (fun k => (cs.getD j (⟨false, []⟩ : Cal)).legs.length - k) ⟨0, ⟨Nat.zero_le _, fun i hi => absurd hi (Nat.not_lt_zero _)⟩, SubS.weak ?_⟩ ?_
        · simp (config := { maxSteps := 2000000 }) only [go_sem, hG, hP, Nat.reduceEqDiff, ↓reduceIte, reduceCtorEq, Nat.reduceAdd, Nat.reduceSub, Nat.reduceMul, Nat.reduceLT, Nat.reduceLeDiff, Int.reduceAdd, Int.reduceSub, Int.reduceMul, Int.reduceLT, Int.reduceLE, Int.reduceEq, Int.reduceNeg, Int.reduceNe, Int.reduceGE, Int.reduceGT, Nat.reduceBEq, Int.reduceToNat]
          all_goals simp
        · rintro k ⟨hk, hpre2⟩
          simp (config := { maxSteps := 2000000 }) only [go_sem, hG, hP, Nat.reduceEqDiff, ↓reduceIte, reduceCtorEq, Nat.reduceAdd, Nat.reduceSub, Nat.reduceMul, Nat.reduceLT, Nat.reduceLeDiff, Int.reduceAdd, Int.reduceSub, Int.reduceMul, Int.reduceLT, Int.reduceLE, Int.reduceEq, Int.reduceNeg, Int.reduceNe, Int.reduceGE, Int.reduceGT, Nat.reduceBEq, Int.reduceToNat]
          (try simp (disch := omega) only [wrap_id])
          repeat (refine And.intro (by first | omega | (simp; done) | (simp; omega) | (unfold appRoom; omega)) ?_)
          refine ⟨fun hlt2 => ?_, fun hge2 => ?_⟩
          · repeat (refine And.intro (by first | omega | (simp; done) | (simp; omega) | (unfold appRoom; omega)) ?_)
            refine ⟨fun he => ⟨_, _, _, ?_, h⟩, fun hne => ?_⟩
            · obtain ⟨e1, e2⟩ := find_hit (line := n) (by omega) (by omega) hpre hpre2 he
              simp (config := { maxSteps := 2000000 }) only [go_sem, hG, hP, Nat.reduceEqDiff, ↓reduceIte, reduceCtorEq, Nat.reduceAdd, Nat.reduceSub, Nat.reduceMul, Nat.reduceLT, Nat.reduceLeDiff, Int.reduceAdd, Int.reduceSub, Int.reduceMul, Int.reduceLT, Int.reduceLE, Int.reduceEq, Int.reduceNeg, Int.reduceNe, Int.reduceGE, Int.reduceGT, Nat.reduceBEq, Int.reduceToNat]
              rw [e1, e2]; exact ⟨rfl, rfl⟩
            · refine ⟨k + 1, ⟨⟨by omega, fun i hi => ?_⟩, by omega⟩, SubS.weak ?_⟩
              · by_cases e : i = k
                · rw [e]; exact hne
                · exact hpre2 i (by omega)
              · simp (config := { maxSteps := 2000000 }) only [go_sem, hG, hP, Nat.reduceEqDiff, ↓reduceIte, reduceCtorEq, Nat.reduceAdd, Nat.reduceSub, Nat.reduceMul, Nat.reduceLT, Nat.reduceLeDiff, Int.reduceAdd, Int.reduceSub, Int.reduceMul, Int.reduceLT, Int.reduceLE, Int.reduceEq, Int.reduceNeg, Int.reduceNe, Int.reduceGE, Int.reduceGT, Nat.reduceBEq, Int.reduceToNat]
                all_goals simp
          · refine ⟨j + 1, ⟨⟨by omega, fun i hi => ?_⟩, by omega⟩, SubS.weak ?_⟩
            · by_cases e : i = j
              · rw [e]; exact has_not fun i hi => hpre2 i (by omega)
              · exact hpre i (by omega)
            · simp (config := { maxSteps := 2000000 }) only [go_sem, hG, hP, Nat.reduceEqDiff, ↓reduceIte, reduceCtorEq, Nat.reduceAdd, Nat.reduceSub, Nat.reduceMul, Nat.reduceLT, Nat.reduceLeDiff, Int.reduceAdd, Int.reduceSub, Int.reduceMul, Int.reduceLT, Int.reduceLE, Int.reduceEq, Int.reduceNeg, Int.reduceNe, Int.reduceGE, Int.reduceGT, Nat.reduceBEq, Int.reduceToNat]
              all_goals simp
      · simp (config := { maxSteps := 2000000 }) only [go_sem, hG, hP, Nat.reduceEqDiff, ↓reduceIte, reduceCtorEq, Nat.reduceAdd, Nat.reduceSub, Nat.reduceMul, Nat.reduceLT, Nat.reduceLeDiff, Int.reduceAdd, Int.reduceSub, Int.reduceMul, Int.reduceLT, Int.reduceLE, Int.reduceEq, Int.reduceNeg, Int.reduceNe, Int.reduceGE, Int.reduceGT, Nat.reduceBEq, Int.reduceToNat]
        obtain ⟨e1, e2⟩ := find_none (line := n) (fun i hi => hpre i (by omega))
        rw [e1, e2]; exact ⟨rfl, rfl⟩
  · exact h.elim
def oneCall (l : Int) (cs : List Cal) (a b : Int) : Bool := panelOk l cs && decide (0 ≤ findI cs a ∧ findI cs a = findI cs b)
def spOneCall : Spec := ⟨fun _ _ => [], fun args objs K => match args, objs with
  | [.agg [.v (.int .i64 l), .rs .call cs], .v (.int .i64 a), .v (.int .i64 b)], [] => (cs.length ≤ 1099511627776 ∧ legsOk2 cs) ∧ K (.v (.bool (oneCall l cs a b))) [] 0
  | _, _ => False, false⟩
theorem spOneCall_t {L : Hp} {a : List AVal} : Spec.take spOneCall L a = [] := id rfl
theorem spOneCall_k : Spec.keep spOneCall = false := id rfl
theorem spOneCall_f {l} {cs} {a} {b} {K : AVal → Hp → Nat → Prop} : Spec.f spOneCall ([.agg [.v (.int .i64 l), .rs .call cs], .v (.int .i64 a), .v (.int .i64 b)]) ([]) K = ((cs.length ≤ 1099511627776 ∧ legsOk2 cs) ∧ K (.v (.bool (oneCall l cs a b))) [] 0) := id rfl
theorem valid18 : Valid Try.prog 18 spOneCall := by
  refine validI (Γ := lk [(14, spPanelOk), (52, spFind)]) Try.func18 bod18 low18 res18 (good_of ⟨⟨cal14, valid14⟩, ⟨cal52, valid52⟩, trivial⟩) ?_
  intro E args objs K h hE hG hP
  simp only [spOneCall, oneCall] at h
  split at h
  · refine ⟨by simp [Try.ntmps18], ?_⟩
    rename_i l cs a b
    obtain ⟨⟨hlen, hlegs⟩, h⟩ := h
    simp (config := { maxSteps := 2000000 }) only [go_sem, hG, hP, Nat.reduceEqDiff, ↓reduceIte, reduceCtorEq, Nat.reduceAdd, Nat.reduceSub, Nat.reduceMul, Nat.reduceLT, Nat.reduceLeDiff, Int.reduceAdd, Int.reduceSub, Int.reduceMul, Int.reduceLT, Int.reduceLE, Int.reduceEq, Int.reduceNeg, Int.reduceNe, Int.reduceGE, Int.reduceGT, Nat.reduceBEq, Int.reduceToNat,  spPanelOk_f, spPanelOk_t, spPanelOk_k, spFind_f, spFind_t, spFind_k]
    repeat (refine And.intro (by first | omega | (simp; done) | (simp; omega) | (unfold appRoom; omega)) ?_)
    repeat' (first | (refine And.intro ?_ ?_) | (with_reducible intro _))
    all_goals first
      | omega
      | assumption
      | (refine ⟨_, _, _, ?_, h⟩; simp (config := { maxSteps := 2000000 }) only [go_sem, hG, hP, Nat.reduceEqDiff, ↓reduceIte, reduceCtorEq, Nat.reduceAdd, Nat.reduceSub, Nat.reduceMul, Nat.reduceLT, Nat.reduceLeDiff, Int.reduceAdd, Int.reduceSub, Int.reduceMul, Int.reduceLT, Int.reduceLE, Int.reduceEq, Int.reduceNeg, Int.reduceNe, Int.reduceGE, Int.reduceGT, Nat.reduceBEq, Int.reduceToNat]; grind)
      | skip
  · exact h.elim
theorem valid19 : Valid Try.prog 19 spOneCall := by
  refine validI (Γ := lk [(16, spPanelOk), (53, spFind)]) Try.func19 bod19 low19 res19 (good_of ⟨⟨cal16, valid16⟩, ⟨cal53, valid53⟩, trivial⟩) ?_
  intro E args objs K h hE hG hP
  simp only [spOneCall, oneCall] at h
  split at h
  · refine ⟨by simp [Try.ntmps19], ?_⟩
    rename_i l cs a b
    obtain ⟨⟨hlen, hlegs⟩, h⟩ := h
    simp (config := { maxSteps := 2000000 }) only [go_sem, hG, hP, Nat.reduceEqDiff, ↓reduceIte, reduceCtorEq, Nat.reduceAdd, Nat.reduceSub, Nat.reduceMul, Nat.reduceLT, Nat.reduceLeDiff, Int.reduceAdd, Int.reduceSub, Int.reduceMul, Int.reduceLT, Int.reduceLE, Int.reduceEq, Int.reduceNeg, Int.reduceNe, Int.reduceGE, Int.reduceGT, Nat.reduceBEq, Int.reduceToNat,  spPanelOk_f, spPanelOk_t, spPanelOk_k, spFind_f, spFind_t, spFind_k]
    repeat (refine And.intro (by first | omega | (simp; done) | (simp; omega) | (unfold appRoom; omega)) ?_)
    repeat' (first | (refine And.intro ?_ ?_) | (with_reducible intro _))
    all_goals first
      | omega
      | assumption
      | (refine ⟨_, _, _, ?_, h⟩; simp (config := { maxSteps := 2000000 }) only [go_sem, hG, hP, Nat.reduceEqDiff, ↓reduceIte, reduceCtorEq, Nat.reduceAdd, Nat.reduceSub, Nat.reduceMul, Nat.reduceLT, Nat.reduceLeDiff, Int.reduceAdd, Int.reduceSub, Int.reduceMul, Int.reduceLT, Int.reduceLE, Int.reduceEq, Int.reduceNeg, Int.reduceNe, Int.reduceGE, Int.reduceGT, Nat.reduceBEq, Int.reduceToNat]; grind)
      | skip
  · exact h.elim

end Go.Proofs.YtnbfnpnephfjaaaE

/-! The code of a function, in the engine's words. -/
namespace Go.Proofs.YtnbfnpnephfjaaaE
open Go Go.RowKit
@[reducible] def ic43 : IC := (.seq (.ops [⟨some 2, .mov (.const (.slice none 0 0)), none⟩]) (.seq (.ops [⟨some 5, .mov (.tmp 0), none⟩, ⟨some 6, .len (.tmp 5), none⟩, ⟨some 7, .mk .int 8 (.tmp 6) (.tmp 6), none⟩, ⟨some 3, .mov (.tmp 7), none⟩]) (.seq (.seq (.ops [⟨some 4, .mov (.const (.int .i64 0)), none⟩]) (.block 0 (.loop (.seq (.seq (.ops [⟨some 8, .mov (.tmp 4), none⟩, ⟨some 9, .mov (.tmp 0), none⟩, ⟨some 10, .len (.tmp 9), none⟩, ⟨some 11, .bin .lss (.tmp 8) (.tmp 10), none⟩]) (.cond (.tmp 11) .skip (.exit 0))) (.seq (.block 1 (.ops [⟨some 14, .mov (.tmp 3), none⟩, ⟨some 15, .mov (.tmp 4), none⟩, ⟨some 16, .mov (.tmp 0), none⟩, ⟨some 17, .mov (.tmp 4), none⟩, ⟨some 18, .iadr 1 (.tmp 16) (.tmp 17), none⟩, ⟨some 19, .load 1 false (.tmp 18), none⟩, ⟨some 20, .iadr 1 (.tmp 14) (.tmp 15), none⟩, ⟨none, .store 1 (.tmp 20) (.tmp 19), none⟩])) (.ops [⟨some 12, .mov (.tmp 4), none⟩, ⟨some 13, .bin .add (.tmp 12) (.const (.int .i64 1)), none⟩, ⟨some 4, .mov (.tmp 13), none⟩])))))) (.seq (.ops [⟨some 21, .mov (.tmp 3), none⟩, ⟨some 2, .mov (.tmp 21), none⟩]) .ret))))
@[reducible] def rv43 : List RV := [.tmp 2]
theorem low43 : lowC Try.prog tau Try.f43.ntmps (Try.f43.body.getD .skip) = some (erase ic43) := by kernel_rfl
theorem res43 : lowR Try.prog Try.f43.results.toList = some rv43 := by kernel_rfl
theorem bod43 : Try.f43.body = some (Try.f43.body.getD .skip) := by kernel_rfl
theorem cal43 : callable Try.prog 43 = true := by kernel_rfl

end Go.Proofs.YtnbfnpnephfjaaaE

/-! The code of a function, in the engine's words. -/
namespace Go.Proofs.YtnbfnpnephfjaaaE
open Go Go.RowKit
@[reducible] def ic34 : IC := (.seq (.ops [⟨some 4, .mov (.const (.bool false)), none⟩]) (.seq (.seq (.ops [⟨some 6, .mov (.tmp 0), none⟩, ⟨some 7, .len (.tmp 6), none⟩, ⟨some 8, .mov (.tmp 1), none⟩, ⟨some 9, .len (.tmp 8), none⟩, ⟨some 10, .bin .neq (.tmp 7) (.tmp 9), none⟩]) (.cond (.tmp 10) (.seq (.ops [⟨some 4, .mov (.const (.bool false)), none⟩]) .ret) .skip)) (.seq (.seq (.ops [⟨some 5, .mov (.const (.int .i64 0)), none⟩]) (.block 0 (.loop (.seq (.seq (.ops [⟨some 11, .mov (.tmp 5), none⟩, ⟨some 12, .mov (.tmp 0), none⟩, ⟨some 13, .len (.tmp 12), none⟩, ⟨some 14, .bin .lss (.tmp 11) (.tmp 13), none⟩]) (.cond (.tmp 14) .skip (.exit 0))) (.seq (.block 1 (.seq (.draw [⟨some 17, .mov (.tmp 0), none⟩, ⟨some 18, .mov (.tmp 5), none⟩, ⟨some 19, .iadr 1 (.tmp 17) (.tmp 18), none⟩, ⟨some 20, .load 1 false (.tmp 19), none⟩, ⟨some 21, .mov (.tmp 1), none⟩, ⟨some 22, .mov (.tmp 5), none⟩, ⟨some 23, .iadr 1 (.tmp 21) (.tmp 22), none⟩, ⟨some 24, .load 1 false (.tmp 23), none⟩, ⟨some 25, .bin .neq (.tmp 20) (.tmp 24), none⟩] (.held ⟨some 17, .mov (.tmp 0), none⟩ (.held ⟨some 18, .mov (.tmp 5), none⟩ (.held ⟨some 19, .iadr 1 (.tmp 17) (.tmp 18), none⟩ (.held ⟨some 20, .load 1 false (.tmp 19), none⟩ (.held ⟨some 21, .mov (.tmp 1), none⟩ (.held ⟨some 22, .mov (.tmp 5), none⟩ (.held ⟨some 23, .iadr 1 (.tmp 21) (.tmp 22), none⟩ (.held ⟨some 24, .load 1 false (.tmp 23), none⟩ (.held ⟨some 25, .bin .neq (.tmp 20) (.tmp 24), none⟩ .done)))))))))) (.cond (.tmp 25) (.seq (.ops [⟨some 4, .mov (.const (.bool false)), none⟩]) .ret) .skip))) (.ops [⟨some 15, .mov (.tmp 5), none⟩, ⟨some 16, .bin .add (.tmp 15) (.const (.int .i64 1)), none⟩, ⟨some 5, .mov (.tmp 16), none⟩])))))) (.seq (.ops [⟨some 4, .mov (.const (.bool true)), none⟩]) .ret))))
@[reducible] def rv34 : List RV := [.tmp 4]
theorem low34 : lowC Try.prog tau Try.f34.ntmps (Try.f34.body.getD .skip) = some (erase ic34) := by kernel_rfl
theorem res34 : lowR Try.prog Try.f34.results.toList = some rv34 := by kernel_rfl
theorem bod34 : Try.f34.body = some (Try.f34.body.getD .skip) := by kernel_rfl
theorem cal34 : callable Try.prog 34 = true := by kernel_rfl

end Go.Proofs.YtnbfnpnephfjaaaE

/-! The code of a function, in the engine's words. -/
namespace Go.Proofs.YtnbfnpnephfjaaaE
open Go Go.RowKit
@[reducible] def ic37 : IC := (.seq (.ops [⟨some 4, .mov (.const (.int .i64 0)), none⟩]) (.seq (.seq (.ops [⟨some 5, .mov (.const (.int .i64 0)), none⟩]) (.block 0 (.loop (.seq (.seq (.ops [⟨some 6, .mov (.tmp 5), none⟩, ⟨some 7, .mov (.tmp 0), none⟩, ⟨some 8, .len (.tmp 7), none⟩, ⟨some 9, .bin .lss (.tmp 6) (.tmp 8), none⟩]) (.cond (.tmp 9) .skip (.exit 0))) (.seq (.block 1 (.seq (.ops [⟨some 12, .mov (.tmp 0), none⟩, ⟨some 13, .mov (.tmp 5), none⟩, ⟨some 14, .mov (.tmp 1), none⟩, ⟨some 15, .iadr 1 (.tmp 12) (.tmp 13), none⟩, ⟨none, .store 1 (.tmp 15) (.tmp 14), none⟩]) (.ops [⟨some 16, .mov (.tmp 1), none⟩, ⟨some 17, .bin .add (.tmp 16) (.const (.int .i64 1)), none⟩, ⟨some 1, .mov (.tmp 17), none⟩]))) (.ops [⟨some 10, .mov (.tmp 5), none⟩, ⟨some 11, .bin .add (.tmp 10) (.const (.int .i64 1)), none⟩, ⟨some 5, .mov (.tmp 11), none⟩])))))) (.seq (.ops [⟨some 18, .mov (.tmp 1), none⟩, ⟨some 4, .mov (.tmp 18), none⟩]) .ret)))
@[reducible] def rv37 : List RV := [.tmp 4]
theorem low37 : lowC Try.prog tau Try.f37.ntmps (Try.f37.body.getD .skip) = some (erase ic37) := by kernel_rfl
theorem res37 : lowR Try.prog Try.f37.results.toList = some rv37 := by kernel_rfl
theorem bod37 : Try.f37.body = some (Try.f37.body.getD .skip) := by kernel_rfl
theorem cal37 : callable Try.prog 37 = true := by kernel_rfl

end Go.Proofs.YtnbfnpnephfjaaaE

/-! The code of a function, in the engine's words. -/
namespace Go.Proofs.YtnbfnpnephfjaaaE
open Go Go.RowKit
@[reducible] def ic38 : IC := (.seq (.ops [⟨some 4, .mov (.const (.int .i64 0)), none⟩]) (.seq (.seq (.ops [⟨some 5, .mov (.const (.int .i64 0)), none⟩]) (.block 0 (.loop (.seq (.seq (.ops [⟨some 6, .mov (.tmp 5), none⟩, ⟨some 7, .mov (.tmp 0), none⟩, ⟨some 8, .len (.tmp 7), none⟩, ⟨some 9, .bin .lss (.tmp 6) (.tmp 8), none⟩]) (.cond (.tmp 9) .skip (.exit 0))) (.seq (.block 1 (.seq (.seq (.ops [⟨some 12, .mov (.tmp 0), none⟩, ⟨some 13, .mov (.tmp 5), none⟩, ⟨some 14, .iadr 1 (.tmp 12) (.tmp 13), none⟩, ⟨some 15, .load 1 false (.tmp 14), none⟩, ⟨some 16, .mov (.tmp 1), none⟩, ⟨some 17, .bin .neq (.tmp 15) (.tmp 16), none⟩]) (.cond (.tmp 17) (.seq (.ops [⟨some 4, .mov (.const (.int .i64 (-1))), none⟩]) .ret) .skip)) (.ops [⟨some 18, .mov (.tmp 1), none⟩, ⟨some 19, .bin .add (.tmp 18) (.const (.int .i64 1)), none⟩, ⟨some 1, .mov (.tmp 19), none⟩]))) (.ops [⟨some 10, .mov (.tmp 5), none⟩, ⟨some 11, .bin .add (.tmp 10) (.const (.int .i64 1)), none⟩, ⟨some 5, .mov (.tmp 11), none⟩])))))) (.seq (.ops [⟨some 20, .mov (.tmp 1), none⟩, ⟨some 4, .mov (.tmp 20), none⟩]) .ret)))
@[reducible] def rv38 : List RV := [.tmp 4]
theorem low38 : lowC Try.prog tau Try.f38.ntmps (Try.f38.body.getD .skip) = some (erase ic38) := by kernel_rfl
theorem res38 : lowR Try.prog Try.f38.results.toList = some rv38 := by kernel_rfl
theorem bod38 : Try.f38.body = some (Try.f38.body.getD .skip) := by kernel_rfl
theorem cal38 : callable Try.prog 38 = true := by kernel_rfl

end Go.Proofs.YtnbfnpnephfjaaaE

/-! Rows of numbers: copies, comparisons, marks. -/
namespace Go.Proofs.YtnbfnpnephfjaaaE
open Go Go.RowKit
set_option linter.unusedSimpArgs false
set_option linter.unusedVariables false
set_option maxRecDepth 20000
set_option maxHeartbeats 4000000
def intMarks (k : Int) (n : Nat) : List Int := (List.range n).map fun (i : Nat) => k + (i : Int)
theorem set_step {α : Type} {ys m : List α} {j : Nat} {x : α} (d : α) (h : ys.take j = m.take j) (h1 : j < ys.length) (h2 : j < m.length) (hx : x = m.getD j d) : (ys.set j x).take (j + 1) = m.take (j + 1) := by
  refine take_step d ?_ (by simpa using h1) h2 (by simp [h1, hx, List.getD])
  rw [List.take_set_of_le (Nat.le_refl _)]; exact h
theorem intMarks_len (k : Int) (n : Nat) : (intMarks k n).length = n := by simp [intMarks]
theorem intMarks_get (k : Int) {n j : Nat} (h : j < n) : (intMarks k n).getD j 0 = k + j := by simp [intMarks, List.getD, h]
def take1 : List AVal → List Nat
  | .sub m _ _ _ :: _ => [m]
  | _ => []
def spToIntS : Spec := ⟨fun _ _ => [], fun args objs K => match args, objs with
  | [.rs .int xs], [] => xs.length ≤ 1099511627776 ∧ K (.sub 0 1 0 xs.length) [(0, .row .int xs)] 1
  | _, _ => False, false⟩
theorem spToIntS_t {L : Hp} {a : List AVal} : Spec.take spToIntS L a = [] := id rfl
theorem spToIntS_k : Spec.keep spToIntS = false := id rfl
theorem spToIntS_f {xs} {K : AVal → Hp → Nat → Prop} : Spec.f spToIntS ([.rs .int xs]) ([]) K = (xs.length ≤ 1099511627776 ∧ K (.sub 0 1 0 xs.length) [(0, .row .int xs)] 1) := id rfl
theorem valid43 : Valid Try.prog 43 spToIntS := by
  refine validI (Γ := lk []) Try.func43 bod43 low43 res43 (good_of trivial) ?_
  intro E args objs K h hE hG hP
  simp only [spToIntS] at h
  split at h
  · refine ⟨by simp [Try.ntmps43], ?_⟩
    rename_i xs
    obtain ⟨hlen, h⟩ := h
    simp (config := { maxSteps := 2000000 }) only [go_sem, hG, hP, Nat.reduceEqDiff, ↓reduceIte, reduceCtorEq, Nat.reduceAdd, Nat.reduceSub, Nat.reduceMul, Nat.reduceLT, Nat.reduceLeDiff, Int.reduceAdd, Int.reduceSub, Int.reduceMul, Int.reduceLT, Int.reduceLE, Int.reduceEq, Int.reduceNeg, Int.reduceNe, Int.reduceGE, Int.reduceGT, Nat.reduceBEq, Int.reduceToNat]
    refine ⟨⟨by omega, by unfold appRoom; omega, by omega⟩, ?_⟩
    refine loopI hE (fun k : Nat => ⟨[(0, .rs .int xs), (3, .sub 0 1 0 xs.length), (4, .v (.int .i64 k))], [(0, .row .int (xs.take k ++ List.replicate (xs.length - k) (0 : Int)))], 1, Try.f43.ntmps⟩) (fun k => k ≤ xs.length) (fun k => xs.length - k) ⟨0, Nat.zero_le _, SubS.weak ?_⟩ ?_
    · simp (config := { maxSteps := 2000000 }) only [go_sem, hG, hP, Nat.reduceEqDiff, ↓reduceIte, reduceCtorEq, Nat.reduceAdd, Nat.reduceSub, Nat.reduceMul, Nat.reduceLT, Nat.reduceLeDiff, Int.reduceAdd, Int.reduceSub, Int.reduceMul, Int.reduceLT, Int.reduceLE, Int.reduceEq, Int.reduceNeg, Int.reduceNe, Int.reduceGE, Int.reduceGT, Nat.reduceBEq, Int.reduceToNat]
      all_goals simp
    · intro k hk
      simp (config := { maxSteps := 2000000 }) only [go_sem, hG, hP, Nat.reduceEqDiff, ↓reduceIte, reduceCtorEq, Nat.reduceAdd, Nat.reduceSub, Nat.reduceMul, Nat.reduceLT, Nat.reduceLeDiff, Int.reduceAdd, Int.reduceSub, Int.reduceMul, Int.reduceLT, Int.reduceLE, Int.reduceEq, Int.reduceNeg, Int.reduceNe, Int.reduceGE, Int.reduceGT, Nat.reduceBEq, Int.reduceToNat,  S.ev]
      (try simp (disch := omega) only [wrap_id])
      refine ⟨fun hlt => ?_, fun hge => ⟨_, _, _, ?_, h⟩⟩
      · rw [fill_len _ _ _ hk]
        repeat (refine And.intro (by first | omega | (simp; done) | (simp; omega) | (unfold appRoom; omega)) ?_)
        refine ⟨k + 1, by omega, SubS.weak ?_⟩
        simp (config := { maxSteps := 2000000 }) only [go_sem, hG, hP, Nat.reduceEqDiff, ↓reduceIte, reduceCtorEq, Nat.reduceAdd, Nat.reduceSub, Nat.reduceMul, Nat.reduceLT, Nat.reduceLeDiff, Int.reduceAdd, Int.reduceSub, Int.reduceMul, Int.reduceLT, Int.reduceLE, Int.reduceEq, Int.reduceNeg, Int.reduceNe, Int.reduceGE, Int.reduceGT, Nat.reduceBEq, Int.reduceToNat]
        rw [fill_set _ _ _ _ (by omega)]
        simp
      · simp (config := { maxSteps := 2000000 }) only [go_sem, hG, hP, Nat.reduceEqDiff, ↓reduceIte, reduceCtorEq, Nat.reduceAdd, Nat.reduceSub, Nat.reduceMul, Nat.reduceLT, Nat.reduceLeDiff, Int.reduceAdd, Int.reduceSub, Int.reduceMul, Int.reduceLT, Int.reduceLE, Int.reduceEq, Int.reduceNeg, Int.reduceNe, Int.reduceGE, Int.reduceGT, Nat.reduceBEq, Int.reduceToNat]
        simp [show k = xs.length by omega]
  · exact h.elim
def spEqIntS : Spec := ⟨fun _ _ => [], fun args objs K => match args, objs with
  | [.rs .int xs, .rs .int ys], [] => (xs.length ≤ 1099511627776 ∧ ys.length ≤ 1099511627776) ∧ K (.v (.bool (decide (xs = ys)))) [] 0
  | _, _ => False, false⟩
theorem spEqIntS_t {L : Hp} {a : List AVal} : Spec.take spEqIntS L a = [] := id rfl
theorem spEqIntS_k : Spec.keep spEqIntS = false := id rfl
theorem spEqIntS_f {xs} {ys} {K : AVal → Hp → Nat → Prop} : Spec.f spEqIntS ([.rs .int xs, .rs .int ys]) ([]) K = ((xs.length ≤ 1099511627776 ∧ ys.length ≤ 1099511627776) ∧ K (.v (.bool (decide (xs = ys)))) [] 0) := id rfl
theorem valid34 : Valid Try.prog 34 spEqIntS := by
  refine validI (Γ := lk []) Try.func34 bod34 low34 res34 (good_of trivial) ?_
  intro E args objs K h hE hG hP
  simp only [spEqIntS] at h
  split at h
  · refine ⟨by simp [Try.ntmps34], ?_⟩
    rename_i xs ys
    obtain ⟨⟨hlen, hlen2⟩, h⟩ := h
    simp (config := { maxSteps := 2000000 }) only [go_sem, hG, hP, Nat.reduceEqDiff, ↓reduceIte, reduceCtorEq, Nat.reduceAdd, Nat.reduceSub, Nat.reduceMul, Nat.reduceLT, Nat.reduceLeDiff, Int.reduceAdd, Int.reduceSub, Int.reduceMul, Int.reduceLT, Int.reduceLE, Int.reduceEq, Int.reduceNeg, Int.reduceNe, Int.reduceGE, Int.reduceGT, Nat.reduceBEq, Int.reduceToNat]
    refine ⟨fun h1 => ⟨_, _, _, ?_, h⟩, fun h1 => ?_⟩
    · simp (config := { maxSteps := 2000000 }) only [go_sem, hG, hP, Nat.reduceEqDiff, ↓reduceIte, reduceCtorEq, Nat.reduceAdd, Nat.reduceSub, Nat.reduceMul, Nat.reduceLT, Nat.reduceLeDiff, Int.reduceAdd, Int.reduceSub, Int.reduceMul, Int.reduceLT, Int.reduceLE, Int.reduceEq, Int.reduceNeg, Int.reduceNe, Int.reduceGE, Int.reduceGT, Nat.reduceBEq, Int.reduceToNat]
      rw [decide_eq_false fun e => h1 (by rw [e])]
    · have hle : xs.length = ys.length := by omega
      refine loopI hE (fun k : Nat => ⟨[(0, .rs .int xs), (1, .rs .int ys), (5, .v (.int .i64 k))], [], 0, Try.f34.ntmps⟩) (fun k => k ≤ xs.length ∧ xs.take k = ys.take k) (fun k => xs.length - k) ⟨0, ⟨Nat.zero_le _, rfl⟩, SubS.weak ?_⟩ ?_
      · simp (config := { maxSteps := 2000000 }) only [go_sem, hG, hP, Nat.reduceEqDiff, ↓reduceIte, reduceCtorEq, Nat.reduceAdd, Nat.reduceSub, Nat.reduceMul, Nat.reduceLT, Nat.reduceLeDiff, Int.reduceAdd, Int.reduceSub, Int.reduceMul, Int.reduceLT, Int.reduceLE, Int.reduceEq, Int.reduceNeg, Int.reduceNe, Int.reduceGE, Int.reduceGT, Nat.reduceBEq, Int.reduceToNat]
        all_goals simp
      · intro k ⟨hk, hpre⟩
        simp (config := { maxSteps := 2000000 }) only [go_sem, hG, hP, Nat.reduceEqDiff, ↓reduceIte, reduceCtorEq, Nat.reduceAdd, Nat.reduceSub, Nat.reduceMul, Nat.reduceLT, Nat.reduceLeDiff, Int.reduceAdd, Int.reduceSub, Int.reduceMul, Int.reduceLT, Int.reduceLE, Int.reduceEq, Int.reduceNeg, Int.reduceNe, Int.reduceGE, Int.reduceGT, Nat.reduceBEq, Int.reduceToNat]
        (try simp (disch := omega) only [wrap_id])
        refine ⟨fun hlt => ?_, fun hge => ⟨_, _, _, ?_, h⟩⟩
        · repeat (refine And.intro (by first | omega | (simp; done) | (simp; omega) | (unfold appRoom; omega)) ?_)
          refine ⟨fun hne => ⟨_, _, _, ?_, h⟩, fun heq => ?_⟩
          · simp (config := { maxSteps := 2000000 }) only [go_sem, hG, hP, Nat.reduceEqDiff, ↓reduceIte, reduceCtorEq, Nat.reduceAdd, Nat.reduceSub, Nat.reduceMul, Nat.reduceLT, Nat.reduceLeDiff, Int.reduceAdd, Int.reduceSub, Int.reduceMul, Int.reduceLT, Int.reduceLE, Int.reduceEq, Int.reduceNeg, Int.reduceNe, Int.reduceGE, Int.reduceGT, Nat.reduceBEq, Int.reduceToNat]
            rw [decide_eq_false fun e => ?_]
            subst e
            simp at hne
          · refine ⟨k + 1, ⟨⟨by omega, take_step (0 : Int) hpre (by omega) (by omega) (by simpa using heq)⟩, by omega⟩, SubS.weak ?_⟩
            simp (config := { maxSteps := 2000000 }) only [go_sem, hG, hP, Nat.reduceEqDiff, ↓reduceIte, reduceCtorEq, Nat.reduceAdd, Nat.reduceSub, Nat.reduceMul, Nat.reduceLT, Nat.reduceLeDiff, Int.reduceAdd, Int.reduceSub, Int.reduceMul, Int.reduceLT, Int.reduceLE, Int.reduceEq, Int.reduceNeg, Int.reduceNe, Int.reduceGE, Int.reduceGT, Nat.reduceBEq, Int.reduceToNat]
            all_goals simp
        · simp (config := { maxSteps := 2000000 }) only [go_sem, hG, hP, Nat.reduceEqDiff, ↓reduceIte, reduceCtorEq, Nat.reduceAdd, Nat.reduceSub, Nat.reduceMul, Nat.reduceLT, Nat.reduceLeDiff, Int.reduceAdd, Int.reduceSub, Int.reduceMul, Int.reduceLT, Int.reduceLE, Int.reduceEq, Int.reduceNeg, Int.reduceNe, Int.reduceGE, Int.reduceGT, Nat.reduceBEq, Int.reduceToNat]
          rw [decide_eq_true (take_all hpre hle (by omega))]
  · exact h.elim
def spMarkIntS : Spec := ⟨fun _ => take1, fun args objs K => match args, objs with
  | [.sub 0 1 0 n, .v (.int .i64 k)], [.row .int xs] => (n = xs.length ∧ xs.length ≤ 1099511627776 ∧ 0 ≤ k ∧ k ≤ 1099511627776) ∧ K (.v (.int .i64 (k + xs.length))) [(0, .row .int (intMarks k xs.length))] 1
  | _, _ => False, false⟩
theorem spMarkIntS_t {L : Hp} {a : List AVal} : Spec.take spMarkIntS L a = take1 a := id rfl
theorem spMarkIntS_k : Spec.keep spMarkIntS = false := id rfl
theorem spMarkIntS_f {n} {k} {xs} {K : AVal → Hp → Nat → Prop} : Spec.f spMarkIntS ([.sub 0 1 0 n, .v (.int .i64 k)]) ([.row .int xs]) K = ((n = xs.length ∧ xs.length ≤ 1099511627776 ∧ 0 ≤ k ∧ k ≤ 1099511627776) ∧ K (.v (.int .i64 (k + xs.length))) [(0, .row .int (intMarks k xs.length))] 1) := id rfl
theorem valid37 : Valid Try.prog 37 spMarkIntS := by
  refine validI (Γ := lk []) Try.func37 bod37 low37 res37 (good_of trivial) ?_
  intro E args objs K h hE hG hP
  simp only [spMarkIntS] at h
  split at h
  · refine ⟨by simp [Try.ntmps37], ?_⟩
    rename_i n k xs
    obtain ⟨⟨rfl, hlen, hk0, hk1⟩, h⟩ := h
    simp (config := { maxSteps := 2000000 }) only [go_sem, hG, hP, Nat.reduceEqDiff, ↓reduceIte, reduceCtorEq, Nat.reduceAdd, Nat.reduceSub, Nat.reduceMul, Nat.reduceLT, Nat.reduceLeDiff, Int.reduceAdd, Int.reduceSub, Int.reduceMul, Int.reduceLT, Int.reduceLE, Int.reduceEq, Int.reduceNeg, Int.reduceNe, Int.reduceGE, Int.reduceGT, Nat.reduceBEq, Int.reduceToNat]
    refine loopI hE (fun p : Nat × List Int => ⟨[(0, .sub 0 1 0 xs.length), (1, .v (.int .i64 (k + (p.1 : Int)))), (5, .v (.int .i64 p.1))], [(0, .row .int p.2)], 1, Try.f37.ntmps⟩) (fun p => p.1 ≤ xs.length ∧ p.2.length = xs.length ∧ p.2.take p.1 = (intMarks k xs.length).take p.1) (fun p => xs.length - p.1) ⟨(0, xs), ⟨Nat.zero_le _, rfl, rfl⟩, SubS.weak ?_⟩ ?_
    · simp (config := { maxSteps := 2000000 }) only [go_sem, hG, hP, Nat.reduceEqDiff, ↓reduceIte, reduceCtorEq, Nat.reduceAdd, Nat.reduceSub, Nat.reduceMul, Nat.reduceLT, Nat.reduceLeDiff, Int.reduceAdd, Int.reduceSub, Int.reduceMul, Int.reduceLT, Int.reduceLE, Int.reduceEq, Int.reduceNeg, Int.reduceNe, Int.reduceGE, Int.reduceGT, Nat.reduceBEq, Int.reduceToNat]
      repeat' (first | with_reducible rfl | (refine And.intro ?_ ?_) | (refine congrArg (Value.int _) ?_; omega) | omega)
    · rintro ⟨j, ys⟩ ⟨hj, hl, hpre⟩
      dsimp only at hj hl hpre ⊢
      simp (config := { maxSteps := 2000000 }) only [go_sem, hG, hP, Nat.reduceEqDiff, ↓reduceIte, reduceCtorEq, Nat.reduceAdd, Nat.reduceSub, Nat.reduceMul, Nat.reduceLT, Nat.reduceLeDiff, Int.reduceAdd, Int.reduceSub, Int.reduceMul, Int.reduceLT, Int.reduceLE, Int.reduceEq, Int.reduceNeg, Int.reduceNe, Int.reduceGE, Int.reduceGT, Nat.reduceBEq, Int.reduceToNat]
      (try simp (disch := omega) only [wrap_id])
      refine ⟨fun hlt => ?_, fun hge => ⟨_, _, _, ?_, h⟩⟩
      · repeat (refine And.intro (by first | omega | (simp; done) | (simp; omega) | (unfold appRoom; omega)) ?_)
        refine ⟨(j + 1, ys.set j (k + j)), ⟨⟨by dsimp only; omega, by rw [List.length_set]; exact hl, set_step (0 : Int) hpre (by omega) (by rw [intMarks_len]; omega) (intMarks_get k (by omega)).symm⟩, by dsimp only; omega⟩, SubS.weak ?_⟩
        simp (config := { maxSteps := 2000000 }) only [go_sem, hG, hP, Nat.reduceEqDiff, ↓reduceIte, reduceCtorEq, Nat.reduceAdd, Nat.reduceSub, Nat.reduceMul, Nat.reduceLT, Nat.reduceLeDiff, Int.reduceAdd, Int.reduceSub, Int.reduceMul, Int.reduceLT, Int.reduceLE, Int.reduceEq, Int.reduceNeg, Int.reduceNe, Int.reduceGE, Int.reduceGT, Nat.reduceBEq, Int.reduceToNat]
        repeat' (first | with_reducible rfl | (refine And.intro ?_ ?_) | (refine congrArg (Value.int _) ?_; omega) | omega)
      · simp (config := { maxSteps := 2000000 }) only [go_sem, hG, hP, Nat.reduceEqDiff, ↓reduceIte, reduceCtorEq, Nat.reduceAdd, Nat.reduceSub, Nat.reduceMul, Nat.reduceLT, Nat.reduceLeDiff, Int.reduceAdd, Int.reduceSub, Int.reduceMul, Int.reduceLT, Int.reduceLE, Int.reduceEq, Int.reduceNeg, Int.reduceNe, Int.reduceGE, Int.reduceGT, Nat.reduceBEq, Int.reduceToNat]
        have hj' : j = xs.length := by omega
        subst hj'
        rw [take_all hpre (by rw [hl, intMarks_len]) (by omega)]
        repeat' (first | with_reducible rfl | (refine And.intro ?_ ?_) | (refine congrArg (Value.int _) ?_; omega) | omega)
  · exact h.elim
def heldI (xs : List Int) (k : Int) : Int := if xs = intMarks k xs.length then k + xs.length else -1
def spHeldIntS : Spec := ⟨fun _ _ => [], fun args objs K => match args, objs with
  | [.rs .int xs, .v (.int .i64 k)], [] => (xs.length ≤ 1099511627776 ∧ 0 ≤ k ∧ k ≤ 1099511627776) ∧ K (.v (.int .i64 (heldI xs k))) [] 0
  | _, _ => False, false⟩
theorem spHeldIntS_t {L : Hp} {a : List AVal} : Spec.take spHeldIntS L a = [] := id rfl
theorem spHeldIntS_k : Spec.keep spHeldIntS = false := id rfl
theorem spHeldIntS_f {xs} {k} {K : AVal → Hp → Nat → Prop} : Spec.f spHeldIntS ([.rs .int xs, .v (.int .i64 k)]) ([]) K = ((xs.length ≤ 1099511627776 ∧ 0 ≤ k ∧ k ≤ 1099511627776) ∧ K (.v (.int .i64 (heldI xs k))) [] 0) := id rfl
theorem valid38 : Valid Try.prog 38 spHeldIntS := by
  refine validI (Γ := lk []) Try.func38 bod38 low38 res38 (good_of trivial) ?_
  intro E args objs K h hE hG hP
  simp only [spHeldIntS, heldI] at h
  split at h
  · refine ⟨by simp [Try.ntmps38], ?_⟩
    rename_i xs k
    obtain ⟨⟨hlen, hk0, hk1⟩, h⟩ := h
    simp (config := { maxSteps := 2000000 }) only [go_sem, hG, hP, Nat.reduceEqDiff, ↓reduceIte, reduceCtorEq, Nat.reduceAdd, Nat.reduceSub, Nat.reduceMul, Nat.reduceLT, Nat.reduceLeDiff, Int.reduceAdd, Int.reduceSub, Int.reduceMul, Int.reduceLT, Int.reduceLE, Int.reduceEq, Int.reduceNeg, Int.reduceNe, Int.reduceGE, Int.reduceGT, Nat.reduceBEq, Int.reduceToNat]
    refine loopI hE (fun j : Nat => ⟨[(0, .rs .int xs), (1, .v (.int .i64 (k + (j : Int)))), (5, .v (.int .i64 j))], [], 0, Try.f38.ntmps⟩) (fun j => j ≤ xs.length ∧ xs.take j = (intMarks k xs.length).take j) (fun j => xs.length - j) ⟨0, ⟨Nat.zero_le _, rfl⟩, SubS.weak ?_⟩ ?_
    · simp (config := { maxSteps := 2000000 }) only [go_sem, hG, hP, Nat.reduceEqDiff, ↓reduceIte, reduceCtorEq, Nat.reduceAdd, Nat.reduceSub, Nat.reduceMul, Nat.reduceLT, Nat.reduceLeDiff, Int.reduceAdd, Int.reduceSub, Int.reduceMul, Int.reduceLT, Int.reduceLE, Int.reduceEq, Int.reduceNeg, Int.reduceNe, Int.reduceGE, Int.reduceGT, Nat.reduceBEq, Int.reduceToNat]
      repeat' (first | with_reducible rfl | (refine And.intro ?_ ?_) | (refine congrArg (Value.int _) ?_; omega) | omega)
    · intro j ⟨hj, hpre⟩
      simp (config := { maxSteps := 2000000 }) only [go_sem, hG, hP, Nat.reduceEqDiff, ↓reduceIte, reduceCtorEq, Nat.reduceAdd, Nat.reduceSub, Nat.reduceMul, Nat.reduceLT, Nat.reduceLeDiff, Int.reduceAdd, Int.reduceSub, Int.reduceMul, Int.reduceLT, Int.reduceLE, Int.reduceEq, Int.reduceNeg, Int.reduceNe, Int.reduceGE, Int.reduceGT, Nat.reduceBEq, Int.reduceToNat]
      (try simp (disch := omega) only [wrap_id])
      refine ⟨fun hlt => ?_, fun hge => ⟨_, _, _, ?_, h⟩⟩
      · repeat (refine And.intro (by first | omega | (simp; done) | (simp; omega) | (unfold appRoom; omega)) ?_)
        refine ⟨fun hne => ⟨_, _, _, ?_, h⟩, fun heq => ?_⟩
        · simp (config := { maxSteps := 2000000 }) only [go_sem, hG, hP, Nat.reduceEqDiff, ↓reduceIte, reduceCtorEq, Nat.reduceAdd, Nat.reduceSub, Nat.reduceMul, Nat.reduceLT, Nat.reduceLeDiff, Int.reduceAdd, Int.reduceSub, Int.reduceMul, Int.reduceLT, Int.reduceLE, Int.reduceEq, Int.reduceNeg, Int.reduceNe, Int.reduceGE, Int.reduceGT, Nat.reduceBEq, Int.reduceToNat]
          rw [if_neg fun e => hne ((congrArg (fun l => l.getD j (0 : Int)) e).trans (intMarks_get k (by omega)))]
        · refine ⟨j + 1, ⟨⟨by omega, ?_⟩, by omega⟩, SubS.weak ?_⟩
          · exact take_step (0 : Int) hpre (by omega) (by rw [intMarks_len]; omega) ((Decidable.not_not.1 heq).trans (intMarks_get k (by omega)).symm)
          · simp (config := { maxSteps := 2000000 }) only [go_sem, hG, hP, Nat.reduceEqDiff, ↓reduceIte, reduceCtorEq, Nat.reduceAdd, Nat.reduceSub, Nat.reduceMul, Nat.reduceLT, Nat.reduceLeDiff, Int.reduceAdd, Int.reduceSub, Int.reduceMul, Int.reduceLT, Int.reduceLE, Int.reduceEq, Int.reduceNeg, Int.reduceNe, Int.reduceGE, Int.reduceGT, Nat.reduceBEq, Int.reduceToNat]
            repeat' (first | with_reducible rfl | (refine And.intro ?_ ?_) | (refine congrArg (Value.int _) ?_; omega) | omega)
      · simp (config := { maxSteps := 2000000 }) only [go_sem, hG, hP, Nat.reduceEqDiff, ↓reduceIte, reduceCtorEq, Nat.reduceAdd, Nat.reduceSub, Nat.reduceMul, Nat.reduceLT, Nat.reduceLeDiff, Int.reduceAdd, Int.reduceSub, Int.reduceMul, Int.reduceLT, Int.reduceLE, Int.reduceEq, Int.reduceNeg, Int.reduceNe, Int.reduceGE, Int.reduceGT, Nat.reduceBEq, Int.reduceToNat]
        have hj' : j = xs.length := by omega
        have e : xs = intMarks k xs.length := take_all hpre (by rw [intMarks_len]) (by omega)
        rw [if_pos e, hj']
  · exact h.elim

end Go.Proofs.YtnbfnpnephfjaaaE

/-! The code of a function, in the engine's words. -/
namespace Go.Proofs.YtnbfnpnephfjaaaE
open Go Go.RowKit
@[reducible] def ic87 : IC := (.seq (.ops [⟨some 4, .mov (.const (.int .i64 0)), none⟩]) (.seq (.seq (.ops [⟨some 5, .mov (.const (.int .i64 0)), none⟩]) (.block 0 (.loop (.seq (.seq (.ops [⟨some 6, .mov (.tmp 5), none⟩, ⟨some 7, .mov (.tmp 0), none⟩, ⟨some 8, .len (.tmp 7), none⟩, ⟨some 9, .bin .lss (.tmp 6) (.tmp 8), none⟩]) (.cond (.tmp 9) .skip (.exit 0))) (.seq (.block 1 (.seq (.ops [⟨some 12, .mov (.tmp 0), none⟩, ⟨some 13, .mov (.tmp 5), none⟩, ⟨some 14, .mov (.tmp 1), none⟩, ⟨some 15, .iadr 2 (.tmp 12) (.tmp 13), none⟩, ⟨some 16, .fadr 0 (.tmp 15), none⟩, ⟨none, .store 1 (.tmp 16) (.tmp 14), none⟩]) (.seq (.ops [⟨some 17, .mov (.tmp 1), none⟩, ⟨some 18, .bin .add (.tmp 17) (.const (.int .i64 1)), none⟩, ⟨some 1, .mov (.tmp 18), none⟩]) (.seq (.ops [⟨some 19, .mov (.tmp 0), none⟩, ⟨some 20, .mov (.tmp 5), none⟩, ⟨some 21, .mov (.tmp 1), none⟩, ⟨some 22, .bin .rem (.tmp 21) (.const (.int .i64 3)), none⟩, ⟨some 23, .bin .eql (.tmp 22) (.const (.int .i64 0)), none⟩, ⟨some 24, .iadr 2 (.tmp 19) (.tmp 20), none⟩, ⟨some 25, .fadr 1 (.tmp 24), none⟩, ⟨none, .store 1 (.tmp 25) (.tmp 23), none⟩]) (.ops [⟨some 26, .mov (.tmp 1), none⟩, ⟨some 27, .bin .add (.tmp 26) (.const (.int .i64 1)), none⟩, ⟨some 1, .mov (.tmp 27), none⟩]))))) (.ops [⟨some 10, .mov (.tmp 5), none⟩, ⟨some 11, .bin .add (.tmp 10) (.const (.int .i64 1)), none⟩, ⟨some 5, .mov (.tmp 11), none⟩])))))) (.seq (.ops [⟨some 28, .mov (.tmp 1), none⟩, ⟨some 4, .mov (.tmp 28), none⟩]) .ret)))
@[reducible] def rv87 : List RV := [.tmp 4]
theorem low87 : lowC Try.prog tau Try.f87.ntmps (Try.f87.body.getD .skip) = some (erase ic87) := by kernel_rfl
theorem res87 : lowR Try.prog Try.f87.results.toList = some rv87 := by kernel_rfl
theorem bod87 : Try.f87.body = some (Try.f87.body.getD .skip) := by kernel_rfl
theorem cal87 : callable Try.prog 87 = true := by kernel_rfl

end Go.Proofs.YtnbfnpnephfjaaaE

/-! The code of a function, in the engine's words. -/
namespace Go.Proofs.YtnbfnpnephfjaaaE
open Go Go.RowKit
@[reducible] def ic67 : IC := (.seq (.ops [⟨some 4, .mov (.const (.int .i64 0)), none⟩]) (.seq (.seq (.ops [⟨some 5, .mov (.const (.int .i64 0)), none⟩]) (.block 0 (.loop (.seq (.seq (.ops [⟨some 6, .mov (.tmp 5), none⟩, ⟨some 7, .mov (.tmp 0), none⟩, ⟨some 8, .len (.tmp 7), none⟩, ⟨some 9, .bin .lss (.tmp 6) (.tmp 8), none⟩]) (.cond (.tmp 9) .skip (.exit 0))) (.seq (.block 1 (.seq (.ops [⟨some 12, .mov (.tmp 0), none⟩, ⟨some 13, .mov (.tmp 5), none⟩, ⟨some 14, .mov (.tmp 1), none⟩, ⟨some 15, .bin .rem (.tmp 14) (.const (.int .i64 3)), none⟩, ⟨some 16, .bin .eql (.tmp 15) (.const (.int .i64 0)), none⟩, ⟨some 17, .iadr 2 (.tmp 12) (.tmp 13), none⟩, ⟨some 18, .fadr 0 (.tmp 17), none⟩, ⟨none, .store 1 (.tmp 18) (.tmp 16), none⟩]) (.seq (.ops [⟨some 19, .mov (.tmp 1), none⟩, ⟨some 20, .bin .add (.tmp 19) (.const (.int .i64 1)), none⟩, ⟨some 1, .mov (.tmp 20), none⟩]) (.ops [⟨some 21, .mov (.tmp 0), none⟩, ⟨some 22, .mov (.tmp 5), none⟩, ⟨some 23, .iadr 2 (.tmp 21) (.tmp 22), none⟩, ⟨some 24, .fadr 1 (.tmp 23), none⟩, ⟨some 25, .load 1 false (.tmp 24), none⟩, ⟨some 26, .mov (.tmp 1), none⟩, ⟨some 27, .call 87 [(.tmp 25), (.tmp 26)], none⟩, ⟨some 1, .mov (.tmp 27), none⟩])))) (.ops [⟨some 10, .mov (.tmp 5), none⟩, ⟨some 11, .bin .add (.tmp 10) (.const (.int .i64 1)), none⟩, ⟨some 5, .mov (.tmp 11), none⟩])))))) (.seq (.ops [⟨some 28, .mov (.tmp 1), none⟩, ⟨some 4, .mov (.tmp 28), none⟩]) .ret)))
@[reducible] def rv67 : List RV := [.tmp 4]
theorem low67 : lowC Try.prog tau Try.f67.ntmps (Try.f67.body.getD .skip) = some (erase ic67) := by kernel_rfl
theorem res67 : lowR Try.prog Try.f67.results.toList = some rv67 := by kernel_rfl
theorem bod67 : Try.f67.body = some (Try.f67.body.getD .skip) := by kernel_rfl
theorem cal67 : callable Try.prog 67 = true := by kernel_rfl

end Go.Proofs.YtnbfnpnephfjaaaE

/-! The code of a function, in the engine's words. -/
namespace Go.Proofs.YtnbfnpnephfjaaaE
open Go Go.RowKit
@[reducible] def ic26 : IC := (.seq (.ops [⟨some 2, .box (.tmp 0), none⟩, ⟨some 4, .mov (.const (.int .i64 0)), none⟩]) (.seq (.ops [⟨some 5, .fadr 1 (.tmp 2), none⟩, ⟨some 6, .load 1 false (.tmp 5), none⟩, ⟨some 7, .mov (.tmp 1), none⟩, ⟨some 8, .call 67 [(.tmp 6), (.tmp 7)], none⟩, ⟨some 1, .mov (.tmp 8), none⟩]) (.seq (.ops [⟨some 9, .mov (.tmp 1), none⟩, ⟨some 4, .mov (.tmp 9), none⟩]) .ret)))
@[reducible] def rv26 : List RV := [.tmp 4]
theorem low26 : lowC Try.prog tau Try.f26.ntmps (Try.f26.body.getD .skip) = some (erase ic26) := by kernel_rfl
theorem res26 : lowR Try.prog Try.f26.results.toList = some rv26 := by kernel_rfl
theorem bod26 : Try.f26.body = some (Try.f26.body.getD .skip) := by kernel_rfl
theorem cal26 : callable Try.prog 26 = true := by kernel_rfl

end Go.Proofs.YtnbfnpnephfjaaaE

/-! Marks in a panel. -/
namespace Go.Proofs.YtnbfnpnephfjaaaE
open Go Go.RowKit
set_option linter.unusedSimpArgs false
set_option linter.unusedVariables false
set_option maxRecDepth 20000
set_option maxHeartbeats 4000000
def legMarks (k : Int) (n : Nat) : List Lg := (List.range n).map fun (i : Nat) => ⟨k + 2 * (i : Int), decide ((k + 2 * (i : Int) + 1).tmod 3 = 0)⟩
theorem legMarks_len (k : Int) (n : Nat) : (legMarks k n).length = n := by simp [legMarks]
theorem legMarks_get (k : Int) {n j : Nat} (h : j < n) : (legMarks k n).getD j (⟨0, false⟩ : Lg) = ⟨k + 2 * (j : Int), decide ((k + 2 * (j : Int) + 1).tmod 3 = 0)⟩ := by simp [legMarks, List.getD, h]
def takeF1 : List AVal → List Nat
  | .fs m _ _ _ _ _ _ :: _ => [m]
  | _ => []
theorem takeF1_fs {m z b o lo n c : Nat} {r : List AVal} : takeF1 (.fs m z b o lo n c :: r) = [m] := id rfl
theorem takeF1_v {v : Value} {r : List AVal} : takeF1 (.v v :: r) = [] := id rfl
/-- Marks on a call's legs: what is written where they lie. -/
def spMarkLegS : Spec := ⟨fun _ => takeF1, fun args objs K => match args, objs with
  | [.v (.slice none 0 0), .v (.int .i64 k)], [] => K (.v (.int .i64 k)) [] 0
  | [.fs 0 2 b o 0 n c, .v (.int .i64 k)], [.nrow .call xs es []] => someK (es b) fun q => (q.1 = o ∧ q.2.1 = c ∧ n ≤ q.2.2.length ∧ 0 ≤ k ∧ k + 2 * n ≤ 1099511627776) ∧
      K (.v (.int .i64 (k + 2 * n))) [(0, .nrow .call xs (fput es b (o, c, legMarks k n ++ q.2.2.drop n)) [])] 1
  | _, _ => False, false⟩
theorem gMarkLegS0 {k : Int} {K : AVal → Hp → Nat → Prop} : Spec.f spMarkLegS [.v (.slice none 0 0), .v (.int .i64 k)] [] K = K (.v (.int .i64 k)) [] 0 := id rfl
theorem gMarkLegS1 {k : Int} {b o n c : Nat} {xs : List (NR .call)} {es : Fam .call} {K : AVal → Hp → Nat → Prop} : Spec.f spMarkLegS [.fs 0 2 b o 0 n c, .v (.int .i64 k)] [.nrow .call xs es (no_index [])] K = someK (es b) fun q => (q.1 = o ∧ q.2.1 = c ∧ n ≤ q.2.2.length ∧ 0 ≤ k ∧ k + 2 * n ≤ 1099511627776) ∧
      K (.v (.int .i64 (k + 2 * n))) [(0, .nrow .call xs (fput es b (o, c, legMarks k n ++ q.2.2.drop n)) [])] 1 := id rfl
theorem gMarkLegSt {L : Hp} {a : List AVal} : Spec.take spMarkLegS L a = takeF1 a := id rfl
theorem gMarkLegSk : Spec.keep spMarkLegS = false := id rfl
theorem valid87 : Valid Try.prog 87 spMarkLegS := by
  refine validI (Γ := lk []) Try.func87 bod87 low87 res87 (good_of trivial) ?_
  intro E args objs K h hE hG hP
  simp only [spMarkLegS] at h
  split at h
  · refine ⟨by simp [Try.ntmps87], ?_⟩
    rename_i k
    simp (config := { maxSteps := 2000000 }) only [go_sem, hG, hP, Nat.reduceEqDiff, ↓reduceIte, reduceCtorEq, Nat.reduceAdd, Nat.reduceSub, Nat.reduceMul, Nat.reduceLT, Nat.reduceLeDiff, Int.reduceAdd, Int.reduceSub, Int.reduceMul, Int.reduceLT, Int.reduceLE, Int.reduceEq, Int.reduceNeg, Int.reduceNe, Int.reduceGE, Int.reduceGT, Nat.reduceBEq, Int.reduceToNat]
    refine loopI hE (fun j : Nat => ⟨[(0, .v (.slice none 0 0)), (1, .v (.int .i64 k)), (5, .v (.int .i64 0))], [], 0, Try.f87.ntmps⟩) (fun j => j = 0) (fun j => 0) ⟨0, rfl, SubS.weak ?_⟩ ?_
    · simp (config := { maxSteps := 2000000 }) only [go_sem, hG, hP, Nat.reduceEqDiff, ↓reduceIte, reduceCtorEq, Nat.reduceAdd, Nat.reduceSub, Nat.reduceMul, Nat.reduceLT, Nat.reduceLeDiff, Int.reduceAdd, Int.reduceSub, Int.reduceMul, Int.reduceLT, Int.reduceLE, Int.reduceEq, Int.reduceNeg, Int.reduceNe, Int.reduceGE, Int.reduceGT, Nat.reduceBEq, Int.reduceToNat]
      repeat' (first | with_reducible rfl | (refine And.intro ?_ ?_) | (refine congrArg (Value.int _) ?_; omega) | omega)
    · rintro j rfl
      simp (config := { maxSteps := 2000000 }) only [go_sem, hG, hP, Nat.reduceEqDiff, ↓reduceIte, reduceCtorEq, Nat.reduceAdd, Nat.reduceSub, Nat.reduceMul, Nat.reduceLT, Nat.reduceLeDiff, Int.reduceAdd, Int.reduceSub, Int.reduceMul, Int.reduceLT, Int.reduceLE, Int.reduceEq, Int.reduceNeg, Int.reduceNe, Int.reduceGE, Int.reduceGT, Nat.reduceBEq, Int.reduceToNat]
      exact ⟨_, _, _, by simp (config := { maxSteps := 2000000 }) only [go_sem, hG, hP, Nat.reduceEqDiff, ↓reduceIte, reduceCtorEq, Nat.reduceAdd, Nat.reduceSub, Nat.reduceMul, Nat.reduceLT, Nat.reduceLeDiff, Int.reduceAdd, Int.reduceSub, Int.reduceMul, Int.reduceLT, Int.reduceLE, Int.reduceEq, Int.reduceNeg, Int.reduceNe, Int.reduceGE, Int.reduceGT, Nat.reduceBEq, Int.reduceToNat], h⟩
  · refine ⟨by simp [Try.ntmps87], ?_⟩
    rename_i b o n c k xs es
    rcases hb : es b with _ | ⟨o', c', zs⟩
    · rw [hb] at h; exact h.elim
    · rw [hb] at h
      obtain ⟨⟨rfl, rfl, hn, hk0, hk1⟩, h⟩ := h
      dsimp only at hn hk0 hk1 h ⊢
      simp (config := { maxSteps := 2000000 }) only [go_sem, hG, hP, Nat.reduceEqDiff, ↓reduceIte, reduceCtorEq, Nat.reduceAdd, Nat.reduceSub, Nat.reduceMul, Nat.reduceLT, Nat.reduceLeDiff, Int.reduceAdd, Int.reduceSub, Int.reduceMul, Int.reduceLT, Int.reduceLE, Int.reduceEq, Int.reduceNeg, Int.reduceNe, Int.reduceGE, Int.reduceGT, Nat.reduceBEq, Int.reduceToNat]
      refine loopI hE (fun p : Nat × List Lg × Fam .call => ⟨[(0, .fs 0 2 b o' 0 n c'), (1, .v (.int .i64 (k + 2 * (p.1 : Int)))), (5, .v (.int .i64 p.1))], [(0, .nrow .call xs p.2.2 [])], 1, Try.f87.ntmps⟩) (fun p => p.1 ≤ n ∧ p.2.1.length = zs.length ∧ p.2.1 = (legMarks k n).take p.1 ++ zs.drop p.1 ∧ p.2.2 = fput es b (o', c', p.2.1)) (fun p => n - p.1) ⟨(0, zs, es), ⟨Nat.zero_le _, rfl, by simp, by funext b'; by_cases e : b' = b <;> simp [fput, e, hb]⟩, SubS.weak ?_⟩ ?_
      · simp (config := { maxSteps := 2000000 }) only [go_sem, hG, hP, Nat.reduceEqDiff, ↓reduceIte, reduceCtorEq, Nat.reduceAdd, Nat.reduceSub, Nat.reduceMul, Nat.reduceLT, Nat.reduceLeDiff, Int.reduceAdd, Int.reduceSub, Int.reduceMul, Int.reduceLT, Int.reduceLE, Int.reduceEq, Int.reduceNeg, Int.reduceNe, Int.reduceGE, Int.reduceGT, Nat.reduceBEq, Int.reduceToNat]
        repeat' (first | with_reducible rfl | (refine And.intro ?_ ?_) | (refine congrArg (Value.int _) ?_; omega) | omega)
      · rintro ⟨j, ys, es'⟩ ⟨hj, hl, hpre, hes⟩
        dsimp only at hj hl hpre hes ⊢
        have hb' : es' b = some (o', c', ys) := by rw [hes]; simp [fput]
        simp (config := { maxSteps := 2000000 }) only [go_sem, hG, hP, Nat.reduceEqDiff, ↓reduceIte, reduceCtorEq, Nat.reduceAdd, Nat.reduceSub, Nat.reduceMul, Nat.reduceLT, Nat.reduceLeDiff, Int.reduceAdd, Int.reduceSub, Int.reduceMul, Int.reduceLT, Int.reduceLE, Int.reduceEq, Int.reduceNeg, Int.reduceNe, Int.reduceGE, Int.reduceGT, Nat.reduceBEq, Int.reduceToNat,  hb']
        (try simp (disch := omega) only [wrap_id])
        refine ⟨fun hlt => ?_, fun hge => ⟨_, _, _, ?_, h⟩⟩
        · refine ⟨by omega, by omega, by omega, by simp; omega, ?_⟩
          have e2 : ((ys.set j (⟨k + 2 * (j : Int), (ys.getD j (⟨0, false⟩ : Lg)).held⟩ : Lg)).set j (⟨((ys.set j (⟨k + 2 * (j : Int), (ys.getD j (⟨0, false⟩ : Lg)).held⟩ : Lg)).getD j (⟨0, false⟩ : Lg)).line, decide ((k + 2 * (j : Int) + 1).tmod 3 = 0)⟩ : Lg)) = ys.set j ⟨k + 2 * (j : Int), decide ((k + 2 * (j : Int) + 1).tmod 3 = 0)⟩ := by
            rw [getD_set_self _ _ _ _ (by omega), List.set_set]
          refine ⟨(j + 1, ((ys.set j (⟨k + 2 * (j : Int), (ys.getD j (⟨0, false⟩ : Lg)).held⟩ : Lg)).set j (⟨((ys.set j (⟨k + 2 * (j : Int), (ys.getD j (⟨0, false⟩ : Lg)).held⟩ : Lg)).getD j (⟨0, false⟩ : Lg)).line, decide ((k + 2 * (j : Int) + 1).tmod 3 = 0)⟩ : Lg)), fput (fput es' b (o', c', (ys.set j (⟨k + 2 * (j : Int), (ys.getD j (⟨0, false⟩ : Lg)).held⟩ : Lg)))) b (o', c', ((ys.set j (⟨k + 2 * (j : Int), (ys.getD j (⟨0, false⟩ : Lg)).held⟩ : Lg)).set j (⟨((ys.set j (⟨k + 2 * (j : Int), (ys.getD j (⟨0, false⟩ : Lg)).held⟩ : Lg)).getD j (⟨0, false⟩ : Lg)).line, decide ((k + 2 * (j : Int) + 1).tmod 3 = 0)⟩ : Lg)))), ⟨⟨by dsimp only; omega, by simp [hl], ?_, ?_⟩, by dsimp only; omega⟩, SubS.weak ?_⟩
          · dsimp only
            rw [e2, hpre]
            have h1 : j < (legMarks k n).length := by rw [legMarks_len]; omega
            rw [List.set_append_right _ _ (by simp; omega), List.take_succ_eq_append_getElem h1, List.append_assoc]
            congr 1
            have h2 : j < zs.length := by omega
            rw [show j - (List.take j (legMarks k n)).length = 0 by simp; omega, List.drop_eq_getElem_cons h2]
            have := legMarks_get k (n := n) (j := j) (by omega)
            rw [getD_in h1] at this
            rw [this]; rfl
          · funext b'
            rw [hes]
            by_cases e : b' = b <;> simp [fput, e]
          · simp (config := { maxSteps := 2000000 }) only [go_sem, hG, hP, Nat.reduceEqDiff, ↓reduceIte, reduceCtorEq, Nat.reduceAdd, Nat.reduceSub, Nat.reduceMul, Nat.reduceLT, Nat.reduceLeDiff, Int.reduceAdd, Int.reduceSub, Int.reduceMul, Int.reduceLT, Int.reduceLE, Int.reduceEq, Int.reduceNeg, Int.reduceNe, Int.reduceGE, Int.reduceGT, Nat.reduceBEq, Int.reduceToNat]
            repeat' (first | with_reducible rfl | (refine And.intro ?_ ?_) | (refine congrArg (Value.int _) ?_; omega) | omega)
        · simp (config := { maxSteps := 2000000 }) only [go_sem, hG, hP, Nat.reduceEqDiff, ↓reduceIte, reduceCtorEq, Nat.reduceAdd, Nat.reduceSub, Nat.reduceMul, Nat.reduceLT, Nat.reduceLeDiff, Int.reduceAdd, Int.reduceSub, Int.reduceMul, Int.reduceLT, Int.reduceLE, Int.reduceEq, Int.reduceNeg, Int.reduceNe, Int.reduceGE, Int.reduceGT, Nat.reduceBEq, Int.reduceToNat]
          have hj' : j = n := by omega
          subst hj'
          rw [hes, hpre, List.take_of_length_le (by rw [legMarks_len]; omega)]
          repeat' (first | with_reducible rfl | (refine And.intro ?_ ?_) | (refine congrArg (Value.int _) ?_; omega) | omega)
  · exact h.elim
/-- The marks of calls, and the number behind them. -/
def mkN : List Cal → Int → Int
  | [], k => k
  | c :: r, k => mkN r (k + 1 + 2 * (c.legs.length : Int))
def mkL : List Cal → Int → List Cal
  | [], k => []
  | c :: r, k => ⟨decide (k.tmod 3 = 0), legMarks (k + 1) c.legs.length⟩ :: mkL r (k + 1 + 2 * (c.legs.length : Int))
theorem mkN_le : ∀ (cs : List Cal) (k : Int), k ≤ mkN cs k
  | [], k => Int.le_refl _
  | c :: r, k => by have := mkN_le r (k + 1 + 2 * (c.legs.length : Int)); unfold mkN; omega
theorem mkL_len : ∀ (cs : List Cal) (k : Int), (mkL cs k).length = cs.length
  | [], k => rfl
  | c :: r, k => by simp [mkL, mkL_len r]
theorem mkN_len : ∀ (cs : List Cal) (k : Int), k + cs.length ≤ mkN cs k
  | [], k => by simp [mkN]
  | c :: r, k => by have := mkN_len r (k + 1 + 2 * (c.legs.length : Int)); unfold mkN; simp; omega
theorem drop_cons {cs : List Cal} {j : Nat} (hj : j < cs.length) : cs.drop j = cs.getD j (⟨false, []⟩ : Cal) :: cs.drop (j + 1) := by
  rw [List.drop_eq_getElem_cons hj, getD_in hj]
theorem take1_eq {m z lo len : Nat} {r : List AVal} : take1 (.sub m z lo len :: r) = [m] := id rfl
def spMarkCallS : Spec := ⟨fun _ => take1, fun args objs K => match args, objs with
  | [.sub 0 2 0 n, .v (.int .i64 k)], [.nrow .call xs es []] => ∃ cs, Nst xs es cs ∧ (n = cs.length ∧ 0 ≤ k ∧ mkN cs k ≤ 1099511627776) ∧ ∀ xs' es', Nst xs' es' (mkL cs k) → K (.v (.int .i64 (mkN cs k))) [(0, .nrow .call xs' es' [])] 1
  | _, _ => False, false⟩
theorem spMarkCallS_t {L : Hp} {a : List AVal} : Spec.take spMarkCallS L a = take1 a := id rfl
theorem spMarkCallS_k : Spec.keep spMarkCallS = false := id rfl
theorem spMarkCallS_f {n} {k} {xs} {es} {K : AVal → Hp → Nat → Prop} : Spec.f spMarkCallS ([.sub 0 2 0 n, .v (.int .i64 k)]) ([.nrow .call xs es (no_index [])]) K = (∃ cs, Nst xs es cs ∧ (n = cs.length ∧ 0 ≤ k ∧ mkN cs k ≤ 1099511627776) ∧ ∀ xs' es', Nst xs' es' (mkL cs k) → K (.v (.int .i64 (mkN cs k))) [(0, .nrow .call xs' es' [])] 1) := id rfl
theorem valid67 : Valid Try.prog 67 spMarkCallS := by
  refine validI (Γ := lk [(87, spMarkLegS)]) Try.func67 bod67 low67 res67 (good_of ⟨⟨cal87, valid87⟩, trivial⟩) ?_
  intro E args objs K h hE hG hP
  simp only [spMarkCallS] at h
  split at h
  · refine ⟨by simp [Try.ntmps67], ?_⟩
    rename_i n k xs es
    obtain ⟨cs, hn, ⟨rfl, hk0, hk1⟩, h⟩ := h
    simp (config := { maxSteps := 2000000 }) only [go_sem, hG, hP, Nat.reduceEqDiff, ↓reduceIte, reduceCtorEq, Nat.reduceAdd, Nat.reduceSub, Nat.reduceMul, Nat.reduceLT, Nat.reduceLeDiff, Int.reduceAdd, Int.reduceSub, Int.reduceMul, Int.reduceLT, Int.reduceLE, Int.reduceEq, Int.reduceNeg, Int.reduceNe, Int.reduceGE, Int.reduceGT, Nat.reduceBEq, Int.reduceToNat]
    refine loopI hE (fun p : Nat × Int × List (NR .call) × Fam .call × List Cal => ⟨[(0, .sub 0 2 0 cs.length), (1, .v (.int .i64 p.2.1)), (5, .v (.int .i64 p.1))], [(0, .nrow .call p.2.2.1 p.2.2.2.1 [])], 1, Try.f67.ntmps⟩)
      (fun p => p.1 ≤ cs.length ∧ 0 ≤ p.2.1 ∧ mkN cs k = mkN (cs.drop p.1) p.2.1 ∧ mkL cs k = p.2.2.2.2 ++ mkL (cs.drop p.1) p.2.1 ∧ p.2.2.2.2.length = p.1 ∧ Nst p.2.2.1 p.2.2.2.1 (p.2.2.2.2 ++ cs.drop p.1)) (fun p => cs.length - p.1)
      ⟨(0, k, xs, es, []), ⟨Nat.zero_le _, hk0, rfl, rfl, rfl, by simpa using hn⟩, SubS.weak ?_⟩ ?_
    · simp (config := { maxSteps := 2000000 }) only [go_sem, hG, hP, Nat.reduceEqDiff, ↓reduceIte, reduceCtorEq, Nat.reduceAdd, Nat.reduceSub, Nat.reduceMul, Nat.reduceLT, Nat.reduceLeDiff, Int.reduceAdd, Int.reduceSub, Int.reduceMul, Int.reduceLT, Int.reduceLE, Int.reduceEq, Int.reduceNeg, Int.reduceNe, Int.reduceGE, Int.reduceGT, Nat.reduceBEq, Int.reduceToNat]
      repeat' (first | with_reducible rfl | (refine And.intro ?_ ?_) | (refine congrArg (Value.int _) ?_; omega) | omega)
    · rintro ⟨j, m, ys, fs, pre⟩ ⟨hj, hm0, hN, hL, hpl, hst⟩
      dsimp only at hj hm0 hN hL hpl hst ⊢
      have hyl : ys.length = cs.length := by have := hst.len; simp at this; omega
      have hmm := mkN_le (cs.drop j) m
      have hml := mkN_len cs k
      by_cases hlt : j < cs.length
      · rw [drop_cons hlt] at hN hL hst
        have hcj : (pre ++ cs.getD j (⟨false, []⟩ : Cal) :: cs.drop (j + 1)).getD j (⟨false, []⟩ : Cal) = cs.getD j (⟨false, []⟩ : Cal) := by
          rw [List.getD, List.getElem?_append_right (by omega), hpl]; simp
        have hjl : j < (pre ++ cs.getD j (⟨false, []⟩ : Cal) :: cs.drop (j + 1)).length := by simp; omega
        have hset : ∀ x, (pre ++ cs.getD j (⟨false, []⟩ : Cal) :: cs.drop (j + 1)).set j x = (pre ++ [x]) ++ cs.drop (j + 1) := fun x => by
          rw [List.set_append_right _ _ (by omega), hpl]; simp
        simp only [mkN, mkL] at hN hL
        have hN2 := mkN_le (cs.drop (j + 1)) (m + 1 + 2 * ((cs.getD j (⟨false, []⟩ : Cal)).legs.length : Int))
        have hg : ∀ (z : NR .call), (ys.set j z).getD j (⟨⟨false, []⟩, .nil⟩ : NR .call) = z := fun z => getD_set_self _ _ _ _ (by omega)
        have hy : (j < ys.length) = True := eq_true (by omega)
        have hc : ((j : Int) < (cs.length : Int)) = True := eq_true (by omega)
        have hd : (decide ((j : Int) < (cs.length : Int))) = true := decide_eq_true (by omega)
        rcases hr : xr ys j with _ | ⟨b, o, n, c⟩
        · have hl0 := hst.nilL hr
          rw [hcj] at hl0
          have hr2 : (ys.getD j (⟨⟨false, []⟩, .nil⟩ : NR .call)).r = .nil := hr
          simp (config := { maxSteps := 2000000 }) only [go_sem, hG, hP, Nat.reduceEqDiff, ↓reduceIte, reduceCtorEq, Nat.reduceAdd, Nat.reduceSub, Nat.reduceMul, Nat.reduceLT, Nat.reduceLeDiff, Int.reduceAdd, Int.reduceSub, Int.reduceMul, Int.reduceLT, Int.reduceLE, Int.reduceEq, Int.reduceNeg, Int.reduceNe, Int.reduceGE, Int.reduceGT, Nat.reduceBEq, Int.reduceToNat,  hg, hr2, hy, hc, hd, List.length_set, gMarkLegS0, gMarkLegS1, gMarkLegSt, gMarkLegSk, takeF1_v, takeF1_fs]
          (try simp (disch := omega) only [wrap_id])
          refine ⟨by omega, by omega, ⟨(j + 1, m + 1, ys.set j ⟨⟨decide (m.tmod 3 = 0), []⟩, .nil⟩, fs, pre ++ [⟨decide (m.tmod 3 = 0), []⟩]), ⟨⟨by dsimp only; omega, by dsimp only; omega, ?_, ?_, by simp [hpl], ?_⟩, by dsimp only; omega⟩, SubS.weak ?_⟩⟩
          · rw [hN, hl0]; simp
          · rw [hL, hl0]; simp [legMarks]
          · have h2 := hst.head hjl (p := decide (m.tmod 3 = 0)) (l0 := [])
            rw [hset, hcj, hl0, hr] at h2
            exact h2
          · simp (config := { maxSteps := 2000000 }) only [go_sem, hG, hP, Nat.reduceEqDiff, ↓reduceIte, reduceCtorEq, Nat.reduceAdd, Nat.reduceSub, Nat.reduceMul, Nat.reduceLT, Nat.reduceLeDiff, Int.reduceAdd, Int.reduceSub, Int.reduceMul, Int.reduceLT, Int.reduceLE, Int.reduceEq, Int.reduceNeg, Int.reduceNe, Int.reduceGE, Int.reduceGT, Nat.reduceBEq, Int.reduceToNat]
            repeat' (first | with_reducible rfl | (refine And.intro ?_ ?_) | (refine congrArg (Value.int _) ?_; omega) | omega)
        · obtain ⟨zs, hes, hnz, hzl⟩ := hst.own hr
          rw [hcj] at hzl
          have hr2 : (ys.getD j (⟨⟨false, []⟩, .nil⟩ : NR .call)).r = .own b o n c := hr
          simp (config := { maxSteps := 2000000 }) only [go_sem, hG, hP, Nat.reduceEqDiff, ↓reduceIte, reduceCtorEq, Nat.reduceAdd, Nat.reduceSub, Nat.reduceMul, Nat.reduceLT, Nat.reduceLeDiff, Int.reduceAdd, Int.reduceSub, Int.reduceMul, Int.reduceLT, Int.reduceLE, Int.reduceEq, Int.reduceNeg, Int.reduceNe, Int.reduceGE, Int.reduceGT, Nat.reduceBEq, Int.reduceToNat,  hg, hr2, hy, hc, hd, List.length_set, hes, gMarkLegS0, gMarkLegS1, gMarkLegSt, gMarkLegSk, takeF1_v, takeF1_fs]
          (try simp (disch := omega) only [wrap_id])
          have hln : (cs.getD j (⟨false, []⟩ : Cal)).legs.length = n := by rw [← hzl]; simp; omega
          refine ⟨by omega, by omega, ⟨hnz, by omega, by omega⟩, ⟨(j + 1, m + 1 + 2 * (n : Int), ys.set j ⟨⟨decide (m.tmod 3 = 0), []⟩, .own b o n c⟩, fput fs b (o, c, legMarks (m + 1) n ++ zs.drop n), pre ++ [⟨decide (m.tmod 3 = 0), legMarks (m + 1) n⟩]), ⟨⟨by dsimp only; omega, by dsimp only; omega, ?_, ?_, by simp [hpl], ?_⟩, by dsimp only; omega⟩, SubS.weak ?_⟩⟩
          · rw [hN, hln]
          · rw [hL, hln]; simp
          · have h2 := hst.inn hjl hr (p := decide (m.tmod 3 = 0)) (l0 := []) (n' := n) (c' := c) (zs' := legMarks (m + 1) n ++ zs.drop n) (by simp [legMarks_len])
            rw [hset, List.take_left' (legMarks_len _ _)] at h2
            exact h2
          · simp (config := { maxSteps := 2000000 }) only [go_sem, hG, hP, Nat.reduceEqDiff, ↓reduceIte, reduceCtorEq, Nat.reduceAdd, Nat.reduceSub, Nat.reduceMul, Nat.reduceLT, Nat.reduceLeDiff, Int.reduceAdd, Int.reduceSub, Int.reduceMul, Int.reduceLT, Int.reduceLE, Int.reduceEq, Int.reduceNeg, Int.reduceNe, Int.reduceGE, Int.reduceGT, Nat.reduceBEq, Int.reduceToNat]
            repeat' (first | with_reducible rfl | (refine And.intro ?_ ?_) | (refine congrArg (Value.int _) ?_; omega) | omega)
      · have hj' : j = cs.length := by omega
        subst hj'
        rw [List.drop_length] at hN hL hst
        simp only [mkN, mkL, List.append_nil] at hN hL hst
        simp (config := { maxSteps := 2000000 }) only [go_sem, hG, hP, Nat.reduceEqDiff, ↓reduceIte, reduceCtorEq, Nat.reduceAdd, Nat.reduceSub, Nat.reduceMul, Nat.reduceLT, Nat.reduceLeDiff, Int.reduceAdd, Int.reduceSub, Int.reduceMul, Int.reduceLT, Int.reduceLE, Int.reduceEq, Int.reduceNeg, Int.reduceNe, Int.reduceGE, Int.reduceGT, Nat.reduceBEq, Int.reduceToNat]
        refine ⟨fun hx => absurd hx (by omega), fun _ => ⟨_, _, _, ?_, h ys fs (hL ▸ hst)⟩⟩
        simp (config := { maxSteps := 2000000 }) only [go_sem, hG, hP, Nat.reduceEqDiff, ↓reduceIte, reduceCtorEq, Nat.reduceAdd, Nat.reduceSub, Nat.reduceMul, Nat.reduceLT, Nat.reduceLeDiff, Int.reduceAdd, Int.reduceSub, Int.reduceMul, Int.reduceLT, Int.reduceLE, Int.reduceEq, Int.reduceNeg, Int.reduceNe, Int.reduceGE, Int.reduceGT, Nat.reduceBEq, Int.reduceToNat]
        rw [hN]
        repeat' (first | with_reducible rfl | (refine And.intro ?_ ?_) | (refine congrArg (Value.int _) ?_; omega) | omega)
        all_goals rfl
  · exact h.elim
def takeP1 : List AVal → List Nat
  | .agg [_, .sub m _ _ _] :: _ => [m]
  | _ => []
theorem takeP1_eq {a : AVal} {m z lo len : Nat} {r : List AVal} : takeP1 (.agg [a, .sub m z lo len] :: r) = [m] := id rfl
def spMarkPanel : Spec := ⟨fun _ => takeP1, fun args objs K => match args, objs with
  | [.agg [.v (.int .i64 l), .sub 0 2 0 n], .v (.int .i64 k)], [.nrow .call xs es []] => ∃ cs, Nst xs es cs ∧ (n = cs.length ∧ 0 ≤ k ∧ mkN cs k ≤ 1099511627776) ∧ ∀ xs' es', Nst xs' es' (mkL cs k) → K (.v (.int .i64 (mkN cs k))) [(0, .nrow .call xs' es' [])] 1
  | _, _ => False, false⟩
theorem spMarkPanel_t {L : Hp} {a : List AVal} : Spec.take spMarkPanel L a = takeP1 a := id rfl
theorem spMarkPanel_k : Spec.keep spMarkPanel = false := id rfl
theorem spMarkPanel_f {l} {n} {k} {xs} {es} {K : AVal → Hp → Nat → Prop} : Spec.f spMarkPanel ([.agg [.v (.int .i64 l), .sub 0 2 0 n], .v (.int .i64 k)]) ([.nrow .call xs es (no_index [])]) K = (∃ cs, Nst xs es cs ∧ (n = cs.length ∧ 0 ≤ k ∧ mkN cs k ≤ 1099511627776) ∧ ∀ xs' es', Nst xs' es' (mkL cs k) → K (.v (.int .i64 (mkN cs k))) [(0, .nrow .call xs' es' [])] 1) := id rfl
theorem valid26 : Valid Try.prog 26 spMarkPanel := by
  refine validI (Γ := lk [(67, spMarkCallS)]) Try.func26 bod26 low26 res26 (good_of ⟨⟨cal67, valid67⟩, trivial⟩) ?_
  intro E args objs K h hE hG hP
  simp only [spMarkPanel] at h
  split at h
  · refine ⟨by simp [Try.ntmps26], ?_⟩
    rename_i l n k xs es
    obtain ⟨cs, hn, ⟨rfl, hk0, hk1⟩, h⟩ := h
    simp (config := { maxSteps := 2000000 }) only [go_sem, hG, hP, Nat.reduceEqDiff, ↓reduceIte, reduceCtorEq, Nat.reduceAdd, Nat.reduceSub, Nat.reduceMul, Nat.reduceLT, Nat.reduceLeDiff, Int.reduceAdd, Int.reduceSub, Int.reduceMul, Int.reduceLT, Int.reduceLE, Int.reduceEq, Int.reduceNeg, Int.reduceNe, Int.reduceGE, Int.reduceGT, Nat.reduceBEq, Int.reduceToNat,  spMarkCallS_f, spMarkCallS_t, spMarkCallS_k, take1_eq]
    refine ⟨cs, hn, ⟨rfl, hk0, hk1⟩, fun xs' es' hn' => ⟨_, _, _, ?_, h xs' es' hn'⟩⟩
    simp (config := { maxSteps := 2000000 }) only [go_sem, hG, hP, Nat.reduceEqDiff, ↓reduceIte, reduceCtorEq, Nat.reduceAdd, Nat.reduceSub, Nat.reduceMul, Nat.reduceLT, Nat.reduceLeDiff, Int.reduceAdd, Int.reduceSub, Int.reduceMul, Int.reduceLT, Int.reduceLE, Int.reduceEq, Int.reduceNeg, Int.reduceNe, Int.reduceGE, Int.reduceGT, Nat.reduceBEq, Int.reduceToNat]
  · exact h.elim

end Go.Proofs.YtnbfnpnephfjaaaE

/-! The code of a function, in the engine's words. -/
namespace Go.Proofs.YtnbfnpnephfjaaaE
open Go Go.RowKit
@[reducible] def ic114 : IC := (.seq (.ops [⟨some 2, .mov (.const (.bool false)), none⟩]) (.seq (.ops [⟨some 3, .mov (.tmp 0), none⟩, ⟨some 4, .mov (.tmp 0), none⟩, ⟨some 5, .bin .neq (.tmp 3) (.tmp 4), none⟩, ⟨some 2, .mov (.tmp 5), none⟩]) .ret))
@[reducible] def rv114 : List RV := [.tmp 2]
theorem low114 : lowC Try.prog tau Try.f114.ntmps (Try.f114.body.getD .skip) = some (erase ic114) := by kernel_rfl
theorem res114 : lowR Try.prog Try.f114.results.toList = some rv114 := by kernel_rfl
theorem bod114 : Try.f114.body = some (Try.f114.body.getD .skip) := by kernel_rfl
theorem cal114 : callable Try.prog 114 = true := by kernel_rfl

end Go.Proofs.YtnbfnpnephfjaaaE

/-! The code of a function, in the engine's words. -/
namespace Go.Proofs.YtnbfnpnephfjaaaE
open Go Go.RowKit
@[reducible] def ic102 : IC := (.seq (.ops [⟨some 4, .mov (.const (.bool false)), none⟩]) (.seq (.ops [⟨some 5, .mov (.tmp 0), none⟩, ⟨some 6, .call 114 [(.tmp 5)], none⟩, ⟨some 7, .mov (.tmp 6), none⟩, ⟨some 8, .mov (.tmp 1), some (7, true)⟩, ⟨some 9, .call 114 [(.tmp 8)], some (7, true)⟩, ⟨some 10, .una .not (.tmp 9), some (7, true)⟩, ⟨some 11, .pick (.tmp 7) (.tmp 10) (.const (.bool false)), none⟩, ⟨some 12, .mov (.tmp 11), none⟩, ⟨some 13, .mov (.tmp 0), some (12, false)⟩, ⟨some 14, .mov (.tmp 1), some (12, false)⟩, ⟨some 15, .bin .lss (.tmp 13) (.tmp 14), some (12, false)⟩, ⟨some 16, .pick (.tmp 12) (.const (.bool true)) (.tmp 15), none⟩, ⟨some 4, .mov (.tmp 16), none⟩]) .ret))
@[reducible] def rv102 : List RV := [.tmp 4]
theorem low102 : lowC Try.prog tau Try.f102.ntmps (Try.f102.body.getD .skip) = some (erase ic102) := by kernel_rfl
theorem res102 : lowR Try.prog Try.f102.results.toList = some rv102 := by kernel_rfl
theorem bod102 : Try.f102.body = some (Try.f102.body.getD .skip) := by kernel_rfl
theorem cal102 : callable Try.prog 102 = true := by kernel_rfl

end Go.Proofs.YtnbfnpnephfjaaaE

/-! The code of a function, in the engine's words. -/
namespace Go.Proofs.YtnbfnpnephfjaaaE
open Go Go.RowKit
@[reducible] def ic106 : IC := (.seq (.ops [⟨some 2, .mov (.const (.int .i64 0)), none⟩]) (.seq (.seq (.ops [⟨some 3, .mov (.tmp 0), none⟩, ⟨some 4, .bin .geq (.tmp 3) (.const (.int .u64 4294967296)), none⟩]) (.cond (.tmp 4) (.seq (.ops [⟨some 5, .mov (.tmp 0), none⟩, ⟨some 6, .bin .shr (.tmp 5) (.const (.int .u64 32)), none⟩, ⟨some 0, .mov (.tmp 6), none⟩]) (.ops [⟨some 2, .mov (.const (.int .i64 32)), none⟩])) .skip)) (.seq (.seq (.ops [⟨some 7, .mov (.tmp 0), none⟩, ⟨some 8, .bin .geq (.tmp 7) (.const (.int .u64 65536)), none⟩]) (.cond (.tmp 8) (.seq (.ops [⟨some 9, .mov (.tmp 0), none⟩, ⟨some 10, .bin .shr (.tmp 9) (.const (.int .u64 16)), none⟩, ⟨some 0, .mov (.tmp 10), none⟩]) (.ops [⟨some 11, .mov (.tmp 2), none⟩, ⟨some 12, .bin .add (.tmp 11) (.const (.int .i64 16)), none⟩, ⟨some 2, .mov (.tmp 12), none⟩])) .skip)) (.seq (.seq (.ops [⟨some 13, .mov (.tmp 0), none⟩, ⟨some 14, .bin .geq (.tmp 13) (.const (.int .u64 256)), none⟩]) (.cond (.tmp 14) (.seq (.ops [⟨some 15, .mov (.tmp 0), none⟩, ⟨some 16, .bin .shr (.tmp 15) (.const (.int .u64 8)), none⟩, ⟨some 0, .mov (.tmp 16), none⟩]) (.ops [⟨some 17, .mov (.tmp 2), none⟩, ⟨some 18, .bin .add (.tmp 17) (.const (.int .i64 8)), none⟩, ⟨some 2, .mov (.tmp 18), none⟩])) .skip)) (.seq (.ops [⟨some 19, .mov (.tmp 2), none⟩, ⟨some 20, .mov (.tmp 0), none⟩, ⟨some 21, .cvi .u8 (.tmp 20), none⟩, ⟨some 22, .sidx (.const (.string ⟨#[0, 1, 2, 2, 3, 3, 3, 3, 4, 4, 4, 4, 4, 4, 4, 4, 5, 5, 5, 5, 5, 5, 5, 5, 5, 5, 5, 5, 5, 5, 5, 5, 6, 6, 6, 6, 6, 6, 6, 6, 6, 6, 6, 6, 6, 6, 6, 6, 6, 6, 6, 6, 6, 6, 6, 6, 6, 6, 6, 6, 6, 6, 6, 6, 7, 7, 7, 7, 7, 7, 7, 7, 7, 7, 7, 7, 7, 7, 7, 7, 7, 7, 7, 7, 7, 7, 7, 7, 7, 7, 7, 7, 7, 7, 7, 7, 7, 7, 7, 7, 7, 7, 7, 7, 7, 7, 7, 7, 7, 7, 7, 7, 7, 7, 7, 7, 7, 7, 7, 7, 7, 7, 7, 7, 7, 7, 7, 7, 8, 8, 8, 8, 8, 8, 8, 8, 8, 8, 8, 8, 8, 8, 8, 8, 8, 8, 8, 8, 8, 8, 8, 8, 8, 8, 8, 8, 8, 8, 8, 8, 8, 8, 8, 8, 8, 8, 8, 8, 8, 8, 8, 8, 8, 8, 8, 8, 8, 8, 8, 8, 8, 8, 8, 8, 8, 8, 8, 8, 8, 8, 8, 8, 8, 8, 8, 8, 8, 8, 8, 8, 8, 8, 8, 8, 8, 8, 8, 8, 8, 8, 8, 8, 8, 8, 8, 8, 8, 8, 8, 8, 8, 8, 8, 8, 8, 8, 8, 8, 8, 8, 8, 8, 8, 8, 8, 8, 8, 8, 8, 8, 8, 8, 8, 8, 8, 8, 8, 8, 8, 8, 8, 8, 8, 8, 8, 8]⟩)) (.tmp 21), none⟩, ⟨some 23, .cvi .i64 (.tmp 22), none⟩, ⟨some 24, .bin .add (.tmp 19) (.tmp 23), none⟩, ⟨some 2, .mov (.tmp 24), none⟩]) .ret)))))
@[reducible] def rv106 : List RV := [.tmp 2]
theorem low106 : lowC Try.prog tau Try.f106.ntmps (Try.f106.body.getD .skip) = some (erase ic106) := by kernel_rfl
theorem res106 : lowR Try.prog Try.f106.results.toList = some rv106 := by kernel_rfl
theorem bod106 : Try.f106.body = some (Try.f106.body.getD .skip) := by kernel_rfl
theorem cal106 : callable Try.prog 106 = true := by kernel_rfl

end Go.Proofs.YtnbfnpnephfjaaaE

/-! The code of a function, in the engine's words. -/
namespace Go.Proofs.YtnbfnpnephfjaaaE
open Go Go.RowKit
@[reducible] def ic92 : IC := (.seq (.ops [⟨some 2, .mov (.const (.int .i64 0)), none⟩]) (.seq (.cond (.const (.bool false)) (.seq (.ops [⟨some 3, .mov (.tmp 0), none⟩, ⟨some 4, .cvi .u32 (.tmp 3), none⟩, ⟨some 5, .call 105 [(.tmp 4)], none⟩, ⟨some 2, .mov (.tmp 5), none⟩]) .ret) .skip) (.seq (.ops [⟨some 6, .mov (.tmp 0), none⟩, ⟨some 7, .call 106 [(.tmp 6)], none⟩, ⟨some 2, .mov (.tmp 7), none⟩]) .ret)))
@[reducible] def rv92 : List RV := [.tmp 2]
theorem low92 : lowC Try.prog tau Try.f92.ntmps (Try.f92.body.getD .skip) = some (erase ic92) := by kernel_rfl
theorem res92 : lowR Try.prog Try.f92.results.toList = some rv92 := by kernel_rfl
theorem bod92 : Try.f92.body = some (Try.f92.body.getD .skip) := by kernel_rfl
theorem cal92 : callable Try.prog 92 = true := by kernel_rfl

end Go.Proofs.YtnbfnpnephfjaaaE
