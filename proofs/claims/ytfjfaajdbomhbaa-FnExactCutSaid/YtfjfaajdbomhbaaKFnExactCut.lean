/- A part of a proof that a law of the given program holds for every input: no condition. -/
import Derived.Test.YtfjfaajdbomhbaaProg
import Derived.KernelRfl
import Derived.Deep.Slices
import Derived.OpenShut
import Derived.SizedLaws
import Derived.WideLaws
import Derived.Test.YtfjfaajdbomhbaaRows
import Derived.ProofKit
import Derived.ShutString
import Derived.ChangeOld
import Derived.Below
import Derived.Test.YtfjfaajdbomhbaaKFnExactCut0

/-! The walk's rewriting rules. -/
namespace Go.Proofs.YtfjfaajdbomhbaaE
open Go Go.RowKit
/-! What is to be shown of code, under names that the kernel does not look into. -/
inductive VopsI (Γ : Nat → Option Spec) (l : List LO) (s : S) (K : S → Prop) : Prop
  | mk (h : vops Γ l s K)
inductive VdtI (Γ : Nat → Option Spec) (t : DT) (s : S) (K : S → Prop) : Prop
  | mk (h : vdt Γ t s K)
inductive VcI (E : Env) (c : IC) (s : S) (Q : Ex → S → Prop) : Prop
  | mk (h : vc E c s Q)
inductive LoopI (E : Env) (c : IC) (l : List Unit) (s : S) (Q : Ex → S → Prop) : Prop
  | mk (h : loopL E c l s Q)
theorem vopsI : @VopsI = @vops := by funext Γ l s K; exact propext ⟨fun h => h.1, .mk⟩
theorem vdtI : @VdtI = @vdt := by funext Γ l s K; exact propext ⟨fun h => h.1, .mk⟩
theorem vcI : @VcI = @vc := by funext Γ l s K; exact propext ⟨fun h => h.1, .mk⟩
theorem loopLI : @LoopI = @loopL := by funext E c l s K; exact propext ⟨fun h => h.1, .mk⟩
theorem vops_nil {Γ : Nat → Option Spec} {s : S} {K : S → Prop} : VopsI Γ [] s K = K s := by rw [vopsI]; rfl
theorem vops_cons {Γ : Nat → Option Spec} {o : LO} {r : List LO} {s : S} {K : S → Prop} : VopsI Γ (o :: r) s K = gdK s o.g (fun s => stepM false Γ s o.io fun av s' => VopsI Γ r (s'.put o.d av) K) (fun s => VopsI Γ r (s.put o.d .junk) K) := by rw [vopsI]; rfl
theorem vdt_done {Γ : Nat → Option Spec} {s : S} {K : S → Prop} : VdtI Γ .done s K = K s := by rw [vdtI]; rfl
theorem vdt_stop {Γ : Nat → Option Spec} {s : S} {K : S → Prop} : VdtI Γ .stop s K = True := by rw [vdtI]; rfl
theorem vdt_held {Γ : Nat → Option Spec} {o : LO} {t : DT} {s : S} {K : S → Prop} : VdtI Γ (.held o t) s K = gdK s o.g (fun s => vst s o.io fun av => VdtI Γ t (s.put o.d av) K) (fun s => VdtI Γ t (s.put o.d .junk) K) := by rw [vdtI]; rfl
theorem vdt_alt {Γ : Nat → Option Spec} {o : LO} {t r : DT} {s : S} {K : S → Prop} : VdtI Γ (.alt o t r) s K = (gdK s o.g (fun s => stepM true Γ s o.io fun av s' => VdtI Γ t (s'.put o.d av) K) (fun s => VdtI Γ t (s.put o.d .junk) K) ∧ VdtI Γ r s K) := by rw [vdtI]; rfl
theorem drawQ_t {Γ : Nat → Option Spec} {p : Nat} {l : List LO} {t : DT} {s : S} {K : S → Prop} : drawQ true Γ p l t s K = VdtI Γ t s K := by rw [vdtI]; rfl
theorem drawQ_f {Γ : Nat → Option Spec} {p : Nat} {l : List LO} {t : DT} {s : S} {K : S → Prop} : drawQ false Γ p l t s K = VopsI Γ l s fun sl => K (tidy sl) ∧ VdtI Γ t s fun s' => SubS p s' (tidy sl) := by rw [vdtI, vopsI]; rfl
section
variable {E : Env} {s : S} {Q : Ex → S → Prop}
theorem vc_ops {l : List LO} : VcI E (.ops l) s Q = VopsI E.Γ l s (Q .normal) := by rw [vcI, vopsI]; rfl
theorem vc_draw {l : List LO} {t : DT} : VcI E (.draw l t) s Q = drawQ (linD t) E.Γ E.pins l t s (Q .normal) := by rw [vcI]; rfl
theorem vc_skip : VcI E .skip s Q = Q .normal s := by rw [vcI]; rfl
theorem vc_seq {a b : IC} : VcI E (.seq a b) s Q = VcI E a s fun e s' => match e with
    | .normal => VcI E b s' Q
    | .exit i => Q (.exit i) s'
    | .ret => Q .ret s' := by rw [vcI]; rfl
theorem vc_cond {x : Operand} {a b : IC} : VcI E (.cond x a b) s Q = match s.ev x with
    | .v (.bool t) => impK (t = true) (VcI E a s Q) ∧ impK (t = false) (VcI E b s Q)
    | _ => False := by rw [vcI]; rfl
theorem vc_block {id : Nat} {c : IC} : VcI E (.block id c) s Q = VcI E c s fun e s' => match e with
    | .normal => Q .normal s'
    | .exit i => if i = id then Q .normal s' else Q (.exit i) s'
    | .ret => Q .ret s' := by rw [vcI]; rfl
theorem vc_exit {id : Nat} : VcI E (.exit id) s Q = Q (.exit id) s := by rw [vcI]; rfl
theorem vc_ret : VcI E .ret s Q = Q .ret s := by rw [vcI]; rfl
theorem vc_loop {c : IC} : VcI E (.loop c) s Q = OkI E (.loop c) s Q := by rw [vcI]; rfl
theorem vc_hold {c : IC} : VcI E (.hold c) s Q = OkI E c s Q := by rw [vcI]; rfl
theorem loopL_nil {c : IC} : LoopI E c [] s Q = False := by rw [loopLI]; rfl
theorem loopL_cons {c : IC} {u : Unit} {r : List Unit} : LoopI E c (u :: r) s Q = VcI E c s fun e s' => match e with
    | .normal => LoopI E c r s' Q
    | .exit k => Q (.exit k) s'
    | .ret => Q .ret s' := by rw [loopLI, vcI]; rfl
end
theorem validI {P : Program} {f : Nat} {fn : Func} {code : Code} {ic : IC} {rv : List RV} {τ : List (Nat × Ty)} {Γ : Nat → Option Spec} {sp : Spec} (hf : P.funcs[f]? = some fn) (hb : fn.body = some code)
    (hl : lowC P τ fn.ntmps code = some (erase ic)) (hr : lowR P fn.results.toList = some rv) (hΓ : ∀ f sp, Γ f = some sp → callable P f = true ∧ Valid P f sp)
    (h : ∀ (E : Env) (args : List AVal) (objs : List AObj) (K : AVal → Hp → Nat → Prop), sp.f args objs K → E.good → E.Γ = Γ → E.pins = objs.length →
      args.length ≤ fn.ntmps ∧ VcI E ic ⟨params 0 args, num 0 objs, objs.length, fn.ntmps⟩ (retQ objs.length rv K)) : Valid P f sp := by
  rw [vcI] at h; exact valid_of hf hb hl hr hΓ h
theorem loopI {E : Env} (hE : E.good) {ic : IC} {s : S} {Q : Ex → S → Prop} {ι : Type} (Inv : ι → S) (I : ι → Prop) (μ : ι → Nat) (h0 : ∃ i, I i ∧ Weak E s (Inv i))
    (h : ∀ i, I i → VcI E ic (Inv i) fun e s' => match e with
      | .normal => ∃ j, (I j ∧ μ j < μ i) ∧ Weak E s' (Inv j)
      | .exit k => Q (.exit k) s'
      | .ret => Q .ret s') : OkI E (.loop ic) s Q := by
  rw [vcI] at h; exact loop_ok hE Inv I μ h0 h
theorem unrollI {E : Env} (hE : E.good) {ic : IC} {s : S} {Q : Ex → S → Prop} (l : List Unit) (h : LoopI E ic l s Q) : OkI E (.loop ic) s Q := by
  rw [loopLI] at h; exact loop_unroll hE l h
attribute [go_sem] drawQ_t drawQ_f vops_nil vops_cons vdt_done vdt_stop vdt_held vdt_alt vc_ops vc_draw vc_skip vc_seq vc_cond vc_block vc_exit vc_ret vc_loop vc_hold loopL_nil loopL_cons stepM gdK vst wst someK
@[congr] theorem drawQ_cg {b b' : Bool} {Γ : Nat → Option Spec} {p : Nat} {l : List LO} {t : DT} {s s' : S} {K : S → Prop} {b0 : Prop} (h0 : (True ∧ True) = b0) (h : b = b') (h2 : s = s') : drawQ b Γ p l t s K = drawQ b' Γ p l t s' K := by rw [h, h2]
/-! What stands behind an operation is looked at only when it is come to. -/
@[congr] theorem vops_cg {Γ : Nat → Option Spec} {l : List LO} {s s' : S} {K : S → Prop} {b0 : Prop} (h0 : (True ∧ True) = b0) (h : s = s') : VopsI Γ l s K = VopsI Γ l s' K := by rw [h]
@[congr] theorem vdt_cg {Γ : Nat → Option Spec} {t : DT} {s s' : S} {K : S → Prop} {b0 : Prop} (h0 : (True ∧ True) = b0) (h : s = s') : VdtI Γ t s K = VdtI Γ t s' K := by rw [h]
@[congr] theorem vc_cg {E : Env} {c : IC} {s s' : S} {Q : Ex → S → Prop} {b0 : Prop} (h0 : (True ∧ True) = b0) (h : s = s') : VcI E c s Q = VcI E c s' Q := by rw [h]
@[congr] theorem OkI_cg {E : Env} {c : IC} {s s' : S} {Q : Ex → S → Prop} {b0 : Prop} (h0 : (True ∧ True) = b0) (h : s = s') : OkI E c s Q = OkI E c s' Q := by rw [h]
@[congr] theorem loopL_cg {E : Env} {c : IC} {l : List Unit} {s s' : S} {Q : Ex → S → Prop} {b0 : Prop} (h0 : (True ∧ True) = b0) (h : s = s') : LoopI E c l s Q = LoopI E c l s' Q := by rw [h]
@[congr] theorem gdK_cg {s s' : S} {g : Option (Nat × Bool)} {K1 K2 : S → Prop} {b0 : Prop} (h0 : (True ∧ True) = b0) (h : s = s') : gdK s g K1 K2 = gdK s' g K1 K2 := by rw [h]
@[congr] theorem stepM_cg {m : Bool} {Γ : Nat → Option Spec} {s s' : S} {io : IOp} {K : AVal → S → Prop} {b0 : Prop} (h0 : (True ∧ True) = b0) (h : s = s') : stepM m Γ s io K = stepM m Γ s' io K := by rw [h]
@[congr] theorem vst_cg {s s' : S} {io : IOp} {K : AVal → Prop} {b0 : Prop} (h0 : (True ∧ True) = b0) (h : s = s') : vst s io K = vst s' io K := by rw [h]
@[congr] theorem wst_cg {s s' : S} {io : IOp} {K : AVal → S → Prop} {b0 : Prop} (h0 : (True ∧ True) = b0) (h : s = s') : wst s io K = wst s' io K := by rw [h]
@[congr] theorem someK_cg {α : Type} {x x' : Option α} {K : α → Prop} {b0 : Prop} (h0 : (True ∧ True) = b0) (h : x = x') : someK x K = someK x' K := by rw [h]
@[congr] theorem callK_cg {sp : Spec} {s s' : S} {l l' : List AVal} {K : AVal → S → Prop} {b0 : Prop} (h0 : (True ∧ True) = b0) (h : s = s') (h2 : l = l') : callK sp s l K = callK sp s' l' K := by rw [h, h2]
@[congr] theorem impK_cg {p p' q : Prop} {b0 : Prop} (h0 : (True ∧ True) = b0) (h : p = p') : impK p q = impK p' q := by rw [h]
theorem impK_t {q : Prop} : impK True q = q := by simp [impK]
theorem impK_f {q : Prop} : impK False q = True := by simp [impK]
theorem impK_any {p q : Prop} : impK p q = (p → q) := id rfl
attribute [go_sem] impK_t impK_f
attribute [go_sem 100] impK_any
@[congr] theorem specf_cg {sp : Spec} {l l' : List AVal} {o o' : List AObj} {K : AVal → Hp → Nat → Prop} {b0 : Prop} (h0 : (True ∧ True) = b0) (h : l = l') (h2 : o = o') : Spec.f sp l o K = Spec.f sp l' o' K := by rw [h, h2]
@[congr] theorem binV_cg {op : BinOp} {x x' y y' : Value} {K : Value → Prop} {b0 : Prop} (h0 : (True ∧ True) = b0) (h : x = x') (h2 : y = y') : binV op x y K = binV op x' y' K := by rw [h, h2]
@[congr] theorem cellsK_cg {ag : Bool} {n : Nat} {l l' : List AVal} {K : AVal → Prop} {b0 : Prop} (h0 : (True ∧ True) = b0) (h : l = l') : cellsK ag n l K = cellsK ag n l' K := by rw [h]
@[congr] theorem loadP_cg {L L' : Hp} {n : Nat} {ag : Bool} {p p' : AVal} {K : AVal → Prop} {b0 : Prop} (h0 : (True ∧ True) = b0) (h : L = L') (h2 : p = p') : loadP L n ag p K = loadP L' n ag p' K := by rw [h, h2]
@[congr] theorem fillA_cg {s s' : S} {ps : List (Nat × Nat × Operand)} {l l' : List AVal} {K : List AVal → Prop} {b0 : Prop} (h0 : (True ∧ True) = b0) (h : s = s') (h2 : l = l') : fillA s ps l K = fillA s' ps l' K := by rw [h, h2]
@[congr] theorem rowsK_cg {t : Ty} {L L' : Hp} {y y' : AVal} {K : List t.D → Prop} {b0 : Prop} (h0 : (True ∧ True) = b0) (h : L = L') (h2 : y = y') : rowsK t L y K = rowsK t L' y' K := by rw [h, h2]
@[congr] theorem appK_cg {t : Ty} {b : Nat} {s s' : S} {x x' : AVal} {ys ys' : List t.D} {K : AVal → S → Prop} {b0 : Prop} (h0 : (True ∧ True) = b0) (h : s = s') (h2 : x = x') (h3 : ys = ys') : appK t b s x ys K = appK t b s' x' ys' K := by rw [h, h2, h3]
@[congr] theorem castK_cg {t t' : Ty} {xs xs' : List t'.D} {K : List t.D → Prop} {b0 : Prop} (h0 : (True ∧ True) = b0) (h : xs = xs') : castK t t' xs K = castK t t' xs' K := by rw [h]
@[congr] theorem objsK_cg {L L' : Hp} {l l' : List Nat} {K : List AObj → Prop} {b0 : Prop} (h0 : (True ∧ True) = b0) (h : L = L') (h2 : l = l') : objsK L l K = objsK L' l' K := by rw [h, h2]
@[congr] theorem optI_cg {s s' : S} {x : Option Operand} {d d' : Int} {K : Int → Prop} {b0 : Prop} (h0 : (True ∧ True) = b0) (h : s = s') (h2 : d = d') : optI s x d K = optI s' x d' K := by rw [h, h2]
@[congr] theorem retL_cg {l : List RV} {s s' : S} {K : List AVal → Prop} {b0 : Prop} (h0 : (True ∧ True) = b0) (h : s = s') : retL l s K = retL l s' K := by rw [h]
@[congr] theorem retK_cg {l : List RV} {s s' : S} {K : AVal → Prop} {b0 : Prop} (h0 : (True ∧ True) = b0) (h : s = s') : retK l s K = retK l s' K := by rw [h]
@[congr] theorem uni1_cg {θ θ' : Th} {a a' b b' : AVal} {K : Th → Prop} {b0 : Prop} (h0 : (True ∧ True) = b0) (h : θ = θ') (h2 : a = a') (h3 : b = b') : uni1 θ a b K = uni1 θ' a' b' K := by rw [h, h2, h3]
@[congr] theorem uni_cg {θ θ' : Th} {a a' b b' : AVal} {K : Th → Prop} {b0 : Prop} (h0 : (True ∧ True) = b0) (h : θ = θ') (h2 : a = a') (h3 : b = b') : uni θ a b K = uni θ' a' b' K := by rw [h, h2, h3]
@[congr] theorem uniR_cg {θ θ' : Th} {a a' b b' : AVal} {K : Th → Prop} {b0 : Prop} (h0 : (True ∧ True) = b0) (h : θ = θ') (h2 : a = a') (h3 : b = b') : uniR θ a b K = uniR θ' a' b' K := by rw [h, h2, h3]
@[congr] theorem uniL_cg {θ θ' : Th} {a a' b b' : List AVal} {K : Th → Prop} {b0 : Prop} (h0 : (True ∧ True) = b0) (h : θ = θ') (h2 : a = a') (h3 : b = b') : uniL θ a b K = uniL θ' a' b' K := by rw [h, h2, h3]
@[congr] theorem uniT_cg {θ θ' : Th} {a a' b b' : List AVal} {K : Th → Prop} {b0 : Prop} (h0 : (True ∧ True) = b0) (h : θ = θ') (h2 : a = a') (h3 : b = b') : uniT θ a b K = uniT θ' a' b' K := by rw [h, h2, h3]
@[congr] theorem uniS_cg {θ θ' : Th} {a a' b b' : List (Nat × AVal)} {K : Th → Prop} {b0 : Prop} (h0 : (True ∧ True) = b0) (h : θ = θ') (h2 : a = a') (h3 : b = b') : uniS θ a b K = uniS θ' a' b' K := by rw [h, h2, h3]
@[congr] theorem uniO_cg {θ θ' : Th} {k z : Nat} {a a' b b' : AObj} {K : Th → Prop} {b0 : Prop} (h0 : (True ∧ True) = b0) (h : θ = θ') (h2 : a = a') (h3 : b = b') : uniO θ k z a b K = uniO θ' k z a' b' K := by rw [h, h2, h3]
@[congr] theorem uniH_cg {θ θ' : Th} {a a' b b' : Hp} {K : Th → Prop} {b0 : Prop} (h0 : (True ∧ True) = b0) (h : θ = θ') (h2 : a = a') (h3 : b = b') : uniH θ a b K = uniH θ' a' b' K := by rw [h, h2, h3]
@[congr] theorem atOff_cg {i i' : Int} {f : Nat → Prop} {l l' : List Nat} {j j' : Nat} {b0 : Prop} (h0 : (True ∧ True) = b0) (h : i = i') (h2 : l = l') (h3 : j = j') : atOff i f l j = atOff i' f l' j' := by rw [h, h2, h3]
attribute [go_sem] retQ retK retL binV cellsK loadP cellsOf splice fillA optI rowsK appK decN castK
  callK allP view1 vok1 view vok viewO vokO objsK pos nodupB idT keysLt tgts oneA
/-! The state's changes, each as a step that is written down. -/
theorem put_some {σ : List (Nat × AVal)} {L : Hp} {nx n d : Nat} {av : AVal} : S.put ⟨σ, L, nx, n⟩ (some d) av = ⟨(d, av) :: σ, L, nx, n⟩ := id rfl
theorem put_none {s : S} {av : AVal} : S.put s none av = s := id rfl
theorem add_eq {σ : List (Nat × AVal)} {L : Hp} {nx n : Nat} {o : AObj} : S.add ⟨σ, L, nx, n⟩ o = ⟨σ, (nx, o) :: L, nx + 1, n⟩ := id rfl
theorem hp_eq {σ : List (Nat × AVal)} {L L' : Hp} {nx n : Nat} : S.hp ⟨σ, L, nx, n⟩ L' = ⟨σ, L', nx, n⟩ := id rfl
theorem ev_tmp {σ : List (Nat × AVal)} {L : Hp} {nx n t : Nat} : S.ev ⟨σ, L, nx, n⟩ (.tmp t) = (lk σ t).getD .junk := id rfl
theorem ev_func {s : S} {f : Nat} : S.ev s (.func f) = .fn f [] := id rfl
theorem ev_int {s : S} {k : IntKind} {i : Int} : S.ev s (.const (.int k i)) = .v (.int k i) := id rfl
theorem ev_bool {s : S} {b : Bool} : S.ev s (.const (.bool b)) = .v (.bool b) := id rfl
theorem ev_str {s : S} {b : ByteArray} : S.ev s (.const (.string b)) = .v (.string b) := id rfl
theorem ev_nilf {s : S}  : S.ev s (.const .nilFunc) = .v .nilFunc := id rfl
theorem ev_nili {s : S}  : S.ev s (.const .nilIface) = .v .nilIface := id rfl
theorem ev_nilp {s : S} : S.ev s (.const (.pointer none)) = .v (.pointer none) := id rfl
theorem ev_nils {s : S} : S.ev s (.const (.slice none 0 0)) = .v (.slice none 0 0) := id rfl
theorem ev_agg {s : S} {cs : Array Value} : S.ev s (.const (.agg cs)) = .agg (cs.toList.map .v) := id rfl
theorem params_nil {k : Nat} : params k [] = [] := id rfl
theorem params_cons {k : Nat} {x : AVal} {r : List AVal} : params k (x :: r) = (k, x) :: params (k + 1) r := id rfl
theorem num_nil {k : Nat} : num k [] = [] := id rfl
theorem num_cons {k : Nat} {x : AObj} {r : List AObj} : num k (x :: r) = (k, x) :: num (k + 1) r := id rfl
theorem lk_nil {α : Type _} {k : Nat} : lk ([] : List (Nat × α)) k = none := id rfl
theorem lk_cons {α : Type _} {i k : Nat} {x : α} {r : List (Nat × α)} : lk ((i, x) :: r) k = if i = k then some x else lk r k := id rfl
theorem upd_nil {k : Nat} {o : AObj} : upd [] k o = [] := id rfl
theorem upd_cons {i k : Nat} {x o : AObj} {r : Hp} : upd ((i, x) :: r) k o = if i = k then (i, o) :: r else (i, x) :: upd r k o := id rfl
theorem boxesOf_nil : boxesOf [] = [] := id rfl
theorem boxesOf_box {m : Nat} {cs : List AVal} {r : Hp} : boxesOf ((m, .box cs) :: r) = (m, .box cs) :: boxesOf r := id rfl
theorem boxesOf_row {m : Nat} {t : Ty} {xs : List t.D} {r : Hp} : boxesOf ((m, .row t xs) :: r) = boxesOf r := id rfl
theorem rowsOf_nil : rowsOf [] = [] := id rfl
theorem rowsOf_box {m : Nat} {cs : List AVal} {r : Hp} : rowsOf ((m, .box cs) :: r) = rowsOf r := id rfl
theorem rowsOf_row {m : Nat} {t : Ty} {xs : List t.D} {r : Hp} : rowsOf ((m, .row t xs) :: r) = (m, .row t xs) :: rowsOf r := id rfl
attribute [go_sem] boxesOf_nil boxesOf_box boxesOf_row rowsOf_nil rowsOf_box rowsOf_row
attribute [go_sem] put_some put_none add_eq hp_eq ev_tmp ev_func ev_int ev_bool ev_str ev_nilf ev_nili ev_nilp ev_nils ev_agg params_nil params_cons num_nil num_cons lk_nil lk_cons upd_nil upd_cons
theorem nc0 : ((0 : Nat) : Int) = 0 := id rfl
theorem nc1 : ((1 : Nat) : Int) = 1 := id rfl
theorem nc2 : ((2 : Nat) : Int) = 2 := id rfl
theorem nc3 : ((3 : Nat) : Int) = 3 := id rfl
theorem nc4 : ((4 : Nat) : Int) = 4 := id rfl
theorem nc5 : ((5 : Nat) : Int) = 5 := id rfl
theorem nc6 : ((6 : Nat) : Int) = 6 := id rfl
theorem nc7 : ((7 : Nat) : Int) = 7 := id rfl
theorem nc8 : ((8 : Nat) : Int) = 8 := id rfl
theorem nc9 : ((9 : Nat) : Int) = 9 := id rfl
theorem nc10 : ((10 : Nat) : Int) = 10 := id rfl
theorem nc11 : ((11 : Nat) : Int) = 11 := id rfl
theorem nc12 : ((12 : Nat) : Int) = 12 := id rfl
theorem nc13 : ((13 : Nat) : Int) = 13 := id rfl
theorem nc14 : ((14 : Nat) : Int) = 14 := id rfl
theorem nc15 : ((15 : Nat) : Int) = 15 := id rfl
theorem nc16 : ((16 : Nat) : Int) = 16 := id rfl
theorem offs_1_2 : offs 1 2 = [0, 1] := by decide
theorem offs_1_4 : offs 1 4 = [0, 1, 2, 3] := by decide
theorem offs_1_8 : offs 1 8 = [0, 1, 2, 3, 4, 5, 6, 7] := by decide
theorem offs_1_16 : offs 1 16 = [0, 1, 2, 3, 4, 5, 6, 7, 8, 9, 10, 11, 12, 13, 14, 15] := by decide
theorem offs_2_2 : offs 2 2 = [0, 2] := by decide
theorem offs_2_4 : offs 2 4 = [0, 2, 4, 6] := by decide
theorem offs_2_8 : offs 2 8 = [0, 2, 4, 6, 8, 10, 12, 14] := by decide
theorem offs_2_16 : offs 2 16 = [0, 2, 4, 6, 8, 10, 12, 14, 16, 18, 20, 22, 24, 26, 28, 30] := by decide
theorem offs_3_2 : offs 3 2 = [0, 3] := by decide
theorem offs_3_4 : offs 3 4 = [0, 3, 6, 9] := by decide
theorem offs_3_8 : offs 3 8 = [0, 3, 6, 9, 12, 15, 18, 21] := by decide
theorem offs_3_16 : offs 3 16 = [0, 3, 6, 9, 12, 15, 18, 21, 24, 27, 30, 33, 36, 39, 42, 45] := by decide
theorem offs_4_2 : offs 4 2 = [0, 4] := by decide
theorem offs_4_4 : offs 4 4 = [0, 4, 8, 12] := by decide
theorem offs_4_8 : offs 4 8 = [0, 4, 8, 12, 16, 20, 24, 28] := by decide
theorem offs_4_16 : offs 4 16 = [0, 4, 8, 12, 16, 20, 24, 28, 32, 36, 40, 44, 48, 52, 56, 60] := by decide
theorem atOff_nil {i : Int} {f : Nat → Prop} {j : Nat} : atOff i f [] j = True := id rfl
theorem atOff_cons {i : Int} {f : Nat → Prop} {o : Nat} {r : List Nat} {j : Nat} : atOff i f (o :: r) j = (impK (i = (j : Int)) (f o) ∧ atOff i f r (j + 1)) := id rfl
attribute [go_sem] nc0 nc1 nc2 nc3 nc4 nc5 nc6 nc7 nc8 nc9 nc10 nc11 nc12 nc13 nc14 nc15 nc16 offs_1_2 offs_1_4 offs_1_8 offs_1_16 offs_2_2 offs_2_4 offs_2_8 offs_2_16 offs_3_2 offs_3_4 offs_3_8 offs_3_16 offs_4_2 offs_4_4 offs_4_8 offs_4_16 atOff_nil atOff_cons
/-! The state behind a call. -/
section
variable {n : Nat → Nat} {m z j f lo len off nx k : Nat} {x : Value} {cs : List AVal} {o : AObj} {r : Hp} {ms : List Nat} {L : Hp} {t : Ty} {xs : List t.D}
theorem renL_nil : renL n [] = [] := id rfl
theorem renL_cons : renL n ((m, o) :: r) = (n m, renO n o) :: renL n r := id rfl
theorem renO_box : renO n (.box cs) = .box (cs.map (ren1 n)) := id rfl
theorem renO_row : renO n (.row t xs) = .row t xs := id rfl
theorem ren1_v : ren1 n (.v x) = .v x := id rfl
theorem ren1_ptr : ren1 n (.ptr m off) = .ptr (n m) off := id rfl
theorem ren1_elt : ren1 n (.elt m z j f) = .elt (n m) z j f := id rfl
theorem ren1_sub : ren1 n (.sub m z lo len) = .sub (n m) z lo len := id rfl
theorem ren2_v : ren2 n (.v x) = .v x := id rfl
theorem ren2_ptr : ren2 n (.ptr m off) = .ptr (n m) off := id rfl
theorem ren2_elt : ren2 n (.elt m z j f) = .elt (n m) z j f := id rfl
theorem ren2_sub : ren2 n (.sub m z lo len) = .sub (n m) z lo len := id rfl
theorem ren2_agg : ren2 n (.agg cs) = .agg (cs.map (ren1 n)) := id rfl
theorem ren_v : ren n (.v x) = .v x := id rfl
theorem ren_ptr : ren n (.ptr m off) = .ptr (n m) off := id rfl
theorem ren_elt : ren n (.elt m z j f) = .elt (n m) z j f := id rfl
theorem ren_sub : ren n (.sub m z lo len) = .sub (n m) z lo len := id rfl
theorem ren_agg : ren n (.agg cs) = .agg (cs.map (ren1 n)) := id rfl
theorem ren_tup : ren n (.tup cs) = .tup (cs.map (ren2 n)) := id rfl
theorem rn_eq : rn ms nx k = (nth ms k).getD (nx + k) := by unfold rn; split <;> rename_i h <;> rw [h] <;> rfl
theorem nth_nil : nth [] k = none := id rfl
theorem nth_cons : nth (m :: ms) k = if k = 0 then some m else nth ms (k - 1) := id rfl
theorem eraAll_nil : eraAll L [] = L := id rfl
theorem eraAll_cons : eraAll L (m :: ms) = eraAll (era L m) ms := id rfl
theorem era_nil : era [] k = [] := id rfl
theorem era_cons : era ((m, o) :: r) k = if m = k then era r k else (m, o) :: era r k := id rfl
end
attribute [go_sem] renL_nil renL_cons renO_box renO_row ren1_v ren1_ptr ren1_elt ren1_sub ren2_v ren2_ptr ren2_elt ren2_sub ren2_agg ren_v ren_ptr ren_elt ren_sub ren_agg ren_tup rn_eq nth_nil nth_cons eraAll_nil eraAll_cons era_nil era_cons
theorem om_some {α β : Type _} {f : α → β} {x : α} : Option.map f (some x) = some (f x) := id rfl
theorem om_none {α β : Type _} {f : α → β} : Option.map f (none : Option α) = none := id rfl
theorem bo_ff : (false || false) = false := id rfl
theorem bo_tf {b : Bool} : (true || b) = true := id rfl
theorem bo_ft : (false || true) = true := id rfl
theorem dc_true : decide True = true := by simp
theorem dc_false : decide False = false := by simp
theorem ga_0 {α : Type _} {a : α} {l : List α} : (a :: l)[0]? = some a := id rfl
theorem ga_1 {α : Type _} {a b : α} {l : List α} : (a :: b :: l)[1]? = some b := id rfl
theorem ga_2 {α : Type _} {a b c : α} {l : List α} : (a :: b :: c :: l)[2]? = some c := id rfl
theorem ga_3 {α : Type _} {a b c d : α} {l : List α} : (a :: b :: c :: d :: l)[3]? = some d := id rfl
theorem or_ft {p : Prop} : (False ∨ p) = p := by simp
theorem or_tt {p : Prop} : (p ∨ True) = True := by simp
theorem or_pf {p : Prop} : (p ∨ False) = p := by simp
attribute [go_sem] ga_0 ga_1 ga_2 ga_3 or_ft or_tt or_pf
theorem take_len {α : Type _} {xs : List α} : xs.take xs.length = xs := List.take_length
theorem le_self {n : Nat} : (n ≤ n) = True := by simp
section
variable {θ : Th} {K : Th → Prop} {m m' k z z' lo lo' len len' off off' i i' f f' d p : Nat} {x x' : Value} {t t' : Ty} {xs : List t.D} {y : t.D} {cs cs' r r' : List AVal} {a a' av av' : AVal} {σ : List (Nat × AVal)} {L rL : Hp} {o o' : AObj} {s s' : S}
theorem SubS_eq : SubS p s s' = (s'.n = s.n ∧ uniS (idT p) s.σ s'.σ fun θ => uniH θ s.L (boxesOf s'.L) fun θ => uniH θ s.L (rowsOf s'.L) fun θ => nodupB (tgts θ) = true ∧ keysLt s'.nx θ = true) := id rfl
theorem ResU_eq {r0 rr : AVal} {L0 : Hp} {nx0 : Nat} : ResU p s rr r0 L0 nx0 = (uniR (idT p) rr r0 fun θ => uniH θ s.L (boxesOf L0) fun θ => uniH θ s.L (rowsOf L0) fun θ => nodupB (tgts θ) = true ∧ keysLt nx0 θ = true) := id rfl
theorem uniN_eq : uniN θ m' m K = (match lk θ m' with | some x => x = some (m, 0, 0) ∧ K θ | none => K ((m', some (m, 0, 0)) :: θ)) := id rfl
theorem uniK_eq : uniK θ m' m k z K = (if k = 0 then uniN θ m' m K else match lk θ m' with | some x => x = some (m, k, z) ∧ K θ | none => K ((m', some (m, k, z)) :: θ)) := id rfl
theorem uniNil_eq : uniNil θ m' K = (match lk θ m' with | some x => x = none ∧ K θ | none => K ((m', none) :: θ)) := id rfl
theorem uni1_junk : uni1 θ av .junk K = K θ := id rfl
theorem uni1_v : uni1 θ (.v x) (.v x') K = (x = x' ∧ K θ) := id rfl
theorem uni1_sub : uni1 θ (.sub m z lo len) (.sub m' z' lo' len') K = ((z = z' ∧ lo' ≤ lo ∧ len = len') ∧ uniK θ m' m (lo - lo') z K) := id rfl
theorem uni1_nil : uni1 θ (.v (.slice none 0 0)) (.sub m' z' lo' len') K = ((lo' = 0 ∧ len' = 0) ∧ uniNil θ m' K) := id rfl
theorem uni1_ptr : uni1 θ (.ptr m off) (.ptr m' off') K = (off = off' ∧ uniN θ m' m K) := id rfl
theorem uni1_elt : uni1 θ (.elt m z i f) (.elt m' z' i' f') K = ((z = z' ∧ i = i' ∧ f = f') ∧ uniN θ m' m K) := id rfl
theorem uni1_rs : uni1 θ av (.rs t xs) K = (av = .rs t xs ∧ K θ) := id rfl
theorem uni1_re : uni1 θ av (.re t y f) K = (av = .re t y f ∧ K θ) := id rfl
theorem uni1_rp : uni1 θ av (.rp t xs) K = (av = .rp t xs ∧ K θ) := id rfl
theorem uni_rp : uni θ av (.rp t xs) K = uni1 θ av (.rp t xs) K := id rfl
theorem uniL_nil : uniL θ [] [] K = K θ := id rfl
theorem uniL_cons : uniL θ (a :: r) (a' :: r') K = uni1 θ a a' fun θ => uniL θ r r' K := id rfl
theorem uni_agg : uni θ (.agg cs) (.agg cs') K = uniL θ cs cs' K := id rfl
theorem uni_fn : uni θ (.fn f cs) (.fn f' cs') K = (f = f' ∧ uniL θ cs cs' K) := id rfl
theorem uni_junk : uni θ av .junk K = K θ := id rfl
theorem uni_v : uni θ av (.v x') K = uni1 θ av (.v x') K := id rfl
theorem uni_sub : uni θ av (.sub m' z' lo' len') K = uni1 θ av (.sub m' z' lo' len') K := id rfl
theorem uni_ptr : uni θ av (.ptr m' off') K = uni1 θ av (.ptr m' off') K := id rfl
theorem uni_elt : uni θ av (.elt m' z' i' f') K = uni1 θ av (.elt m' z' i' f') K := id rfl
theorem uni_rs : uni θ av (.rs t xs) K = uni1 θ av (.rs t xs) K := id rfl
theorem uni_re : uni θ av (.re t y f) K = uni1 θ av (.re t y f) K := id rfl
theorem uniS_nil : uniS θ σ [] K = K θ := id rfl
theorem uniS_cons {r : List (Nat × AVal)} : uniS θ σ ((d, av') :: r) K = someK (lk σ d) fun av => uni θ av av' fun θ => uniS θ σ r K := by
  cases h : lk σ d <;> simp [uniS, someK, h]
theorem uniO_box : uniO θ k z (.box cs) (.box cs') K = (k = 0 ∧ uniL θ cs cs' K) := id rfl
theorem uniO_row {xs' : List t'.D} : uniO θ k z (.row t xs) (.row t' xs') K = castK t' t xs fun xs => if k = 0 then xs = xs' ∧ K θ else (z = sz t' ∧ k ≤ xs.length ∧ xs.drop k = xs') ∧ K θ := id rfl
theorem uniH_nil : uniH θ L [] K = K θ := id rfl
theorem uniH_cons : uniH θ L ((m', o') :: rL) K = (match lk θ m' with
    | some (some (m, k, z)) => match lk L m with
      | some o => uniO θ k z o o' fun θ => uniH θ L rL K
      | none => False
    | some none => match o' with
      | .row t xs' => xs' = [] ∧ uniH θ L rL K
      | _ => False
    | none => match lk L m' with
      | some o => uniO ((m', some (m', 0, 0)) :: θ) 0 0 o o' fun θ => uniH θ L rL K
      | none => False) := id rfl
theorem uniT_nil : uniT θ [] [] K = K θ := id rfl
theorem uniT_cons : uniT θ (a :: r) (a' :: r') K = uni θ a a' fun θ => uniT θ r r' K := id rfl
theorem uniR_tup : uniR θ (.tup cs) (.tup cs') K = uniT θ cs cs' K := id rfl
theorem uniR_agg : uniR θ av (.agg cs') K = uni θ av (.agg cs') K := id rfl
theorem uniR_fn : uniR θ av (.fn f' cs') K = uni θ av (.fn f' cs') K := id rfl
theorem uniR_v : uniR θ av (.v x') K = uni θ av (.v x') K := id rfl
theorem uniR_junk : uniR θ av .junk K = uni θ av .junk K := id rfl
theorem uniR_sub : uniR θ av (.sub m' z' lo' len') K = uni θ av (.sub m' z' lo' len') K := id rfl
theorem uniR_ptr : uniR θ av (.ptr m' off') K = uni θ av (.ptr m' off') K := id rfl
theorem uniR_elt : uniR θ av (.elt m' z' i' f') K = uni θ av (.elt m' z' i' f') K := id rfl
theorem uniR_rs : uniR θ av (.rs t xs) K = uni θ av (.rs t xs) K := id rfl
theorem uniR_re : uniR θ av (.re t y f) K = uni θ av (.re t y f) K := id rfl
end
attribute [go_sem] uni1_rp uni_rp
attribute [go_sem] SubS_eq ResU_eq uniN_eq uniK_eq uniNil_eq uni1_junk uni1_v uni1_sub uni1_nil uni1_ptr uni1_elt uni1_rs uni1_re uniL_nil uniL_cons uni_agg uni_fn uni_junk uni_v uni_sub uni_ptr uni_elt uni_rs uni_re uniS_nil uniS_cons uniO_box uniO_row uniH_nil uniH_cons uniT_nil uniT_cons uniR_tup uniR_agg uniR_fn uniR_v uniR_junk uniR_sub uniR_ptr uniR_elt uniR_rs uniR_re
def isV : AVal → Prop
  | .v _ => True
  | _ => False
def vAll : List AVal → Prop
  | [] => True
  | x :: r => isV x ∧ vAll r
theorem isV_v {x : Value} : isV (.v x) = True := by simp [isV]
theorem vAll_nil : vAll [] = True := by simp [vAll]
theorem vAll_cons {x : AVal} {r : List AVal} : vAll (x :: r) = (isV x ∧ vAll r) := id rfl
theorem uniL_same {θ : Th} {K : Th → Prop} : ∀ {cs : List AVal}, vAll cs → uniL θ cs cs K = K θ
  | [], _ => rfl
  | x :: r, h => by
    cases x with
    | v y => simp only [uniL, uni1, true_and]; exact uniL_same h.2
    | _ => exact h.1.elim
theorem uni_same {θ : Th} {cs : List AVal} {K : Th → Prop} (h : vAll cs) : uni θ (.agg cs) (.agg cs) K = K θ := by simp only [uni]; exact uniL_same h
theorem uniO_same {θ : Th} {cs : List AVal} {K : Th → Prop} (h : vAll cs) : uniO θ 0 0 (.box cs) (.box cs) K = K θ := by simp only [uniO, true_and]; exact uniL_same h
attribute [go_sem] isV_v vAll_nil vAll_cons
attribute [go_sem high] uni_same uniO_same
def ifSeen (seen : List Nat) (d : Nat) (a b : List (Nat × AVal)) : List (Nat × AVal) := if seen.contains d = true then a else b
theorem ifSeen_nil {d : Nat} {a b : List (Nat × AVal)} : ifSeen [] d a b = b := by simp [ifSeen]
theorem ifSeen_cons {x d : Nat} {l : List Nat} {a b : List (Nat × AVal)} : ifSeen (x :: l) d a b = if d = x then a else ifSeen l d a b := by
  unfold ifSeen
  by_cases h : d = x
  · simp [h]
  · simp [h]
@[congr] theorem ifSeen_cg {l l' : List Nat} {d d' : Nat} {a b : List (Nat × AVal)} {b0 : Prop} (h0 : (True ∧ True) = b0) (h : l = l') (h2 : d = d') : ifSeen l d a b = ifSeen l' d' a b := by rw [h, h2]
theorem tidy_eq {σ : List (Nat × AVal)} {L : Hp} {nx n : Nat} : tidy ⟨σ, L, nx, n⟩ = ⟨ded [] σ, L, nx, n⟩ := id rfl
theorem ded_nil {seen : List Nat} : ded seen [] = [] := id rfl
theorem ded_junk {seen : List Nat} {d : Nat} {r : List (Nat × AVal)} : ded seen ((d, .junk) :: r) = ifSeen seen d (ded seen r) (ded (d :: seen) r) := id rfl
theorem ded_v {seen : List Nat} {d : Nat} {r : List (Nat × AVal)} {x : Value} : ded seen ((d, .v x) :: r) = ifSeen seen d (ded seen r) ((d, .v x) :: ded (d :: seen) r) := id rfl
theorem ded_ptr {seen : List Nat} {d : Nat} {r : List (Nat × AVal)} {m o : Nat} : ded seen ((d, .ptr m o) :: r) = ifSeen seen d (ded seen r) ((d, .ptr m o) :: ded (d :: seen) r) := id rfl
theorem ded_elt {seen : List Nat} {d : Nat} {r : List (Nat × AVal)} {m s i f : Nat} : ded seen ((d, .elt m s i f) :: r) = ifSeen seen d (ded seen r) ((d, .elt m s i f) :: ded (d :: seen) r) := id rfl
theorem ded_sub {seen : List Nat} {d : Nat} {r : List (Nat × AVal)} {m s l k : Nat} : ded seen ((d, .sub m s l k) :: r) = ifSeen seen d (ded seen r) ((d, .sub m s l k) :: ded (d :: seen) r) := id rfl
theorem ded_rs {seen : List Nat} {d : Nat} {r : List (Nat × AVal)} {t : Ty} {xs : List t.D} : ded seen ((d, .rs t xs) :: r) = ifSeen seen d (ded seen r) ((d, .rs t xs) :: ded (d :: seen) r) := id rfl
theorem ded_re {seen : List Nat} {d : Nat} {r : List (Nat × AVal)} {t : Ty} {x : t.D} {f : Nat} : ded seen ((d, .re t x f) :: r) = ifSeen seen d (ded seen r) ((d, .re t x f) :: ded (d :: seen) r) := id rfl
theorem ded_rp {seen : List Nat} {d : Nat} {r : List (Nat × AVal)} {t : Ty} {xs : List t.D} : ded seen ((d, .rp t xs) :: r) = ifSeen seen d (ded seen r) ((d, .rp t xs) :: ded (d :: seen) r) := id rfl
attribute [go_sem] ded_rp
theorem ded_agg {seen : List Nat} {d : Nat} {r : List (Nat × AVal)} {cs : List AVal} : ded seen ((d, .agg cs) :: r) = ifSeen seen d (ded seen r) ((d, .agg cs) :: ded (d :: seen) r) := id rfl
theorem ded_tup {seen : List Nat} {d : Nat} {r : List (Nat × AVal)} {cs : List AVal} : ded seen ((d, .tup cs) :: r) = ifSeen seen d (ded seen r) ((d, .tup cs) :: ded (d :: seen) r) := id rfl
theorem ded_fn {seen : List Nat} {d : Nat} {r : List (Nat × AVal)} {f : Nat} {cs : List AVal} : ded seen ((d, .fn f cs) :: r) = ifSeen seen d (ded seen r) ((d, .fn f cs) :: ded (d :: seen) r) := id rfl
attribute [go_sem] tidy_eq ifSeen_nil ifSeen_cons ded_nil ded_junk ded_v ded_ptr ded_elt ded_sub ded_rs ded_re ded_agg ded_tup ded_fn
theorem sub_self' {n : Nat} : n - n = 0 := by simp
attribute [go_sem] sub_self'
theorem tr_or {p : Prop} : (True ∨ p) = True := by simp
attribute [go_sem] take_len le_self tr_or om_some om_none bo_ff bo_tf bo_ft dc_true dc_false
theorem rep_0 {α : Type _} {a : α} : List.replicate 0 a = [] := id rfl
theorem rep_1 {α : Type _} {a : α} : List.replicate 1 a = [a] := id rfl
theorem rep_2 {α : Type _} {a : α} : List.replicate 2 a = [a, a] := id rfl
theorem flat_nil {α : Type _} : ([] : List (List α)).flatten = [] := id rfl
theorem flat_cons {α : Type _} {a : List α} {r : List (List α)} : (a :: r).flatten = a ++ r.flatten := id rfl
attribute [go_sem] rep_0 rep_1 rep_2 flat_nil flat_cons
theorem linD_done : linD .done = true := id rfl
theorem linD_stop : linD .stop = true := id rfl
theorem linD_held {o : LO} {t : DT} : linD (.held o t) = linD t := id rfl
theorem linD_one {o : LO} {t : DT} : linD (.alt o t .stop) = linD t := id rfl
theorem linD_two {o o2 : LO} {t t2 r2 : DT} : linD (.alt o t (.alt o2 t2 r2)) = false := id rfl
attribute [go_sem] linD_done linD_stop linD_held linD_one linD_two
theorem true_imp (p : Prop) : (True → p) = p := by simp
theorem false_imp (p : Prop) : (False → p) = True := by simp
theorem tt_imp (p : Prop) : (true = true → p) = p := by simp
theorem ff_imp (p : Prop) : (false = false → p) = p := by simp
theorem tf_imp (p : Prop) : (true = false → p) = True := by simp
theorem ft_imp (p : Prop) : (false = true → p) = True := by simp
theorem wrap_id {n : Int} (h1 : -9223372036854775808 ≤ n) (h2 : n ≤ 9223372036854775807) : wr .i64 n = n := by rw [wr_eq, IntKind.wrap_i64]; omega
theorem fill_set {α : Type} (xs : List α) (d z : α) (k : Nat) (h : k < xs.length) : (xs.take k ++ List.replicate (xs.length - k) z).set k (xs.getD k d) = xs.take (k + 1) ++ List.replicate (xs.length - (k + 1)) z := by
  apply List.ext_getElem?
  intro i
  simp only [List.getElem?_set, List.getElem?_append, List.length_append, List.length_take, List.length_replicate, List.getElem?_take, List.getElem?_replicate]
  have h1 : min k xs.length = k := by omega
  have h2 : min (k + 1) xs.length = k + 1 := by omega
  rw [h1, h2]
  by_cases e : k = i
  · subst e
    simp [h, List.getD, show k < k + (xs.length - k) by omega]
  · by_cases e2 : i < k
    · simp [e, e2, show i < k + 1 by omega]
    · simp [e, e2, show ¬ i < k + 1 by omega, show i - k < xs.length - k ↔ i - (k + 1) < xs.length - (k + 1) by omega]
theorem fill_len {α : Type} (xs : List α) (z : α) (k : Nat) (h : k ≤ xs.length) : (xs.take k ++ List.replicate (xs.length - k) z).length = xs.length := by simp; omega
theorem cast_succ (k : Nat) : (k : Int) + 1 = ((k + 1 : Nat) : Int) := by omega
attribute [go_sem] wrap_id List.all_cons List.all_nil Bool.and_true Bool.true_and List.contains_nil List.contains_cons true_imp false_imp tt_imp ff_imp tf_imp ft_imp Bool.not_true Bool.not_false and_true true_and and_false false_and Nat.zero_add Nat.add_zero Option.getD_some Option.getD_none
  if_true if_false List.map_cons List.map_nil List.length_cons List.length_nil List.drop_zero List.drop_succ_cons List.take_succ_cons List.take_zero List.take_nil List.drop_nil List.nil_append List.cons_append List.append_nil
  decide_eq_true_eq decide_eq_false_iff_not Bool.not_eq_true' Bool.not_eq_false' Bool.not_eq_eq_eq_not ne_eq not_true_eq_false not_false_eq_true forall_const Int.toNat_natCast List.append_nil
end Go.Proofs.YtfjfaajdbomhbaaE

/-! The code of a function, in the engine's words. -/
namespace Go.Proofs.YtfjfaajdbomhbaaE
open Go Go.RowKit
@[reducible] def ic3 : IC := (.seq (.ops [⟨some 2, .box (.tmp 0), none⟩, ⟨some 3, .box (.tmp 1), none⟩, ⟨some 4, .mov (.const (.bool false)), none⟩]) (.seq (.draw [⟨some 7, .load 16 true (.tmp 2), none⟩, ⟨some 8, .call 10 [(.tmp 7)], none⟩, ⟨some 9, .load 16 true (.tmp 3), none⟩, ⟨some 10, .call 10 [(.tmp 9)], none⟩, ⟨some 11, .call 9 [(.tmp 8), (.tmp 10)], none⟩, ⟨some 5, .new [(.int .u8 0), (.int .u8 0), (.int .u8 0), (.int .u8 0), (.int .u8 0), (.int .u8 0), (.int .u8 0), (.int .u8 0), (.int .u8 0), (.int .u8 0), (.int .u8 0), (.int .u8 0), (.int .u8 0), (.int .u8 0), (.int .u8 0), (.int .u8 0)], none⟩, ⟨none, .store 16 (.tmp 5) (.tmp 11), none⟩] (.held ⟨some 7, .load 16 true (.tmp 2), none⟩ (.held ⟨some 9, .load 16 true (.tmp 3), none⟩ (.alt ⟨some 8, .call 10 [(.tmp 7)], none⟩ (.alt ⟨some 10, .call 10 [(.tmp 9)], none⟩ (.alt ⟨some 11, .call 9 [(.tmp 8), (.tmp 10)], none⟩ (.alt ⟨some 5, .new [(.int .u8 0), (.int .u8 0), (.int .u8 0), (.int .u8 0), (.int .u8 0), (.int .u8 0), (.int .u8 0), (.int .u8 0), (.int .u8 0), (.int .u8 0), (.int .u8 0), (.int .u8 0), (.int .u8 0), (.int .u8 0), (.int .u8 0), (.int .u8 0)], none⟩ (.alt ⟨none, .store 16 (.tmp 5) (.tmp 11), none⟩ .done .stop) .stop) (.alt ⟨some 5, .new [(.int .u8 0), (.int .u8 0), (.int .u8 0), (.int .u8 0), (.int .u8 0), (.int .u8 0), (.int .u8 0), (.int .u8 0), (.int .u8 0), (.int .u8 0), (.int .u8 0), (.int .u8 0), (.int .u8 0), (.int .u8 0), (.int .u8 0), (.int .u8 0)], none⟩ (.alt ⟨some 11, .call 9 [(.tmp 8), (.tmp 10)], none⟩ (.alt ⟨none, .store 16 (.tmp 5) (.tmp 11), none⟩ .done .stop) .stop) .stop)) (.alt ⟨some 5, .new [(.int .u8 0), (.int .u8 0), (.int .u8 0), (.int .u8 0), (.int .u8 0), (.int .u8 0), (.int .u8 0), (.int .u8 0), (.int .u8 0), (.int .u8 0), (.int .u8 0), (.int .u8 0), (.int .u8 0), (.int .u8 0), (.int .u8 0), (.int .u8 0)], none⟩ (.alt ⟨some 10, .call 10 [(.tmp 9)], none⟩ (.alt ⟨some 11, .call 9 [(.tmp 8), (.tmp 10)], none⟩ (.alt ⟨none, .store 16 (.tmp 5) (.tmp 11), none⟩ .done .stop) .stop) .stop) .stop)) (.alt ⟨some 5, .new [(.int .u8 0), (.int .u8 0), (.int .u8 0), (.int .u8 0), (.int .u8 0), (.int .u8 0), (.int .u8 0), (.int .u8 0), (.int .u8 0), (.int .u8 0), (.int .u8 0), (.int .u8 0), (.int .u8 0), (.int .u8 0), (.int .u8 0), (.int .u8 0)], none⟩ (.alt ⟨some 8, .call 10 [(.tmp 7)], none⟩ (.alt ⟨some 10, .call 10 [(.tmp 9)], none⟩ (.alt ⟨some 11, .call 9 [(.tmp 8), (.tmp 10)], none⟩ (.alt ⟨none, .store 16 (.tmp 5) (.tmp 11), none⟩ .done .stop) .stop) .stop) .stop) .stop))))) (.seq (.draw [⟨some 12, .load 16 true (.tmp 2), none⟩, ⟨some 13, .call 10 [(.tmp 12)], none⟩, ⟨some 14, .load 16 true (.tmp 3), none⟩, ⟨some 15, .call 10 [(.tmp 14)], none⟩, ⟨some 16, .call 11 [(.tmp 13), (.tmp 15)], none⟩, ⟨some 6, .new [(.int .u8 0), (.int .u8 0), (.int .u8 0), (.int .u8 0), (.int .u8 0), (.int .u8 0), (.int .u8 0), (.int .u8 0), (.int .u8 0), (.int .u8 0), (.int .u8 0), (.int .u8 0), (.int .u8 0), (.int .u8 0), (.int .u8 0), (.int .u8 0)], none⟩, ⟨none, .store 16 (.tmp 6) (.tmp 16), none⟩] (.held ⟨some 12, .load 16 true (.tmp 2), none⟩ (.held ⟨some 14, .load 16 true (.tmp 3), none⟩ (.alt ⟨some 13, .call 10 [(.tmp 12)], none⟩ (.alt ⟨some 15, .call 10 [(.tmp 14)], none⟩ (.alt ⟨some 16, .call 11 [(.tmp 13), (.tmp 15)], none⟩ (.alt ⟨some 6, .new [(.int .u8 0), (.int .u8 0), (.int .u8 0), (.int .u8 0), (.int .u8 0), (.int .u8 0), (.int .u8 0), (.int .u8 0), (.int .u8 0), (.int .u8 0), (.int .u8 0), (.int .u8 0), (.int .u8 0), (.int .u8 0), (.int .u8 0), (.int .u8 0)], none⟩ (.alt ⟨none, .store 16 (.tmp 6) (.tmp 16), none⟩ .done .stop) .stop) (.alt ⟨some 6, .new [(.int .u8 0), (.int .u8 0), (.int .u8 0), (.int .u8 0), (.int .u8 0), (.int .u8 0), (.int .u8 0), (.int .u8 0), (.int .u8 0), (.int .u8 0), (.int .u8 0), (.int .u8 0), (.int .u8 0), (.int .u8 0), (.int .u8 0), (.int .u8 0)], none⟩ (.alt ⟨some 16, .call 11 [(.tmp 13), (.tmp 15)], none⟩ (.alt ⟨none, .store 16 (.tmp 6) (.tmp 16), none⟩ .done .stop) .stop) .stop)) (.alt ⟨some 6, .new [(.int .u8 0), (.int .u8 0), (.int .u8 0), (.int .u8 0), (.int .u8 0), (.int .u8 0), (.int .u8 0), (.int .u8 0), (.int .u8 0), (.int .u8 0), (.int .u8 0), (.int .u8 0), (.int .u8 0), (.int .u8 0), (.int .u8 0), (.int .u8 0)], none⟩ (.alt ⟨some 15, .call 10 [(.tmp 14)], none⟩ (.alt ⟨some 16, .call 11 [(.tmp 13), (.tmp 15)], none⟩ (.alt ⟨none, .store 16 (.tmp 6) (.tmp 16), none⟩ .done .stop) .stop) .stop) .stop)) (.alt ⟨some 6, .new [(.int .u8 0), (.int .u8 0), (.int .u8 0), (.int .u8 0), (.int .u8 0), (.int .u8 0), (.int .u8 0), (.int .u8 0), (.int .u8 0), (.int .u8 0), (.int .u8 0), (.int .u8 0), (.int .u8 0), (.int .u8 0), (.int .u8 0), (.int .u8 0)], none⟩ (.alt ⟨some 13, .call 10 [(.tmp 12)], none⟩ (.alt ⟨some 15, .call 10 [(.tmp 14)], none⟩ (.alt ⟨some 16, .call 11 [(.tmp 13), (.tmp 15)], none⟩ (.alt ⟨none, .store 16 (.tmp 6) (.tmp 16), none⟩ .done .stop) .stop) .stop) .stop) .stop))))) (.seq (.seq (.ops [⟨some 17, .load 16 true (.tmp 6), none⟩, ⟨some 18, .load 16 true (.tmp 5), none⟩, ⟨some 19, .call 12 [(.tmp 17), (.tmp 18)], none⟩, ⟨some 20, .una .not (.tmp 19), none⟩]) (.cond (.tmp 20) (.seq (.ops [⟨some 4, .mov (.const (.bool false)), none⟩]) .ret) .skip)) (.seq (.ops [⟨some 4, .mov (.const (.bool true)), none⟩]) .ret)))))
@[reducible] def rv3 : List RV := [.tmp 4]
theorem low3 : lowC Try.prog tau Try.f3.ntmps (Try.f3.body.getD .skip) = some (erase ic3) := by kernel_rfl
theorem res3 : lowR Try.prog Try.f3.results.toList = some rv3 := by kernel_rfl
theorem bod3 : Try.f3.body = some (Try.f3.body.getD .skip) := by kernel_rfl
theorem cal3 : callable Try.prog 3 = true := by kernel_rfl

end Go.Proofs.YtfjfaajdbomhbaaE

/-! The code of a function, in the engine's words. -/
namespace Go.Proofs.YtfjfaajdbomhbaaE
open Go Go.RowKit
@[reducible] def ic9 : IC := (.seq (.ops [⟨some 2, .box (.tmp 0), none⟩, ⟨some 3, .box (.tmp 1), none⟩, ⟨some 4, .new [(.int .u8 0), (.int .u8 0), (.int .u8 0), (.int .u8 0), (.int .u8 0), (.int .u8 0), (.int .u8 0), (.int .u8 0), (.int .u8 0), (.int .u8 0), (.int .u8 0), (.int .u8 0), (.int .u8 0), (.int .u8 0), (.int .u8 0), (.int .u8 0)], none⟩]) (.seq (.seq (.ops [⟨some 5, .mov (.const (.int .i64 0)), none⟩]) (.block 0 (.loop (.seq (.seq (.ops [⟨some 6, .mov (.tmp 5), none⟩, ⟨some 7, .bin .lss (.tmp 6) (.const (.int .i64 16)), none⟩]) (.cond (.tmp 7) .skip (.exit 0))) (.seq (.block 1 (.draw [⟨some 10, .mov (.tmp 5), none⟩, ⟨some 11, .mov (.tmp 5), none⟩, ⟨some 12, .iarr 1 16 (.tmp 2) (.tmp 11), none⟩, ⟨some 13, .load 1 false (.tmp 12), none⟩, ⟨some 14, .mov (.tmp 5), none⟩, ⟨some 15, .iarr 1 16 (.tmp 3) (.tmp 14), none⟩, ⟨some 16, .load 1 false (.tmp 15), none⟩, ⟨some 17, .bin .xor (.tmp 13) (.tmp 16), none⟩, ⟨some 18, .iarr 1 16 (.tmp 2) (.tmp 10), none⟩, ⟨none, .store 1 (.tmp 18) (.tmp 17), none⟩] (.held ⟨some 10, .mov (.tmp 5), none⟩ (.held ⟨some 11, .mov (.tmp 5), none⟩ (.held ⟨some 12, .iarr 1 16 (.tmp 2) (.tmp 11), none⟩ (.held ⟨some 13, .load 1 false (.tmp 12), none⟩ (.held ⟨some 14, .mov (.tmp 5), none⟩ (.held ⟨some 15, .iarr 1 16 (.tmp 3) (.tmp 14), none⟩ (.held ⟨some 16, .load 1 false (.tmp 15), none⟩ (.held ⟨some 17, .bin .xor (.tmp 13) (.tmp 16), none⟩ (.held ⟨some 18, .iarr 1 16 (.tmp 2) (.tmp 10), none⟩ (.alt ⟨none, .store 1 (.tmp 18) (.tmp 17), none⟩ .done .stop)))))))))))) (.ops [⟨some 8, .mov (.tmp 5), none⟩, ⟨some 9, .bin .add (.tmp 8) (.const (.int .i64 1)), none⟩, ⟨some 5, .mov (.tmp 9), none⟩])))))) (.seq (.ops [⟨some 19, .load 16 true (.tmp 2), none⟩, ⟨none, .store 16 (.tmp 4) (.tmp 19), none⟩]) .ret)))
@[reducible] def rv9 : List RV := [.cell 4 16 true]
theorem low9 : lowC Try.prog tau Try.f9.ntmps (Try.f9.body.getD .skip) = some (erase ic9) := by kernel_rfl
theorem res9 : lowR Try.prog Try.f9.results.toList = some rv9 := by kernel_rfl
theorem bod9 : Try.f9.body = some (Try.f9.body.getD .skip) := by kernel_rfl
theorem cal9 : callable Try.prog 9 = true := by kernel_rfl

end Go.Proofs.YtfjfaajdbomhbaaE

/-! The code of a function, in the engine's words. -/
namespace Go.Proofs.YtfjfaajdbomhbaaE
open Go Go.RowKit
@[reducible] def ic10 : IC := (.seq (.ops [⟨some 1, .box (.tmp 0), none⟩, ⟨some 2, .new [(.int .u8 0), (.int .u8 0), (.int .u8 0), (.int .u8 0), (.int .u8 0), (.int .u8 0), (.int .u8 0), (.int .u8 0), (.int .u8 0), (.int .u8 0), (.int .u8 0), (.int .u8 0), (.int .u8 0), (.int .u8 0), (.int .u8 0), (.int .u8 0)], none⟩]) (.seq (.ops [⟨some 3, .new [(.int .u8 0), (.int .u8 0), (.int .u8 0), (.int .u8 0), (.int .u8 0), (.int .u8 0), (.int .u8 0), (.int .u8 0), (.int .u8 0), (.int .u8 0), (.int .u8 0), (.int .u8 0), (.int .u8 0), (.int .u8 0), (.int .u8 0), (.int .u8 0)], none⟩]) (.seq (.seq (.ops [⟨some 4, .mov (.const (.int .i64 0)), none⟩]) (.block 0 (.loop (.seq (.seq (.ops [⟨some 5, .mov (.tmp 4), none⟩, ⟨some 6, .bin .lss (.tmp 5) (.const (.int .i64 16)), none⟩]) (.cond (.tmp 6) .skip (.exit 0))) (.seq (.block 1 (.ops [⟨some 9, .mov (.tmp 4), none⟩, ⟨some 10, .mov (.tmp 4), none⟩, ⟨some 11, .iarr 1 16 (.tmp 1) (.tmp 10), none⟩, ⟨some 12, .load 1 false (.tmp 11), none⟩, ⟨some 13, .iarr 1 16 (.tmp 3) (.tmp 9), none⟩, ⟨none, .store 1 (.tmp 13) (.tmp 12), none⟩])) (.ops [⟨some 7, .mov (.tmp 4), none⟩, ⟨some 8, .bin .add (.tmp 7) (.const (.int .i64 1)), none⟩, ⟨some 4, .mov (.tmp 8), none⟩])))))) (.seq (.ops [⟨some 14, .load 16 true (.tmp 3), none⟩, ⟨none, .store 16 (.tmp 2) (.tmp 14), none⟩]) .ret))))
@[reducible] def rv10 : List RV := [.cell 2 16 true]
theorem low10 : lowC Try.prog tau Try.f10.ntmps (Try.f10.body.getD .skip) = some (erase ic10) := by kernel_rfl
theorem res10 : lowR Try.prog Try.f10.results.toList = some rv10 := by kernel_rfl
theorem bod10 : Try.f10.body = some (Try.f10.body.getD .skip) := by kernel_rfl
theorem cal10 : callable Try.prog 10 = true := by kernel_rfl

end Go.Proofs.YtfjfaajdbomhbaaE

/-! The code of a function, in the engine's words. -/
namespace Go.Proofs.YtfjfaajdbomhbaaE
open Go Go.RowKit
@[reducible] def ic11 : IC := (.seq (.ops [⟨some 2, .box (.tmp 0), none⟩, ⟨some 3, .box (.tmp 1), none⟩, ⟨some 4, .new [(.int .u8 0), (.int .u8 0), (.int .u8 0), (.int .u8 0), (.int .u8 0), (.int .u8 0), (.int .u8 0), (.int .u8 0), (.int .u8 0), (.int .u8 0), (.int .u8 0), (.int .u8 0), (.int .u8 0), (.int .u8 0), (.int .u8 0), (.int .u8 0)], none⟩]) (.seq (.seq (.ops [⟨some 6, .mov (.const (.int .i64 0)), none⟩]) (.block 0 (.loop (.seq (.ops [⟨some 7, .bin .lss (.tmp 6) (.const (.int .i64 16)), none⟩]) (.seq (.cond (.tmp 7) .skip (.exit 0)) (.seq (.block 1 (.seq (.ops [⟨some 8, .mov (.tmp 6), none⟩, ⟨some 5, .mov (.tmp 8), none⟩]) (.draw [⟨some 9, .mov (.tmp 5), none⟩, ⟨some 10, .iarr 1 16 (.tmp 2) (.tmp 9), none⟩, ⟨some 11, .load 1 false (.tmp 10), none⟩, ⟨some 12, .mov (.tmp 5), none⟩, ⟨some 13, .iarr 1 16 (.tmp 3) (.tmp 12), none⟩, ⟨some 14, .load 1 false (.tmp 13), none⟩, ⟨some 15, .bin .xor (.tmp 11) (.tmp 14), none⟩, ⟨some 16, .iarr 1 16 (.tmp 2) (.tmp 9), none⟩, ⟨none, .store 1 (.tmp 16) (.tmp 15), none⟩] (.held ⟨some 9, .mov (.tmp 5), none⟩ (.held ⟨some 10, .iarr 1 16 (.tmp 2) (.tmp 9), none⟩ (.held ⟨some 11, .load 1 false (.tmp 10), none⟩ (.held ⟨some 12, .mov (.tmp 5), none⟩ (.held ⟨some 13, .iarr 1 16 (.tmp 3) (.tmp 12), none⟩ (.held ⟨some 14, .load 1 false (.tmp 13), none⟩ (.held ⟨some 15, .bin .xor (.tmp 11) (.tmp 14), none⟩ (.held ⟨some 16, .iarr 1 16 (.tmp 2) (.tmp 9), none⟩ (.alt ⟨none, .store 1 (.tmp 16) (.tmp 15), none⟩ .done .stop)))))))))))) (.ops [⟨some 17, .bin .add (.tmp 6) (.const (.int .i64 1)), none⟩, ⟨some 6, .mov (.tmp 17), none⟩]))))))) (.seq (.ops [⟨some 18, .load 16 true (.tmp 2), none⟩, ⟨none, .store 16 (.tmp 4) (.tmp 18), none⟩]) .ret)))
@[reducible] def rv11 : List RV := [.cell 4 16 true]
theorem low11 : lowC Try.prog tau Try.f11.ntmps (Try.f11.body.getD .skip) = some (erase ic11) := by kernel_rfl
theorem res11 : lowR Try.prog Try.f11.results.toList = some rv11 := by kernel_rfl
theorem bod11 : Try.f11.body = some (Try.f11.body.getD .skip) := by kernel_rfl
theorem cal11 : callable Try.prog 11 = true := by kernel_rfl

end Go.Proofs.YtfjfaajdbomhbaaE

/-! The code of a function, in the engine's words. -/
namespace Go.Proofs.YtfjfaajdbomhbaaE
open Go Go.RowKit
@[reducible] def ic12 : IC := (.seq (.ops [⟨some 2, .box (.tmp 0), none⟩, ⟨some 3, .box (.tmp 1), none⟩, ⟨some 4, .mov (.const (.bool false)), none⟩]) (.seq (.seq (.ops [⟨some 5, .mov (.const (.int .i64 0)), none⟩]) (.block 0 (.loop (.seq (.seq (.ops [⟨some 6, .mov (.tmp 5), none⟩, ⟨some 7, .bin .lss (.tmp 6) (.const (.int .i64 16)), none⟩]) (.cond (.tmp 7) .skip (.exit 0))) (.seq (.block 1 (.seq (.draw [⟨some 10, .mov (.tmp 5), none⟩, ⟨some 11, .iarr 1 16 (.tmp 2) (.tmp 10), none⟩, ⟨some 12, .load 1 false (.tmp 11), none⟩, ⟨some 13, .mov (.tmp 5), none⟩, ⟨some 14, .iarr 1 16 (.tmp 3) (.tmp 13), none⟩, ⟨some 15, .load 1 false (.tmp 14), none⟩, ⟨some 16, .bin .neq (.tmp 12) (.tmp 15), none⟩] (.held ⟨some 10, .mov (.tmp 5), none⟩ (.held ⟨some 11, .iarr 1 16 (.tmp 2) (.tmp 10), none⟩ (.held ⟨some 12, .load 1 false (.tmp 11), none⟩ (.held ⟨some 13, .mov (.tmp 5), none⟩ (.held ⟨some 14, .iarr 1 16 (.tmp 3) (.tmp 13), none⟩ (.held ⟨some 15, .load 1 false (.tmp 14), none⟩ (.held ⟨some 16, .bin .neq (.tmp 12) (.tmp 15), none⟩ .done)))))))) (.cond (.tmp 16) (.seq (.ops [⟨some 4, .mov (.const (.bool false)), none⟩]) .ret) .skip))) (.ops [⟨some 8, .mov (.tmp 5), none⟩, ⟨some 9, .bin .add (.tmp 8) (.const (.int .i64 1)), none⟩, ⟨some 5, .mov (.tmp 9), none⟩])))))) (.seq (.ops [⟨some 4, .mov (.const (.bool true)), none⟩]) .ret)))
@[reducible] def rv12 : List RV := [.tmp 4]
theorem low12 : lowC Try.prog tau Try.f12.ntmps (Try.f12.body.getD .skip) = some (erase ic12) := by kernel_rfl
theorem res12 : lowR Try.prog Try.f12.results.toList = some rv12 := by kernel_rfl
theorem bod12 : Try.f12.body = some (Try.f12.body.getD .skip) := by kernel_rfl
theorem cal12 : callable Try.prog 12 = true := by kernel_rfl

end Go.Proofs.YtfjfaajdbomhbaaE

/-! Cells of sixteen bytes: copies, comparisons, exclusive or. -/
namespace Go.Proofs.YtfjfaajdbomhbaaE
open Go Go.RowKit
set_option linter.unusedSimpArgs false
set_option linter.unusedVariables false
set_option maxRecDepth 50000
set_option maxHeartbeats 4000000

def spEqA16 : Spec := ⟨fun _ _ => [], fun args objs K => match args, objs with
  | [.agg [.v (.int .u8 a0), .v (.int .u8 a1), .v (.int .u8 a2), .v (.int .u8 a3), .v (.int .u8 a4), .v (.int .u8 a5), .v (.int .u8 a6), .v (.int .u8 a7), .v (.int .u8 a8), .v (.int .u8 a9), .v (.int .u8 a10), .v (.int .u8 a11), .v (.int .u8 a12), .v (.int .u8 a13), .v (.int .u8 a14), .v (.int .u8 a15)], .agg [.v (.int .u8 b0), .v (.int .u8 b1), .v (.int .u8 b2), .v (.int .u8 b3), .v (.int .u8 b4), .v (.int .u8 b5), .v (.int .u8 b6), .v (.int .u8 b7), .v (.int .u8 b8), .v (.int .u8 b9), .v (.int .u8 b10), .v (.int .u8 b11), .v (.int .u8 b12), .v (.int .u8 b13), .v (.int .u8 b14), .v (.int .u8 b15)]], [] => K (.v (.bool (decide (a0 = b0 ∧ a1 = b1 ∧ a2 = b2 ∧ a3 = b3 ∧ a4 = b4 ∧ a5 = b5 ∧ a6 = b6 ∧ a7 = b7 ∧ a8 = b8 ∧ a9 = b9 ∧ a10 = b10 ∧ a11 = b11 ∧ a12 = b12 ∧ a13 = b13 ∧ a14 = b14 ∧ a15 = b15)))) [] 0
  | _, _ => False⟩
theorem spEqA16_t {L : Hp} {a : List AVal} : Spec.take spEqA16 L a = [] := id rfl
theorem spEqA16_f {a0} {a1} {a2} {a3} {a4} {a5} {a6} {a7} {a8} {a9} {a10} {a11} {a12} {a13} {a14} {a15} {b0} {b1} {b2} {b3} {b4} {b5} {b6} {b7} {b8} {b9} {b10} {b11} {b12} {b13} {b14} {b15} {K : AVal → Hp → Nat → Prop} : Spec.f spEqA16 ([.agg [.v (.int .u8 a0), .v (.int .u8 a1), .v (.int .u8 a2), .v (.int .u8 a3), .v (.int .u8 a4), .v (.int .u8 a5), .v (.int .u8 a6), .v (.int .u8 a7), .v (.int .u8 a8), .v (.int .u8 a9), .v (.int .u8 a10), .v (.int .u8 a11), .v (.int .u8 a12), .v (.int .u8 a13), .v (.int .u8 a14), .v (.int .u8 a15)], .agg [.v (.int .u8 b0), .v (.int .u8 b1), .v (.int .u8 b2), .v (.int .u8 b3), .v (.int .u8 b4), .v (.int .u8 b5), .v (.int .u8 b6), .v (.int .u8 b7), .v (.int .u8 b8), .v (.int .u8 b9), .v (.int .u8 b10), .v (.int .u8 b11), .v (.int .u8 b12), .v (.int .u8 b13), .v (.int .u8 b14), .v (.int .u8 b15)]]) ([]) K = (K (.v (.bool (decide (a0 = b0 ∧ a1 = b1 ∧ a2 = b2 ∧ a3 = b3 ∧ a4 = b4 ∧ a5 = b5 ∧ a6 = b6 ∧ a7 = b7 ∧ a8 = b8 ∧ a9 = b9 ∧ a10 = b10 ∧ a11 = b11 ∧ a12 = b12 ∧ a13 = b13 ∧ a14 = b14 ∧ a15 = b15)))) [] 0) := id rfl
theorem valid12 : Valid Try.prog 12 spEqA16 := by
  refine validI (Γ := lk []) Try.func12 bod12 low12 res12 (good_of trivial) ?_
  intro E args objs K h hE hG hP
  simp only [spEqA16] at h
  split at h
  · refine ⟨by simp [Try.ntmps12], ?_⟩
    rename_i a0 a1 a2 a3 a4 a5 a6 a7 a8 a9 a10 a11 a12 a13 a14 a15 b0 b1 b2 b3 b4 b5 b6 b7 b8 b9 b10 b11 b12 b13 b14 b15
    simp (config := { maxSteps := 2000000 }) only [go_sem, hG, hP, Nat.reduceEqDiff, ↓reduceIte, reduceCtorEq, Nat.reduceAdd, Nat.reduceSub, Nat.reduceMul, Nat.reduceLT, Nat.reduceLeDiff, Int.reduceAdd, Int.reduceSub, Int.reduceMul, Int.reduceLT, Int.reduceLE, Int.reduceEq, Int.reduceNeg, Int.reduceNe, Int.reduceGE, Int.reduceGT, Nat.reduceBEq, Int.reduceToNat]
    refine unrollI hE [(), (), (), (), (), (), (), (), (), (), (), (), (), (), (), (), ()] ?_
    simp (config := { maxSteps := 2000000 }) only [go_sem, hG, hP, Nat.reduceEqDiff, ↓reduceIte, reduceCtorEq, Nat.reduceAdd, Nat.reduceSub, Nat.reduceMul, Nat.reduceLT, Nat.reduceLeDiff, Int.reduceAdd, Int.reduceSub, Int.reduceMul, Int.reduceLT, Int.reduceLE, Int.reduceEq, Int.reduceNeg, Int.reduceNe, Int.reduceGE, Int.reduceGT, Nat.reduceBEq, Int.reduceToNat]
    repeat' (first | intro _ | refine And.intro ?_ ?_)
    rotate_right
    · refine ⟨_, _, _, ?_, h⟩
      clear h
      simp (config := { maxSteps := 2000000 }) only [go_sem, hG, hP, Nat.reduceEqDiff, ↓reduceIte, reduceCtorEq, Nat.reduceAdd, Nat.reduceSub, Nat.reduceMul, Nat.reduceLT, Nat.reduceLeDiff, Int.reduceAdd, Int.reduceSub, Int.reduceMul, Int.reduceLT, Int.reduceLE, Int.reduceEq, Int.reduceNeg, Int.reduceNe, Int.reduceGE, Int.reduceGT, Nat.reduceBEq, Int.reduceToNat]
      exact congrArg Value.bool (decide_eq_true (by repeat' (first | exact Decidable.not_not.1 (by assumption) | refine And.intro ?_ ?_))).symm
    all_goals
      refine ⟨_, _, _, ?_, h⟩
      clear h
      simp (config := { maxSteps := 2000000 }) only [go_sem, hG, hP, Nat.reduceEqDiff, ↓reduceIte, reduceCtorEq, Nat.reduceAdd, Nat.reduceSub, Nat.reduceMul, Nat.reduceLT, Nat.reduceLeDiff, Int.reduceAdd, Int.reduceSub, Int.reduceMul, Int.reduceLT, Int.reduceLE, Int.reduceEq, Int.reduceNeg, Int.reduceNe, Int.reduceGE, Int.reduceGT, Nat.reduceBEq, Int.reduceToNat]
      simp [*]
  · exact h.elim
end Go.Proofs.YtfjfaajdbomhbaaE

/-! The code of a function, in the engine's words. -/
namespace Go.Proofs.YtfjfaajdbomhbaaE
open Go Go.RowKit
@[reducible] def ic4 : IC := (.seq (.ops [⟨some 4, .mov (.const (.bool false)), none⟩]) (.seq (.seq (.ops [⟨some 10, .mov (.tmp 0), none⟩, ⟨some 11, .len (.tmp 10), none⟩, ⟨some 12, .bin .gtr (.tmp 11) (.const (.int .i64 1048576)), none⟩]) (.cond (.tmp 12) (.seq (.ops [⟨some 4, .mov (.const (.bool true)), none⟩]) .ret) .skip)) (.seq (.ops [⟨some 14, .mov (.tmp 0), none⟩, ⟨some 15, .call 14 [(.tmp 14)], none⟩, ⟨some 16, .mov (.tmp 1), none⟩, ⟨some 17, .call 13 [(.tmp 15), (.tmp 16)], none⟩, ⟨some 13, .mov (.tmp 17), none⟩, ⟨some 18, .ext (.tmp 13) 0, none⟩, ⟨some 19, .ext (.tmp 13) 1, none⟩, ⟨some 5, .new [(.int .u8 0), (.int .u8 0), (.int .u8 0), (.int .u8 0), (.int .u8 0), (.int .u8 0), (.int .u8 0), (.int .u8 0), (.int .u8 0), (.int .u8 0), (.int .u8 0), (.int .u8 0), (.int .u8 0), (.int .u8 0), (.int .u8 0), (.int .u8 0)], none⟩, ⟨none, .store 16 (.tmp 5) (.tmp 18), none⟩, ⟨some 6, .mov (.tmp 19), none⟩]) (.seq (.ops [⟨some 20, .mov (.tmp 0), none⟩, ⟨some 21, .call 14 [(.tmp 20)], none⟩, ⟨some 7, .mov (.tmp 21), none⟩]) (.seq (.ops [⟨some 23, .mov (.tmp 7), none⟩, ⟨some 24, .mov (.tmp 1), none⟩, ⟨some 25, .call 15 [(.tmp 23), (.tmp 24)], none⟩, ⟨some 22, .mov (.tmp 25), none⟩, ⟨some 26, .ext (.tmp 22) 0, none⟩, ⟨some 27, .ext (.tmp 22) 1, none⟩, ⟨some 8, .new [(.int .u8 0), (.int .u8 0), (.int .u8 0), (.int .u8 0), (.int .u8 0), (.int .u8 0), (.int .u8 0), (.int .u8 0), (.int .u8 0), (.int .u8 0), (.int .u8 0), (.int .u8 0), (.int .u8 0), (.int .u8 0), (.int .u8 0), (.int .u8 0)], none⟩, ⟨none, .store 16 (.tmp 8) (.tmp 26), none⟩, ⟨some 9, .mov (.tmp 27), none⟩]) (.seq (.seq (.ops [⟨some 28, .load 16 true (.tmp 8), none⟩, ⟨some 29, .load 16 true (.tmp 5), none⟩, ⟨some 30, .call 12 [(.tmp 28), (.tmp 29)], none⟩, ⟨some 31, .una .not (.tmp 30), none⟩, ⟨some 32, .mov (.tmp 31), none⟩, ⟨some 33, .mov (.tmp 9), some (32, false)⟩, ⟨some 34, .mov (.tmp 6), some (32, false)⟩, ⟨some 35, .beq true (.tmp 33) (.tmp 34), some (32, false)⟩, ⟨some 36, .pick (.tmp 32) (.const (.bool true)) (.tmp 35), none⟩]) (.cond (.tmp 36) (.seq (.ops [⟨some 4, .mov (.const (.bool false)), none⟩]) .ret) .skip)) (.seq (.seq (.ops [⟨some 37, .mov (.tmp 7), none⟩, ⟨some 38, .mov (.tmp 0), none⟩, ⟨some 39, .call 14 [(.tmp 38)], none⟩, ⟨some 40, .call 16 [(.tmp 37), (.tmp 39)], none⟩, ⟨some 41, .una .not (.tmp 40), none⟩]) (.cond (.tmp 41) (.seq (.ops [⟨some 4, .mov (.const (.bool false)), none⟩]) .ret) .skip)) (.seq (.ops [⟨some 4, .mov (.const (.bool true)), none⟩]) .ret))))))))
@[reducible] def rv4 : List RV := [.tmp 4]
theorem low4 : lowC Try.prog tau Try.f4.ntmps (Try.f4.body.getD .skip) = some (erase ic4) := by kernel_rfl
theorem res4 : lowR Try.prog Try.f4.results.toList = some rv4 := by kernel_rfl
theorem bod4 : Try.f4.body = some (Try.f4.body.getD .skip) := by kernel_rfl
theorem cal4 : callable Try.prog 4 = true := by kernel_rfl

end Go.Proofs.YtfjfaajdbomhbaaE

/-! The code of a function, in the engine's words. -/
namespace Go.Proofs.YtfjfaajdbomhbaaE
open Go Go.RowKit
@[reducible] def ic13 : IC := (.seq (.ops [⟨some 4, .new [(.int .u8 0), (.int .u8 0), (.int .u8 0), (.int .u8 0), (.int .u8 0), (.int .u8 0), (.int .u8 0), (.int .u8 0), (.int .u8 0), (.int .u8 0), (.int .u8 0), (.int .u8 0), (.int .u8 0), (.int .u8 0), (.int .u8 0), (.int .u8 0)], none⟩, ⟨some 5, .mov (.const (.bool false)), none⟩]) (.seq (.ops [⟨some 8, .bld [(.int .u8 0), (.int .u8 0), (.int .u8 0), (.int .u8 0), (.int .u8 0), (.int .u8 0), (.int .u8 0), (.int .u8 0), (.int .u8 0), (.int .u8 0), (.int .u8 0), (.int .u8 0), (.int .u8 0), (.int .u8 0), (.int .u8 0), (.int .u8 0)] [], none⟩, ⟨some 6, .new [(.int .u8 0), (.int .u8 0), (.int .u8 0), (.int .u8 0), (.int .u8 0), (.int .u8 0), (.int .u8 0), (.int .u8 0), (.int .u8 0), (.int .u8 0), (.int .u8 0), (.int .u8 0), (.int .u8 0), (.int .u8 0), (.int .u8 0), (.int .u8 0)], none⟩, ⟨none, .store 16 (.tmp 6) (.tmp 8), none⟩]) (.seq (.seq (.ops [⟨some 9, .mov (.tmp 1), none⟩, ⟨some 10, .bin .lss (.tmp 9) (.const (.int .i64 0)), none⟩, ⟨some 11, .mov (.tmp 10), none⟩, ⟨some 12, .mov (.tmp 1), some (11, false)⟩, ⟨some 13, .mov (.tmp 0), some (11, false)⟩, ⟨some 14, .len (.tmp 13), some (11, false)⟩, ⟨some 15, .bin .sub (.tmp 14) (.const (.int .i64 16)), some (11, false)⟩, ⟨some 16, .bin .gtr (.tmp 12) (.tmp 15), some (11, false)⟩, ⟨some 17, .pick (.tmp 11) (.const (.bool true)) (.tmp 16), none⟩]) (.cond (.tmp 17) (.seq (.ops [⟨some 18, .load 16 true (.tmp 6), none⟩, ⟨none, .store 16 (.tmp 4) (.tmp 18), none⟩, ⟨some 5, .mov (.const (.bool false)), none⟩]) .ret) .skip)) (.seq (.seq (.ops [⟨some 7, .mov (.const (.int .i64 0)), none⟩]) (.block 0 (.loop (.seq (.seq (.ops [⟨some 19, .mov (.tmp 7), none⟩, ⟨some 20, .bin .lss (.tmp 19) (.const (.int .i64 16)), none⟩]) (.cond (.tmp 20) .skip (.exit 0))) (.seq (.block 1 (.ops [⟨some 23, .mov (.tmp 7), none⟩, ⟨some 24, .mov (.tmp 0), none⟩, ⟨some 25, .mov (.tmp 1), none⟩, ⟨some 26, .mov (.tmp 7), none⟩, ⟨some 27, .bin .add (.tmp 25) (.tmp 26), none⟩, ⟨some 28, .iadr 1 (.tmp 24) (.tmp 27), none⟩, ⟨some 29, .load 1 false (.tmp 28), none⟩, ⟨some 30, .iarr 1 16 (.tmp 6) (.tmp 23), none⟩, ⟨none, .store 1 (.tmp 30) (.tmp 29), none⟩])) (.ops [⟨some 21, .mov (.tmp 7), none⟩, ⟨some 22, .bin .add (.tmp 21) (.const (.int .i64 1)), none⟩, ⟨some 7, .mov (.tmp 22), none⟩])))))) (.seq (.ops [⟨some 31, .load 16 true (.tmp 6), none⟩, ⟨none, .store 16 (.tmp 4) (.tmp 31), none⟩, ⟨some 5, .mov (.const (.bool true)), none⟩]) .ret)))))
@[reducible] def rv13 : List RV := [.cell 4 16 true, .tmp 5]
theorem low13 : lowC Try.prog tau Try.f13.ntmps (Try.f13.body.getD .skip) = some (erase ic13) := by kernel_rfl
theorem res13 : lowR Try.prog Try.f13.results.toList = some rv13 := by kernel_rfl
theorem bod13 : Try.f13.body = some (Try.f13.body.getD .skip) := by kernel_rfl
theorem cal13 : callable Try.prog 13 = true := by kernel_rfl

end Go.Proofs.YtfjfaajdbomhbaaE

/-! The code of a function, in the engine's words. -/
namespace Go.Proofs.YtfjfaajdbomhbaaE
open Go Go.RowKit
@[reducible] def ic14 : IC := (.seq (.ops [⟨some 2, .mov (.const (.slice none 0 0)), none⟩]) (.seq (.ops [⟨some 5, .mov (.tmp 0), none⟩, ⟨some 6, .len (.tmp 5), none⟩, ⟨some 7, .mk .byte 1 (.tmp 6) (.tmp 6), none⟩, ⟨some 3, .mov (.tmp 7), none⟩]) (.seq (.seq (.ops [⟨some 4, .mov (.const (.int .i64 0)), none⟩]) (.block 0 (.loop (.seq (.seq (.ops [⟨some 8, .mov (.tmp 4), none⟩, ⟨some 9, .mov (.tmp 0), none⟩, ⟨some 10, .len (.tmp 9), none⟩, ⟨some 11, .bin .lss (.tmp 8) (.tmp 10), none⟩]) (.cond (.tmp 11) .skip (.exit 0))) (.seq (.block 1 (.ops [⟨some 14, .mov (.tmp 3), none⟩, ⟨some 15, .mov (.tmp 4), none⟩, ⟨some 16, .mov (.tmp 0), none⟩, ⟨some 17, .mov (.tmp 4), none⟩, ⟨some 18, .iadr 1 (.tmp 16) (.tmp 17), none⟩, ⟨some 19, .load 1 false (.tmp 18), none⟩, ⟨some 20, .iadr 1 (.tmp 14) (.tmp 15), none⟩, ⟨none, .store 1 (.tmp 20) (.tmp 19), none⟩])) (.ops [⟨some 12, .mov (.tmp 4), none⟩, ⟨some 13, .bin .add (.tmp 12) (.const (.int .i64 1)), none⟩, ⟨some 4, .mov (.tmp 13), none⟩])))))) (.seq (.ops [⟨some 21, .mov (.tmp 3), none⟩, ⟨some 2, .mov (.tmp 21), none⟩]) .ret))))
@[reducible] def rv14 : List RV := [.tmp 2]
theorem low14 : lowC Try.prog tau Try.f14.ntmps (Try.f14.body.getD .skip) = some (erase ic14) := by kernel_rfl
theorem res14 : lowR Try.prog Try.f14.results.toList = some rv14 := by kernel_rfl
theorem bod14 : Try.f14.body = some (Try.f14.body.getD .skip) := by kernel_rfl
theorem cal14 : callable Try.prog 14 = true := by kernel_rfl

end Go.Proofs.YtfjfaajdbomhbaaE

/-! The code of a function, in the engine's words. -/
namespace Go.Proofs.YtfjfaajdbomhbaaE
open Go Go.RowKit
@[reducible] def ic15 : IC := (.seq (.ops [⟨some 4, .new [(.int .u8 0), (.int .u8 0), (.int .u8 0), (.int .u8 0), (.int .u8 0), (.int .u8 0), (.int .u8 0), (.int .u8 0), (.int .u8 0), (.int .u8 0), (.int .u8 0), (.int .u8 0), (.int .u8 0), (.int .u8 0), (.int .u8 0), (.int .u8 0)], none⟩, ⟨some 5, .mov (.const (.bool false)), none⟩]) (.seq (.seq (.ops [⟨some 6, .mov (.tmp 1), none⟩, ⟨some 7, .bin .lss (.tmp 6) (.const (.int .i64 0)), none⟩, ⟨some 8, .mov (.tmp 7), none⟩, ⟨some 9, .mov (.tmp 1), some (8, false)⟩, ⟨some 10, .mov (.tmp 0), some (8, false)⟩, ⟨some 11, .len (.tmp 10), some (8, false)⟩, ⟨some 12, .bin .sub (.tmp 11) (.const (.int .i64 16)), some (8, false)⟩, ⟨some 13, .bin .gtr (.tmp 9) (.tmp 12), some (8, false)⟩, ⟨some 14, .pick (.tmp 8) (.const (.bool true)) (.tmp 13), none⟩]) (.cond (.tmp 14) (.seq (.ops [⟨some 15, .bld [(.int .u8 0), (.int .u8 0), (.int .u8 0), (.int .u8 0), (.int .u8 0), (.int .u8 0), (.int .u8 0), (.int .u8 0), (.int .u8 0), (.int .u8 0), (.int .u8 0), (.int .u8 0), (.int .u8 0), (.int .u8 0), (.int .u8 0), (.int .u8 0)] [], none⟩, ⟨none, .store 16 (.tmp 4) (.tmp 15), none⟩, ⟨some 5, .mov (.const (.bool false)), none⟩]) .ret) .skip)) (.seq (.ops [⟨some 16, .mov (.tmp 0), none⟩, ⟨some 17, .mov (.tmp 1), none⟩, ⟨some 18, .slc 1 (.tmp 16) (some (.tmp 17)) none, none⟩, ⟨some 19, .s2a 16 (.tmp 18), none⟩, ⟨some 20, .load 16 true (.tmp 19), none⟩, ⟨none, .store 16 (.tmp 4) (.tmp 20), none⟩, ⟨some 5, .mov (.const (.bool true)), none⟩]) .ret)))
@[reducible] def rv15 : List RV := [.cell 4 16 true, .tmp 5]
theorem low15 : lowC Try.prog tau Try.f15.ntmps (Try.f15.body.getD .skip) = some (erase ic15) := by kernel_rfl
theorem res15 : lowR Try.prog Try.f15.results.toList = some rv15 := by kernel_rfl
theorem bod15 : Try.f15.body = some (Try.f15.body.getD .skip) := by kernel_rfl
theorem cal15 : callable Try.prog 15 = true := by kernel_rfl

end Go.Proofs.YtfjfaajdbomhbaaE

/-! The code of a function, in the engine's words. -/
namespace Go.Proofs.YtfjfaajdbomhbaaE
open Go Go.RowKit
@[reducible] def ic16 : IC := (.seq (.ops [⟨some 4, .mov (.const (.bool false)), none⟩]) (.seq (.seq (.ops [⟨some 6, .mov (.tmp 0), none⟩, ⟨some 7, .len (.tmp 6), none⟩, ⟨some 8, .mov (.tmp 1), none⟩, ⟨some 9, .len (.tmp 8), none⟩, ⟨some 10, .bin .neq (.tmp 7) (.tmp 9), none⟩]) (.cond (.tmp 10) (.seq (.ops [⟨some 4, .mov (.const (.bool false)), none⟩]) .ret) .skip)) (.seq (.seq (.ops [⟨some 5, .mov (.const (.int .i64 0)), none⟩]) (.block 0 (.loop (.seq (.seq (.ops [⟨some 11, .mov (.tmp 5), none⟩, ⟨some 12, .mov (.tmp 0), none⟩, ⟨some 13, .len (.tmp 12), none⟩, ⟨some 14, .bin .lss (.tmp 11) (.tmp 13), none⟩]) (.cond (.tmp 14) .skip (.exit 0))) (.seq (.block 1 (.seq (.draw [⟨some 17, .mov (.tmp 0), none⟩, ⟨some 18, .mov (.tmp 5), none⟩, ⟨some 19, .iadr 1 (.tmp 17) (.tmp 18), none⟩, ⟨some 20, .load 1 false (.tmp 19), none⟩, ⟨some 21, .mov (.tmp 1), none⟩, ⟨some 22, .mov (.tmp 5), none⟩, ⟨some 23, .iadr 1 (.tmp 21) (.tmp 22), none⟩, ⟨some 24, .load 1 false (.tmp 23), none⟩, ⟨some 25, .bin .neq (.tmp 20) (.tmp 24), none⟩] (.held ⟨some 17, .mov (.tmp 0), none⟩ (.held ⟨some 18, .mov (.tmp 5), none⟩ (.held ⟨some 19, .iadr 1 (.tmp 17) (.tmp 18), none⟩ (.held ⟨some 20, .load 1 false (.tmp 19), none⟩ (.held ⟨some 21, .mov (.tmp 1), none⟩ (.held ⟨some 22, .mov (.tmp 5), none⟩ (.held ⟨some 23, .iadr 1 (.tmp 21) (.tmp 22), none⟩ (.held ⟨some 24, .load 1 false (.tmp 23), none⟩ (.held ⟨some 25, .bin .neq (.tmp 20) (.tmp 24), none⟩ .done)))))))))) (.cond (.tmp 25) (.seq (.ops [⟨some 4, .mov (.const (.bool false)), none⟩]) .ret) .skip))) (.ops [⟨some 15, .mov (.tmp 5), none⟩, ⟨some 16, .bin .add (.tmp 15) (.const (.int .i64 1)), none⟩, ⟨some 5, .mov (.tmp 16), none⟩])))))) (.seq (.ops [⟨some 4, .mov (.const (.bool true)), none⟩]) .ret))))
@[reducible] def rv16 : List RV := [.tmp 4]
theorem low16 : lowC Try.prog tau Try.f16.ntmps (Try.f16.body.getD .skip) = some (erase ic16) := by kernel_rfl
theorem res16 : lowR Try.prog Try.f16.results.toList = some rv16 := by kernel_rfl
theorem bod16 : Try.f16.body = some (Try.f16.body.getD .skip) := by kernel_rfl
theorem cal16 : callable Try.prog 16 = true := by kernel_rfl

end Go.Proofs.YtfjfaajdbomhbaaE

/-! Cut. -/
namespace Go.Proofs.YtfjfaajdbomhbaaE
open Go Go.RowKit
set_option linter.unusedSimpArgs false
set_option linter.unusedVariables false
set_option maxRecDepth 50000
set_option maxHeartbeats 4000000

theorem take_step {α : Type} {xs ys : List α} {k : Nat} (d : α) (h : xs.take k = ys.take k) (h1 : k < xs.length) (h2 : k < ys.length) (he : xs.getD k d = ys.getD k d) : xs.take (k + 1) = ys.take (k + 1) := by
  rw [List.take_succ_eq_append_getElem h1, List.take_succ_eq_append_getElem h2, h]
  simp [List.getD, List.getElem?_eq_getElem h1, List.getElem?_eq_getElem h2] at he
  rw [he]
theorem take_all {α : Type} {xs ys : List α} {k : Nat} (h : xs.take k = ys.take k) (hl : xs.length = ys.length) (hk : xs.length ≤ k) : xs = ys := by
  rwa [List.take_of_length_le hk, List.take_of_length_le (by omega)] at h
def spToByteS : Spec := ⟨fun _ _ => [], fun args objs K => match args, objs with
  | [.rs .byte xs], [] => xs.length ≤ 1099511627776 ∧ K (.sub 0 1 0 xs.length) [(0, .row .byte xs)] 1
  | _, _ => False⟩
theorem spToByteS_t {L : Hp} {a : List AVal} : Spec.take spToByteS L a = [] := id rfl
theorem spToByteS_f {xs} {K : AVal → Hp → Nat → Prop} : Spec.f spToByteS ([.rs .byte xs]) ([]) K = (xs.length ≤ 1099511627776 ∧ K (.sub 0 1 0 xs.length) [(0, .row .byte xs)] 1) := id rfl
theorem valid14 : Valid Try.prog 14 spToByteS := by
  refine validI (Γ := lk []) Try.func14 bod14 low14 res14 (good_of trivial) ?_
  intro E args objs K h hE hG hP
  simp only [spToByteS] at h
  split at h
  · refine ⟨by simp [Try.ntmps14], ?_⟩
    rename_i xs
    obtain ⟨hlen, h⟩ := h
    simp (config := { maxSteps := 2000000 }) only [go_sem, hG, hP, Nat.reduceEqDiff, ↓reduceIte, reduceCtorEq, Nat.reduceAdd, Nat.reduceSub, Nat.reduceMul, Nat.reduceLT, Nat.reduceLeDiff, Int.reduceAdd, Int.reduceSub, Int.reduceMul, Int.reduceLT, Int.reduceLE, Int.reduceEq, Int.reduceNeg, Int.reduceNe, Int.reduceGE, Int.reduceGT, Nat.reduceBEq, Int.reduceToNat]
    refine ⟨⟨by omega, by unfold appRoom; omega, by omega⟩, ?_⟩
    refine loopI hE (fun k : Nat => ⟨[(0, .rs .byte xs), (3, .sub 0 1 0 xs.length), (4, .v (.int .i64 k))], [(0, .row .byte (xs.take k ++ List.replicate (xs.length - k) (0 : Int)))], 1, Try.f14.ntmps⟩) (fun k => k ≤ xs.length) (fun k => xs.length - k) ⟨0, Nat.zero_le _, SubS.weak ?_⟩ ?_
    · simp (config := { maxSteps := 2000000 }) only [go_sem, hG, hP, Nat.reduceEqDiff, ↓reduceIte, reduceCtorEq, Nat.reduceAdd, Nat.reduceSub, Nat.reduceMul, Nat.reduceLT, Nat.reduceLeDiff, Int.reduceAdd, Int.reduceSub, Int.reduceMul, Int.reduceLT, Int.reduceLE, Int.reduceEq, Int.reduceNeg, Int.reduceNe, Int.reduceGE, Int.reduceGT, Nat.reduceBEq, Int.reduceToNat]
      all_goals simp
    · intro k hk
      simp (config := { maxSteps := 2000000 }) only [go_sem, hG, hP, Nat.reduceEqDiff, ↓reduceIte, reduceCtorEq, Nat.reduceAdd, Nat.reduceSub, Nat.reduceMul, Nat.reduceLT, Nat.reduceLeDiff, Int.reduceAdd, Int.reduceSub, Int.reduceMul, Int.reduceLT, Int.reduceLE, Int.reduceEq, Int.reduceNeg, Int.reduceNe, Int.reduceGE, Int.reduceGT, Nat.reduceBEq, Int.reduceToNat,  S.ev]
      (try simp (disch := omega) only [wrap_id])
      refine ⟨fun hlt => ?_, fun hge => ⟨_, _, _, ?_, h⟩⟩
      · rw [fill_len _ _ _ hk]
        repeat (refine And.intro (by first | omega | (simp; done) | (simp; omega) | (unfold appRoom; omega)) ?_)
        refine ⟨k + 1, by omega, SubS.weak ?_⟩
        simp (config := { maxSteps := 2000000 }) only [go_sem, hG, hP, Nat.reduceEqDiff, ↓reduceIte, reduceCtorEq, Nat.reduceAdd, Nat.reduceSub, Nat.reduceMul, Nat.reduceLT, Nat.reduceLeDiff, Int.reduceAdd, Int.reduceSub, Int.reduceMul, Int.reduceLT, Int.reduceLE, Int.reduceEq, Int.reduceNeg, Int.reduceNe, Int.reduceGE, Int.reduceGT, Nat.reduceBEq, Int.reduceToNat]
        rw [fill_set _ _ _ _ (by omega)]
        simp
      · simp (config := { maxSteps := 2000000 }) only [go_sem, hG, hP, Nat.reduceEqDiff, ↓reduceIte, reduceCtorEq, Nat.reduceAdd, Nat.reduceSub, Nat.reduceMul, Nat.reduceLT, Nat.reduceLeDiff, Int.reduceAdd, Int.reduceSub, Int.reduceMul, Int.reduceLT, Int.reduceLE, Int.reduceEq, Int.reduceNeg, Int.reduceNe, Int.reduceGE, Int.reduceGT, Nat.reduceBEq, Int.reduceToNat]
        simp [show k = xs.length by omega]
  · exact h.elim
def spEqByteS : Spec := ⟨fun _ _ => [], fun args objs K => match args, objs with
  | [.rs .byte xs, .rs .byte ys], [] => (xs.length ≤ 1099511627776 ∧ ys.length ≤ 1099511627776) ∧ K (.v (.bool (decide (xs = ys)))) [] 0
  | _, _ => False⟩
theorem spEqByteS_t {L : Hp} {a : List AVal} : Spec.take spEqByteS L a = [] := id rfl
theorem spEqByteS_f {xs} {ys} {K : AVal → Hp → Nat → Prop} : Spec.f spEqByteS ([.rs .byte xs, .rs .byte ys]) ([]) K = ((xs.length ≤ 1099511627776 ∧ ys.length ≤ 1099511627776) ∧ K (.v (.bool (decide (xs = ys)))) [] 0) := id rfl
theorem valid16 : Valid Try.prog 16 spEqByteS := by
  refine validI (Γ := lk []) Try.func16 bod16 low16 res16 (good_of trivial) ?_
  intro E args objs K h hE hG hP
  simp only [spEqByteS] at h
  split at h
  · refine ⟨by simp [Try.ntmps16], ?_⟩
    rename_i xs ys
    obtain ⟨⟨hlen, hlen2⟩, h⟩ := h
    simp (config := { maxSteps := 2000000 }) only [go_sem, hG, hP, Nat.reduceEqDiff, ↓reduceIte, reduceCtorEq, Nat.reduceAdd, Nat.reduceSub, Nat.reduceMul, Nat.reduceLT, Nat.reduceLeDiff, Int.reduceAdd, Int.reduceSub, Int.reduceMul, Int.reduceLT, Int.reduceLE, Int.reduceEq, Int.reduceNeg, Int.reduceNe, Int.reduceGE, Int.reduceGT, Nat.reduceBEq, Int.reduceToNat]
    refine ⟨fun h1 => ⟨_, _, _, ?_, h⟩, fun h1 => ?_⟩
    · simp (config := { maxSteps := 2000000 }) only [go_sem, hG, hP, Nat.reduceEqDiff, ↓reduceIte, reduceCtorEq, Nat.reduceAdd, Nat.reduceSub, Nat.reduceMul, Nat.reduceLT, Nat.reduceLeDiff, Int.reduceAdd, Int.reduceSub, Int.reduceMul, Int.reduceLT, Int.reduceLE, Int.reduceEq, Int.reduceNeg, Int.reduceNe, Int.reduceGE, Int.reduceGT, Nat.reduceBEq, Int.reduceToNat]
      rw [decide_eq_false fun e => h1 (by rw [e])]
    · have hle : xs.length = ys.length := by omega
      refine loopI hE (fun k : Nat => ⟨[(0, .rs .byte xs), (1, .rs .byte ys), (5, .v (.int .i64 k))], [], 0, Try.f16.ntmps⟩) (fun k => k ≤ xs.length ∧ xs.take k = ys.take k) (fun k => xs.length - k) ⟨0, ⟨Nat.zero_le _, rfl⟩, SubS.weak ?_⟩ ?_
      · simp (config := { maxSteps := 2000000 }) only [go_sem, hG, hP, Nat.reduceEqDiff, ↓reduceIte, reduceCtorEq, Nat.reduceAdd, Nat.reduceSub, Nat.reduceMul, Nat.reduceLT, Nat.reduceLeDiff, Int.reduceAdd, Int.reduceSub, Int.reduceMul, Int.reduceLT, Int.reduceLE, Int.reduceEq, Int.reduceNeg, Int.reduceNe, Int.reduceGE, Int.reduceGT, Nat.reduceBEq, Int.reduceToNat]
        all_goals simp
      · intro k ⟨hk, hpre⟩
        simp (config := { maxSteps := 2000000 }) only [go_sem, hG, hP, Nat.reduceEqDiff, ↓reduceIte, reduceCtorEq, Nat.reduceAdd, Nat.reduceSub, Nat.reduceMul, Nat.reduceLT, Nat.reduceLeDiff, Int.reduceAdd, Int.reduceSub, Int.reduceMul, Int.reduceLT, Int.reduceLE, Int.reduceEq, Int.reduceNeg, Int.reduceNe, Int.reduceGE, Int.reduceGT, Nat.reduceBEq, Int.reduceToNat]
        (try simp (disch := omega) only [wrap_id])
        refine ⟨fun hlt => ?_, fun hge => ⟨_, _, _, ?_, h⟩⟩
        · repeat (refine And.intro (by first | omega | (simp; done) | (simp; omega) | (unfold appRoom; omega)) ?_)
          refine ⟨fun hne => ⟨_, _, _, ?_, h⟩, fun heq => ?_⟩
          · simp (config := { maxSteps := 2000000 }) only [go_sem, hG, hP, Nat.reduceEqDiff, ↓reduceIte, reduceCtorEq, Nat.reduceAdd, Nat.reduceSub, Nat.reduceMul, Nat.reduceLT, Nat.reduceLeDiff, Int.reduceAdd, Int.reduceSub, Int.reduceMul, Int.reduceLT, Int.reduceLE, Int.reduceEq, Int.reduceNeg, Int.reduceNe, Int.reduceGE, Int.reduceGT, Nat.reduceBEq, Int.reduceToNat]
            rw [decide_eq_false fun e => ?_]
            subst e
            simp at hne
          · refine ⟨k + 1, ⟨⟨by omega, take_step (0 : Int) hpre (by omega) (by omega) (by simpa using heq)⟩, by omega⟩, SubS.weak ?_⟩
            simp (config := { maxSteps := 2000000 }) only [go_sem, hG, hP, Nat.reduceEqDiff, ↓reduceIte, reduceCtorEq, Nat.reduceAdd, Nat.reduceSub, Nat.reduceMul, Nat.reduceLT, Nat.reduceLeDiff, Int.reduceAdd, Int.reduceSub, Int.reduceMul, Int.reduceLT, Int.reduceLE, Int.reduceEq, Int.reduceNeg, Int.reduceNe, Int.reduceGE, Int.reduceGT, Nat.reduceBEq, Int.reduceToNat]
            all_goals simp
        · simp (config := { maxSteps := 2000000 }) only [go_sem, hG, hP, Nat.reduceEqDiff, ↓reduceIte, reduceCtorEq, Nat.reduceAdd, Nat.reduceSub, Nat.reduceMul, Nat.reduceLT, Nat.reduceLeDiff, Int.reduceAdd, Int.reduceSub, Int.reduceMul, Int.reduceLT, Int.reduceLE, Int.reduceEq, Int.reduceNeg, Int.reduceNe, Int.reduceGE, Int.reduceGT, Nat.reduceBEq, Int.reduceToNat]
          rw [decide_eq_true (take_all hpre hle (by omega))]
  · exact h.elim
def cutOk (xs : List Int) (at_ : Int) : Prop := 0 ≤ at_ ∧ at_ ≤ (xs.length : Int) - 16
instance (xs : List Int) (at_ : Int) : Decidable (cutOk xs at_) := by unfold cutOk; infer_instance
def cutX (xs : List Int) (at_ i : Int) : Int := if cutOk xs at_ then xs.getD (at_ + i).toNat 0 else 0
theorem cutX_no {xs : List Int} {at_ i : Int} (h : ¬ cutOk xs at_) : cutX xs at_ i = 0 := if_neg h
theorem cutX_yes {xs : List Int} {at_ i : Int} (h : cutOk xs at_) : cutX xs at_ i = xs.getD (at_ + i).toNat 0 := if_pos h
def spCut : Spec := ⟨fun _ _ => [], fun args objs K => match args, objs with
  | [.rs .byte xs, .v (.int .i64 at_)], [] => xs.length ≤ 1099511627776 ∧ K (.tup [.agg [.v (.int .u8 (cutX xs at_ 0)), .v (.int .u8 (cutX xs at_ 1)), .v (.int .u8 (cutX xs at_ 2)), .v (.int .u8 (cutX xs at_ 3)), .v (.int .u8 (cutX xs at_ 4)), .v (.int .u8 (cutX xs at_ 5)), .v (.int .u8 (cutX xs at_ 6)), .v (.int .u8 (cutX xs at_ 7)), .v (.int .u8 (cutX xs at_ 8)), .v (.int .u8 (cutX xs at_ 9)), .v (.int .u8 (cutX xs at_ 10)), .v (.int .u8 (cutX xs at_ 11)), .v (.int .u8 (cutX xs at_ 12)), .v (.int .u8 (cutX xs at_ 13)), .v (.int .u8 (cutX xs at_ 14)), .v (.int .u8 (cutX xs at_ 15))], .v (.bool (decide (cutOk xs at_)))]) [] 0
  | _, _ => False⟩
theorem spCut_t {L : Hp} {a : List AVal} : Spec.take spCut L a = [] := id rfl
theorem spCut_f {xs} {at_} {K : AVal → Hp → Nat → Prop} : Spec.f spCut ([.rs .byte xs, .v (.int .i64 at_)]) ([]) K = (xs.length ≤ 1099511627776 ∧ K (.tup [.agg [.v (.int .u8 (cutX xs at_ 0)), .v (.int .u8 (cutX xs at_ 1)), .v (.int .u8 (cutX xs at_ 2)), .v (.int .u8 (cutX xs at_ 3)), .v (.int .u8 (cutX xs at_ 4)), .v (.int .u8 (cutX xs at_ 5)), .v (.int .u8 (cutX xs at_ 6)), .v (.int .u8 (cutX xs at_ 7)), .v (.int .u8 (cutX xs at_ 8)), .v (.int .u8 (cutX xs at_ 9)), .v (.int .u8 (cutX xs at_ 10)), .v (.int .u8 (cutX xs at_ 11)), .v (.int .u8 (cutX xs at_ 12)), .v (.int .u8 (cutX xs at_ 13)), .v (.int .u8 (cutX xs at_ 14)), .v (.int .u8 (cutX xs at_ 15))], .v (.bool (decide (cutOk xs at_)))]) [] 0) := id rfl
theorem valid13 : Valid Try.prog 13 spCut := by
  refine validI (Γ := lk []) Try.func13 bod13 low13 res13 (good_of trivial) ?_
  intro E args objs K h hE hG hP
  simp only [spCut] at h
  split at h
  · refine ⟨by simp [Try.ntmps13], ?_⟩
    rename_i xs at_
    obtain ⟨b1, h⟩ := h
    have hw : wr .i64 ((xs.length : Int) - 16) = (xs.length : Int) - 16 := wrap_id (by omega) (by omega)
    by_cases h0 : at_ < 0
    · have hno : ¬ cutOk xs at_ := fun e => by unfold cutOk at e; omega
      simp only [cutX_no hno, decide_eq_false hno] at h
      simp (config := { maxSteps := 2000000 }) only [go_sem, hG, hP, Nat.reduceEqDiff, ↓reduceIte, reduceCtorEq, Nat.reduceAdd, Nat.reduceSub, Nat.reduceMul, Nat.reduceLT, Nat.reduceLeDiff, Int.reduceAdd, Int.reduceSub, Int.reduceMul, Int.reduceLT, Int.reduceLE, Int.reduceEq, Int.reduceNeg, Int.reduceNe, Int.reduceGE, Int.reduceGT, Nat.reduceBEq, Int.reduceToNat,  h0]
      refine ⟨_, _, _, ?_, h⟩
      simp (config := { maxSteps := 2000000 }) only [go_sem, hG, hP, Nat.reduceEqDiff, ↓reduceIte, reduceCtorEq, Nat.reduceAdd, Nat.reduceSub, Nat.reduceMul, Nat.reduceLT, Nat.reduceLeDiff, Int.reduceAdd, Int.reduceSub, Int.reduceMul, Int.reduceLT, Int.reduceLE, Int.reduceEq, Int.reduceNeg, Int.reduceNe, Int.reduceGE, Int.reduceGT, Nat.reduceBEq, Int.reduceToNat]
      all_goals simp
    · by_cases h1 : at_ > (xs.length : Int) - 16
      · have hno : ¬ cutOk xs at_ := fun e => by unfold cutOk at e; omega
        simp only [cutX_no hno, decide_eq_false hno] at h
        simp (config := { maxSteps := 2000000 }) only [go_sem, hG, hP, Nat.reduceEqDiff, ↓reduceIte, reduceCtorEq, Nat.reduceAdd, Nat.reduceSub, Nat.reduceMul, Nat.reduceLT, Nat.reduceLeDiff, Int.reduceAdd, Int.reduceSub, Int.reduceMul, Int.reduceLT, Int.reduceLE, Int.reduceEq, Int.reduceNeg, Int.reduceNe, Int.reduceGE, Int.reduceGT, Nat.reduceBEq, Int.reduceToNat,  h0, hw, h1]
        refine ⟨_, _, _, ?_, h⟩
        simp (config := { maxSteps := 2000000 }) only [go_sem, hG, hP, Nat.reduceEqDiff, ↓reduceIte, reduceCtorEq, Nat.reduceAdd, Nat.reduceSub, Nat.reduceMul, Nat.reduceLT, Nat.reduceLeDiff, Int.reduceAdd, Int.reduceSub, Int.reduceMul, Int.reduceLT, Int.reduceLE, Int.reduceEq, Int.reduceNeg, Int.reduceNe, Int.reduceGE, Int.reduceGT, Nat.reduceBEq, Int.reduceToNat]
        all_goals simp
      · have hok : cutOk xs at_ := by unfold cutOk; omega
        simp only [cutX_yes hok, decide_eq_true hok] at h
        simp (config := { maxSteps := 2000000 }) only [go_sem, hG, hP, Nat.reduceEqDiff, ↓reduceIte, reduceCtorEq, Nat.reduceAdd, Nat.reduceSub, Nat.reduceMul, Nat.reduceLT, Nat.reduceLeDiff, Int.reduceAdd, Int.reduceSub, Int.reduceMul, Int.reduceLT, Int.reduceLE, Int.reduceEq, Int.reduceNeg, Int.reduceNe, Int.reduceGE, Int.reduceGT, Nat.reduceBEq, Int.reduceToNat,  h0, hw, h1]
        refine unrollI hE [(), (), (), (), (), (), (), (), (), (), (), (), (), (), (), (), ()] ?_
        simp (config := { maxSteps := 2000000 }) only [go_sem, hG, hP, Nat.reduceEqDiff, ↓reduceIte, reduceCtorEq, Nat.reduceAdd, Nat.reduceSub, Nat.reduceMul, Nat.reduceLT, Nat.reduceLeDiff, Int.reduceAdd, Int.reduceSub, Int.reduceMul, Int.reduceLT, Int.reduceLE, Int.reduceEq, Int.reduceNeg, Int.reduceNe, Int.reduceGE, Int.reduceGT, Nat.reduceBEq, Int.reduceToNat]
        (try simp (disch := omega) only [wrap_id])
        repeat (refine And.intro (by first | omega | (simp; done) | (simp; omega) | (unfold appRoom; omega)) ?_)
        refine ⟨_, _, _, ?_, h⟩
        simp (config := { maxSteps := 2000000 }) only [go_sem, hG, hP, Nat.reduceEqDiff, ↓reduceIte, reduceCtorEq, Nat.reduceAdd, Nat.reduceSub, Nat.reduceMul, Nat.reduceLT, Nat.reduceLeDiff, Int.reduceAdd, Int.reduceSub, Int.reduceMul, Int.reduceLT, Int.reduceLE, Int.reduceEq, Int.reduceNeg, Int.reduceNe, Int.reduceGE, Int.reduceGT, Nat.reduceBEq, Int.reduceToNat]
        all_goals simp
  · exact h.elim
theorem cut_list {xs : List Int} {at_ : Int} (h : cutOk xs at_) : ((xs.drop at_.toNat).take ((xs.length : Int) - at_).toNat).take 16 = [xs.getD (at_ + 0).toNat 0, xs.getD (at_ + 1).toNat 0, xs.getD (at_ + 2).toNat 0, xs.getD (at_ + 3).toNat 0, xs.getD (at_ + 4).toNat 0, xs.getD (at_ + 5).toNat 0, xs.getD (at_ + 6).toNat 0, xs.getD (at_ + 7).toNat 0, xs.getD (at_ + 8).toNat 0, xs.getD (at_ + 9).toNat 0, xs.getD (at_ + 10).toNat 0, xs.getD (at_ + 11).toNat 0, xs.getD (at_ + 12).toNat 0, xs.getD (at_ + 13).toNat 0, xs.getD (at_ + 14).toNat 0, xs.getD (at_ + 15).toNat 0] := by
  unfold cutOk at h
  have e : ((xs.drop at_.toNat).take ((xs.length : Int) - at_).toNat).take 16 = (List.range 16).map fun i : Nat => xs.getD (at_ + (i : Int)).toNat 0 := by
    apply List.ext_getElem?
    intro i
    simp only [List.getElem?_take, List.getElem?_drop, List.getElem?_map, List.getElem?_range]
    by_cases hi : i < 16
    · have e1 : (at_ + (i : Int)).toNat = at_.toNat + i := by omega
      have e2 : at_.toNat + i < xs.length := by omega
      rw [if_pos hi, if_pos (by omega), List.getElem?_range hi, Option.map_some, e1, List.getD_eq_getElem?_getD, List.getElem?_eq_getElem e2]
      rfl
    · rw [if_neg hi]
      simp [hi]
  rw [e]
  rfl
theorem valid15 : Valid Try.prog 15 spCut := by
  refine validI (Γ := lk []) Try.func15 bod15 low15 res15 (good_of trivial) ?_
  intro E args objs K h hE hG hP
  simp only [spCut] at h
  split at h
  · refine ⟨by simp [Try.ntmps15], ?_⟩
    rename_i xs at_
    obtain ⟨b1, h⟩ := h
    have hw : wr .i64 ((xs.length : Int) - 16) = (xs.length : Int) - 16 := wrap_id (by omega) (by omega)
    by_cases h0 : at_ < 0
    · have hno : ¬ cutOk xs at_ := fun e => by unfold cutOk at e; omega
      simp only [cutX_no hno, decide_eq_false hno] at h
      simp (config := { maxSteps := 2000000 }) only [go_sem, hG, hP, Nat.reduceEqDiff, ↓reduceIte, reduceCtorEq, Nat.reduceAdd, Nat.reduceSub, Nat.reduceMul, Nat.reduceLT, Nat.reduceLeDiff, Int.reduceAdd, Int.reduceSub, Int.reduceMul, Int.reduceLT, Int.reduceLE, Int.reduceEq, Int.reduceNeg, Int.reduceNe, Int.reduceGE, Int.reduceGT, Nat.reduceBEq, Int.reduceToNat,  h0]
      refine ⟨_, _, _, ?_, h⟩
      simp (config := { maxSteps := 2000000 }) only [go_sem, hG, hP, Nat.reduceEqDiff, ↓reduceIte, reduceCtorEq, Nat.reduceAdd, Nat.reduceSub, Nat.reduceMul, Nat.reduceLT, Nat.reduceLeDiff, Int.reduceAdd, Int.reduceSub, Int.reduceMul, Int.reduceLT, Int.reduceLE, Int.reduceEq, Int.reduceNeg, Int.reduceNe, Int.reduceGE, Int.reduceGT, Nat.reduceBEq, Int.reduceToNat]
      all_goals simp
    · by_cases h1 : at_ > (xs.length : Int) - 16
      · have hno : ¬ cutOk xs at_ := fun e => by unfold cutOk at e; omega
        simp only [cutX_no hno, decide_eq_false hno] at h
        simp (config := { maxSteps := 2000000 }) only [go_sem, hG, hP, Nat.reduceEqDiff, ↓reduceIte, reduceCtorEq, Nat.reduceAdd, Nat.reduceSub, Nat.reduceMul, Nat.reduceLT, Nat.reduceLeDiff, Int.reduceAdd, Int.reduceSub, Int.reduceMul, Int.reduceLT, Int.reduceLE, Int.reduceEq, Int.reduceNeg, Int.reduceNe, Int.reduceGE, Int.reduceGT, Nat.reduceBEq, Int.reduceToNat,  h0, hw, h1]
        refine ⟨_, _, _, ?_, h⟩
        simp (config := { maxSteps := 2000000 }) only [go_sem, hG, hP, Nat.reduceEqDiff, ↓reduceIte, reduceCtorEq, Nat.reduceAdd, Nat.reduceSub, Nat.reduceMul, Nat.reduceLT, Nat.reduceLeDiff, Int.reduceAdd, Int.reduceSub, Int.reduceMul, Int.reduceLT, Int.reduceLE, Int.reduceEq, Int.reduceNeg, Int.reduceNe, Int.reduceGE, Int.reduceGT, Nat.reduceBEq, Int.reduceToNat]
        all_goals simp
      · have hok : cutOk xs at_ := by unfold cutOk; omega
        simp only [cutX_yes hok, decide_eq_true hok] at h
        simp (config := { maxSteps := 2000000 }) only [go_sem, hG, hP, Nat.reduceEqDiff, ↓reduceIte, reduceCtorEq, Nat.reduceAdd, Nat.reduceSub, Nat.reduceMul, Nat.reduceLT, Nat.reduceLeDiff, Int.reduceAdd, Int.reduceSub, Int.reduceMul, Int.reduceLT, Int.reduceLE, Int.reduceEq, Int.reduceNeg, Int.reduceNe, Int.reduceGE, Int.reduceGT, Nat.reduceBEq, Int.reduceToNat,  h0, hw, h1, cut_list hok]
        repeat (refine And.intro (by first | omega | (simp; done) | (simp; omega) | (unfold appRoom; omega)) ?_)
        refine ⟨_, _, _, ?_, h⟩
        simp (config := { maxSteps := 2000000 }) only [go_sem, hG, hP, Nat.reduceEqDiff, ↓reduceIte, reduceCtorEq, Nat.reduceAdd, Nat.reduceSub, Nat.reduceMul, Nat.reduceLT, Nat.reduceLeDiff, Int.reduceAdd, Int.reduceSub, Int.reduceMul, Int.reduceLT, Int.reduceLE, Int.reduceEq, Int.reduceNeg, Int.reduceNe, Int.reduceGE, Int.reduceGT, Nat.reduceBEq, Int.reduceToNat]
        all_goals simp
  · exact h.elim
def spLaw4 : Spec := ⟨fun _ _ => [], fun args objs K => match args, objs with
  | [.rs .byte xs, .v (.int .i64 at_)], [] => K (.v (.bool true)) [] 0
  | _, _ => False⟩
theorem spLaw4_t {L : Hp} {a : List AVal} : Spec.take spLaw4 L a = [] := id rfl
theorem spLaw4_f {xs} {at_} {K : AVal → Hp → Nat → Prop} : Spec.f spLaw4 ([.rs .byte xs, .v (.int .i64 at_)]) ([]) K = (K (.v (.bool true)) [] 0) := id rfl
theorem valid4 : Valid Try.prog 4 spLaw4 := by
  refine validI (Γ := lk [(12, spEqA16), (13, spCut), (14, spToByteS), (15, spCut), (16, spEqByteS)]) Try.func4 bod4 low4 res4 (good_of ⟨⟨cal12, valid12⟩, ⟨cal13, valid13⟩, ⟨cal14, valid14⟩, ⟨cal15, valid15⟩, ⟨cal16, valid16⟩, trivial⟩) ?_
  intro E args objs K h hE hG hP
  simp only [spLaw4] at h
  split at h
  · refine ⟨by simp [Try.ntmps4], ?_⟩
    rename_i xs at_
    simp (config := { maxSteps := 2000000 }) only [go_sem, hG, hP, Nat.reduceEqDiff, ↓reduceIte, reduceCtorEq, Nat.reduceAdd, Nat.reduceSub, Nat.reduceMul, Nat.reduceLT, Nat.reduceLeDiff, Int.reduceAdd, Int.reduceSub, Int.reduceMul, Int.reduceLT, Int.reduceLE, Int.reduceEq, Int.reduceNeg, Int.reduceNe, Int.reduceGE, Int.reduceGT, Nat.reduceBEq, Int.reduceToNat,  spEqA16, spCut, spToByteS, spEqByteS, show ∀ b : Bool, (b == b) = true from fun b => by simp]
    refine ⟨fun h1 => ⟨_, _, _, ?_, h⟩, fun h1 => ?_⟩
    · simp (config := { maxSteps := 2000000 }) only [go_sem, hG, hP, Nat.reduceEqDiff, ↓reduceIte, reduceCtorEq, Nat.reduceAdd, Nat.reduceSub, Nat.reduceMul, Nat.reduceLT, Nat.reduceLeDiff, Int.reduceAdd, Int.reduceSub, Int.reduceMul, Int.reduceLT, Int.reduceLE, Int.reduceEq, Int.reduceNeg, Int.reduceNe, Int.reduceGE, Int.reduceGT, Nat.reduceBEq, Int.reduceToNat]
    repeat (refine And.intro (by first | omega | (simp; done) | (simp; omega) | (unfold appRoom; omega)) ?_)
    refine ⟨_, _, _, ?_, h⟩
    simp (config := { maxSteps := 2000000 }) only [go_sem, hG, hP, Nat.reduceEqDiff, ↓reduceIte, reduceCtorEq, Nat.reduceAdd, Nat.reduceSub, Nat.reduceMul, Nat.reduceLT, Nat.reduceLeDiff, Int.reduceAdd, Int.reduceSub, Int.reduceMul, Int.reduceLT, Int.reduceLE, Int.reduceEq, Int.reduceNeg, Int.reduceNe, Int.reduceGE, Int.reduceGT, Nat.reduceBEq, Int.reduceToNat]
    all_goals simp
  · exact h.elim
end Go.Proofs.YtfjfaajdbomhbaaE

/-! What an argument of a law reads as, in the engine's words; and what a proved function gives a law. -/
namespace Go.Proofs.YtfjfaajdbomhbaaE
open Go Go.RowKit Go.ChangeShapes Go.WideShapes
set_option linter.unusedSimpArgs false
set_option linter.unusedVariables false

def nm0 : Nm := fun _ => none
def noC : Nat → Prop := fun _ => False
/-- What type t's data read as, by d; ok: what is known of it. -/
def Tells (P : Program) (t : TypeId) {α : Type} (n : Nat) (d : α → List AVal) (ok : α → Prop) : Prop :=
  ∀ (H : Type) (enc : TypeId × Value → H) (W : World) (base : Nat) (spare : Nat → Bool) (held : Bool) (fuel : Nat) (cs : List Value) (x : DataW H × List MemPlace),
    DataW.trod enc P W base spare held fuel t cs = some x → (∀ b ∈ x.1.weights P t, b ≤ reachBytes) → ∃ y : α, (DenL W noC nm0 (d y) cs ∧ cs.length = n) ∧ ok y
def TellsF (P : Program) (fs : List Field) (off : Nat) {α : Type} (n : Nat) (d : α → List AVal) (ok : α → Prop) : Prop :=
  ∀ (H : Type) (enc : TypeId × Value → H) (W : World) (base : Nat) (spare : Nat → Bool) (held : Bool) (fuel : Nat) (cs : List Value) (xs : List (DataW H × List MemPlace)),
    (∀ (i : Nat) (f : Field), fs[i]? = some f → DataW.trod enc P W base spare held fuel f.type ((cs.drop f.offset).take (P.cellsOf f.type)) = xs[i]?) → xs.length = fs.length → cs.length = off + n →
    (∀ (i : Nat) (f : Field) x, fs[i]? = some f → xs[i]? = some x → ∀ b ∈ x.1.weights P f.type, b ≤ reachBytes) → ∃ y : α, (DenL W noC nm0 (d y) (cs.drop off)) ∧ ok y

theorem den1 {W : World} (v : Value) : DenL W noC nm0 [.v v] [v] := DenL.cons (.v v) .nil
theorem Tells.int {P : Program} {t : TypeId} {k : IntKind} (ht : P.underlying t = some (.int k)) : Tells P t 1 (fun n : Int => [.v (.int k n)]) (fun n => (Lit.int k n).wf = true) := by
  intro H enc W base spare held fuel cs x h _
  cases fuel with
  | zero => simp [DataW.trod] at h
  | succ m =>
    unfold DataW.trod at h
    rw [ht] at h
    split at h <;> simp_all
    obtain ⟨⟨_, h1⟩, _⟩ := h
    exact ⟨_, den1 _, h1⟩
theorem Tells.bool {P : Program} {t : TypeId} (ht : P.underlying t = some .bool) : Tells P t 1 (fun b : Bool => [.v (.bool b)]) (fun _ => True) := by
  intro H enc W base spare held fuel cs x h _
  cases fuel with
  | zero => simp [DataW.trod] at h
  | succ m =>
    unfold DataW.trod at h
    rw [ht] at h
    split at h <;> simp_all
    rename_i b
    cases b
    · exact .inl (den1 _)
    · exact .inr (den1 _)
theorem Tells.string {P : Program} {t : TypeId} (ht : P.underlying t = some .string) : Tells P t 1 (fun s : ByteArray => [.v (.string s)]) (fun s => s.size ≤ 140737488351232) := by
  intro H enc W base spare held fuel cs x h hw
  cases fuel with
  | zero => simp [DataW.trod] at h
  | succ m =>
    unfold DataW.trod at h
    rw [ht] at h
    split at h <;> simp_all
    obtain ⟨_, h2⟩ := h
    subst h2
    refine ⟨_, den1 _, ?_⟩
    have := hw _ (by simp only [DataW.weights]; exact List.mem_singleton.2 rfl)
    rw [Array.length_toList] at this
    exact this
theorem weights_all {H : Type} {P : Program} {e : TypeId} {ds : List (DataW H)} {d : DataW H} (hd : d ∈ ds) {b : Nat} (hb : b ∈ d.weights P e) : b ∈ DataW.weightsAll P e ds := by
  induction ds with
  | nil => cases hd
  | cons a r ih =>
    simp only [DataW.weightsAll, List.mem_append]
    rcases List.mem_cons.1 hd with rfl | hd
    · exact .inl hb
    · exact .inr (ih hd)
theorem Tells.slice {P : Program} {t e : TypeId} (ht : P.underlying t = some (.slice e)) {τ : Ty} {ok : τ.D → Prop} (he : Tells P e (sz τ) (enc τ) ok) (hs : P.cellsOf e = sz τ) {B : Nat} (hB : P.bytesOf e = B) :
    Tells P t 1 (fun xs : List τ.D => [.rs τ xs]) (fun xs => xs.length * B ≤ 140737488351232 ∧ xs.length ≤ maxLen ∧ ∀ x ∈ xs, ok x) := by
  intro H enc' W base spare held fuel cs x h hw
  rcases Go.Deep.open_slice ht h with ⟨rfl, rfl⟩ | ⟨a, len, cap, m, n, D, Pl, rfl, hb, hl, hm, hmm, rfl, hx⟩
  · exact ⟨[], ⟨DenL.cons (Den.rs (t := τ) (xs := []) (A := none) (c := 0) (fun _ => undef) (.inl (by simp)) (Nat.le_refl _) (fun i f x av hx => by simp at hx)) .nil, rfl⟩, by simp [maxLen]⟩
  · have hlm : len ≤ m := by rw [hmm]; split <;> omega
    have hel : ∀ i, i < len → ∃ y : τ.D, (∃ c, W.cells? base (a.add (i * P.cellsOf e)) (P.cellsOf e) = some c ∧ (DenL W noC nm0 (enc τ y) c ∧ c.length = sz τ)) ∧ ok y := by
      intro i hi
      obtain ⟨c, hc, hd⟩ := hx i (by omega)
      obtain ⟨y, hy, hok⟩ := he H enc' W base spare held n c _ hd (fun b hb => hw b (by
        simp only [DataW.weights, ht, List.mem_cons, List.mem_append]
        exact .inr (.inl (weights_all (List.mem_map.2 ⟨i, List.mem_range.2 hi, rfl⟩) hb))))
      exact ⟨y, ⟨c, hc, hy⟩, hok⟩
    have : Inhabited τ.D := ⟨dflt τ⟩
    obtain ⟨f, hf⟩ := Go.Deep.choose_lt hel
    have hlen : ((List.range len).map f).length = len := by simp
    have hcell : ∀ i, i < len → ∃ c, DenL W noC nm0 (enc τ (f i)) c ∧ c.length = sz τ ∧ ∀ j, j < sz τ → W.cell? (a.add (i * sz τ + j)) = c[j]? := by
      intro i hi
      obtain ⟨⟨c, hc, hd, hcl⟩, _⟩ := hf i hi
      refine ⟨c, hd, hcl, fun j hj => ?_⟩
      have hc' := World.cells?_some hc
      rw [hs] at hc'
      have := hc'.2.2 j hj
      rw [← this, Go.Deep.add_add]
    have hall : ∀ k, k < len * sz τ → ∃ u, W.cell? (a.add k) = some u := by
      intro k hk
      have hz := sz_pos τ
      have hi : k / sz τ < len := Nat.div_lt_of_lt_mul (by rw [Nat.mul_comm]; exact hk)
      have hj : k % sz τ < sz τ := Nat.mod_lt _ hz
      obtain ⟨c, _, hcl, hc⟩ := hcell _ hi
      refine ⟨c[k % sz τ]'(by omega), ?_⟩
      have := hc _ hj
      rw [show k / sz τ * sz τ + k % sz τ = k by rw [Nat.mul_comm]; exact Nat.div_add_mod k (sz τ)] at this
      rw [this, List.getElem?_eq_getElem]
    refine ⟨(List.range len).map f, ⟨DenL.cons ?_ .nil, rfl⟩, ?_, by rw [hlen]; exact Nat.le_trans hl hm, ?_⟩
    · have key : Den W noC nm0 (.rs τ ((List.range len).map f)) (.slice (some a) ((List.range len).map f).length cap) := by
        refine .rs (fun k => (W.cell? (a.add k)).getD undef) ?_ (by rw [hlen]; exact hl) ?_
        · rw [hlen]
          rcases Nat.eq_zero_or_pos (len * sz τ) with h0 | hp
          · exact .inl h0
          · obtain ⟨u, hu⟩ := hall 0 hp
            refine .inr ⟨a, rfl, ?_, fun h => h, fun k hk => ?_⟩
            · have := World.block_lt_of_cell? _ _ hu
              simpa [Addr.add] using this
            · obtain ⟨u, hu⟩ := hall k hk
              simp [hu]
        · intro i j x av hx hav
          have hi : i < len := by
            have := (List.getElem?_eq_some_iff.1 hx).1
            rwa [hlen] at this
          have hx' : f i = x := by simpa [hi] using hx
          subst hx'
          obtain ⟨c, hd, hcl, hc⟩ := hcell i hi
          have hj : j < sz τ := by
            have := (List.getElem?_eq_some_iff.1 hav).1
            rwa [enc_length] at this
          have := hc j hj
          rw [this, List.getElem?_eq_getElem (by omega)]
          exact hd.2 j av _ hav (List.getElem?_eq_getElem (by omega))
      rw [hlen] at key
      exact key
    · rw [hlen]
      have := hw ((((List.range len).map D).length + ((List.range (m - len)).map fun j => D (len + j)).length) * P.bytesOf e) (by simp only [DataW.weights, ht]; exact List.mem_cons_self)
      rw [hB] at this
      simp only [List.length_map, List.length_range] at this
      have h2 : len * B ≤ (len + (m - len)) * B := Nat.mul_le_mul_right _ (by omega)
      unfold reachBytes at this
      omega
    · intro y hy
      obtain ⟨i, hi, rfl⟩ := List.mem_map.1 hy
      exact (hf i (List.mem_range.1 hi)).2
theorem TellsF.one {P : Program} {f : Field} {off n : Nat} {α : Type} {d : α → List AVal} {ok : α → Prop} (h : Tells P f.type n d ok) (ho : f.offset = off) (hc : P.cellsOf f.type = n) : TellsF P [f] off n d ok := by
  intro H enc W base spare held fuel cs xs hx hl hcs hw
  match xs, hl with
  | [x], _ =>
    have h0 := hx 0 f rfl
    rw [ho, hc, List.take_of_length_le (by rw [List.length_drop]; omega)] at h0
    obtain ⟨y, hy, hok⟩ := h H enc W base spare held fuel _ x h0 (hw 0 f x rfl rfl)
    exact ⟨y, hy.1, hok⟩
theorem TellsF.cons {P : Program} {f : Field} {fs : List Field} {off n n' : Nat} {α β : Type} {d : α → List AVal} {d' : β → List AVal} {ok : α → Prop} {ok' : β → Prop} (h : Tells P f.type n d ok) (ho : f.offset = off) (hc : P.cellsOf f.type = n)
    (r : TellsF P fs (off + n) n' d' ok') : TellsF P (f :: fs) off (n + n') (fun x : α × β => d x.1 ++ d' x.2) (fun x => ok x.1 ∧ ok' x.2) := by
  intro H enc W base spare held fuel cs xs hx hl hcs hw
  match xs, hl with
  | x :: xs, hl =>
    have h0 := hx 0 f rfl
    rw [ho, hc] at h0
    obtain ⟨y, hy, hok⟩ := h H enc W base spare held fuel _ x h0 (hw 0 f x rfl rfl)
    obtain ⟨y', hy', hok'⟩ := r H enc W base spare held fuel cs xs (fun i g hg => hx (i + 1) g hg) (by simpa using hl) (by omega) (fun i g z hg hz => hw (i + 1) g z hg hz)
    refine ⟨(y, y'), ?_, hok, hok'⟩
    have := hy.1.append hy'
    rw [← List.drop_drop, List.take_append_drop] at this
    exact this
theorem weights_each {H : Type} {P : Program} {fs : List Field} : ∀ {xs : List (DataW H × List MemPlace)} {i : Nat} {f : Field} {x : DataW H × List MemPlace}, fs[i]? = some f → xs[i]? = some x → ∀ b ∈ x.1.weights P f.type, b ∈ DataW.weightsEach P (fs.map (·.type)) (xs.map (·.1)) := by
  intro xs i f x hf hx b hb
  exact DataW.weights_mem_each (j := i) (t := f.type) (d := x.1) (by simp [hf]) (by simp [hx]) b hb
theorem Tells.struct {P : Program} {t : TypeId} {fs : Array Field} (ht : P.underlying t = some (.struct fs)) {α : Type} {n : Nat} {d : α → List AVal} {ok : α → Prop} (h : TellsF P fs.toList 0 n d ok) (hc : P.cellsOf t = n) : Tells P t n d ok := by
  intro H enc W base spare held fuel cs x hx hw
  obtain ⟨xs, m, _, rfl, hl, hlen, hf⟩ := DataW.trod_struct ht hx
  obtain ⟨y, hy, hok⟩ := h H enc W base spare held m cs xs (fun i f hi => hf i f (by rw [← Array.getElem?_toList]; exact hi)) (by simpa using hlen) (by omega) (fun i f x hi hx b hb => hw b (by
    simp only [DataW.weights, ht]
    exact weights_each hi hx b hb))
  exact ⟨y, ⟨by simpa using hy, by omega⟩, hok⟩
/-- An array's elements in line, as fields. -/
theorem Tells.array {P : Program} {t e : TypeId} {k : Nat} (ht : P.underlying t = some (.array k e)) {α : Type} {n : Nat} {d : α → List AVal} {ok : α → Prop} (h : TellsF P ((List.range k).map fun i => { name := "", type := e, offset := i * P.cellsOf e, embedded := false, tag := "", pkgPath := "", byteOffset := 0 }) 0 n d ok)
    (hc : P.cellsOf t = n) : Tells P t n d ok := by
  intro H enc W base spare held fuel cs x hx hw
  obtain ⟨xs, m, _, rfl, hl, hlen, hf⟩ := DataW.trod_array ht hx
  obtain ⟨y, hy, hok⟩ := h H enc W base spare held m cs xs (fun i f hi => by
      have hin : i < k := by
        rcases Nat.lt_or_ge i k with h | h
        · exact h
        · simp [h] at hi
      simp [hin] at hi
      subst hi
      exact hf i hin) (by simpa using hlen) (by omega) (fun i f x hi hx b hb => hw b (by
    have hin : i < k := by
      rcases Nat.lt_or_ge i k with h | h
      · exact h
      · simp [h] at hi
    simp [hin] at hi
    subst hi
    simp only [DataW.weights, ht]
    exact weights_all (List.mem_map.2 ⟨x, List.mem_iff_getElem?.2 ⟨i, hx⟩, rfl⟩) hb))
  exact ⟨y, ⟨by simpa using hy, by omega⟩, hok⟩
/-- The same data, told by another name. -/
theorem Tells.as {P : Program} {t : TypeId} {α β : Type} {n : Nat} {d : α → List AVal} {ok : α → Prop} (h : Tells P t n d ok) (g : α → β) (d' : β → List AVal) (hd : ∀ a, d' (g a) = d a) (ok' : β → Prop) (hok : ∀ a, ok a → ok' (g a)) : Tells P t n d' ok' := by
  intro H enc W base spare held fuel cs x hx hw
  obtain ⟨y, hy, hk⟩ := h H enc W base spare held fuel cs x hx hw
  exact ⟨g y, by rw [hd]; exact hy, hok y hk⟩
theorem okWide_agg {P : Program} {w : World} {r : Reach} {base : Nat} {t : TypeId} {v : Value} (ht : (∃ fs, P.underlying t = some (.struct fs)) ∨ ∃ n e, P.underlying t = some (.array n e)) (h : Value.okWide P w r base t v) : ∃ cs, v = .agg cs ∧ cs.size = P.cellsOf t := by
  rcases ht with ⟨fs, ht⟩ | ⟨n, e, ht⟩
  all_goals
    simp only [Value.okWide, ht] at h
    obtain ⟨cs, h1, h2, _⟩ := h
    exact ⟨cs, h1, h2⟩
section
variable {P : Program} {t : TypeId} {α : Type} {n : Nat} {d : α → List AVal} {ok : α → Prop} {H : Type} {enc : TypeId × Value → H} {W : World} {base : Nat} {spare : Nat → Bool} {held : Bool} {x : DataW H} {ps : List MemPlace} {ts : List TypeId} {ds : List (DataW H)}
/-- A struct (an array) that came in by value. -/
theorem Tells.agg (h : Tells P t n d ok) {cs : Array Value} (hsz : (DataW.weightsEach P ts ds).all (· ≤ reachBytes) = true) (j : Nat) (ht : ts[j]? = some t) (hd : ds[j]? = some x)
    (hx : DataW.Trod enc P W base spare held t (.agg cs) x ps) : ∃ y : α, Den W noC nm0 (.agg (d y)) (.agg cs) ∧ ok y := by
  obtain ⟨fuel, hf⟩ := hx
  have hf' : DataW.trod enc P W base spare held fuel t cs.toList = some (x, ps) := by simpa [Value.cells] using hf
  obtain ⟨y, ⟨hy, _⟩, hok⟩ := h H enc W base spare held fuel cs.toList (x, ps) hf' (fun b hb => by simpa using List.all_eq_true.1 hsz b (DataW.weights_mem_each ht hd b hb))
  exact ⟨y, .agg cs.toList hy.1 hy.2, hok⟩
/-- A value of one cell that came in. -/
theorem Tells.cell {f : α → AVal} (h : Tells P t 1 (fun y => [f y]) ok) {v : Value} (hv : v.cells = #[v]) (hsz : (DataW.weightsEach P ts ds).all (· ≤ reachBytes) = true) (j : Nat) (ht : ts[j]? = some t) (hd : ds[j]? = some x)
    (hx : DataW.Trod enc P W base spare held t v x ps) : ∃ y : α, Den W noC nm0 (f y) v ∧ ok y := by
  obtain ⟨fuel, hf⟩ := hx
  have hf' : DataW.trod enc P W base spare held fuel t [v] = some (x, ps) := by simpa [hv] using hf
  obtain ⟨y, ⟨hy, _⟩, hok⟩ := h H enc W base spare held fuel [v] (x, ps) hf' (fun b hb => by simpa using List.all_eq_true.1 hsz b (DataW.weights_mem_each ht hd b hb))
  exact ⟨y, hy.2 0 _ v rfl rfl, hok⟩
end
/-- A proved law at arguments that can only be read. -/
theorem law_ok {P : Program} {f : Nat} {sp : Spec} (hv : Valid P f sp) {W : World} {args : List AVal} {vals : List Value} (hd : DenL W noC nm0 args vals) (h : ∀ K : AVal → Hp → Nat → Prop, K (.v (.bool true)) [] 0 → sp.f args [] K) :
    Calls P f ⟨vals⟩ W fun e w' => e = .returned (.bool true) ∧ Below W.heap.size W w' := by
  refine Calls.mono (hv W noC nm0 args vals [] (fun r _ _ => r = .v (.bool true)) hd ?_ (h _ rfl)) ?_
  · exact ⟨fun m o h => (by cases h), fun m o m' o' b x b' x' h => (by cases h), fun m o b x h => (by cases h), fun m _ => rfl, rfl, rfl, rfl, Nat.le_refl _, fun b _ _ => rfl⟩
  · rintro e w' ⟨r, v, L', nx', ρ', rfl, hden, hp, _, hr⟩
    subst hr
    rw [den_v hden]
    exact ⟨rfl, hp.os, hp.tape, hp.output, hp.size, fun k hk => hp.old k hk (fun h => h)⟩
end Go.Proofs.YtfjfaajdbomhbaaE

/-! The law FnExactCut, as its row states it: whatever the input the law returns true; no condition. -/
namespace Go.Proofs.Ytfjfaajdbomhbaa.fnExactCut
open Go.ChangeShapes Go.WideShapes Go.ChangeAt Go.RowKit Go.Proofs.YtfjfaajdbomhbaaE
set_option linter.unusedVariables false
theorem own : ownKnob Try.prog.godebug = none := by kernel_rfl
theorem laidOut : laidOutB Try.prog = true := by kernel_rfl
theorem T5 : Tells Try.prog 5 (sz .byte) (enc .byte) (fun _ => True) := (Tells.int Try.underlying5).as (fun n : Int => n) (enc .byte) (fun _ => rfl) _ (fun _ _ => trivial)
theorem T26 : Tells Try.prog 26 1 (fun xs : List Int => [.rs .byte xs]) (fun _ => True) := (Tells.slice (τ := .byte) Try.underlying26 T5 (by kernel_rfl) (B := 1) (by kernel_rfl)).as id _ (fun _ => rfl) _ (fun _ _ => trivial)
set_option maxRecDepth 100000 in
set_option maxHeartbeats 1000000 in
theorem lifted (os : Os) (started : os.Started) (H : Type) (enc : TypeId × Value → H) :
    ReturnsInHanded {} Try.checked os 4 .any (Rows.fnExactCutSpec.pre6 enc Try.prog Try.f4 Rows.fnExactCutRow.domain false) (Rows.fnExactCutSpec.post enc Try.prog Try.f4 false true false false) := by
  refine returnsInHanded_of_change_sized (C := Try.checked) own started (by kernel_rfl) Try.func4
    (ChangeSpec.witness6 (enc := enc) (C := Try.checked) false ⟨#[], #[.slice none 0 0, .int .i64 0], []⟩ 8 (by kernel_rfl) (by kernel_rfl) (by kernel_rfl) (by kernel_rfl)) ?_
  intro W base args ds gs before hval0 hW hcnd hsz0 _
  have hsz : (DataW.weightsEach Try.prog (Try.f4.params.toList ++ Rows.fnExactCutSpec.plain.varTypes Try.prog) (ds ++ gs)).all (· ≤ reachBytes) = true := hsz0
  have hval : ∀ (j : Nat) t v, Try.f4.params[j]? = some t → args[j]? = some v → Value.okWide Try.prog W .any base t v := hval0
  have hW' := hW
  obtain ⟨p, q, hA0, hV, rfl, hfz, hnd⟩ := hW
  have hA : DataW.TrodAll enc Try.prog W 0 (fun _ => true) true Try.f4.params.toList args.toList ds p := hA0
  rw [Try.params4] at hA hval hsz
  obtain ⟨v0, vs0, d0, ds0, p0, q0, hargs, rfl, rfl, h0, r0⟩ := trodAll_cons hA
  obtain ⟨v1, vs1, d1, ds1, p1, q1, rfl, rfl, rfl, h1, r1⟩ := trodAll_cons r0
  obtain ⟨rfl, rfl, rfl⟩ := trodAll_nil r1
  obtain rfl : args = #[v0, v1] := by cases args; simp_all
  obtain ⟨rfl, rfl⟩ := trodVars_none hV
  obtain ⟨ax0, len0, cap0, rfl⟩ := okWide_slice Try.underlying26 (hval 0 26 v0 rfl rfl)
  have k0 := h0
  have lt0 : ∀ x ∈ p0, x.block < W.heap.size := by obtain ⟨m, hm⟩ := k0; exact DataW.trod_lt m _ _ _ hm
  obtain ⟨y0, hK0, o0⟩ := Tells.cell T26 rfl hsz 0 rfl rfl h0
  obtain ⟨a1, rfl, rfl, rfl, w1⟩ := open_int Try.underlying3 (hval 1 3 v1 rfl rfl) h1
  clear hA0 hval0 hsz0 hsz
  refine (law_ok valid4 (DenL.cons hK0 (DenL.cons (.v (.int .i64 a1)) .nil)) (fun K hk => hk)).mono fun e W' ⟨he, bel⟩ => ?_
  subst he
  exact ⟨_, rfl, _, _, _, [], _, [], hW', trodAll_mk1 (shut_bool Try.underlying4 _), (trodAll_cons_mk (Below.trod laidOut (by kernel_rfl) (of_decide_eq_true (by kernel_rfl)) k0 bel lt0) (trodAll_cons_mk (shut_int Try.underlying3 w1) trodAll_mk0)), rfl, bel.frame _, fun h => by cases h⟩
theorem over : Rows.fnExactCutRow.holds Try.pinned (OpenSpec.ofChange Rows.fnExactCutSpec) :=
  OpenClaim.holds_of_wide 4 Try.f4 rfl rfl rfl rfl rfl rfl rfl ⟨rfl, rfl, rfl, rfl, rfl⟩ rfl rfl rfl rfl rfl (by kernel_rfl) Try.func4 (by kernel_rfl)
    (of_decide_eq_true (by kernel_rfl)) (by unfold Func.isWrapper; first | (rw [if_pos (by decide +kernel)]; kernel_rfl) | (rw [if_neg (by decide +kernel)]; exact ⟨rfl, rfl⟩))
    (fun os started H enc _ => lifted os started H enc)
theorem proved : Rows.FnExactCutSaid := over
#print axioms proved
end Go.Proofs.Ytfjfaajdbomhbaa.fnExactCut
namespace Go.Proofs.Ytfjfaajdbomhbaa
/-- The row, under a short name, for the claim. -/
theorem fnExactCut_holds : Rows.FnExactCutSaid := fnExactCut.proved
end Go.Proofs.Ytfjfaajdbomhbaa
