/- A part of a proof that a law of the given program holds for every input: no condition. -/
import Derived.Test.YtfjfaajdbomhbaaProg
import Derived.KernelRfl
import Derived.Deep.Slices
import Derived.OpenShut
import Derived.SizedLaws
import Derived.WideLaws
import Derived.Test.YtfjfaajdbomhbaaRows
import Derived.ProofKit
import Derived.ShutString
import Derived.ChangeOld
import Derived.Below
import Derived.Test.YtfjfaajdbomhbaaKFnCellHurt0

/-! The walk's rewriting rules. -/
namespace Go.Proofs.YtfjfaajdbomhbaaE
open Go Go.RowKit
/-! What is to be shown of code, under names that the kernel does not look into. -/
inductive VopsI (Γ : Nat → Option Spec) (l : List LO) (s : S) (K : S → Prop) : Prop
  | mk (h : vops Γ l s K)
inductive VdtI (Γ : Nat → Option Spec) (t : DT) (s : S) (K : S → Prop) : Prop
  | mk (h : vdt Γ t s K)
inductive VcI (E : Env) (c : IC) (s : S) (Q : Ex → S → Prop) : Prop
  | mk (h : vc E c s Q)
inductive LoopI (E : Env) (c : IC) (l : List Unit) (s : S) (Q : Ex → S → Prop) : Prop
  | mk (h : loopL E c l s Q)
theorem vopsI : @VopsI = @vops := by funext Γ l s K; exact propext ⟨fun h => h.1, .mk⟩
theorem vdtI : @VdtI = @vdt := by funext Γ l s K; exact propext ⟨fun h => h.1, .mk⟩
theorem vcI : @VcI = @vc := by funext Γ l s K; exact propext ⟨fun h => h.1, .mk⟩
theorem loopLI : @LoopI = @loopL := by funext E c l s K; exact propext ⟨fun h => h.1, .mk⟩
theorem vops_nil {Γ : Nat → Option Spec} {s : S} {K : S → Prop} : VopsI Γ [] s K = K s := by rw [vopsI]; rfl
theorem vops_cons {Γ : Nat → Option Spec} {o : LO} {r : List LO} {s : S} {K : S → Prop} : VopsI Γ (o :: r) s K = gdK s o.g (fun s => stepM false Γ s o.io fun av s' => VopsI Γ r (s'.put o.d av) K) (fun s => VopsI Γ r (s.put o.d .junk) K) := by rw [vopsI]; rfl
theorem vdt_done {Γ : Nat → Option Spec} {s : S} {K : S → Prop} : VdtI Γ .done s K = K s := by rw [vdtI]; rfl
theorem vdt_stop {Γ : Nat → Option Spec} {s : S} {K : S → Prop} : VdtI Γ .stop s K = True := by rw [vdtI]; rfl
theorem vdt_held {Γ : Nat → Option Spec} {o : LO} {t : DT} {s : S} {K : S → Prop} : VdtI Γ (.held o t) s K = gdK s o.g (fun s => vst s o.io fun av => VdtI Γ t (s.put o.d av) K) (fun s => VdtI Γ t (s.put o.d .junk) K) := by rw [vdtI]; rfl
theorem vdt_alt {Γ : Nat → Option Spec} {o : LO} {t r : DT} {s : S} {K : S → Prop} : VdtI Γ (.alt o t r) s K = (gdK s o.g (fun s => stepM true Γ s o.io fun av s' => VdtI Γ t (s'.put o.d av) K) (fun s => VdtI Γ t (s.put o.d .junk) K) ∧ VdtI Γ r s K) := by rw [vdtI]; rfl
theorem drawQ_t {Γ : Nat → Option Spec} {p : Nat} {l : List LO} {t : DT} {s : S} {K : S → Prop} : drawQ true Γ p l t s K = VdtI Γ t s K := by rw [vdtI]; rfl
theorem drawQ_f {Γ : Nat → Option Spec} {p : Nat} {l : List LO} {t : DT} {s : S} {K : S → Prop} : drawQ false Γ p l t s K = VopsI Γ l s fun sl => K (tidy sl) ∧ VdtI Γ t s fun s' => SubS p s' (tidy sl) := by rw [vdtI, vopsI]; rfl
section
variable {E : Env} {s : S} {Q : Ex → S → Prop}
theorem vc_ops {l : List LO} : VcI E (.ops l) s Q = VopsI E.Γ l s (Q .normal) := by rw [vcI, vopsI]; rfl
theorem vc_draw {l : List LO} {t : DT} : VcI E (.draw l t) s Q = drawQ (linD t) E.Γ E.pins l t s (Q .normal) := by rw [vcI]; rfl
theorem vc_skip : VcI E .skip s Q = Q .normal s := by rw [vcI]; rfl
theorem vc_seq {a b : IC} : VcI E (.seq a b) s Q = VcI E a s fun e s' => match e with
    | .normal => VcI E b s' Q
    | .exit i => Q (.exit i) s'
    | .ret => Q .ret s' := by rw [vcI]; rfl
theorem vc_cond {x : Operand} {a b : IC} : VcI E (.cond x a b) s Q = match s.ev x with
    | .v (.bool t) => impK (t = true) (VcI E a s Q) ∧ impK (t = false) (VcI E b s Q)
    | _ => False := by rw [vcI]; rfl
theorem vc_block {id : Nat} {c : IC} : VcI E (.block id c) s Q = VcI E c s fun e s' => match e with
    | .normal => Q .normal s'
    | .exit i => if i = id then Q .normal s' else Q (.exit i) s'
    | .ret => Q .ret s' := by rw [vcI]; rfl
theorem vc_exit {id : Nat} : VcI E (.exit id) s Q = Q (.exit id) s := by rw [vcI]; rfl
theorem vc_ret : VcI E .ret s Q = Q .ret s := by rw [vcI]; rfl
theorem vc_loop {c : IC} : VcI E (.loop c) s Q = OkI E (.loop c) s Q := by rw [vcI]; rfl
theorem vc_hold {c : IC} : VcI E (.hold c) s Q = OkI E c s Q := by rw [vcI]; rfl
theorem loopL_nil {c : IC} : LoopI E c [] s Q = False := by rw [loopLI]; rfl
theorem loopL_cons {c : IC} {u : Unit} {r : List Unit} : LoopI E c (u :: r) s Q = VcI E c s fun e s' => match e with
    | .normal => LoopI E c r s' Q
    | .exit k => Q (.exit k) s'
    | .ret => Q .ret s' := by rw [loopLI, vcI]; rfl
end
theorem validI {P : Program} {f : Nat} {fn : Func} {code : Code} {ic : IC} {rv : List RV} {τ : List (Nat × Ty)} {Γ : Nat → Option Spec} {sp : Spec} (hf : P.funcs[f]? = some fn) (hb : fn.body = some code)
    (hl : lowC P τ fn.ntmps code = some (erase ic)) (hr : lowR P fn.results.toList = some rv) (hΓ : ∀ f sp, Γ f = some sp → callable P f = true ∧ Valid P f sp)
    (h : ∀ (E : Env) (args : List AVal) (objs : List AObj) (K : AVal → Hp → Nat → Prop), sp.f args objs K → E.good → E.Γ = Γ → E.pins = objs.length →
      args.length ≤ fn.ntmps ∧ VcI E ic ⟨params 0 args, num 0 objs, objs.length, fn.ntmps⟩ (retQ objs.length rv K)) : Valid P f sp := by
  rw [vcI] at h; exact valid_of hf hb hl hr hΓ h
theorem loopI {E : Env} (hE : E.good) {ic : IC} {s : S} {Q : Ex → S → Prop} {ι : Type} (Inv : ι → S) (I : ι → Prop) (μ : ι → Nat) (h0 : ∃ i, I i ∧ Weak E s (Inv i))
    (h : ∀ i, I i → VcI E ic (Inv i) fun e s' => match e with
      | .normal => ∃ j, (I j ∧ μ j < μ i) ∧ Weak E s' (Inv j)
      | .exit k => Q (.exit k) s'
      | .ret => Q .ret s') : OkI E (.loop ic) s Q := by
  rw [vcI] at h; exact loop_ok hE Inv I μ h0 h
theorem unrollI {E : Env} (hE : E.good) {ic : IC} {s : S} {Q : Ex → S → Prop} (l : List Unit) (h : LoopI E ic l s Q) : OkI E (.loop ic) s Q := by
  rw [loopLI] at h; exact loop_unroll hE l h
attribute [go_sem] drawQ_t drawQ_f vops_nil vops_cons vdt_done vdt_stop vdt_held vdt_alt vc_ops vc_draw vc_skip vc_seq vc_cond vc_block vc_exit vc_ret vc_loop vc_hold loopL_nil loopL_cons stepM gdK vst wst someK
@[congr] theorem drawQ_cg {b b' : Bool} {Γ : Nat → Option Spec} {p : Nat} {l : List LO} {t : DT} {s s' : S} {K : S → Prop} {b0 : Prop} (h0 : (True ∧ True) = b0) (h : b = b') (h2 : s = s') : drawQ b Γ p l t s K = drawQ b' Γ p l t s' K := by rw [h, h2]
/-! What stands behind an operation is looked at only when it is come to. -/
@[congr] theorem vops_cg {Γ : Nat → Option Spec} {l : List LO} {s s' : S} {K : S → Prop} {b0 : Prop} (h0 : (True ∧ True) = b0) (h : s = s') : VopsI Γ l s K = VopsI Γ l s' K := by rw [h]
@[congr] theorem vdt_cg {Γ : Nat → Option Spec} {t : DT} {s s' : S} {K : S → Prop} {b0 : Prop} (h0 : (True ∧ True) = b0) (h : s = s') : VdtI Γ t s K = VdtI Γ t s' K := by rw [h]
@[congr] theorem vc_cg {E : Env} {c : IC} {s s' : S} {Q : Ex → S → Prop} {b0 : Prop} (h0 : (True ∧ True) = b0) (h : s = s') : VcI E c s Q = VcI E c s' Q := by rw [h]
@[congr] theorem OkI_cg {E : Env} {c : IC} {s s' : S} {Q : Ex → S → Prop} {b0 : Prop} (h0 : (True ∧ True) = b0) (h : s = s') : OkI E c s Q = OkI E c s' Q := by rw [h]
@[congr] theorem loopL_cg {E : Env} {c : IC} {l : List Unit} {s s' : S} {Q : Ex → S → Prop} {b0 : Prop} (h0 : (True ∧ True) = b0) (h : s = s') : LoopI E c l s Q = LoopI E c l s' Q := by rw [h]
@[congr] theorem gdK_cg {s s' : S} {g : Option (Nat × Bool)} {K1 K2 : S → Prop} {b0 : Prop} (h0 : (True ∧ True) = b0) (h : s = s') : gdK s g K1 K2 = gdK s' g K1 K2 := by rw [h]
@[congr] theorem stepM_cg {m : Bool} {Γ : Nat → Option Spec} {s s' : S} {io : IOp} {K : AVal → S → Prop} {b0 : Prop} (h0 : (True ∧ True) = b0) (h : s = s') : stepM m Γ s io K = stepM m Γ s' io K := by rw [h]
@[congr] theorem vst_cg {s s' : S} {io : IOp} {K : AVal → Prop} {b0 : Prop} (h0 : (True ∧ True) = b0) (h : s = s') : vst s io K = vst s' io K := by rw [h]
@[congr] theorem wst_cg {s s' : S} {io : IOp} {K : AVal → S → Prop} {b0 : Prop} (h0 : (True ∧ True) = b0) (h : s = s') : wst s io K = wst s' io K := by rw [h]
@[congr] theorem someK_cg {α : Type} {x x' : Option α} {K : α → Prop} {b0 : Prop} (h0 : (True ∧ True) = b0) (h : x = x') : someK x K = someK x' K := by rw [h]
@[congr] theorem callK_cg {sp : Spec} {s s' : S} {l l' : List AVal} {K : AVal → S → Prop} {b0 : Prop} (h0 : (True ∧ True) = b0) (h : s = s') (h2 : l = l') : callK sp s l K = callK sp s' l' K := by rw [h, h2]
@[congr] theorem impK_cg {p p' q : Prop} {b0 : Prop} (h0 : (True ∧ True) = b0) (h : p = p') : impK p q = impK p' q := by rw [h]
theorem impK_t {q : Prop} : impK True q = q := by simp [impK]
theorem impK_f {q : Prop} : impK False q = True := by simp [impK]
theorem impK_any {p q : Prop} : impK p q = (p → q) := id rfl
attribute [go_sem] impK_t impK_f
attribute [go_sem 100] impK_any
@[congr] theorem specf_cg {sp : Spec} {l l' : List AVal} {o o' : List AObj} {K : AVal → Hp → Nat → Prop} {b0 : Prop} (h0 : (True ∧ True) = b0) (h : l = l') (h2 : o = o') : Spec.f sp l o K = Spec.f sp l' o' K := by rw [h, h2]
@[congr] theorem binV_cg {op : BinOp} {x x' y y' : Value} {K : Value → Prop} {b0 : Prop} (h0 : (True ∧ True) = b0) (h : x = x') (h2 : y = y') : binV op x y K = binV op x' y' K := by rw [h, h2]
@[congr] theorem cellsK_cg {ag : Bool} {n : Nat} {l l' : List AVal} {K : AVal → Prop} {b0 : Prop} (h0 : (True ∧ True) = b0) (h : l = l') : cellsK ag n l K = cellsK ag n l' K := by rw [h]
@[congr] theorem loadP_cg {L L' : Hp} {n : Nat} {ag : Bool} {p p' : AVal} {K : AVal → Prop} {b0 : Prop} (h0 : (True ∧ True) = b0) (h : L = L') (h2 : p = p') : loadP L n ag p K = loadP L' n ag p' K := by rw [h, h2]
@[congr] theorem fillA_cg {s s' : S} {ps : List (Nat × Nat × Operand)} {l l' : List AVal} {K : List AVal → Prop} {b0 : Prop} (h0 : (True ∧ True) = b0) (h : s = s') (h2 : l = l') : fillA s ps l K = fillA s' ps l' K := by rw [h, h2]
@[congr] theorem rowsK_cg {t : Ty} {L L' : Hp} {y y' : AVal} {K : List t.D → Prop} {b0 : Prop} (h0 : (True ∧ True) = b0) (h : L = L') (h2 : y = y') : rowsK t L y K = rowsK t L' y' K := by rw [h, h2]
@[congr] theorem appK_cg {t : Ty} {b : Nat} {s s' : S} {x x' : AVal} {ys ys' : List t.D} {K : AVal → S → Prop} {b0 : Prop} (h0 : (True ∧ True) = b0) (h : s = s') (h2 : x = x') (h3 : ys = ys') : appK t b s x ys K = appK t b s' x' ys' K := by rw [h, h2, h3]
@[congr] theorem castK_cg {t t' : Ty} {xs xs' : List t'.D} {K : List t.D → Prop} {b0 : Prop} (h0 : (True ∧ True) = b0) (h : xs = xs') : castK t t' xs K = castK t t' xs' K := by rw [h]
@[congr] theorem objsK_cg {L L' : Hp} {l l' : List Nat} {K : List AObj → Prop} {b0 : Prop} (h0 : (True ∧ True) = b0) (h : L = L') (h2 : l = l') : objsK L l K = objsK L' l' K := by rw [h, h2]
@[congr] theorem optI_cg {s s' : S} {x : Option Operand} {d d' : Int} {K : Int → Prop} {b0 : Prop} (h0 : (True ∧ True) = b0) (h : s = s') (h2 : d = d') : optI s x d K = optI s' x d' K := by rw [h, h2]
@[congr] theorem retL_cg {l : List RV} {s s' : S} {K : List AVal → Prop} {b0 : Prop} (h0 : (True ∧ True) = b0) (h : s = s') : retL l s K = retL l s' K := by rw [h]
@[congr] theorem retK_cg {l : List RV} {s s' : S} {K : AVal → Prop} {b0 : Prop} (h0 : (True ∧ True) = b0) (h : s = s') : retK l s K = retK l s' K := by rw [h]
@[congr] theorem uni1_cg {θ θ' : Th} {a a' b b' : AVal} {K : Th → Prop} {b0 : Prop} (h0 : (True ∧ True) = b0) (h : θ = θ') (h2 : a = a') (h3 : b = b') : uni1 θ a b K = uni1 θ' a' b' K := by rw [h, h2, h3]
@[congr] theorem uni_cg {θ θ' : Th} {a a' b b' : AVal} {K : Th → Prop} {b0 : Prop} (h0 : (True ∧ True) = b0) (h : θ = θ') (h2 : a = a') (h3 : b = b') : uni θ a b K = uni θ' a' b' K := by rw [h, h2, h3]
@[congr] theorem uniR_cg {θ θ' : Th} {a a' b b' : AVal} {K : Th → Prop} {b0 : Prop} (h0 : (True ∧ True) = b0) (h : θ = θ') (h2 : a = a') (h3 : b = b') : uniR θ a b K = uniR θ' a' b' K := by rw [h, h2, h3]
@[congr] theorem uniL_cg {θ θ' : Th} {a a' b b' : List AVal} {K : Th → Prop} {b0 : Prop} (h0 : (True ∧ True) = b0) (h : θ = θ') (h2 : a = a') (h3 : b = b') : uniL θ a b K = uniL θ' a' b' K := by rw [h, h2, h3]
@[congr] theorem uniT_cg {θ θ' : Th} {a a' b b' : List AVal} {K : Th → Prop} {b0 : Prop} (h0 : (True ∧ True) = b0) (h : θ = θ') (h2 : a = a') (h3 : b = b') : uniT θ a b K = uniT θ' a' b' K := by rw [h, h2, h3]
@[congr] theorem uniS_cg {θ θ' : Th} {a a' b b' : List (Nat × AVal)} {K : Th → Prop} {b0 : Prop} (h0 : (True ∧ True) = b0) (h : θ = θ') (h2 : a = a') (h3 : b = b') : uniS θ a b K = uniS θ' a' b' K := by rw [h, h2, h3]
@[congr] theorem uniO_cg {θ θ' : Th} {k z : Nat} {a a' b b' : AObj} {K : Th → Prop} {b0 : Prop} (h0 : (True ∧ True) = b0) (h : θ = θ') (h2 : a = a') (h3 : b = b') : uniO θ k z a b K = uniO θ' k z a' b' K := by rw [h, h2, h3]
@[congr] theorem uniH_cg {θ θ' : Th} {a a' b b' : Hp} {K : Th → Prop} {b0 : Prop} (h0 : (True ∧ True) = b0) (h : θ = θ') (h2 : a = a') (h3 : b = b') : uniH θ a b K = uniH θ' a' b' K := by rw [h, h2, h3]
@[congr] theorem atOff_cg {i i' : Int} {f : Nat → Prop} {l l' : List Nat} {j j' : Nat} {b0 : Prop} (h0 : (True ∧ True) = b0) (h : i = i') (h2 : l = l') (h3 : j = j') : atOff i f l j = atOff i' f l' j' := by rw [h, h2, h3]
attribute [go_sem] retQ retK retL binV cellsK loadP cellsOf splice fillA optI rowsK appK decN castK
  callK allP view1 vok1 view vok viewO vokO objsK pos nodupB idT keysLt tgts oneA
/-! The state's changes, each as a step that is written down. -/
theorem put_some {σ : List (Nat × AVal)} {L : Hp} {nx n d : Nat} {av : AVal} : S.put ⟨σ, L, nx, n⟩ (some d) av = ⟨(d, av) :: σ, L, nx, n⟩ := id rfl
theorem put_none {s : S} {av : AVal} : S.put s none av = s := id rfl
theorem add_eq {σ : List (Nat × AVal)} {L : Hp} {nx n : Nat} {o : AObj} : S.add ⟨σ, L, nx, n⟩ o = ⟨σ, (nx, o) :: L, nx + 1, n⟩ := id rfl
theorem hp_eq {σ : List (Nat × AVal)} {L L' : Hp} {nx n : Nat} : S.hp ⟨σ, L, nx, n⟩ L' = ⟨σ, L', nx, n⟩ := id rfl
theorem ev_tmp {σ : List (Nat × AVal)} {L : Hp} {nx n t : Nat} : S.ev ⟨σ, L, nx, n⟩ (.tmp t) = (lk σ t).getD .junk := id rfl
theorem ev_func {s : S} {f : Nat} : S.ev s (.func f) = .fn f [] := id rfl
theorem ev_int {s : S} {k : IntKind} {i : Int} : S.ev s (.const (.int k i)) = .v (.int k i) := id rfl
theorem ev_bool {s : S} {b : Bool} : S.ev s (.const (.bool b)) = .v (.bool b) := id rfl
theorem ev_str {s : S} {b : ByteArray} : S.ev s (.const (.string b)) = .v (.string b) := id rfl
theorem ev_nilf {s : S}  : S.ev s (.const .nilFunc) = .v .nilFunc := id rfl
theorem ev_nili {s : S}  : S.ev s (.const .nilIface) = .v .nilIface := id rfl
theorem ev_nilp {s : S} : S.ev s (.const (.pointer none)) = .v (.pointer none) := id rfl
theorem ev_nils {s : S} : S.ev s (.const (.slice none 0 0)) = .v (.slice none 0 0) := id rfl
theorem ev_agg {s : S} {cs : Array Value} : S.ev s (.const (.agg cs)) = .agg (cs.toList.map .v) := id rfl
theorem params_nil {k : Nat} : params k [] = [] := id rfl
theorem params_cons {k : Nat} {x : AVal} {r : List AVal} : params k (x :: r) = (k, x) :: params (k + 1) r := id rfl
theorem num_nil {k : Nat} : num k [] = [] := id rfl
theorem num_cons {k : Nat} {x : AObj} {r : List AObj} : num k (x :: r) = (k, x) :: num (k + 1) r := id rfl
theorem lk_nil {α : Type _} {k : Nat} : lk ([] : List (Nat × α)) k = none := id rfl
theorem lk_cons {α : Type _} {i k : Nat} {x : α} {r : List (Nat × α)} : lk ((i, x) :: r) k = if i = k then some x else lk r k := id rfl
theorem upd_nil {k : Nat} {o : AObj} : upd [] k o = [] := id rfl
theorem upd_cons {i k : Nat} {x o : AObj} {r : Hp} : upd ((i, x) :: r) k o = if i = k then (i, o) :: r else (i, x) :: upd r k o := id rfl
theorem boxesOf_nil : boxesOf [] = [] := id rfl
theorem boxesOf_box {m : Nat} {cs : List AVal} {r : Hp} : boxesOf ((m, .box cs) :: r) = (m, .box cs) :: boxesOf r := id rfl
theorem boxesOf_row {m : Nat} {t : Ty} {xs : List t.D} {r : Hp} : boxesOf ((m, .row t xs) :: r) = boxesOf r := id rfl
theorem rowsOf_nil : rowsOf [] = [] := id rfl
theorem rowsOf_box {m : Nat} {cs : List AVal} {r : Hp} : rowsOf ((m, .box cs) :: r) = rowsOf r := id rfl
theorem rowsOf_row {m : Nat} {t : Ty} {xs : List t.D} {r : Hp} : rowsOf ((m, .row t xs) :: r) = (m, .row t xs) :: rowsOf r := id rfl
attribute [go_sem] boxesOf_nil boxesOf_box boxesOf_row rowsOf_nil rowsOf_box rowsOf_row
attribute [go_sem] put_some put_none add_eq hp_eq ev_tmp ev_func ev_int ev_bool ev_str ev_nilf ev_nili ev_nilp ev_nils ev_agg params_nil params_cons num_nil num_cons lk_nil lk_cons upd_nil upd_cons
theorem nc0 : ((0 : Nat) : Int) = 0 := id rfl
theorem nc1 : ((1 : Nat) : Int) = 1 := id rfl
theorem nc2 : ((2 : Nat) : Int) = 2 := id rfl
theorem nc3 : ((3 : Nat) : Int) = 3 := id rfl
theorem nc4 : ((4 : Nat) : Int) = 4 := id rfl
theorem nc5 : ((5 : Nat) : Int) = 5 := id rfl
theorem nc6 : ((6 : Nat) : Int) = 6 := id rfl
theorem nc7 : ((7 : Nat) : Int) = 7 := id rfl
theorem nc8 : ((8 : Nat) : Int) = 8 := id rfl
theorem nc9 : ((9 : Nat) : Int) = 9 := id rfl
theorem nc10 : ((10 : Nat) : Int) = 10 := id rfl
theorem nc11 : ((11 : Nat) : Int) = 11 := id rfl
theorem nc12 : ((12 : Nat) : Int) = 12 := id rfl
theorem nc13 : ((13 : Nat) : Int) = 13 := id rfl
theorem nc14 : ((14 : Nat) : Int) = 14 := id rfl
theorem nc15 : ((15 : Nat) : Int) = 15 := id rfl
theorem nc16 : ((16 : Nat) : Int) = 16 := id rfl
theorem offs_1_2 : offs 1 2 = [0, 1] := by decide
theorem offs_1_4 : offs 1 4 = [0, 1, 2, 3] := by decide
theorem offs_1_8 : offs 1 8 = [0, 1, 2, 3, 4, 5, 6, 7] := by decide
theorem offs_1_16 : offs 1 16 = [0, 1, 2, 3, 4, 5, 6, 7, 8, 9, 10, 11, 12, 13, 14, 15] := by decide
theorem offs_2_2 : offs 2 2 = [0, 2] := by decide
theorem offs_2_4 : offs 2 4 = [0, 2, 4, 6] := by decide
theorem offs_2_8 : offs 2 8 = [0, 2, 4, 6, 8, 10, 12, 14] := by decide
theorem offs_2_16 : offs 2 16 = [0, 2, 4, 6, 8, 10, 12, 14, 16, 18, 20, 22, 24, 26, 28, 30] := by decide
theorem offs_3_2 : offs 3 2 = [0, 3] := by decide
theorem offs_3_4 : offs 3 4 = [0, 3, 6, 9] := by decide
theorem offs_3_8 : offs 3 8 = [0, 3, 6, 9, 12, 15, 18, 21] := by decide
theorem offs_3_16 : offs 3 16 = [0, 3, 6, 9, 12, 15, 18, 21, 24, 27, 30, 33, 36, 39, 42, 45] := by decide
theorem offs_4_2 : offs 4 2 = [0, 4] := by decide
theorem offs_4_4 : offs 4 4 = [0, 4, 8, 12] := by decide
theorem offs_4_8 : offs 4 8 = [0, 4, 8, 12, 16, 20, 24, 28] := by decide
theorem offs_4_16 : offs 4 16 = [0, 4, 8, 12, 16, 20, 24, 28, 32, 36, 40, 44, 48, 52, 56, 60] := by decide
theorem atOff_nil {i : Int} {f : Nat → Prop} {j : Nat} : atOff i f [] j = True := id rfl
theorem atOff_cons {i : Int} {f : Nat → Prop} {o : Nat} {r : List Nat} {j : Nat} : atOff i f (o :: r) j = (impK (i = (j : Int)) (f o) ∧ atOff i f r (j + 1)) := id rfl
attribute [go_sem] nc0 nc1 nc2 nc3 nc4 nc5 nc6 nc7 nc8 nc9 nc10 nc11 nc12 nc13 nc14 nc15 nc16 offs_1_2 offs_1_4 offs_1_8 offs_1_16 offs_2_2 offs_2_4 offs_2_8 offs_2_16 offs_3_2 offs_3_4 offs_3_8 offs_3_16 offs_4_2 offs_4_4 offs_4_8 offs_4_16 atOff_nil atOff_cons
/-! The state behind a call. -/
section
variable {kp : Bool} {n : Nat → Nat} {m z j f lo len off nx k : Nat} {x : Value} {cs : List AVal} {o : AObj} {r : Hp} {ms : List Nat} {L : Hp} {t : Ty} {xs : List t.D}
theorem renL_nil : renL kp n [] = [] := id rfl
theorem renL_cons : renL kp n ((m, o) :: r) = (n m, renO kp n o) :: renL kp n r := id rfl
theorem renO_box : renO kp n (.box cs) = .box (cs.map (ren1 kp n)) := id rfl
theorem renO_row : renO kp n (.row t xs) = .row t xs := id rfl
theorem ren1_v : ren1 kp n (.v x) = .v x := id rfl
theorem ren1_ptr : ren1 kp n (.ptr m off) = .ptr (n m) off := id rfl
theorem ren1_elt : ren1 kp n (.elt m z j f) = .elt (n m) z j f := id rfl
theorem ren1_sub : ren1 kp n (.sub m z lo len) = .sub (n m) z lo len := id rfl
theorem ren1_rs : ren1 kp n (.rs t xs) = if kp = true then .rs t xs else .junk := id rfl
theorem ren1_junk : ren1 kp n .junk = .junk := id rfl
theorem ren2_rs : ren2 kp n (.rs t xs) = ren1 kp n (.rs t xs) := id rfl
theorem ren_rs : ren kp n (.rs t xs) = ren1 kp n (.rs t xs) := id rfl
theorem ren2_v : ren2 kp n (.v x) = .v x := id rfl
theorem ren2_ptr : ren2 kp n (.ptr m off) = .ptr (n m) off := id rfl
theorem ren2_elt : ren2 kp n (.elt m z j f) = .elt (n m) z j f := id rfl
theorem ren2_sub : ren2 kp n (.sub m z lo len) = .sub (n m) z lo len := id rfl
theorem ren2_agg : ren2 kp n (.agg cs) = .agg (cs.map (ren1 kp n)) := id rfl
theorem ren_v : ren kp n (.v x) = .v x := id rfl
theorem ren_ptr : ren kp n (.ptr m off) = .ptr (n m) off := id rfl
theorem ren_elt : ren kp n (.elt m z j f) = .elt (n m) z j f := id rfl
theorem ren_sub : ren kp n (.sub m z lo len) = .sub (n m) z lo len := id rfl
theorem ren_agg : ren kp n (.agg cs) = .agg (cs.map (ren1 kp n)) := id rfl
theorem ren_tup : ren kp n (.tup cs) = .tup (cs.map (ren2 kp n)) := id rfl
theorem rn_eq : rn ms nx k = (nth ms k).getD (nx + k) := by unfold rn; split <;> rename_i h <;> rw [h] <;> rfl
theorem nth_nil : nth [] k = none := id rfl
theorem nth_cons : nth (m :: ms) k = if k = 0 then some m else nth ms (k - 1) := id rfl
theorem eraAll_nil : eraAll L [] = L := id rfl
theorem eraAll_cons : eraAll L (m :: ms) = eraAll (era L m) ms := id rfl
theorem era_nil : era [] k = [] := id rfl
theorem era_cons : era ((m, o) :: r) k = if m = k then era r k else (m, o) :: era r k := id rfl
end
attribute [go_sem] ren1_rs ren1_junk ren2_rs ren_rs
attribute [go_sem] renL_nil renL_cons renO_box renO_row ren1_v ren1_ptr ren1_elt ren1_sub ren2_v ren2_ptr ren2_elt ren2_sub ren2_agg ren_v ren_ptr ren_elt ren_sub ren_agg ren_tup rn_eq nth_nil nth_cons eraAll_nil eraAll_cons era_nil era_cons
theorem om_some {α β : Type _} {f : α → β} {x : α} : Option.map f (some x) = some (f x) := id rfl
theorem om_none {α β : Type _} {f : α → β} : Option.map f (none : Option α) = none := id rfl
theorem bo_ff : (false || false) = false := id rfl
theorem bo_tf {b : Bool} : (true || b) = true := id rfl
theorem bo_ft : (false || true) = true := id rfl
theorem dc_true : decide True = true := by simp
theorem dc_false : decide False = false := by simp
theorem ga_0 {α : Type _} {a : α} {l : List α} : (a :: l)[0]? = some a := id rfl
theorem ga_1 {α : Type _} {a b : α} {l : List α} : (a :: b :: l)[1]? = some b := id rfl
theorem ga_2 {α : Type _} {a b c : α} {l : List α} : (a :: b :: c :: l)[2]? = some c := id rfl
theorem ga_3 {α : Type _} {a b c d : α} {l : List α} : (a :: b :: c :: d :: l)[3]? = some d := id rfl
theorem or_ft {p : Prop} : (False ∨ p) = p := by simp
theorem or_tt {p : Prop} : (p ∨ True) = True := by simp
theorem or_pf {p : Prop} : (p ∨ False) = p := by simp
attribute [go_sem] ga_0 ga_1 ga_2 ga_3 or_ft or_tt or_pf
theorem u8s_nil : u8s [] = some [] := id rfl
theorem u8s_cons {n : Int} {r : List AVal} : u8s (.v (.int .u8 n) :: r) = (u8s r).map (n :: ·) := id rfl
attribute [go_sem] u8s_nil u8s_cons
theorem take_len {α : Type _} {xs : List α} : xs.take xs.length = xs := List.take_length
theorem le_self {n : Nat} : (n ≤ n) = True := by simp
section
variable {θ : Th} {K : Th → Prop} {m m' k z z' lo lo' len len' off off' i i' f f' d p : Nat} {x x' : Value} {t t' : Ty} {xs : List t.D} {y : t.D} {cs cs' r r' : List AVal} {a a' av av' : AVal} {σ : List (Nat × AVal)} {L rL : Hp} {o o' : AObj} {s s' : S}
theorem SubS_eq : SubS p s s' = (s'.n = s.n ∧ uniS (idT p) s.σ s'.σ fun θ => uniH θ s.L (boxesOf s'.L) fun θ => uniH θ s.L (rowsOf s'.L) fun θ => nodupB (tgts θ) = true ∧ keysLt s'.nx θ = true) := id rfl
theorem ResU_eq {r0 rr : AVal} {L0 : Hp} {nx0 : Nat} : ResU p s rr r0 L0 nx0 = (uniR (idT p) rr r0 fun θ => uniH θ s.L (boxesOf L0) fun θ => uniH θ s.L (rowsOf L0) fun θ => nodupB (tgts θ) = true ∧ keysLt nx0 θ = true) := id rfl
theorem uniN_eq : uniN θ m' m K = (match lk θ m' with | some x => x = some (m, 0, 0) ∧ K θ | none => K ((m', some (m, 0, 0)) :: θ)) := id rfl
theorem uniK_eq : uniK θ m' m k z K = (if k = 0 then uniN θ m' m K else match lk θ m' with | some x => x = some (m, k, z) ∧ K θ | none => K ((m', some (m, k, z)) :: θ)) := id rfl
theorem uniNil_eq : uniNil θ m' K = (match lk θ m' with | some x => x = none ∧ K θ | none => K ((m', none) :: θ)) := id rfl
theorem uni1_junk : uni1 θ av .junk K = K θ := id rfl
theorem uni1_v : uni1 θ (.v x) (.v x') K = (x = x' ∧ K θ) := id rfl
theorem uni1_sub : uni1 θ (.sub m z lo len) (.sub m' z' lo' len') K = ((z = z' ∧ lo' ≤ lo ∧ len = len') ∧ uniK θ m' m (lo - lo') z K) := id rfl
theorem uni1_nil : uni1 θ (.v (.slice none 0 0)) (.sub m' z' lo' len') K = ((lo' = 0 ∧ len' = 0) ∧ uniNil θ m' K) := id rfl
theorem uni1_ptr : uni1 θ (.ptr m off) (.ptr m' off') K = (off = off' ∧ uniN θ m' m K) := id rfl
theorem uni1_elt : uni1 θ (.elt m z i f) (.elt m' z' i' f') K = ((z = z' ∧ i = i' ∧ f = f') ∧ uniN θ m' m K) := id rfl
theorem uni1_rs : uni1 θ av (.rs t xs) K = (av = .rs t xs ∧ K θ) := id rfl
theorem uni1_re : uni1 θ av (.re t y f) K = (av = .re t y f ∧ K θ) := id rfl
theorem uni1_rp : uni1 θ av (.rp t xs) K = (av = .rp t xs ∧ K θ) := id rfl
theorem uni_rp : uni θ av (.rp t xs) K = uni1 θ av (.rp t xs) K := id rfl
theorem uniL_nil : uniL θ [] [] K = K θ := id rfl
theorem uniL_cons : uniL θ (a :: r) (a' :: r') K = uni1 θ a a' fun θ => uniL θ r r' K := id rfl
theorem uni_agg : uni θ (.agg cs) (.agg cs') K = uniL θ cs cs' K := id rfl
theorem uni_fn : uni θ (.fn f cs) (.fn f' cs') K = (f = f' ∧ uniL θ cs cs' K) := id rfl
theorem uni_junk : uni θ av .junk K = K θ := id rfl
theorem uni_v : uni θ av (.v x') K = uni1 θ av (.v x') K := id rfl
theorem uni_sub : uni θ av (.sub m' z' lo' len') K = uni1 θ av (.sub m' z' lo' len') K := id rfl
theorem uni_ptr : uni θ av (.ptr m' off') K = uni1 θ av (.ptr m' off') K := id rfl
theorem uni_elt : uni θ av (.elt m' z' i' f') K = uni1 θ av (.elt m' z' i' f') K := id rfl
theorem uni_rs : uni θ av (.rs t xs) K = uni1 θ av (.rs t xs) K := id rfl
theorem uni_re : uni θ av (.re t y f) K = uni1 θ av (.re t y f) K := id rfl
theorem uniS_nil : uniS θ σ [] K = K θ := id rfl
theorem uniS_cons {r : List (Nat × AVal)} : uniS θ σ ((d, av') :: r) K = someK (lk σ d) fun av => uni θ av av' fun θ => uniS θ σ r K := by
  cases h : lk σ d <;> simp [uniS, someK, h]
theorem uniO_box : uniO θ k z (.box cs) (.box cs') K = (k = 0 ∧ uniL θ cs cs' K) := id rfl
theorem uniO_row {xs' : List t'.D} : uniO θ k z (.row t xs) (.row t' xs') K = castK t' t xs fun xs => if k = 0 then xs = xs' ∧ K θ else (z = sz t' ∧ k ≤ xs.length ∧ xs.drop k = xs') ∧ K θ := id rfl
theorem uniH_nil : uniH θ L [] K = K θ := id rfl
theorem uniH_cons : uniH θ L ((m', o') :: rL) K = (match lk θ m' with
    | some (some (m, k, z)) => match lk L m with
      | some o => uniO θ k z o o' fun θ => uniH θ L rL K
      | none => False
    | some none => match o' with
      | .row t xs' => xs' = [] ∧ uniH θ L rL K
      | _ => False
    | none => match lk L m' with
      | some o => uniO ((m', some (m', 0, 0)) :: θ) 0 0 o o' fun θ => uniH θ L rL K
      | none => False) := id rfl
theorem uniT_nil : uniT θ [] [] K = K θ := id rfl
theorem uniT_cons : uniT θ (a :: r) (a' :: r') K = uni θ a a' fun θ => uniT θ r r' K := id rfl
theorem uniR_tup : uniR θ (.tup cs) (.tup cs') K = uniT θ cs cs' K := id rfl
theorem uniR_agg : uniR θ av (.agg cs') K = uni θ av (.agg cs') K := id rfl
theorem uniR_fn : uniR θ av (.fn f' cs') K = uni θ av (.fn f' cs') K := id rfl
theorem uniR_v : uniR θ av (.v x') K = uni θ av (.v x') K := id rfl
theorem uniR_junk : uniR θ av .junk K = uni θ av .junk K := id rfl
theorem uniR_sub : uniR θ av (.sub m' z' lo' len') K = uni θ av (.sub m' z' lo' len') K := id rfl
theorem uniR_ptr : uniR θ av (.ptr m' off') K = uni θ av (.ptr m' off') K := id rfl
theorem uniR_elt : uniR θ av (.elt m' z' i' f') K = uni θ av (.elt m' z' i' f') K := id rfl
theorem uniR_rs : uniR θ av (.rs t xs) K = uni θ av (.rs t xs) K := id rfl
theorem uniR_re : uniR θ av (.re t y f) K = uni θ av (.re t y f) K := id rfl
end
attribute [go_sem] uni1_rp uni_rp
attribute [go_sem] SubS_eq ResU_eq uniN_eq uniK_eq uniNil_eq uni1_junk uni1_v uni1_sub uni1_nil uni1_ptr uni1_elt uni1_rs uni1_re uniL_nil uniL_cons uni_agg uni_fn uni_junk uni_v uni_sub uni_ptr uni_elt uni_rs uni_re uniS_nil uniS_cons uniO_box uniO_row uniH_nil uniH_cons uniT_nil uniT_cons uniR_tup uniR_agg uniR_fn uniR_v uniR_junk uniR_sub uniR_ptr uniR_elt uniR_rs uniR_re
def isV : AVal → Prop
  | .v _ => True
  | _ => False
def vAll : List AVal → Prop
  | [] => True
  | x :: r => isV x ∧ vAll r
theorem isV_v {x : Value} : isV (.v x) = True := by simp [isV]
theorem vAll_nil : vAll [] = True := by simp [vAll]
theorem vAll_cons {x : AVal} {r : List AVal} : vAll (x :: r) = (isV x ∧ vAll r) := id rfl
theorem uniL_same {θ : Th} {K : Th → Prop} : ∀ {cs : List AVal}, vAll cs → uniL θ cs cs K = K θ
  | [], _ => rfl
  | x :: r, h => by
    cases x with
    | v y => simp only [uniL, uni1, true_and]; exact uniL_same h.2
    | _ => exact h.1.elim
theorem uni_same {θ : Th} {cs : List AVal} {K : Th → Prop} (h : vAll cs) : uni θ (.agg cs) (.agg cs) K = K θ := by simp only [uni]; exact uniL_same h
theorem uniO_same {θ : Th} {cs : List AVal} {K : Th → Prop} (h : vAll cs) : uniO θ 0 0 (.box cs) (.box cs) K = K θ := by simp only [uniO, true_and]; exact uniL_same h
attribute [go_sem] isV_v vAll_nil vAll_cons
attribute [go_sem high] uni_same uniO_same
def ifSeen (seen : List Nat) (d : Nat) (a b : List (Nat × AVal)) : List (Nat × AVal) := if seen.contains d = true then a else b
theorem ifSeen_nil {d : Nat} {a b : List (Nat × AVal)} : ifSeen [] d a b = b := by simp [ifSeen]
theorem ifSeen_cons {x d : Nat} {l : List Nat} {a b : List (Nat × AVal)} : ifSeen (x :: l) d a b = if d = x then a else ifSeen l d a b := by
  unfold ifSeen
  by_cases h : d = x
  · simp [h]
  · simp [h]
@[congr] theorem ifSeen_cg {l l' : List Nat} {d d' : Nat} {a b : List (Nat × AVal)} {b0 : Prop} (h0 : (True ∧ True) = b0) (h : l = l') (h2 : d = d') : ifSeen l d a b = ifSeen l' d' a b := by rw [h, h2]
theorem tidy_eq {σ : List (Nat × AVal)} {L : Hp} {nx n : Nat} : tidy ⟨σ, L, nx, n⟩ = ⟨ded [] σ, L, nx, n⟩ := id rfl
theorem ded_nil {seen : List Nat} : ded seen [] = [] := id rfl
theorem ded_junk {seen : List Nat} {d : Nat} {r : List (Nat × AVal)} : ded seen ((d, .junk) :: r) = ifSeen seen d (ded seen r) (ded (d :: seen) r) := id rfl
theorem ded_v {seen : List Nat} {d : Nat} {r : List (Nat × AVal)} {x : Value} : ded seen ((d, .v x) :: r) = ifSeen seen d (ded seen r) ((d, .v x) :: ded (d :: seen) r) := id rfl
theorem ded_ptr {seen : List Nat} {d : Nat} {r : List (Nat × AVal)} {m o : Nat} : ded seen ((d, .ptr m o) :: r) = ifSeen seen d (ded seen r) ((d, .ptr m o) :: ded (d :: seen) r) := id rfl
theorem ded_elt {seen : List Nat} {d : Nat} {r : List (Nat × AVal)} {m s i f : Nat} : ded seen ((d, .elt m s i f) :: r) = ifSeen seen d (ded seen r) ((d, .elt m s i f) :: ded (d :: seen) r) := id rfl
theorem ded_sub {seen : List Nat} {d : Nat} {r : List (Nat × AVal)} {m s l k : Nat} : ded seen ((d, .sub m s l k) :: r) = ifSeen seen d (ded seen r) ((d, .sub m s l k) :: ded (d :: seen) r) := id rfl
theorem ded_rs {seen : List Nat} {d : Nat} {r : List (Nat × AVal)} {t : Ty} {xs : List t.D} : ded seen ((d, .rs t xs) :: r) = ifSeen seen d (ded seen r) ((d, .rs t xs) :: ded (d :: seen) r) := id rfl
theorem ded_re {seen : List Nat} {d : Nat} {r : List (Nat × AVal)} {t : Ty} {x : t.D} {f : Nat} : ded seen ((d, .re t x f) :: r) = ifSeen seen d (ded seen r) ((d, .re t x f) :: ded (d :: seen) r) := id rfl
theorem ded_rp {seen : List Nat} {d : Nat} {r : List (Nat × AVal)} {t : Ty} {xs : List t.D} : ded seen ((d, .rp t xs) :: r) = ifSeen seen d (ded seen r) ((d, .rp t xs) :: ded (d :: seen) r) := id rfl
attribute [go_sem] ded_rp
theorem ded_agg {seen : List Nat} {d : Nat} {r : List (Nat × AVal)} {cs : List AVal} : ded seen ((d, .agg cs) :: r) = ifSeen seen d (ded seen r) ((d, .agg cs) :: ded (d :: seen) r) := id rfl
theorem ded_tup {seen : List Nat} {d : Nat} {r : List (Nat × AVal)} {cs : List AVal} : ded seen ((d, .tup cs) :: r) = ifSeen seen d (ded seen r) ((d, .tup cs) :: ded (d :: seen) r) := id rfl
theorem ded_fn {seen : List Nat} {d : Nat} {r : List (Nat × AVal)} {f : Nat} {cs : List AVal} : ded seen ((d, .fn f cs) :: r) = ifSeen seen d (ded seen r) ((d, .fn f cs) :: ded (d :: seen) r) := id rfl
attribute [go_sem] tidy_eq ifSeen_nil ifSeen_cons ded_nil ded_junk ded_v ded_ptr ded_elt ded_sub ded_rs ded_re ded_agg ded_tup ded_fn
theorem sub_self' {n : Nat} : n - n = 0 := by simp
attribute [go_sem] sub_self'
theorem tr_or {p : Prop} : (True ∨ p) = True := by simp
attribute [go_sem] take_len le_self tr_or om_some om_none bo_ff bo_tf bo_ft dc_true dc_false
theorem rep_0 {α : Type _} {a : α} : List.replicate 0 a = [] := id rfl
theorem rep_1 {α : Type _} {a : α} : List.replicate 1 a = [a] := id rfl
theorem rep_2 {α : Type _} {a : α} : List.replicate 2 a = [a, a] := id rfl
theorem flat_nil {α : Type _} : ([] : List (List α)).flatten = [] := id rfl
theorem flat_cons {α : Type _} {a : List α} {r : List (List α)} : (a :: r).flatten = a ++ r.flatten := id rfl
attribute [go_sem] rep_0 rep_1 rep_2 flat_nil flat_cons
theorem linD_done : linD .done = true := id rfl
theorem linD_stop : linD .stop = true := id rfl
theorem linD_held {o : LO} {t : DT} : linD (.held o t) = linD t := id rfl
theorem linD_one {o : LO} {t : DT} : linD (.alt o t .stop) = linD t := id rfl
theorem linD_two {o o2 : LO} {t t2 r2 : DT} : linD (.alt o t (.alt o2 t2 r2)) = false := id rfl
attribute [go_sem] linD_done linD_stop linD_held linD_one linD_two
theorem true_imp (p : Prop) : (True → p) = p := by simp
theorem false_imp (p : Prop) : (False → p) = True := by simp
theorem tt_imp (p : Prop) : (true = true → p) = p := by simp
theorem ff_imp (p : Prop) : (false = false → p) = p := by simp
theorem tf_imp (p : Prop) : (true = false → p) = True := by simp
theorem ft_imp (p : Prop) : (false = true → p) = True := by simp
theorem wrap_id {n : Int} (h1 : -9223372036854775808 ≤ n) (h2 : n ≤ 9223372036854775807) : wr .i64 n = n := by rw [wr_eq, IntKind.wrap_i64]; omega
theorem fill_set {α : Type} (xs : List α) (d z : α) (k : Nat) (h : k < xs.length) : (xs.take k ++ List.replicate (xs.length - k) z).set k (xs.getD k d) = xs.take (k + 1) ++ List.replicate (xs.length - (k + 1)) z := by
  apply List.ext_getElem?
  intro i
  simp only [List.getElem?_set, List.getElem?_append, List.length_append, List.length_take, List.length_replicate, List.getElem?_take, List.getElem?_replicate]
  have h1 : min k xs.length = k := by omega
  have h2 : min (k + 1) xs.length = k + 1 := by omega
  rw [h1, h2]
  by_cases e : k = i
  · subst e
    simp [h, List.getD, show k < k + (xs.length - k) by omega]
  · by_cases e2 : i < k
    · simp [e, e2, show i < k + 1 by omega]
    · simp [e, e2, show ¬ i < k + 1 by omega, show i - k < xs.length - k ↔ i - (k + 1) < xs.length - (k + 1) by omega]
theorem fill_len {α : Type} (xs : List α) (z : α) (k : Nat) (h : k ≤ xs.length) : (xs.take k ++ List.replicate (xs.length - k) z).length = xs.length := by simp; omega
theorem cast_succ (k : Nat) : (k : Int) + 1 = ((k + 1 : Nat) : Int) := by omega
attribute [go_sem] wrap_id List.all_cons List.all_nil Bool.and_true Bool.true_and List.contains_nil List.contains_cons true_imp false_imp tt_imp ff_imp tf_imp ft_imp Bool.not_true Bool.not_false and_true true_and and_false false_and Nat.zero_add Nat.add_zero Option.getD_some Option.getD_none
  if_true if_false List.map_cons List.map_nil List.length_cons List.length_nil List.drop_zero List.drop_succ_cons List.take_succ_cons List.take_zero List.take_nil List.drop_nil List.nil_append List.cons_append List.append_nil
  decide_eq_true_eq decide_eq_false_iff_not Bool.not_eq_true' Bool.not_eq_false' Bool.not_eq_eq_eq_not ne_eq not_true_eq_false not_false_eq_true forall_const Int.toNat_natCast List.append_nil
end Go.Proofs.YtfjfaajdbomhbaaE

/-! The code of a function, in the engine's words. -/
namespace Go.Proofs.YtfjfaajdbomhbaaE
open Go Go.RowKit
@[reducible] def ic3 : IC := (.seq (.ops [⟨some 2, .box (.tmp 0), none⟩, ⟨some 3, .box (.tmp 1), none⟩, ⟨some 4, .mov (.const (.bool false)), none⟩]) (.seq (.draw [⟨some 7, .load 16 true (.tmp 2), none⟩, ⟨some 8, .call 10 [(.tmp 7)], none⟩, ⟨some 9, .load 16 true (.tmp 3), none⟩, ⟨some 10, .call 10 [(.tmp 9)], none⟩, ⟨some 11, .call 9 [(.tmp 8), (.tmp 10)], none⟩, ⟨some 5, .new [(.int .u8 0), (.int .u8 0), (.int .u8 0), (.int .u8 0), (.int .u8 0), (.int .u8 0), (.int .u8 0), (.int .u8 0), (.int .u8 0), (.int .u8 0), (.int .u8 0), (.int .u8 0), (.int .u8 0), (.int .u8 0), (.int .u8 0), (.int .u8 0)], none⟩, ⟨none, .store 16 (.tmp 5) (.tmp 11), none⟩] (.held ⟨some 7, .load 16 true (.tmp 2), none⟩ (.held ⟨some 9, .load 16 true (.tmp 3), none⟩ (.alt ⟨some 8, .call 10 [(.tmp 7)], none⟩ (.alt ⟨some 10, .call 10 [(.tmp 9)], none⟩ (.alt ⟨some 11, .call 9 [(.tmp 8), (.tmp 10)], none⟩ (.alt ⟨some 5, .new [(.int .u8 0), (.int .u8 0), (.int .u8 0), (.int .u8 0), (.int .u8 0), (.int .u8 0), (.int .u8 0), (.int .u8 0), (.int .u8 0), (.int .u8 0), (.int .u8 0), (.int .u8 0), (.int .u8 0), (.int .u8 0), (.int .u8 0), (.int .u8 0)], none⟩ (.alt ⟨none, .store 16 (.tmp 5) (.tmp 11), none⟩ .done .stop) .stop) (.alt ⟨some 5, .new [(.int .u8 0), (.int .u8 0), (.int .u8 0), (.int .u8 0), (.int .u8 0), (.int .u8 0), (.int .u8 0), (.int .u8 0), (.int .u8 0), (.int .u8 0), (.int .u8 0), (.int .u8 0), (.int .u8 0), (.int .u8 0), (.int .u8 0), (.int .u8 0)], none⟩ (.alt ⟨some 11, .call 9 [(.tmp 8), (.tmp 10)], none⟩ (.alt ⟨none, .store 16 (.tmp 5) (.tmp 11), none⟩ .done .stop) .stop) .stop)) (.alt ⟨some 5, .new [(.int .u8 0), (.int .u8 0), (.int .u8 0), (.int .u8 0), (.int .u8 0), (.int .u8 0), (.int .u8 0), (.int .u8 0), (.int .u8 0), (.int .u8 0), (.int .u8 0), (.int .u8 0), (.int .u8 0), (.int .u8 0), (.int .u8 0), (.int .u8 0)], none⟩ (.alt ⟨some 10, .call 10 [(.tmp 9)], none⟩ (.alt ⟨some 11, .call 9 [(.tmp 8), (.tmp 10)], none⟩ (.alt ⟨none, .store 16 (.tmp 5) (.tmp 11), none⟩ .done .stop) .stop) .stop) .stop)) (.alt ⟨some 5, .new [(.int .u8 0), (.int .u8 0), (.int .u8 0), (.int .u8 0), (.int .u8 0), (.int .u8 0), (.int .u8 0), (.int .u8 0), (.int .u8 0), (.int .u8 0), (.int .u8 0), (.int .u8 0), (.int .u8 0), (.int .u8 0), (.int .u8 0), (.int .u8 0)], none⟩ (.alt ⟨some 8, .call 10 [(.tmp 7)], none⟩ (.alt ⟨some 10, .call 10 [(.tmp 9)], none⟩ (.alt ⟨some 11, .call 9 [(.tmp 8), (.tmp 10)], none⟩ (.alt ⟨none, .store 16 (.tmp 5) (.tmp 11), none⟩ .done .stop) .stop) .stop) .stop) .stop))))) (.seq (.draw [⟨some 12, .load 16 true (.tmp 2), none⟩, ⟨some 13, .call 10 [(.tmp 12)], none⟩, ⟨some 14, .load 16 true (.tmp 3), none⟩, ⟨some 15, .call 10 [(.tmp 14)], none⟩, ⟨some 16, .call 11 [(.tmp 13), (.tmp 15)], none⟩, ⟨some 6, .new [(.int .u8 0), (.int .u8 0), (.int .u8 0), (.int .u8 0), (.int .u8 0), (.int .u8 0), (.int .u8 0), (.int .u8 0), (.int .u8 0), (.int .u8 0), (.int .u8 0), (.int .u8 0), (.int .u8 0), (.int .u8 0), (.int .u8 0), (.int .u8 0)], none⟩, ⟨none, .store 16 (.tmp 6) (.tmp 16), none⟩] (.held ⟨some 12, .load 16 true (.tmp 2), none⟩ (.held ⟨some 14, .load 16 true (.tmp 3), none⟩ (.alt ⟨some 13, .call 10 [(.tmp 12)], none⟩ (.alt ⟨some 15, .call 10 [(.tmp 14)], none⟩ (.alt ⟨some 16, .call 11 [(.tmp 13), (.tmp 15)], none⟩ (.alt ⟨some 6, .new [(.int .u8 0), (.int .u8 0), (.int .u8 0), (.int .u8 0), (.int .u8 0), (.int .u8 0), (.int .u8 0), (.int .u8 0), (.int .u8 0), (.int .u8 0), (.int .u8 0), (.int .u8 0), (.int .u8 0), (.int .u8 0), (.int .u8 0), (.int .u8 0)], none⟩ (.alt ⟨none, .store 16 (.tmp 6) (.tmp 16), none⟩ .done .stop) .stop) (.alt ⟨some 6, .new [(.int .u8 0), (.int .u8 0), (.int .u8 0), (.int .u8 0), (.int .u8 0), (.int .u8 0), (.int .u8 0), (.int .u8 0), (.int .u8 0), (.int .u8 0), (.int .u8 0), (.int .u8 0), (.int .u8 0), (.int .u8 0), (.int .u8 0), (.int .u8 0)], none⟩ (.alt ⟨some 16, .call 11 [(.tmp 13), (.tmp 15)], none⟩ (.alt ⟨none, .store 16 (.tmp 6) (.tmp 16), none⟩ .done .stop) .stop) .stop)) (.alt ⟨some 6, .new [(.int .u8 0), (.int .u8 0), (.int .u8 0), (.int .u8 0), (.int .u8 0), (.int .u8 0), (.int .u8 0), (.int .u8 0), (.int .u8 0), (.int .u8 0), (.int .u8 0), (.int .u8 0), (.int .u8 0), (.int .u8 0), (.int .u8 0), (.int .u8 0)], none⟩ (.alt ⟨some 15, .call 10 [(.tmp 14)], none⟩ (.alt ⟨some 16, .call 11 [(.tmp 13), (.tmp 15)], none⟩ (.alt ⟨none, .store 16 (.tmp 6) (.tmp 16), none⟩ .done .stop) .stop) .stop) .stop)) (.alt ⟨some 6, .new [(.int .u8 0), (.int .u8 0), (.int .u8 0), (.int .u8 0), (.int .u8 0), (.int .u8 0), (.int .u8 0), (.int .u8 0), (.int .u8 0), (.int .u8 0), (.int .u8 0), (.int .u8 0), (.int .u8 0), (.int .u8 0), (.int .u8 0), (.int .u8 0)], none⟩ (.alt ⟨some 13, .call 10 [(.tmp 12)], none⟩ (.alt ⟨some 15, .call 10 [(.tmp 14)], none⟩ (.alt ⟨some 16, .call 11 [(.tmp 13), (.tmp 15)], none⟩ (.alt ⟨none, .store 16 (.tmp 6) (.tmp 16), none⟩ .done .stop) .stop) .stop) .stop) .stop))))) (.seq (.seq (.ops [⟨some 17, .load 16 true (.tmp 6), none⟩, ⟨some 18, .load 16 true (.tmp 5), none⟩, ⟨some 19, .call 12 [(.tmp 17), (.tmp 18)], none⟩, ⟨some 20, .una .not (.tmp 19), none⟩]) (.cond (.tmp 20) (.seq (.ops [⟨some 4, .mov (.const (.bool false)), none⟩]) .ret) .skip)) (.seq (.ops [⟨some 4, .mov (.const (.bool true)), none⟩]) .ret)))))
@[reducible] def rv3 : List RV := [.tmp 4]
theorem low3 : lowC Try.prog tau Try.f3.ntmps (Try.f3.body.getD .skip) = some (erase ic3) := by kernel_rfl
theorem res3 : lowR Try.prog Try.f3.results.toList = some rv3 := by kernel_rfl
theorem bod3 : Try.f3.body = some (Try.f3.body.getD .skip) := by kernel_rfl
theorem cal3 : callable Try.prog 3 = true := by kernel_rfl

end Go.Proofs.YtfjfaajdbomhbaaE

/-! The code of a function, in the engine's words. -/
namespace Go.Proofs.YtfjfaajdbomhbaaE
open Go Go.RowKit
@[reducible] def ic9 : IC := (.seq (.ops [⟨some 2, .box (.tmp 0), none⟩, ⟨some 3, .box (.tmp 1), none⟩, ⟨some 4, .new [(.int .u8 0), (.int .u8 0), (.int .u8 0), (.int .u8 0), (.int .u8 0), (.int .u8 0), (.int .u8 0), (.int .u8 0), (.int .u8 0), (.int .u8 0), (.int .u8 0), (.int .u8 0), (.int .u8 0), (.int .u8 0), (.int .u8 0), (.int .u8 0)], none⟩]) (.seq (.seq (.ops [⟨some 5, .mov (.const (.int .i64 0)), none⟩]) (.block 0 (.loop (.seq (.seq (.ops [⟨some 6, .mov (.tmp 5), none⟩, ⟨some 7, .bin .lss (.tmp 6) (.const (.int .i64 16)), none⟩]) (.cond (.tmp 7) .skip (.exit 0))) (.seq (.block 1 (.draw [⟨some 10, .mov (.tmp 5), none⟩, ⟨some 11, .mov (.tmp 5), none⟩, ⟨some 12, .iarr 1 16 (.tmp 2) (.tmp 11), none⟩, ⟨some 13, .load 1 false (.tmp 12), none⟩, ⟨some 14, .mov (.tmp 5), none⟩, ⟨some 15, .iarr 1 16 (.tmp 3) (.tmp 14), none⟩, ⟨some 16, .load 1 false (.tmp 15), none⟩, ⟨some 17, .bin .xor (.tmp 13) (.tmp 16), none⟩, ⟨some 18, .iarr 1 16 (.tmp 2) (.tmp 10), none⟩, ⟨none, .store 1 (.tmp 18) (.tmp 17), none⟩] (.held ⟨some 10, .mov (.tmp 5), none⟩ (.held ⟨some 11, .mov (.tmp 5), none⟩ (.held ⟨some 12, .iarr 1 16 (.tmp 2) (.tmp 11), none⟩ (.held ⟨some 13, .load 1 false (.tmp 12), none⟩ (.held ⟨some 14, .mov (.tmp 5), none⟩ (.held ⟨some 15, .iarr 1 16 (.tmp 3) (.tmp 14), none⟩ (.held ⟨some 16, .load 1 false (.tmp 15), none⟩ (.held ⟨some 17, .bin .xor (.tmp 13) (.tmp 16), none⟩ (.held ⟨some 18, .iarr 1 16 (.tmp 2) (.tmp 10), none⟩ (.alt ⟨none, .store 1 (.tmp 18) (.tmp 17), none⟩ .done .stop)))))))))))) (.ops [⟨some 8, .mov (.tmp 5), none⟩, ⟨some 9, .bin .add (.tmp 8) (.const (.int .i64 1)), none⟩, ⟨some 5, .mov (.tmp 9), none⟩])))))) (.seq (.ops [⟨some 19, .load 16 true (.tmp 2), none⟩, ⟨none, .store 16 (.tmp 4) (.tmp 19), none⟩]) .ret)))
@[reducible] def rv9 : List RV := [.cell 4 16 true]
theorem low9 : lowC Try.prog tau Try.f9.ntmps (Try.f9.body.getD .skip) = some (erase ic9) := by kernel_rfl
theorem res9 : lowR Try.prog Try.f9.results.toList = some rv9 := by kernel_rfl
theorem bod9 : Try.f9.body = some (Try.f9.body.getD .skip) := by kernel_rfl
theorem cal9 : callable Try.prog 9 = true := by kernel_rfl

end Go.Proofs.YtfjfaajdbomhbaaE

/-! The code of a function, in the engine's words. -/
namespace Go.Proofs.YtfjfaajdbomhbaaE
open Go Go.RowKit
@[reducible] def ic10 : IC := (.seq (.ops [⟨some 1, .box (.tmp 0), none⟩, ⟨some 2, .new [(.int .u8 0), (.int .u8 0), (.int .u8 0), (.int .u8 0), (.int .u8 0), (.int .u8 0), (.int .u8 0), (.int .u8 0), (.int .u8 0), (.int .u8 0), (.int .u8 0), (.int .u8 0), (.int .u8 0), (.int .u8 0), (.int .u8 0), (.int .u8 0)], none⟩]) (.seq (.ops [⟨some 3, .new [(.int .u8 0), (.int .u8 0), (.int .u8 0), (.int .u8 0), (.int .u8 0), (.int .u8 0), (.int .u8 0), (.int .u8 0), (.int .u8 0), (.int .u8 0), (.int .u8 0), (.int .u8 0), (.int .u8 0), (.int .u8 0), (.int .u8 0), (.int .u8 0)], none⟩]) (.seq (.seq (.ops [⟨some 4, .mov (.const (.int .i64 0)), none⟩]) (.block 0 (.loop (.seq (.seq (.ops [⟨some 5, .mov (.tmp 4), none⟩, ⟨some 6, .bin .lss (.tmp 5) (.const (.int .i64 16)), none⟩]) (.cond (.tmp 6) .skip (.exit 0))) (.seq (.block 1 (.ops [⟨some 9, .mov (.tmp 4), none⟩, ⟨some 10, .mov (.tmp 4), none⟩, ⟨some 11, .iarr 1 16 (.tmp 1) (.tmp 10), none⟩, ⟨some 12, .load 1 false (.tmp 11), none⟩, ⟨some 13, .iarr 1 16 (.tmp 3) (.tmp 9), none⟩, ⟨none, .store 1 (.tmp 13) (.tmp 12), none⟩])) (.ops [⟨some 7, .mov (.tmp 4), none⟩, ⟨some 8, .bin .add (.tmp 7) (.const (.int .i64 1)), none⟩, ⟨some 4, .mov (.tmp 8), none⟩])))))) (.seq (.ops [⟨some 14, .load 16 true (.tmp 3), none⟩, ⟨none, .store 16 (.tmp 2) (.tmp 14), none⟩]) .ret))))
@[reducible] def rv10 : List RV := [.cell 2 16 true]
theorem low10 : lowC Try.prog tau Try.f10.ntmps (Try.f10.body.getD .skip) = some (erase ic10) := by kernel_rfl
theorem res10 : lowR Try.prog Try.f10.results.toList = some rv10 := by kernel_rfl
theorem bod10 : Try.f10.body = some (Try.f10.body.getD .skip) := by kernel_rfl
theorem cal10 : callable Try.prog 10 = true := by kernel_rfl

end Go.Proofs.YtfjfaajdbomhbaaE

/-! The code of a function, in the engine's words. -/
namespace Go.Proofs.YtfjfaajdbomhbaaE
open Go Go.RowKit
@[reducible] def ic11 : IC := (.seq (.ops [⟨some 2, .box (.tmp 0), none⟩, ⟨some 3, .box (.tmp 1), none⟩, ⟨some 4, .new [(.int .u8 0), (.int .u8 0), (.int .u8 0), (.int .u8 0), (.int .u8 0), (.int .u8 0), (.int .u8 0), (.int .u8 0), (.int .u8 0), (.int .u8 0), (.int .u8 0), (.int .u8 0), (.int .u8 0), (.int .u8 0), (.int .u8 0), (.int .u8 0)], none⟩]) (.seq (.seq (.ops [⟨some 6, .mov (.const (.int .i64 0)), none⟩]) (.block 0 (.loop (.seq (.ops [⟨some 7, .bin .lss (.tmp 6) (.const (.int .i64 16)), none⟩]) (.seq (.cond (.tmp 7) .skip (.exit 0)) (.seq (.block 1 (.seq (.ops [⟨some 8, .mov (.tmp 6), none⟩, ⟨some 5, .mov (.tmp 8), none⟩]) (.draw [⟨some 9, .mov (.tmp 5), none⟩, ⟨some 10, .iarr 1 16 (.tmp 2) (.tmp 9), none⟩, ⟨some 11, .load 1 false (.tmp 10), none⟩, ⟨some 12, .mov (.tmp 5), none⟩, ⟨some 13, .iarr 1 16 (.tmp 3) (.tmp 12), none⟩, ⟨some 14, .load 1 false (.tmp 13), none⟩, ⟨some 15, .bin .xor (.tmp 11) (.tmp 14), none⟩, ⟨some 16, .iarr 1 16 (.tmp 2) (.tmp 9), none⟩, ⟨none, .store 1 (.tmp 16) (.tmp 15), none⟩] (.held ⟨some 9, .mov (.tmp 5), none⟩ (.held ⟨some 10, .iarr 1 16 (.tmp 2) (.tmp 9), none⟩ (.held ⟨some 11, .load 1 false (.tmp 10), none⟩ (.held ⟨some 12, .mov (.tmp 5), none⟩ (.held ⟨some 13, .iarr 1 16 (.tmp 3) (.tmp 12), none⟩ (.held ⟨some 14, .load 1 false (.tmp 13), none⟩ (.held ⟨some 15, .bin .xor (.tmp 11) (.tmp 14), none⟩ (.held ⟨some 16, .iarr 1 16 (.tmp 2) (.tmp 9), none⟩ (.alt ⟨none, .store 1 (.tmp 16) (.tmp 15), none⟩ .done .stop)))))))))))) (.ops [⟨some 17, .bin .add (.tmp 6) (.const (.int .i64 1)), none⟩, ⟨some 6, .mov (.tmp 17), none⟩]))))))) (.seq (.ops [⟨some 18, .load 16 true (.tmp 2), none⟩, ⟨none, .store 16 (.tmp 4) (.tmp 18), none⟩]) .ret)))
@[reducible] def rv11 : List RV := [.cell 4 16 true]
theorem low11 : lowC Try.prog tau Try.f11.ntmps (Try.f11.body.getD .skip) = some (erase ic11) := by kernel_rfl
theorem res11 : lowR Try.prog Try.f11.results.toList = some rv11 := by kernel_rfl
theorem bod11 : Try.f11.body = some (Try.f11.body.getD .skip) := by kernel_rfl
theorem cal11 : callable Try.prog 11 = true := by kernel_rfl

end Go.Proofs.YtfjfaajdbomhbaaE

/-! The code of a function, in the engine's words. -/
namespace Go.Proofs.YtfjfaajdbomhbaaE
open Go Go.RowKit
@[reducible] def ic12 : IC := (.seq (.ops [⟨some 2, .box (.tmp 0), none⟩, ⟨some 3, .box (.tmp 1), none⟩, ⟨some 4, .mov (.const (.bool false)), none⟩]) (.seq (.seq (.ops [⟨some 5, .mov (.const (.int .i64 0)), none⟩]) (.block 0 (.loop (.seq (.seq (.ops [⟨some 6, .mov (.tmp 5), none⟩, ⟨some 7, .bin .lss (.tmp 6) (.const (.int .i64 16)), none⟩]) (.cond (.tmp 7) .skip (.exit 0))) (.seq (.block 1 (.seq (.draw [⟨some 10, .mov (.tmp 5), none⟩, ⟨some 11, .iarr 1 16 (.tmp 2) (.tmp 10), none⟩, ⟨some 12, .load 1 false (.tmp 11), none⟩, ⟨some 13, .mov (.tmp 5), none⟩, ⟨some 14, .iarr 1 16 (.tmp 3) (.tmp 13), none⟩, ⟨some 15, .load 1 false (.tmp 14), none⟩, ⟨some 16, .bin .neq (.tmp 12) (.tmp 15), none⟩] (.held ⟨some 10, .mov (.tmp 5), none⟩ (.held ⟨some 11, .iarr 1 16 (.tmp 2) (.tmp 10), none⟩ (.held ⟨some 12, .load 1 false (.tmp 11), none⟩ (.held ⟨some 13, .mov (.tmp 5), none⟩ (.held ⟨some 14, .iarr 1 16 (.tmp 3) (.tmp 13), none⟩ (.held ⟨some 15, .load 1 false (.tmp 14), none⟩ (.held ⟨some 16, .bin .neq (.tmp 12) (.tmp 15), none⟩ .done)))))))) (.cond (.tmp 16) (.seq (.ops [⟨some 4, .mov (.const (.bool false)), none⟩]) .ret) .skip))) (.ops [⟨some 8, .mov (.tmp 5), none⟩, ⟨some 9, .bin .add (.tmp 8) (.const (.int .i64 1)), none⟩, ⟨some 5, .mov (.tmp 9), none⟩])))))) (.seq (.ops [⟨some 4, .mov (.const (.bool true)), none⟩]) .ret)))
@[reducible] def rv12 : List RV := [.tmp 4]
theorem low12 : lowC Try.prog tau Try.f12.ntmps (Try.f12.body.getD .skip) = some (erase ic12) := by kernel_rfl
theorem res12 : lowR Try.prog Try.f12.results.toList = some rv12 := by kernel_rfl
theorem bod12 : Try.f12.body = some (Try.f12.body.getD .skip) := by kernel_rfl
theorem cal12 : callable Try.prog 12 = true := by kernel_rfl

end Go.Proofs.YtfjfaajdbomhbaaE

/-! Cells of sixteen bytes: copies, comparisons, exclusive or. -/
namespace Go.Proofs.YtfjfaajdbomhbaaE
open Go Go.RowKit
set_option linter.unusedSimpArgs false
set_option linter.unusedVariables false
set_option maxRecDepth 50000
set_option maxHeartbeats 4000000

def spToA16 : Spec := ⟨fun _ _ => [], fun args objs K => match args, objs with
  | [.agg [.v (.int .u8 a0), .v (.int .u8 a1), .v (.int .u8 a2), .v (.int .u8 a3), .v (.int .u8 a4), .v (.int .u8 a5), .v (.int .u8 a6), .v (.int .u8 a7), .v (.int .u8 a8), .v (.int .u8 a9), .v (.int .u8 a10), .v (.int .u8 a11), .v (.int .u8 a12), .v (.int .u8 a13), .v (.int .u8 a14), .v (.int .u8 a15)]], [] => K (.agg [.v (.int .u8 a0), .v (.int .u8 a1), .v (.int .u8 a2), .v (.int .u8 a3), .v (.int .u8 a4), .v (.int .u8 a5), .v (.int .u8 a6), .v (.int .u8 a7), .v (.int .u8 a8), .v (.int .u8 a9), .v (.int .u8 a10), .v (.int .u8 a11), .v (.int .u8 a12), .v (.int .u8 a13), .v (.int .u8 a14), .v (.int .u8 a15)]) [] 0
  | _, _ => False, false⟩
theorem spToA16_t {L : Hp} {a : List AVal} : Spec.take spToA16 L a = [] := id rfl
theorem spToA16_k : Spec.keep spToA16 = false := id rfl
theorem spToA16_f {a0} {a1} {a2} {a3} {a4} {a5} {a6} {a7} {a8} {a9} {a10} {a11} {a12} {a13} {a14} {a15} {K : AVal → Hp → Nat → Prop} : Spec.f spToA16 ([.agg [.v (.int .u8 a0), .v (.int .u8 a1), .v (.int .u8 a2), .v (.int .u8 a3), .v (.int .u8 a4), .v (.int .u8 a5), .v (.int .u8 a6), .v (.int .u8 a7), .v (.int .u8 a8), .v (.int .u8 a9), .v (.int .u8 a10), .v (.int .u8 a11), .v (.int .u8 a12), .v (.int .u8 a13), .v (.int .u8 a14), .v (.int .u8 a15)]]) ([]) K = (K (.agg [.v (.int .u8 a0), .v (.int .u8 a1), .v (.int .u8 a2), .v (.int .u8 a3), .v (.int .u8 a4), .v (.int .u8 a5), .v (.int .u8 a6), .v (.int .u8 a7), .v (.int .u8 a8), .v (.int .u8 a9), .v (.int .u8 a10), .v (.int .u8 a11), .v (.int .u8 a12), .v (.int .u8 a13), .v (.int .u8 a14), .v (.int .u8 a15)]) [] 0) := id rfl
theorem valid10 : Valid Try.prog 10 spToA16 := by
  refine validI (Γ := lk []) Try.func10 bod10 low10 res10 (good_of trivial) ?_
  intro E args objs K h hE hG hP
  simp only [spToA16] at h
  split at h
  · refine ⟨by simp [Try.ntmps10], ?_⟩
    rename_i a0 a1 a2 a3 a4 a5 a6 a7 a8 a9 a10 a11 a12 a13 a14 a15
    simp (config := { maxSteps := 2000000 }) only [go_sem, hG, hP, Nat.reduceEqDiff, ↓reduceIte, reduceCtorEq, Nat.reduceAdd, Nat.reduceSub, Nat.reduceMul, Nat.reduceLT, Nat.reduceLeDiff, Int.reduceAdd, Int.reduceSub, Int.reduceMul, Int.reduceLT, Int.reduceLE, Int.reduceEq, Int.reduceNeg, Int.reduceNe, Int.reduceGE, Int.reduceGT, Nat.reduceBEq, Int.reduceToNat]
    refine unrollI hE [(), (), (), (), (), (), (), (), (), (), (), (), (), (), (), (), ()] ?_
    simp (config := { maxSteps := 2000000 }) only [go_sem, hG, hP, Nat.reduceEqDiff, ↓reduceIte, reduceCtorEq, Nat.reduceAdd, Nat.reduceSub, Nat.reduceMul, Nat.reduceLT, Nat.reduceLeDiff, Int.reduceAdd, Int.reduceSub, Int.reduceMul, Int.reduceLT, Int.reduceLE, Int.reduceEq, Int.reduceNeg, Int.reduceNe, Int.reduceGE, Int.reduceGT, Nat.reduceBEq, Int.reduceToNat]
    refine ⟨_, _, _, ?_, h⟩
    simp (config := { maxSteps := 2000000 }) only [go_sem, hG, hP, Nat.reduceEqDiff, ↓reduceIte, reduceCtorEq, Nat.reduceAdd, Nat.reduceSub, Nat.reduceMul, Nat.reduceLT, Nat.reduceLeDiff, Int.reduceAdd, Int.reduceSub, Int.reduceMul, Int.reduceLT, Int.reduceLE, Int.reduceEq, Int.reduceNeg, Int.reduceNe, Int.reduceGE, Int.reduceGT, Nat.reduceBEq, Int.reduceToNat]
    all_goals simp
  · exact h.elim
def spXor : Spec := ⟨fun _ _ => [], fun args objs K => match args, objs with
  | [.agg [.v (.int .u8 a0), .v (.int .u8 a1), .v (.int .u8 a2), .v (.int .u8 a3), .v (.int .u8 a4), .v (.int .u8 a5), .v (.int .u8 a6), .v (.int .u8 a7), .v (.int .u8 a8), .v (.int .u8 a9), .v (.int .u8 a10), .v (.int .u8 a11), .v (.int .u8 a12), .v (.int .u8 a13), .v (.int .u8 a14), .v (.int .u8 a15)], .agg [.v (.int .u8 b0), .v (.int .u8 b1), .v (.int .u8 b2), .v (.int .u8 b3), .v (.int .u8 b4), .v (.int .u8 b5), .v (.int .u8 b6), .v (.int .u8 b7), .v (.int .u8 b8), .v (.int .u8 b9), .v (.int .u8 b10), .v (.int .u8 b11), .v (.int .u8 b12), .v (.int .u8 b13), .v (.int .u8 b14), .v (.int .u8 b15)]], [] => K (.agg [.v (.int .u8 (xorV .u8 a0 b0)), .v (.int .u8 (xorV .u8 a1 b1)), .v (.int .u8 (xorV .u8 a2 b2)), .v (.int .u8 (xorV .u8 a3 b3)), .v (.int .u8 (xorV .u8 a4 b4)), .v (.int .u8 (xorV .u8 a5 b5)), .v (.int .u8 (xorV .u8 a6 b6)), .v (.int .u8 (xorV .u8 a7 b7)), .v (.int .u8 (xorV .u8 a8 b8)), .v (.int .u8 (xorV .u8 a9 b9)), .v (.int .u8 (xorV .u8 a10 b10)), .v (.int .u8 (xorV .u8 a11 b11)), .v (.int .u8 (xorV .u8 a12 b12)), .v (.int .u8 (xorV .u8 a13 b13)), .v (.int .u8 (xorV .u8 a14 b14)), .v (.int .u8 (xorV .u8 a15 b15))]) [] 0
  | _, _ => False, false⟩
theorem spXor_t {L : Hp} {a : List AVal} : Spec.take spXor L a = [] := id rfl
theorem spXor_k : Spec.keep spXor = false := id rfl
theorem spXor_f {a0} {a1} {a2} {a3} {a4} {a5} {a6} {a7} {a8} {a9} {a10} {a11} {a12} {a13} {a14} {a15} {b0} {b1} {b2} {b3} {b4} {b5} {b6} {b7} {b8} {b9} {b10} {b11} {b12} {b13} {b14} {b15} {K : AVal → Hp → Nat → Prop} : Spec.f spXor ([.agg [.v (.int .u8 a0), .v (.int .u8 a1), .v (.int .u8 a2), .v (.int .u8 a3), .v (.int .u8 a4), .v (.int .u8 a5), .v (.int .u8 a6), .v (.int .u8 a7), .v (.int .u8 a8), .v (.int .u8 a9), .v (.int .u8 a10), .v (.int .u8 a11), .v (.int .u8 a12), .v (.int .u8 a13), .v (.int .u8 a14), .v (.int .u8 a15)], .agg [.v (.int .u8 b0), .v (.int .u8 b1), .v (.int .u8 b2), .v (.int .u8 b3), .v (.int .u8 b4), .v (.int .u8 b5), .v (.int .u8 b6), .v (.int .u8 b7), .v (.int .u8 b8), .v (.int .u8 b9), .v (.int .u8 b10), .v (.int .u8 b11), .v (.int .u8 b12), .v (.int .u8 b13), .v (.int .u8 b14), .v (.int .u8 b15)]]) ([]) K = (K (.agg [.v (.int .u8 (xorV .u8 a0 b0)), .v (.int .u8 (xorV .u8 a1 b1)), .v (.int .u8 (xorV .u8 a2 b2)), .v (.int .u8 (xorV .u8 a3 b3)), .v (.int .u8 (xorV .u8 a4 b4)), .v (.int .u8 (xorV .u8 a5 b5)), .v (.int .u8 (xorV .u8 a6 b6)), .v (.int .u8 (xorV .u8 a7 b7)), .v (.int .u8 (xorV .u8 a8 b8)), .v (.int .u8 (xorV .u8 a9 b9)), .v (.int .u8 (xorV .u8 a10 b10)), .v (.int .u8 (xorV .u8 a11 b11)), .v (.int .u8 (xorV .u8 a12 b12)), .v (.int .u8 (xorV .u8 a13 b13)), .v (.int .u8 (xorV .u8 a14 b14)), .v (.int .u8 (xorV .u8 a15 b15))]) [] 0) := id rfl
theorem valid9 : Valid Try.prog 9 spXor := by
  refine validI (Γ := lk []) Try.func9 bod9 low9 res9 (good_of trivial) ?_
  intro E args objs K h hE hG hP
  simp only [spXor] at h
  split at h
  · refine ⟨by simp [Try.ntmps9], ?_⟩
    rename_i a0 a1 a2 a3 a4 a5 a6 a7 a8 a9 a10 a11 a12 a13 a14 a15 b0 b1 b2 b3 b4 b5 b6 b7 b8 b9 b10 b11 b12 b13 b14 b15
    simp (config := { maxSteps := 2000000 }) only [go_sem, hG, hP, Nat.reduceEqDiff, ↓reduceIte, reduceCtorEq, Nat.reduceAdd, Nat.reduceSub, Nat.reduceMul, Nat.reduceLT, Nat.reduceLeDiff, Int.reduceAdd, Int.reduceSub, Int.reduceMul, Int.reduceLT, Int.reduceLE, Int.reduceEq, Int.reduceNeg, Int.reduceNe, Int.reduceGE, Int.reduceGT, Nat.reduceBEq, Int.reduceToNat]
    refine unrollI hE [(), (), (), (), (), (), (), (), (), (), (), (), (), (), (), (), ()] ?_
    simp (config := { maxSteps := 2000000 }) only [go_sem, hG, hP, Nat.reduceEqDiff, ↓reduceIte, reduceCtorEq, Nat.reduceAdd, Nat.reduceSub, Nat.reduceMul, Nat.reduceLT, Nat.reduceLeDiff, Int.reduceAdd, Int.reduceSub, Int.reduceMul, Int.reduceLT, Int.reduceLE, Int.reduceEq, Int.reduceNeg, Int.reduceNe, Int.reduceGE, Int.reduceGT, Nat.reduceBEq, Int.reduceToNat]
    refine ⟨_, _, _, ?_, h⟩
    simp (config := { maxSteps := 2000000 }) only [go_sem, hG, hP, Nat.reduceEqDiff, ↓reduceIte, reduceCtorEq, Nat.reduceAdd, Nat.reduceSub, Nat.reduceMul, Nat.reduceLT, Nat.reduceLeDiff, Int.reduceAdd, Int.reduceSub, Int.reduceMul, Int.reduceLT, Int.reduceLE, Int.reduceEq, Int.reduceNeg, Int.reduceNe, Int.reduceGE, Int.reduceGT, Nat.reduceBEq, Int.reduceToNat]
    all_goals simp
  · exact h.elim
theorem valid11 : Valid Try.prog 11 spXor := by
  refine validI (Γ := lk []) Try.func11 bod11 low11 res11 (good_of trivial) ?_
  intro E args objs K h hE hG hP
  simp only [spXor] at h
  split at h
  · refine ⟨by simp [Try.ntmps11], ?_⟩
    rename_i a0 a1 a2 a3 a4 a5 a6 a7 a8 a9 a10 a11 a12 a13 a14 a15 b0 b1 b2 b3 b4 b5 b6 b7 b8 b9 b10 b11 b12 b13 b14 b15
    simp (config := { maxSteps := 2000000 }) only [go_sem, hG, hP, Nat.reduceEqDiff, ↓reduceIte, reduceCtorEq, Nat.reduceAdd, Nat.reduceSub, Nat.reduceMul, Nat.reduceLT, Nat.reduceLeDiff, Int.reduceAdd, Int.reduceSub, Int.reduceMul, Int.reduceLT, Int.reduceLE, Int.reduceEq, Int.reduceNeg, Int.reduceNe, Int.reduceGE, Int.reduceGT, Nat.reduceBEq, Int.reduceToNat]
    refine unrollI hE [(), (), (), (), (), (), (), (), (), (), (), (), (), (), (), (), ()] ?_
    simp (config := { maxSteps := 2000000 }) only [go_sem, hG, hP, Nat.reduceEqDiff, ↓reduceIte, reduceCtorEq, Nat.reduceAdd, Nat.reduceSub, Nat.reduceMul, Nat.reduceLT, Nat.reduceLeDiff, Int.reduceAdd, Int.reduceSub, Int.reduceMul, Int.reduceLT, Int.reduceLE, Int.reduceEq, Int.reduceNeg, Int.reduceNe, Int.reduceGE, Int.reduceGT, Nat.reduceBEq, Int.reduceToNat]
    refine ⟨_, _, _, ?_, h⟩
    simp (config := { maxSteps := 2000000 }) only [go_sem, hG, hP, Nat.reduceEqDiff, ↓reduceIte, reduceCtorEq, Nat.reduceAdd, Nat.reduceSub, Nat.reduceMul, Nat.reduceLT, Nat.reduceLeDiff, Int.reduceAdd, Int.reduceSub, Int.reduceMul, Int.reduceLT, Int.reduceLE, Int.reduceEq, Int.reduceNeg, Int.reduceNe, Int.reduceGE, Int.reduceGT, Nat.reduceBEq, Int.reduceToNat]
    all_goals simp
  · exact h.elim
end Go.Proofs.YtfjfaajdbomhbaaE

/-! The code of a function, in the engine's words. -/
namespace Go.Proofs.YtfjfaajdbomhbaaE
open Go Go.RowKit
@[reducible] def ic33 : IC := (.seq (.ops [⟨some 2, .mov (.const (.pointer none)), none⟩]) (.seq (.ops [⟨some 5, .mov (.tmp 0), none⟩, ⟨some 6, .len (.tmp 5), none⟩, ⟨some 7, .bin .add (.const (.int .i64 71933)) (.tmp 6), none⟩, ⟨some 3, .mov (.tmp 7), none⟩]) (.seq (.seq (.ops [⟨some 4, .mov (.const (.int .i64 0)), none⟩]) (.block 0 (.loop (.seq (.seq (.ops [⟨some 8, .mov (.tmp 4), none⟩, ⟨some 9, .mov (.tmp 0), none⟩, ⟨some 10, .len (.tmp 9), none⟩, ⟨some 11, .bin .lss (.tmp 8) (.tmp 10), none⟩, ⟨some 12, .mov (.tmp 11), none⟩, ⟨some 13, .mov (.tmp 4), some (12, true)⟩, ⟨some 14, .bin .lss (.tmp 13) (.const (.int .i64 4000)), some (12, true)⟩, ⟨some 15, .pick (.tmp 12) (.tmp 14) (.const (.bool false)), none⟩]) (.cond (.tmp 15) .skip (.exit 0))) (.seq (.block 1 (.ops [⟨some 18, .mov (.tmp 3), none⟩, ⟨some 19, .bin .mul (.tmp 18) (.const (.int .i64 131)), none⟩, ⟨some 20, .mov (.tmp 0), none⟩, ⟨some 21, .mov (.tmp 4), none⟩, ⟨some 22, .iadr 1 (.tmp 20) (.tmp 21), none⟩, ⟨some 23, .load 1 false (.tmp 22), none⟩, ⟨some 24, .cvi .i64 (.tmp 23), none⟩, ⟨some 25, .bin .add (.tmp 19) (.tmp 24), none⟩, ⟨some 26, .bin .add (.tmp 25) (.const (.int .i64 7)), none⟩, ⟨some 27, .bin .and (.tmp 26) (.const (.int .i64 1073741823)), none⟩, ⟨some 3, .mov (.tmp 27), none⟩])) (.ops [⟨some 16, .mov (.tmp 4), none⟩, ⟨some 17, .bin .add (.tmp 16) (.const (.int .i64 1)), none⟩, ⟨some 4, .mov (.tmp 17), none⟩])))))) (.seq (.ops [⟨some 28, .mov (.tmp 0), none⟩, ⟨some 29, .mov (.tmp 3), none⟩, ⟨some 30, .bld [(.slice none 0 0), (.int .i64 0), (.int .i64 0)] [(0, 1, (.tmp 28)), (2, 1, (.tmp 29))], none⟩, ⟨some 31, .box (.tmp 30), none⟩, ⟨some 2, .mov (.tmp 31), none⟩]) .ret))))
@[reducible] def rv33 : List RV := [.tmp 2]
theorem low33 : lowC Try.prog tau Try.f33.ntmps (Try.f33.body.getD .skip) = some (erase ic33) := by kernel_rfl
theorem res33 : lowR Try.prog Try.f33.results.toList = some rv33 := by kernel_rfl
theorem bod33 : Try.f33.body = some (Try.f33.body.getD .skip) := by kernel_rfl
theorem cal33 : callable Try.prog 33 = true := by kernel_rfl

end Go.Proofs.YtfjfaajdbomhbaaE

/-! The code of a function, in the engine's words. -/
namespace Go.Proofs.YtfjfaajdbomhbaaE
open Go Go.RowKit
@[reducible] def ic36 : IC := (.seq (.ops [⟨some 4, .mov (.const (.int .i64 0)), none⟩]) (.seq (.seq (.ops [⟨some 9, .mov (.tmp 1), none⟩, ⟨some 10, .bin .leq (.tmp 9) (.const (.int .i64 0)), none⟩]) (.cond (.tmp 10) (.seq (.ops [⟨some 4, .mov (.const (.int .i64 0)), none⟩]) .ret) .skip)) (.seq (.seq (.ops [⟨some 11, .mov (.tmp 1), none⟩, ⟨some 12, .bin .leq (.tmp 11) (.const (.int .i64 256)), none⟩]) (.cond (.tmp 12) (.seq (.ops [⟨some 13, .mov (.tmp 0), none⟩, ⟨some 14, .call 40 [(.tmp 13)], none⟩, ⟨some 15, .mov (.tmp 1), none⟩, ⟨some 16, .bin .rem (.tmp 14) (.tmp 15), none⟩, ⟨some 4, .mov (.tmp 16), none⟩]) .ret) .skip)) (.seq (.ops [⟨some 17, .mov (.tmp 0), none⟩, ⟨some 18, .call 40 [(.tmp 17)], none⟩, ⟨some 5, .mov (.tmp 18), none⟩]) (.seq (.ops [⟨some 19, .mov (.tmp 0), none⟩, ⟨some 20, .call 40 [(.tmp 19)], none⟩, ⟨some 6, .mov (.tmp 20), none⟩]) (.seq (.ops [⟨some 21, .mov (.tmp 0), none⟩, ⟨some 22, .call 40 [(.tmp 21)], none⟩, ⟨some 7, .mov (.tmp 22), none⟩]) (.seq (.ops [⟨some 23, .mov (.tmp 0), none⟩, ⟨some 24, .call 40 [(.tmp 23)], none⟩, ⟨some 8, .mov (.tmp 24), none⟩]) (.seq (.ops [⟨some 25, .mov (.tmp 5), none⟩, ⟨some 26, .bin .mul (.tmp 25) (.const (.int .i64 16777216)), none⟩, ⟨some 27, .mov (.tmp 6), none⟩, ⟨some 28, .bin .mul (.tmp 27) (.const (.int .i64 65536)), none⟩, ⟨some 29, .bin .add (.tmp 26) (.tmp 28), none⟩, ⟨some 30, .mov (.tmp 7), none⟩, ⟨some 31, .bin .mul (.tmp 30) (.const (.int .i64 256)), none⟩, ⟨some 32, .bin .add (.tmp 29) (.tmp 31), none⟩, ⟨some 33, .mov (.tmp 8), none⟩, ⟨some 34, .bin .add (.tmp 32) (.tmp 33), none⟩, ⟨some 35, .mov (.tmp 1), none⟩, ⟨some 36, .bin .rem (.tmp 34) (.tmp 35), none⟩, ⟨some 4, .mov (.tmp 36), none⟩]) .ret))))))))
@[reducible] def rv36 : List RV := [.tmp 4]
theorem low36 : lowC Try.prog tau Try.f36.ntmps (Try.f36.body.getD .skip) = some (erase ic36) := by kernel_rfl
theorem res36 : lowR Try.prog Try.f36.results.toList = some rv36 := by kernel_rfl
theorem bod36 : Try.f36.body = some (Try.f36.body.getD .skip) := by kernel_rfl
theorem cal36 : callable Try.prog 36 = true := by kernel_rfl

end Go.Proofs.YtfjfaajdbomhbaaE

/-! The code of a function, in the engine's words. -/
namespace Go.Proofs.YtfjfaajdbomhbaaE
open Go Go.RowKit
@[reducible] def ic40 : IC := (.seq (.ops [⟨some 2, .mov (.const (.int .i64 0)), none⟩]) (.seq (.ops [⟨some 4, .mov (.tmp 0), none⟩, ⟨some 5, .mov (.tmp 0), none⟩, ⟨some 6, .nilc (.tmp 5), none⟩, ⟨some 7, .fadr 2 (.tmp 6), none⟩, ⟨some 8, .load 1 false (.tmp 7), none⟩, ⟨some 9, .bin .mul (.tmp 8) (.const (.int .i64 6364136223846793005)), none⟩, ⟨some 10, .bin .add (.tmp 9) (.const (.int .i64 1442695040888963407)), none⟩, ⟨some 11, .nilc (.tmp 4), none⟩, ⟨some 12, .fadr 2 (.tmp 11), none⟩, ⟨none, .store 1 (.tmp 12) (.tmp 10), none⟩]) (.seq (.draw [⟨some 13, .mov (.tmp 0), none⟩, ⟨some 14, .nilc (.tmp 13), none⟩, ⟨some 15, .fadr 2 (.tmp 14), none⟩, ⟨some 16, .load 1 false (.tmp 15), none⟩, ⟨some 17, .bin .shr (.tmp 16) (.const (.int .u64 33)), none⟩, ⟨some 18, .mov (.tmp 0), none⟩, ⟨some 19, .nilc (.tmp 18), none⟩, ⟨some 20, .fadr 2 (.tmp 19), none⟩, ⟨some 21, .load 1 false (.tmp 20), none⟩, ⟨some 22, .bin .shr (.tmp 21) (.const (.int .u64 45)), none⟩, ⟨some 23, .bin .xor (.tmp 17) (.tmp 22), none⟩, ⟨some 24, .bin .and (.tmp 23) (.const (.int .i64 255)), none⟩, ⟨some 3, .mov (.tmp 24), none⟩] (.held ⟨some 13, .mov (.tmp 0), none⟩ (.held ⟨some 14, .nilc (.tmp 13), none⟩ (.held ⟨some 15, .fadr 2 (.tmp 14), none⟩ (.held ⟨some 16, .load 1 false (.tmp 15), none⟩ (.held ⟨some 17, .bin .shr (.tmp 16) (.const (.int .u64 33)), none⟩ (.held ⟨some 18, .mov (.tmp 0), none⟩ (.held ⟨some 19, .nilc (.tmp 18), none⟩ (.held ⟨some 20, .fadr 2 (.tmp 19), none⟩ (.held ⟨some 21, .load 1 false (.tmp 20), none⟩ (.held ⟨some 22, .bin .shr (.tmp 21) (.const (.int .u64 45)), none⟩ (.held ⟨some 23, .bin .xor (.tmp 17) (.tmp 22), none⟩ (.held ⟨some 24, .bin .and (.tmp 23) (.const (.int .i64 255)), none⟩ (.held ⟨some 3, .mov (.tmp 24), none⟩ .done)))))))))))))) (.seq (.seq (.draw [⟨some 25, .mov (.tmp 0), none⟩, ⟨some 26, .nilc (.tmp 25), none⟩, ⟨some 27, .fadr 1 (.tmp 26), none⟩, ⟨some 28, .load 1 false (.tmp 27), none⟩, ⟨some 29, .mov (.tmp 0), none⟩, ⟨some 30, .nilc (.tmp 29), none⟩, ⟨some 31, .fadr 0 (.tmp 30), none⟩, ⟨some 32, .load 1 false (.tmp 31), none⟩, ⟨some 33, .len (.tmp 32), none⟩, ⟨some 34, .bin .lss (.tmp 28) (.tmp 33), none⟩] (.held ⟨some 25, .mov (.tmp 0), none⟩ (.held ⟨some 26, .nilc (.tmp 25), none⟩ (.held ⟨some 27, .fadr 1 (.tmp 26), none⟩ (.held ⟨some 28, .load 1 false (.tmp 27), none⟩ (.held ⟨some 29, .mov (.tmp 0), none⟩ (.held ⟨some 30, .nilc (.tmp 29), none⟩ (.held ⟨some 31, .fadr 0 (.tmp 30), none⟩ (.held ⟨some 32, .load 1 false (.tmp 31), none⟩ (.held ⟨some 33, .len (.tmp 32), none⟩ (.held ⟨some 34, .bin .lss (.tmp 28) (.tmp 33), none⟩ .done))))))))))) (.cond (.tmp 34) (.seq (.draw [⟨some 35, .mov (.tmp 3), none⟩, ⟨some 36, .mov (.tmp 0), none⟩, ⟨some 37, .nilc (.tmp 36), none⟩, ⟨some 38, .fadr 0 (.tmp 37), none⟩, ⟨some 39, .load 1 false (.tmp 38), none⟩, ⟨some 40, .mov (.tmp 0), none⟩, ⟨some 41, .nilc (.tmp 40), none⟩, ⟨some 42, .fadr 1 (.tmp 41), none⟩, ⟨some 43, .load 1 false (.tmp 42), none⟩, ⟨some 44, .iadr 1 (.tmp 39) (.tmp 43), none⟩, ⟨some 45, .load 1 false (.tmp 44), none⟩, ⟨some 46, .cvi .i64 (.tmp 45), none⟩, ⟨some 47, .bin .add (.tmp 35) (.tmp 46), none⟩, ⟨some 48, .bin .and (.tmp 47) (.const (.int .i64 255)), none⟩, ⟨some 3, .mov (.tmp 48), none⟩] (.held ⟨some 35, .mov (.tmp 3), none⟩ (.held ⟨some 36, .mov (.tmp 0), none⟩ (.held ⟨some 37, .nilc (.tmp 36), none⟩ (.held ⟨some 38, .fadr 0 (.tmp 37), none⟩ (.held ⟨some 39, .load 1 false (.tmp 38), none⟩ (.held ⟨some 40, .mov (.tmp 0), none⟩ (.held ⟨some 41, .nilc (.tmp 40), none⟩ (.held ⟨some 42, .fadr 1 (.tmp 41), none⟩ (.held ⟨some 43, .load 1 false (.tmp 42), none⟩ (.held ⟨some 44, .iadr 1 (.tmp 39) (.tmp 43), none⟩ (.held ⟨some 45, .load 1 false (.tmp 44), none⟩ (.held ⟨some 46, .cvi .i64 (.tmp 45), none⟩ (.held ⟨some 47, .bin .add (.tmp 35) (.tmp 46), none⟩ (.held ⟨some 48, .bin .and (.tmp 47) (.const (.int .i64 255)), none⟩ (.held ⟨some 3, .mov (.tmp 48), none⟩ .done)))))))))))))))) (.ops [⟨some 49, .mov (.tmp 0), none⟩, ⟨some 50, .mov (.tmp 0), none⟩, ⟨some 51, .nilc (.tmp 50), none⟩, ⟨some 52, .fadr 1 (.tmp 51), none⟩, ⟨some 53, .load 1 false (.tmp 52), none⟩, ⟨some 54, .bin .add (.tmp 53) (.const (.int .i64 1)), none⟩, ⟨some 55, .nilc (.tmp 49), none⟩, ⟨some 56, .fadr 1 (.tmp 55), none⟩, ⟨none, .store 1 (.tmp 56) (.tmp 54), none⟩])) .skip)) (.seq (.ops [⟨some 57, .mov (.tmp 3), none⟩, ⟨some 2, .mov (.tmp 57), none⟩]) .ret)))))
@[reducible] def rv40 : List RV := [.tmp 2]
theorem low40 : lowC Try.prog tau Try.f40.ntmps (Try.f40.body.getD .skip) = some (erase ic40) := by kernel_rfl
theorem res40 : lowR Try.prog Try.f40.results.toList = some rv40 := by kernel_rfl
theorem bod40 : Try.f40.body = some (Try.f40.body.getD .skip) := by kernel_rfl
theorem cal40 : callable Try.prog 40 = true := by kernel_rfl

end Go.Proofs.YtfjfaajdbomhbaaE

/-! The cursor over a draw: one byte, a number below another, a new cursor. -/
namespace Go.Proofs.YtfjfaajdbomhbaaE
open Go Go.RowKit
set_option linter.unusedSimpArgs false
set_option linter.unusedVariables false
set_option maxRecDepth 20000
set_option maxHeartbeats 4000000

def takeP : List AVal → List Nat
  | .ptr m _ :: _ => [m]
  | _ => []
theorem takeP_eq {m off : Nat} {r : List AVal} : takeP (.ptr m off :: r) = [m] := id rfl
/-- A cursor's three cells. -/
def cur (b : List Int) (i h : Int) : List AVal := [.rs .byte b, .v (.int .i64 i), .v (.int .i64 h)]
noncomputable def curH (h : Int) : Int := wr .i64 (wr .i64 (h * 6364136223846793005) + 1442695040888963407)
noncomputable def curX0 (h : Int) : Int := andV .i64 (xorV .i64 (shrV .i64 (curH h) 33) (shrV .i64 (curH h) 45)) 255
noncomputable def curX (b : List Int) (i h : Int) : Int := if i < b.length then andV .i64 (wr .i64 (curX0 h + wr .i64 (b.getD i.toNat 0))) 255 else curX0 h
def curI (b : List Int) (i : Int) : Int := if i < b.length then i + 1 else i
theorem curH_eq {h : Int} : curH h = wr .i64 (wr .i64 (h * 6364136223846793005) + 1442695040888963407) := id rfl
theorem curX0_eq {h : Int} : curX0 h = andV .i64 (xorV .i64 (shrV .i64 (curH h) 33) (shrV .i64 (curH h) 45)) 255 := id rfl
def spByte : Spec := ⟨fun _ => takeP, fun args objs K => match args, objs with
  | [.ptr 0 0], [.box [.rs .byte b, .v (.int .i64 i), .v (.int .i64 h)]] => (0 ≤ i ∧ i ≤ b.length ∧ b.length ≤ 1099511627776) ∧
      K (.v (.int .i64 (curX b i h))) [(0, .box [.rs .byte b, .v (.int .i64 (curI b i)), .v (.int .i64 (curH h))])] 1
  | _, _ => False, true⟩
theorem spByte_t {L : Hp} {a : List AVal} : Spec.take spByte L a = takeP a := id rfl
theorem spByte_k : Spec.keep spByte = true := id rfl
theorem spByte_f {b} {i} {h} {K : AVal → Hp → Nat → Prop} : Spec.f spByte ([.ptr 0 0]) ([.box [.rs .byte b, .v (.int .i64 i), .v (.int .i64 h)]]) K = ((0 ≤ i ∧ i ≤ b.length ∧ b.length ≤ 1099511627776) ∧
      K (.v (.int .i64 (curX b i h))) [(0, .box [.rs .byte b, .v (.int .i64 (curI b i)), .v (.int .i64 (curH h))])] 1) := id rfl
theorem valid40 : Valid Try.prog 40 spByte := by
  refine validI (Γ := lk []) Try.func40 bod40 low40 res40 (good_of trivial) ?_
  intro E args objs K h0 hE hG hP
  simp only [spByte] at h0
  split at h0
  · refine ⟨by simp [Try.ntmps40], ?_⟩
    rename_i b i h
    obtain ⟨⟨b1, b2, b3⟩, h0⟩ := h0
    have hw : wr .i64 (i + 1) = i + 1 := wrap_id (by omega) (by omega)
    by_cases hi : i < b.length
    · simp only [curX, curI, if_pos hi] at h0
      simp (config := { maxSteps := 2000000 }) only [go_sem, hG, hP, Nat.reduceEqDiff, ↓reduceIte, reduceCtorEq, Nat.reduceAdd, Nat.reduceSub, Nat.reduceMul, Nat.reduceLT, Nat.reduceLeDiff, Int.reduceAdd, Int.reduceSub, Int.reduceMul, Int.reduceLT, Int.reduceLE, Int.reduceEq, Int.reduceNeg, Int.reduceNe, Int.reduceGE, Int.reduceGT, Nat.reduceBEq, Int.reduceToNat,  hi, hw, ← curH_eq, ← curX0_eq]
      repeat (refine And.intro (by first | omega | (simp; done) | (simp; omega) | (unfold appRoom; omega)) ?_)
      refine ⟨_, _, _, ?_, h0⟩
      simp (config := { maxSteps := 2000000 }) only [go_sem, hG, hP, Nat.reduceEqDiff, ↓reduceIte, reduceCtorEq, Nat.reduceAdd, Nat.reduceSub, Nat.reduceMul, Nat.reduceLT, Nat.reduceLeDiff, Int.reduceAdd, Int.reduceSub, Int.reduceMul, Int.reduceLT, Int.reduceLE, Int.reduceEq, Int.reduceNeg, Int.reduceNe, Int.reduceGE, Int.reduceGT, Nat.reduceBEq, Int.reduceToNat]
      all_goals simp
    · simp only [curX, curI, if_neg hi] at h0
      simp (config := { maxSteps := 2000000 }) only [go_sem, hG, hP, Nat.reduceEqDiff, ↓reduceIte, reduceCtorEq, Nat.reduceAdd, Nat.reduceSub, Nat.reduceMul, Nat.reduceLT, Nat.reduceLeDiff, Int.reduceAdd, Int.reduceSub, Int.reduceMul, Int.reduceLT, Int.reduceLE, Int.reduceEq, Int.reduceNeg, Int.reduceNe, Int.reduceGE, Int.reduceGT, Nat.reduceBEq, Int.reduceToNat,  hi, ← curH_eq, ← curX0_eq]
      repeat (refine And.intro (by first | omega | (simp; done) | (simp; omega) | (unfold appRoom; omega)) ?_)
      refine ⟨_, _, _, ?_, h0⟩
      simp (config := { maxSteps := 2000000 }) only [go_sem, hG, hP, Nat.reduceEqDiff, ↓reduceIte, reduceCtorEq, Nat.reduceAdd, Nat.reduceSub, Nat.reduceMul, Nat.reduceLT, Nat.reduceLeDiff, Int.reduceAdd, Int.reduceSub, Int.reduceMul, Int.reduceLT, Int.reduceLE, Int.reduceEq, Int.reduceNeg, Int.reduceNe, Int.reduceGE, Int.reduceGT, Nat.reduceBEq, Int.reduceToNat]
      all_goals simp
  · exact h0.elim
theorem andV_255 (a : Int) : 0 ≤ andV .i64 a 255 ∧ andV .i64 a 255 ≤ 255 := by
  unfold andV
  have h : (BitVec.ofInt (IntKind.bits .i64) a &&& BitVec.ofInt (IntKind.bits .i64) 255).toNat ≤ 255 := by
    rw [BitVec.toNat_and]
    exact Nat.le_trans Nat.and_le_right (by decide)
  rw [wrap_id (by omega) (by omega)]
  omega
theorem curX_bd (b : List Int) (i h : Int) : 0 ≤ curX b i h ∧ curX b i h ≤ 255 := by
  unfold curX; split
  · exact andV_255 _
  · exact andV_255 _
theorem curI_bd {b : List Int} {i : Int} (h : 0 ≤ i ∧ i ≤ b.length) : 0 ≤ curI b i ∧ curI b i ≤ b.length := by
  unfold curI; split <;> omega
/-- The same, of which only the bounds are told. -/
def spByteA : Spec := ⟨fun _ => takeP, fun args objs K => match args, objs with
  | [.ptr 0 0], [.box [.rs .byte b, .v (.int .i64 i), .v (.int .i64 h)]] => (0 ≤ i ∧ i ≤ b.length ∧ b.length ≤ 1099511627776) ∧
      ∀ x i' h' : Int, (0 ≤ x ∧ x ≤ 255) ∧ (0 ≤ i' ∧ i' ≤ b.length) → K (.v (.int .i64 x)) [(0, .box [.rs .byte b, .v (.int .i64 i'), .v (.int .i64 h')])] 1
  | _, _ => False, true⟩
theorem spByteA_t {L : Hp} {a : List AVal} : Spec.take spByteA L a = takeP a := id rfl
theorem spByteA_k : Spec.keep spByteA = true := id rfl
theorem spByteA_f {b} {i} {h} {K : AVal → Hp → Nat → Prop} : Spec.f spByteA ([.ptr 0 0]) ([.box [.rs .byte b, .v (.int .i64 i), .v (.int .i64 h)]]) K = ((0 ≤ i ∧ i ≤ b.length ∧ b.length ≤ 1099511627776) ∧
      ∀ x i' h' : Int, (0 ≤ x ∧ x ≤ 255) ∧ (0 ≤ i' ∧ i' ≤ b.length) → K (.v (.int .i64 x)) [(0, .box [.rs .byte b, .v (.int .i64 i'), .v (.int .i64 h')])] 1) := id rfl
theorem valid40A : Valid Try.prog 40 spByteA := by
  intro W C ρ args vals objs K hd hp h
  refine valid40 W C ρ args vals objs K hd hp ?_
  simp only [spByteA] at h
  split at h
  · exact ⟨h.1, h.2 _ _ _ ⟨curX_bd _ _ _, curI_bd ⟨h.1.1, h.1.2.1⟩⟩⟩
  · exact h.elim
def spBelow : Spec := ⟨fun _ => takeP, fun args objs K => match args, objs with
  | [.ptr 0 0, .v (.int .i64 n)], [.box [.rs .byte b, .v (.int .i64 i), .v (.int .i64 h)]] => ((0 ≤ i ∧ i ≤ b.length ∧ b.length ≤ 1099511627776) ∧ n ≤ 256) ∧
      impK (n ≤ 0) (K (.v (.int .i64 0)) [(0, .box [.rs .byte b, .v (.int .i64 i), .v (.int .i64 h)])] 1) ∧
      impK (¬ n ≤ 0) (K (.v (.int .i64 ((curX b i h).tmod n))) [(0, .box [.rs .byte b, .v (.int .i64 (curI b i)), .v (.int .i64 (curH h))])] 1)
  | _, _ => False, true⟩
theorem spBelow_t {L : Hp} {a : List AVal} : Spec.take spBelow L a = takeP a := id rfl
theorem spBelow_k : Spec.keep spBelow = true := id rfl
theorem spBelow_f {n} {b} {i} {h} {K : AVal → Hp → Nat → Prop} : Spec.f spBelow ([.ptr 0 0, .v (.int .i64 n)]) ([.box [.rs .byte b, .v (.int .i64 i), .v (.int .i64 h)]]) K = (((0 ≤ i ∧ i ≤ b.length ∧ b.length ≤ 1099511627776) ∧ n ≤ 256) ∧
      impK (n ≤ 0) (K (.v (.int .i64 0)) [(0, .box [.rs .byte b, .v (.int .i64 i), .v (.int .i64 h)])] 1) ∧
      impK (¬ n ≤ 0) (K (.v (.int .i64 ((curX b i h).tmod n))) [(0, .box [.rs .byte b, .v (.int .i64 (curI b i)), .v (.int .i64 (curH h))])] 1)) := id rfl
theorem valid36 : Valid Try.prog 36 spBelow := by
  refine validI (Γ := lk [(40, spByte)]) Try.func36 bod36 low36 res36 (good_of ⟨⟨cal40, valid40⟩, trivial⟩) ?_
  intro E args objs K h0 hE hG hP
  simp only [spBelow] at h0
  split at h0
  · refine ⟨by simp [Try.ntmps36], ?_⟩
    rename_i n b i h
    obtain ⟨⟨⟨b1, b2, b3⟩, b4⟩, h1, h2⟩ := h0
    by_cases hn : n ≤ 0
    · simp (config := { maxSteps := 2000000 }) only [go_sem, hG, hP, Nat.reduceEqDiff, ↓reduceIte, reduceCtorEq, Nat.reduceAdd, Nat.reduceSub, Nat.reduceMul, Nat.reduceLT, Nat.reduceLeDiff, Int.reduceAdd, Int.reduceSub, Int.reduceMul, Int.reduceLT, Int.reduceLE, Int.reduceEq, Int.reduceNeg, Int.reduceNe, Int.reduceGE, Int.reduceGT, Nat.reduceBEq, Int.reduceToNat,  spByte_f, spByte_t, spByte_k, takeP_eq, hn]
      refine ⟨_, _, _, ?_, h1 hn⟩
      simp (config := { maxSteps := 2000000 }) only [go_sem, hG, hP, Nat.reduceEqDiff, ↓reduceIte, reduceCtorEq, Nat.reduceAdd, Nat.reduceSub, Nat.reduceMul, Nat.reduceLT, Nat.reduceLeDiff, Int.reduceAdd, Int.reduceSub, Int.reduceMul, Int.reduceLT, Int.reduceLE, Int.reduceEq, Int.reduceNeg, Int.reduceNe, Int.reduceGE, Int.reduceGT, Nat.reduceBEq, Int.reduceToNat]
      all_goals simp
    · simp (config := { maxSteps := 2000000 }) only [go_sem, hG, hP, Nat.reduceEqDiff, ↓reduceIte, reduceCtorEq, Nat.reduceAdd, Nat.reduceSub, Nat.reduceMul, Nat.reduceLT, Nat.reduceLeDiff, Int.reduceAdd, Int.reduceSub, Int.reduceMul, Int.reduceLT, Int.reduceLE, Int.reduceEq, Int.reduceNeg, Int.reduceNe, Int.reduceGE, Int.reduceGT, Nat.reduceBEq, Int.reduceToNat,  spByte_f, spByte_t, spByte_k, takeP_eq, hn, b4]
      repeat (refine And.intro (by first | omega | (simp; done) | (simp; omega) | (unfold appRoom; omega)) ?_)
      refine ⟨_, _, _, ?_, h2 hn⟩
      simp (config := { maxSteps := 2000000 }) only [go_sem, hG, hP, Nat.reduceEqDiff, ↓reduceIte, reduceCtorEq, Nat.reduceAdd, Nat.reduceSub, Nat.reduceMul, Nat.reduceLT, Nat.reduceLeDiff, Int.reduceAdd, Int.reduceSub, Int.reduceMul, Int.reduceLT, Int.reduceLE, Int.reduceEq, Int.reduceNeg, Int.reduceNe, Int.reduceGE, Int.reduceGT, Nat.reduceBEq, Int.reduceToNat]
      all_goals simp
  · exact h0.elim
noncomputable def hashN (code : List Int) : Nat → Int
  | 0 => wr .i64 (71933 + (code.length : Int))
  | k + 1 => andV .i64 (wr .i64 (wr .i64 (wr .i64 (hashN code k * 131) + wr .i64 (code.getD k 0)) + 7)) 1073741823
def spNew : Spec := ⟨fun _ _ => [], fun args objs K => match args, objs with
  | [.rs .byte code], [] => code.length ≤ 1099511627776 ∧ K (.ptr 0 0) [(0, .box [.rs .byte code, .v (.int .i64 0), .v (.int .i64 (hashN code (min code.length 4000)))])] 1
  | _, _ => False, true⟩
theorem spNew_t {L : Hp} {a : List AVal} : Spec.take spNew L a = [] := id rfl
theorem spNew_k : Spec.keep spNew = true := id rfl
theorem spNew_f {code} {K : AVal → Hp → Nat → Prop} : Spec.f spNew ([.rs .byte code]) ([]) K = (code.length ≤ 1099511627776 ∧ K (.ptr 0 0) [(0, .box [.rs .byte code, .v (.int .i64 0), .v (.int .i64 (hashN code (min code.length 4000)))])] 1) := id rfl
theorem valid33 : Valid Try.prog 33 spNew := by
  refine validI (Γ := lk []) Try.func33 bod33 low33 res33 (good_of trivial) ?_
  intro E args objs K h hE hG hP
  simp only [spNew] at h
  split at h
  · refine ⟨by simp [Try.ntmps33], ?_⟩
    rename_i code
    obtain ⟨b1, h⟩ := h
    simp (config := { maxSteps := 2000000 }) only [go_sem, hG, hP, Nat.reduceEqDiff, ↓reduceIte, reduceCtorEq, Nat.reduceAdd, Nat.reduceSub, Nat.reduceMul, Nat.reduceLT, Nat.reduceLeDiff, Int.reduceAdd, Int.reduceSub, Int.reduceMul, Int.reduceLT, Int.reduceLE, Int.reduceEq, Int.reduceNeg, Int.reduceNe, Int.reduceGE, Int.reduceGT, Nat.reduceBEq, Int.reduceToNat]
    refine loopI hE (fun k : Nat => ⟨[(0, .rs .byte code), (2, .v (.pointer none)), (3, .v (.int .i64 (hashN code k))), (4, .v (.int .i64 k))], [], 0, Try.f33.ntmps⟩) (fun k => k ≤ min code.length 4000) (fun k => code.length - k) ⟨0, Nat.zero_le _, SubS.weak ?_⟩ ?_
    · simp (config := { maxSteps := 2000000 }) only [go_sem, hG, hP, Nat.reduceEqDiff, ↓reduceIte, reduceCtorEq, Nat.reduceAdd, Nat.reduceSub, Nat.reduceMul, Nat.reduceLT, Nat.reduceLeDiff, Int.reduceAdd, Int.reduceSub, Int.reduceMul, Int.reduceLT, Int.reduceLE, Int.reduceEq, Int.reduceNeg, Int.reduceNe, Int.reduceGE, Int.reduceGT, Nat.reduceBEq, Int.reduceToNat,  hashN]
      all_goals (first | simp | (with_reducible rfl))
    · intro k hk
      by_cases hk2 : k < min code.length 4000
      · have e1 : ((k : Int) < code.length) = True := by apply eq_true; omega
        have e2 : ((k : Int) < 4000) = True := by apply eq_true; omega
        simp (config := { maxSteps := 2000000 }) only [go_sem, hG, hP, Nat.reduceEqDiff, ↓reduceIte, reduceCtorEq, Nat.reduceAdd, Nat.reduceSub, Nat.reduceMul, Nat.reduceLT, Nat.reduceLeDiff, Int.reduceAdd, Int.reduceSub, Int.reduceMul, Int.reduceLT, Int.reduceLE, Int.reduceEq, Int.reduceNeg, Int.reduceNe, Int.reduceGE, Int.reduceGT, Nat.reduceBEq, Int.reduceToNat,  e1, e2]
        (try simp (disch := omega) only [wrap_id])
        repeat (refine And.intro (by first | omega | (simp; done) | (simp; omega) | (unfold appRoom; omega)) ?_)
        refine ⟨k + 1, ⟨by omega, by omega⟩, SubS.weak ?_⟩
        simp (config := { maxSteps := 2000000 }) only [go_sem, hG, hP, Nat.reduceEqDiff, ↓reduceIte, reduceCtorEq, Nat.reduceAdd, Nat.reduceSub, Nat.reduceMul, Nat.reduceLT, Nat.reduceLeDiff, Int.reduceAdd, Int.reduceSub, Int.reduceMul, Int.reduceLT, Int.reduceLE, Int.reduceEq, Int.reduceNeg, Int.reduceNe, Int.reduceGE, Int.reduceGT, Nat.reduceBEq, Int.reduceToNat,  hashN]
        all_goals simp
      · have hk3 : k = min code.length 4000 := by omega
        by_cases e1 : (k : Int) < code.length
        · have e2 : ((k : Int) < 4000) = False := by apply eq_false; omega
          simp (config := { maxSteps := 2000000 }) only [go_sem, hG, hP, Nat.reduceEqDiff, ↓reduceIte, reduceCtorEq, Nat.reduceAdd, Nat.reduceSub, Nat.reduceMul, Nat.reduceLT, Nat.reduceLeDiff, Int.reduceAdd, Int.reduceSub, Int.reduceMul, Int.reduceLT, Int.reduceLE, Int.reduceEq, Int.reduceNeg, Int.reduceNe, Int.reduceGE, Int.reduceGT, Nat.reduceBEq, Int.reduceToNat,  e1, e2]
          rw [← hk3] at h
          refine ⟨_, _, _, ?_, h⟩
          simp (config := { maxSteps := 2000000 }) only [go_sem, hG, hP, Nat.reduceEqDiff, ↓reduceIte, reduceCtorEq, Nat.reduceAdd, Nat.reduceSub, Nat.reduceMul, Nat.reduceLT, Nat.reduceLeDiff, Int.reduceAdd, Int.reduceSub, Int.reduceMul, Int.reduceLT, Int.reduceLE, Int.reduceEq, Int.reduceNeg, Int.reduceNe, Int.reduceGE, Int.reduceGT, Nat.reduceBEq, Int.reduceToNat]
          all_goals simp
        · simp (config := { maxSteps := 2000000 }) only [go_sem, hG, hP, Nat.reduceEqDiff, ↓reduceIte, reduceCtorEq, Nat.reduceAdd, Nat.reduceSub, Nat.reduceMul, Nat.reduceLT, Nat.reduceLeDiff, Int.reduceAdd, Int.reduceSub, Int.reduceMul, Int.reduceLT, Int.reduceLE, Int.reduceEq, Int.reduceNeg, Int.reduceNe, Int.reduceGE, Int.reduceGT, Nat.reduceBEq, Int.reduceToNat,  e1]
          rw [← hk3] at h
          refine ⟨_, _, _, ?_, h⟩
          simp (config := { maxSteps := 2000000 }) only [go_sem, hG, hP, Nat.reduceEqDiff, ↓reduceIte, reduceCtorEq, Nat.reduceAdd, Nat.reduceSub, Nat.reduceMul, Nat.reduceLT, Nat.reduceLeDiff, Int.reduceAdd, Int.reduceSub, Int.reduceMul, Int.reduceLT, Int.reduceLE, Int.reduceEq, Int.reduceNeg, Int.reduceNe, Int.reduceGE, Int.reduceGT, Nat.reduceBEq, Int.reduceToNat]
          all_goals simp
  · exact h.elim
end Go.Proofs.YtfjfaajdbomhbaaE

/-! The code of a function, in the engine's words. -/
namespace Go.Proofs.YtfjfaajdbomhbaaE
open Go Go.RowKit
@[reducible] def ic34 : IC := (.seq (.ops [⟨some 2, .new [(.int .u8 0), (.int .u8 0), (.int .u8 0), (.int .u8 0), (.int .u8 0), (.int .u8 0), (.int .u8 0), (.int .u8 0), (.int .u8 0), (.int .u8 0), (.int .u8 0), (.int .u8 0), (.int .u8 0), (.int .u8 0), (.int .u8 0), (.int .u8 0)], none⟩]) (.seq (.ops [⟨some 6, .bld [(.int .u8 0), (.int .u8 0), (.int .u8 0), (.int .u8 0), (.int .u8 0), (.int .u8 0), (.int .u8 0), (.int .u8 0), (.int .u8 0), (.int .u8 0), (.int .u8 0), (.int .u8 0), (.int .u8 0), (.int .u8 0), (.int .u8 0), (.int .u8 0)] [], none⟩, ⟨some 3, .new [(.int .u8 0), (.int .u8 0), (.int .u8 0), (.int .u8 0), (.int .u8 0), (.int .u8 0), (.int .u8 0), (.int .u8 0), (.int .u8 0), (.int .u8 0), (.int .u8 0), (.int .u8 0), (.int .u8 0), (.int .u8 0), (.int .u8 0), (.int .u8 0)], none⟩, ⟨none, .store 16 (.tmp 3) (.tmp 6), none⟩]) (.seq (.ops [⟨some 7, .mov (.tmp 0), none⟩, ⟨some 8, .call 36 [(.tmp 7), (.const (.int .i64 15))], none⟩, ⟨some 9, .bin .add (.const (.int .i64 1)) (.tmp 8), none⟩, ⟨some 4, .mov (.tmp 9), none⟩]) (.seq (.seq (.ops [⟨some 5, .mov (.const (.int .i64 1)), none⟩]) (.block 0 (.loop (.seq (.seq (.ops [⟨some 10, .mov (.tmp 5), none⟩, ⟨some 11, .mov (.tmp 4), none⟩, ⟨some 12, .bin .leq (.tmp 10) (.tmp 11), none⟩]) (.cond (.tmp 12) .skip (.exit 0))) (.seq (.block 1 (.ops [⟨some 15, .mov (.tmp 5), none⟩, ⟨some 16, .mov (.tmp 0), none⟩, ⟨some 17, .call 40 [(.tmp 16)], none⟩, ⟨some 18, .cvi .u8 (.tmp 17), none⟩, ⟨some 19, .iarr 1 16 (.tmp 3) (.tmp 15), none⟩, ⟨none, .store 1 (.tmp 19) (.tmp 18), none⟩])) (.ops [⟨some 13, .mov (.tmp 5), none⟩, ⟨some 14, .bin .add (.tmp 13) (.const (.int .i64 1)), none⟩, ⟨some 5, .mov (.tmp 14), none⟩])))))) (.seq (.ops [⟨some 20, .mov (.tmp 4), none⟩, ⟨some 21, .mov (.tmp 0), none⟩, ⟨some 22, .call 36 [(.tmp 21), (.const (.int .i64 16))], none⟩, ⟨some 23, .bin .mul (.const (.int .i64 16)) (.tmp 22), none⟩, ⟨some 24, .bin .add (.tmp 20) (.tmp 23), none⟩, ⟨some 25, .cvi .u8 (.tmp 24), none⟩, ⟨some 26, .iarr 1 16 (.tmp 3) (.const (.int .i64 0)), none⟩, ⟨none, .store 1 (.tmp 26) (.tmp 25), none⟩]) (.seq (.ops [⟨some 27, .load 16 true (.tmp 3), none⟩, ⟨none, .store 16 (.tmp 2) (.tmp 27), none⟩]) .ret))))))
@[reducible] def rv34 : List RV := [.cell 2 16 true]
theorem low34 : lowC Try.prog tau Try.f34.ntmps (Try.f34.body.getD .skip) = some (erase ic34) := by kernel_rfl
theorem res34 : lowR Try.prog Try.f34.results.toList = some rv34 := by kernel_rfl
theorem bod34 : Try.f34.body = some (Try.f34.body.getD .skip) := by kernel_rfl
theorem cal34 : callable Try.prog 34 = true := by kernel_rfl

end Go.Proofs.YtfjfaajdbomhbaaE

/-! The code of a function, in the engine's words. -/
namespace Go.Proofs.YtfjfaajdbomhbaaE
open Go Go.RowKit
@[reducible] def ic18 : IC := (.seq (.ops [⟨some 2, .new [(.int .u8 0), (.int .u8 0), (.int .u8 0), (.int .u8 0), (.int .u8 0), (.int .u8 0), (.int .u8 0), (.int .u8 0), (.int .u8 0), (.int .u8 0), (.int .u8 0), (.int .u8 0), (.int .u8 0), (.int .u8 0), (.int .u8 0), (.int .u8 0)], none⟩, ⟨some 3, .new [(.int .u8 0), (.int .u8 0), (.int .u8 0), (.int .u8 0), (.int .u8 0), (.int .u8 0), (.int .u8 0), (.int .u8 0), (.int .u8 0), (.int .u8 0), (.int .u8 0), (.int .u8 0), (.int .u8 0), (.int .u8 0), (.int .u8 0), (.int .u8 0)], none⟩]) (.seq (.ops [⟨some 5, .mov (.tmp 0), none⟩, ⟨some 6, .call 33 [(.tmp 5)], none⟩, ⟨some 4, .mov (.tmp 6), none⟩]) (.seq (.ops [⟨some 7, .mov (.tmp 4), none⟩, ⟨some 8, .call 34 [(.tmp 7)], none⟩, ⟨some 9, .mov (.tmp 4), none⟩, ⟨some 10, .call 34 [(.tmp 9)], none⟩, ⟨none, .store 16 (.tmp 2) (.tmp 8), none⟩, ⟨none, .store 16 (.tmp 3) (.tmp 10), none⟩]) .ret)))
@[reducible] def rv18 : List RV := [.cell 2 16 true, .cell 3 16 true]
theorem low18 : lowC Try.prog tau Try.f18.ntmps (Try.f18.body.getD .skip) = some (erase ic18) := by kernel_rfl
theorem res18 : lowR Try.prog Try.f18.results.toList = some rv18 := by kernel_rfl
theorem bod18 : Try.f18.body = some (Try.f18.body.getD .skip) := by kernel_rfl
theorem cal18 : callable Try.prog 18 = true := by kernel_rfl

end Go.Proofs.YtfjfaajdbomhbaaE

/-! The code of a function, in the engine's words. -/
namespace Go.Proofs.YtfjfaajdbomhbaaE
open Go Go.RowKit
@[reducible] def ic19 : IC := (.seq (.ops [⟨some 4, .mov (.const (.int .i64 0)), none⟩]) (.seq (.seq (.ops [⟨some 5, .mov (.tmp 1), none⟩, ⟨some 6, .mov (.tmp 0), none⟩, ⟨some 7, .len (.tmp 6), none⟩, ⟨some 8, .bin .lss (.tmp 5) (.tmp 7), none⟩]) (.cond (.tmp 8) (.seq (.ops [⟨some 9, .mov (.tmp 0), none⟩, ⟨some 10, .mov (.tmp 1), none⟩, ⟨some 11, .iadr 1 (.tmp 9) (.tmp 10), none⟩, ⟨some 12, .load 1 false (.tmp 11), none⟩, ⟨some 13, .cvi .i64 (.tmp 12), none⟩, ⟨some 4, .mov (.tmp 13), none⟩]) .ret) .skip)) (.seq (.ops [⟨some 14, .mov (.tmp 1), none⟩, ⟨some 15, .bin .mul (.tmp 14) (.const (.int .i64 7)), none⟩, ⟨some 16, .mov (.tmp 0), none⟩, ⟨some 17, .len (.tmp 16), none⟩, ⟨some 18, .bin .add (.tmp 15) (.tmp 17), none⟩, ⟨some 19, .bin .rem (.tmp 18) (.const (.int .i64 256)), none⟩, ⟨some 4, .mov (.tmp 19), none⟩]) .ret)))
@[reducible] def rv19 : List RV := [.tmp 4]
theorem low19 : lowC Try.prog tau Try.f19.ntmps (Try.f19.body.getD .skip) = some (erase ic19) := by kernel_rfl
theorem res19 : lowR Try.prog Try.f19.results.toList = some rv19 := by kernel_rfl
theorem bod19 : Try.f19.body = some (Try.f19.body.getD .skip) := by kernel_rfl
theorem cal19 : callable Try.prog 19 = true := by kernel_rfl

end Go.Proofs.YtfjfaajdbomhbaaE

/-! The code of a function, in the engine's words. -/
namespace Go.Proofs.YtfjfaajdbomhbaaE
open Go Go.RowKit
@[reducible] def ic17 : IC := (.seq (.ops [⟨some 2, .mov (.const (.bool false)), none⟩]) (.seq (.ops [⟨some 3, .mov (.tmp 0), none⟩, ⟨some 4, .len (.tmp 3), none⟩, ⟨some 5, .bin .gtr (.tmp 4) (.const (.int .i64 1048576)), none⟩, ⟨some 2, .mov (.tmp 5), none⟩]) .ret))
@[reducible] def rv17 : List RV := [.tmp 2]
theorem low17 : lowC Try.prog tau Try.f17.ntmps (Try.f17.body.getD .skip) = some (erase ic17) := by kernel_rfl
theorem res17 : lowR Try.prog Try.f17.results.toList = some rv17 := by kernel_rfl
theorem bod17 : Try.f17.body = some (Try.f17.body.getD .skip) := by kernel_rfl
theorem cal17 : callable Try.prog 17 = true := by kernel_rfl

end Go.Proofs.YtfjfaajdbomhbaaE

/-! The code of a function, in the engine's words. -/
namespace Go.Proofs.YtfjfaajdbomhbaaE
open Go Go.RowKit
@[reducible] def ic20 : IC := (.seq (.ops [⟨some 1, .box (.tmp 0), none⟩, ⟨some 2, .mov (.const (.int .i64 0)), none⟩]) (.seq (.ops [⟨some 3, .mov (.const (.int .i64 0)), none⟩]) (.seq (.seq (.ops [⟨some 6, .load 16 true (.tmp 1), none⟩, ⟨some 7, .mov (.const (.int .i64 0)), none⟩]) (.block 0 (.loop (.seq (.ops [⟨some 8, .bin .lss (.tmp 7) (.const (.int .i64 16)), none⟩]) (.seq (.cond (.tmp 8) .skip (.exit 0)) (.seq (.block 1 (.seq (.ops [⟨some 9, .mov (.tmp 7), none⟩, ⟨some 10, .idx 1 16 false (.tmp 6) (.tmp 7), none⟩, ⟨some 4, .mov (.tmp 9), none⟩, ⟨some 5, .mov (.tmp 10), none⟩]) (.ops [⟨some 11, .mov (.tmp 3), none⟩, ⟨some 12, .mov (.tmp 5), none⟩, ⟨some 13, .cvi .i64 (.tmp 12), none⟩, ⟨some 14, .mov (.tmp 4), none⟩, ⟨some 15, .bin .add (.tmp 14) (.const (.int .i64 1)), none⟩, ⟨some 16, .bin .mul (.tmp 13) (.tmp 15), none⟩, ⟨some 17, .bin .add (.tmp 11) (.tmp 16), none⟩, ⟨some 3, .mov (.tmp 17), none⟩]))) (.ops [⟨some 18, .bin .add (.tmp 7) (.const (.int .i64 1)), none⟩, ⟨some 7, .mov (.tmp 18), none⟩]))))))) (.seq (.ops [⟨some 19, .mov (.tmp 3), none⟩, ⟨some 20, .bin .rem (.tmp 19) (.const (.int .i64 251)), none⟩, ⟨some 2, .mov (.tmp 20), none⟩]) .ret))))
@[reducible] def rv20 : List RV := [.tmp 2]
theorem low20 : lowC Try.prog tau Try.f20.ntmps (Try.f20.body.getD .skip) = some (erase ic20) := by kernel_rfl
theorem res20 : lowR Try.prog Try.f20.results.toList = some rv20 := by kernel_rfl
theorem bod20 : Try.f20.body = some (Try.f20.body.getD .skip) := by kernel_rfl
theorem cal20 : callable Try.prog 20 = true := by kernel_rfl

end Go.Proofs.YtfjfaajdbomhbaaE

/-! Drawn cells; sums of cells. -/
namespace Go.Proofs.YtfjfaajdbomhbaaE
open Go Go.RowKit
set_option linter.unusedSimpArgs false
set_option linter.unusedVariables false
set_option maxRecDepth 50000
set_option maxHeartbeats 8000000

theorem wr8_bd (z : Int) : 0 ≤ wr .u8 z ∧ wr .u8 z ≤ 255 := by
  rw [wr_eq, IntKind.wrap_u8]; omega
def spDrawCell : Spec := ⟨fun _ => takeP, fun args objs K => match args, objs with
  | [.ptr 0 0], [.box [.rs .byte b, .v (.int .i64 i), .v (.int .i64 h)]] => (0 ≤ i ∧ i ≤ b.length ∧ b.length ≤ 1099511627776) ∧
      ∀ a0 a1 a2 a3 a4 a5 a6 a7 a8 a9 a10 a11 a12 a13 a14 a15 i' h' : Int, ((0 ≤ a0 ∧ a0 ≤ 255) ∧ (0 ≤ a1 ∧ a1 ≤ 255) ∧ (0 ≤ a2 ∧ a2 ≤ 255) ∧ (0 ≤ a3 ∧ a3 ≤ 255) ∧ (0 ≤ a4 ∧ a4 ≤ 255) ∧ (0 ≤ a5 ∧ a5 ≤ 255) ∧ (0 ≤ a6 ∧ a6 ≤ 255) ∧ (0 ≤ a7 ∧ a7 ≤ 255) ∧ (0 ≤ a8 ∧ a8 ≤ 255) ∧ (0 ≤ a9 ∧ a9 ≤ 255) ∧ (0 ≤ a10 ∧ a10 ≤ 255) ∧ (0 ≤ a11 ∧ a11 ≤ 255) ∧ (0 ≤ a12 ∧ a12 ≤ 255) ∧ (0 ≤ a13 ∧ a13 ≤ 255) ∧ (0 ≤ a14 ∧ a14 ≤ 255) ∧ (0 ≤ a15 ∧ a15 ≤ 255)) ∧ (0 ≤ i' ∧ i' ≤ b.length) → K (.agg [.v (.int .u8 a0), .v (.int .u8 a1), .v (.int .u8 a2), .v (.int .u8 a3), .v (.int .u8 a4), .v (.int .u8 a5), .v (.int .u8 a6), .v (.int .u8 a7), .v (.int .u8 a8), .v (.int .u8 a9), .v (.int .u8 a10), .v (.int .u8 a11), .v (.int .u8 a12), .v (.int .u8 a13), .v (.int .u8 a14), .v (.int .u8 a15)]) [(0, .box [.rs .byte b, .v (.int .i64 i'), .v (.int .i64 h')])] 1
  | _, _ => False, true⟩
theorem spDrawCell_t {L : Hp} {a : List AVal} : Spec.take spDrawCell L a = takeP a := id rfl
theorem spDrawCell_k : Spec.keep spDrawCell = true := id rfl
theorem spDrawCell_f {b} {i} {h} {K : AVal → Hp → Nat → Prop} : Spec.f spDrawCell ([.ptr 0 0]) ([.box [.rs .byte b, .v (.int .i64 i), .v (.int .i64 h)]]) K = ((0 ≤ i ∧ i ≤ b.length ∧ b.length ≤ 1099511627776) ∧
      ∀ a0 a1 a2 a3 a4 a5 a6 a7 a8 a9 a10 a11 a12 a13 a14 a15 i' h' : Int, ((0 ≤ a0 ∧ a0 ≤ 255) ∧ (0 ≤ a1 ∧ a1 ≤ 255) ∧ (0 ≤ a2 ∧ a2 ≤ 255) ∧ (0 ≤ a3 ∧ a3 ≤ 255) ∧ (0 ≤ a4 ∧ a4 ≤ 255) ∧ (0 ≤ a5 ∧ a5 ≤ 255) ∧ (0 ≤ a6 ∧ a6 ≤ 255) ∧ (0 ≤ a7 ∧ a7 ≤ 255) ∧ (0 ≤ a8 ∧ a8 ≤ 255) ∧ (0 ≤ a9 ∧ a9 ≤ 255) ∧ (0 ≤ a10 ∧ a10 ≤ 255) ∧ (0 ≤ a11 ∧ a11 ≤ 255) ∧ (0 ≤ a12 ∧ a12 ≤ 255) ∧ (0 ≤ a13 ∧ a13 ≤ 255) ∧ (0 ≤ a14 ∧ a14 ≤ 255) ∧ (0 ≤ a15 ∧ a15 ≤ 255)) ∧ (0 ≤ i' ∧ i' ≤ b.length) → K (.agg [.v (.int .u8 a0), .v (.int .u8 a1), .v (.int .u8 a2), .v (.int .u8 a3), .v (.int .u8 a4), .v (.int .u8 a5), .v (.int .u8 a6), .v (.int .u8 a7), .v (.int .u8 a8), .v (.int .u8 a9), .v (.int .u8 a10), .v (.int .u8 a11), .v (.int .u8 a12), .v (.int .u8 a13), .v (.int .u8 a14), .v (.int .u8 a15)]) [(0, .box [.rs .byte b, .v (.int .i64 i'), .v (.int .i64 h')])] 1) := id rfl
theorem valid34 : Valid Try.prog 34 spDrawCell := by
  refine validI (Γ := lk [(36, spBelow), (40, spByteA)]) Try.func34 bod34 low34 res34 (good_of ⟨⟨cal36, valid36⟩, ⟨cal40, valid40A⟩, trivial⟩) ?_
  intro E args objs K hh hE hG hP
  simp only [spDrawCell] at hh
  split at hh
  · refine ⟨by simp [Try.ntmps34], ?_⟩
    rename_i b i h
    obtain ⟨⟨b1, b2, b3⟩, hh⟩ := hh
    have hc := curX_bd b i h
    have hci := curI_bd (b := b) ⟨b1, b2⟩
    have hm : ((curX b i h).tmod 15 = 0 ∨ (curX b i h).tmod 15 = 1 ∨ (curX b i h).tmod 15 = 2 ∨ (curX b i h).tmod 15 = 3 ∨ (curX b i h).tmod 15 = 4 ∨ (curX b i h).tmod 15 = 5 ∨ (curX b i h).tmod 15 = 6 ∨ (curX b i h).tmod 15 = 7 ∨ (curX b i h).tmod 15 = 8 ∨ (curX b i h).tmod 15 = 9 ∨ (curX b i h).tmod 15 = 10 ∨ (curX b i h).tmod 15 = 11 ∨ (curX b i h).tmod 15 = 12 ∨ (curX b i h).tmod 15 = 13 ∨ (curX b i h).tmod 15 = 14) := by
      rw [Int.tmod_eq_emod_of_nonneg hc.1]; omega
    rcases hm with hj | hj | hj | hj | hj | hj | hj | hj | hj | hj | hj | hj | hj | hj | hj
    · simp (config := { maxSteps := 2000000 }) only [go_sem, hG, hP, Nat.reduceEqDiff, ↓reduceIte, reduceCtorEq, Nat.reduceAdd, Nat.reduceSub, Nat.reduceMul, Nat.reduceLT, Nat.reduceLeDiff, Int.reduceAdd, Int.reduceSub, Int.reduceMul, Int.reduceLT, Int.reduceLE, Int.reduceEq, Int.reduceNeg, Int.reduceNe, Int.reduceGE, Int.reduceGT, Nat.reduceBEq, Int.reduceToNat,  spBelow_f, spBelow_t, spBelow_k, spByteA_f, spByteA_t, spByteA_k, takeP_eq, hj]
      repeat (refine And.intro (by first | omega | (simp; done) | (simp; omega) | (unfold appRoom; omega)) ?_)
      refine unrollI hE [(), ()] ?_
      simp (config := { maxSteps := 2000000 }) only [go_sem, hG, hP, Nat.reduceEqDiff, ↓reduceIte, reduceCtorEq, Nat.reduceAdd, Nat.reduceSub, Nat.reduceMul, Nat.reduceLT, Nat.reduceLeDiff, Int.reduceAdd, Int.reduceSub, Int.reduceMul, Int.reduceLT, Int.reduceLE, Int.reduceEq, Int.reduceNeg, Int.reduceNe, Int.reduceGE, Int.reduceGT, Nat.reduceBEq, Int.reduceToNat,  spBelow_f, spBelow_t, spBelow_k, spByteA_f, spByteA_t, spByteA_k, takeP_eq]
      repeat (refine And.intro (by first | omega | (simp; done) | (simp; omega) | (unfold appRoom; omega)) ?_)
      intro x1 i1 h1 hb1
      refine And.intro ⟨hb1.2.1, hb1.2.2, b3⟩ ?_
      refine ⟨_, _, _, ?_, hh (wr .u8 (wr .i64 (1 + wr .i64 (16 * (curX b i1 h1).tmod 16)))) (wr .u8 x1) 0 0 0 0 0 0 0 0 0 0 0 0 0 0 (curI b i1) (curH h1) ⟨⟨wr8_bd _, wr8_bd _, by omega, by omega, by omega, by omega, by omega, by omega, by omega, by omega, by omega, by omega, by omega, by omega, by omega, by omega⟩, curI_bd (b := b) hb1.2⟩⟩
      simp (config := { maxSteps := 2000000 }) only [go_sem, hG, hP, Nat.reduceEqDiff, ↓reduceIte, reduceCtorEq, Nat.reduceAdd, Nat.reduceSub, Nat.reduceMul, Nat.reduceLT, Nat.reduceLeDiff, Int.reduceAdd, Int.reduceSub, Int.reduceMul, Int.reduceLT, Int.reduceLE, Int.reduceEq, Int.reduceNeg, Int.reduceNe, Int.reduceGE, Int.reduceGT, Nat.reduceBEq, Int.reduceToNat]
      all_goals simp
    · simp (config := { maxSteps := 2000000 }) only [go_sem, hG, hP, Nat.reduceEqDiff, ↓reduceIte, reduceCtorEq, Nat.reduceAdd, Nat.reduceSub, Nat.reduceMul, Nat.reduceLT, Nat.reduceLeDiff, Int.reduceAdd, Int.reduceSub, Int.reduceMul, Int.reduceLT, Int.reduceLE, Int.reduceEq, Int.reduceNeg, Int.reduceNe, Int.reduceGE, Int.reduceGT, Nat.reduceBEq, Int.reduceToNat,  spBelow_f, spBelow_t, spBelow_k, spByteA_f, spByteA_t, spByteA_k, takeP_eq, hj]
      repeat (refine And.intro (by first | omega | (simp; done) | (simp; omega) | (unfold appRoom; omega)) ?_)
      refine unrollI hE [(), (), ()] ?_
      simp (config := { maxSteps := 2000000 }) only [go_sem, hG, hP, Nat.reduceEqDiff, ↓reduceIte, reduceCtorEq, Nat.reduceAdd, Nat.reduceSub, Nat.reduceMul, Nat.reduceLT, Nat.reduceLeDiff, Int.reduceAdd, Int.reduceSub, Int.reduceMul, Int.reduceLT, Int.reduceLE, Int.reduceEq, Int.reduceNeg, Int.reduceNe, Int.reduceGE, Int.reduceGT, Nat.reduceBEq, Int.reduceToNat,  spBelow_f, spBelow_t, spBelow_k, spByteA_f, spByteA_t, spByteA_k, takeP_eq]
      repeat (refine And.intro (by first | omega | (simp; done) | (simp; omega) | (unfold appRoom; omega)) ?_)
      intro x1 i1 hb1
      refine And.intro ⟨hb1.2.1, hb1.2.2, b3⟩ ?_
      intro x2 i2 h2 hb2
      refine And.intro ⟨hb2.2.1, hb2.2.2, b3⟩ ?_
      refine ⟨_, _, _, ?_, hh (wr .u8 (wr .i64 (2 + wr .i64 (16 * (curX b i2 h2).tmod 16)))) (wr .u8 x1) (wr .u8 x2) 0 0 0 0 0 0 0 0 0 0 0 0 0 (curI b i2) (curH h2) ⟨⟨wr8_bd _, wr8_bd _, wr8_bd _, by omega, by omega, by omega, by omega, by omega, by omega, by omega, by omega, by omega, by omega, by omega, by omega, by omega⟩, curI_bd (b := b) hb2.2⟩⟩
      simp (config := { maxSteps := 2000000 }) only [go_sem, hG, hP, Nat.reduceEqDiff, ↓reduceIte, reduceCtorEq, Nat.reduceAdd, Nat.reduceSub, Nat.reduceMul, Nat.reduceLT, Nat.reduceLeDiff, Int.reduceAdd, Int.reduceSub, Int.reduceMul, Int.reduceLT, Int.reduceLE, Int.reduceEq, Int.reduceNeg, Int.reduceNe, Int.reduceGE, Int.reduceGT, Nat.reduceBEq, Int.reduceToNat]
      all_goals simp
    · simp (config := { maxSteps := 2000000 }) only [go_sem, hG, hP, Nat.reduceEqDiff, ↓reduceIte, reduceCtorEq, Nat.reduceAdd, Nat.reduceSub, Nat.reduceMul, Nat.reduceLT, Nat.reduceLeDiff, Int.reduceAdd, Int.reduceSub, Int.reduceMul, Int.reduceLT, Int.reduceLE, Int.reduceEq, Int.reduceNeg, Int.reduceNe, Int.reduceGE, Int.reduceGT, Nat.reduceBEq, Int.reduceToNat,  spBelow_f, spBelow_t, spBelow_k, spByteA_f, spByteA_t, spByteA_k, takeP_eq, hj]
      repeat (refine And.intro (by first | omega | (simp; done) | (simp; omega) | (unfold appRoom; omega)) ?_)
      refine unrollI hE [(), (), (), ()] ?_
      simp (config := { maxSteps := 2000000 }) only [go_sem, hG, hP, Nat.reduceEqDiff, ↓reduceIte, reduceCtorEq, Nat.reduceAdd, Nat.reduceSub, Nat.reduceMul, Nat.reduceLT, Nat.reduceLeDiff, Int.reduceAdd, Int.reduceSub, Int.reduceMul, Int.reduceLT, Int.reduceLE, Int.reduceEq, Int.reduceNeg, Int.reduceNe, Int.reduceGE, Int.reduceGT, Nat.reduceBEq, Int.reduceToNat,  spBelow_f, spBelow_t, spBelow_k, spByteA_f, spByteA_t, spByteA_k, takeP_eq]
      repeat (refine And.intro (by first | omega | (simp; done) | (simp; omega) | (unfold appRoom; omega)) ?_)
      intro x1 i1 hb1
      refine And.intro ⟨hb1.2.1, hb1.2.2, b3⟩ ?_
      intro x2 i2 hb2
      refine And.intro ⟨hb2.2.1, hb2.2.2, b3⟩ ?_
      intro x3 i3 h3 hb3
      refine And.intro ⟨hb3.2.1, hb3.2.2, b3⟩ ?_
      refine ⟨_, _, _, ?_, hh (wr .u8 (wr .i64 (3 + wr .i64 (16 * (curX b i3 h3).tmod 16)))) (wr .u8 x1) (wr .u8 x2) (wr .u8 x3) 0 0 0 0 0 0 0 0 0 0 0 0 (curI b i3) (curH h3) ⟨⟨wr8_bd _, wr8_bd _, wr8_bd _, wr8_bd _, by omega, by omega, by omega, by omega, by omega, by omega, by omega, by omega, by omega, by omega, by omega, by omega⟩, curI_bd (b := b) hb3.2⟩⟩
      simp (config := { maxSteps := 2000000 }) only [go_sem, hG, hP, Nat.reduceEqDiff, ↓reduceIte, reduceCtorEq, Nat.reduceAdd, Nat.reduceSub, Nat.reduceMul, Nat.reduceLT, Nat.reduceLeDiff, Int.reduceAdd, Int.reduceSub, Int.reduceMul, Int.reduceLT, Int.reduceLE, Int.reduceEq, Int.reduceNeg, Int.reduceNe, Int.reduceGE, Int.reduceGT, Nat.reduceBEq, Int.reduceToNat]
      all_goals simp
    · simp (config := { maxSteps := 2000000 }) only [go_sem, hG, hP, Nat.reduceEqDiff, ↓reduceIte, reduceCtorEq, Nat.reduceAdd, Nat.reduceSub, Nat.reduceMul, Nat.reduceLT, Nat.reduceLeDiff, Int.reduceAdd, Int.reduceSub, Int.reduceMul, Int.reduceLT, Int.reduceLE, Int.reduceEq, Int.reduceNeg, Int.reduceNe, Int.reduceGE, Int.reduceGT, Nat.reduceBEq, Int.reduceToNat,  spBelow_f, spBelow_t, spBelow_k, spByteA_f, spByteA_t, spByteA_k, takeP_eq, hj]
      repeat (refine And.intro (by first | omega | (simp; done) | (simp; omega) | (unfold appRoom; omega)) ?_)
      refine unrollI hE [(), (), (), (), ()] ?_
      simp (config := { maxSteps := 2000000 }) only [go_sem, hG, hP, Nat.reduceEqDiff, ↓reduceIte, reduceCtorEq, Nat.reduceAdd, Nat.reduceSub, Nat.reduceMul, Nat.reduceLT, Nat.reduceLeDiff, Int.reduceAdd, Int.reduceSub, Int.reduceMul, Int.reduceLT, Int.reduceLE, Int.reduceEq, Int.reduceNeg, Int.reduceNe, Int.reduceGE, Int.reduceGT, Nat.reduceBEq, Int.reduceToNat,  spBelow_f, spBelow_t, spBelow_k, spByteA_f, spByteA_t, spByteA_k, takeP_eq]
      repeat (refine And.intro (by first | omega | (simp; done) | (simp; omega) | (unfold appRoom; omega)) ?_)
      intro x1 i1 hb1
      refine And.intro ⟨hb1.2.1, hb1.2.2, b3⟩ ?_
      intro x2 i2 hb2
      refine And.intro ⟨hb2.2.1, hb2.2.2, b3⟩ ?_
      intro x3 i3 hb3
      refine And.intro ⟨hb3.2.1, hb3.2.2, b3⟩ ?_
      intro x4 i4 h4 hb4
      refine And.intro ⟨hb4.2.1, hb4.2.2, b3⟩ ?_
      refine ⟨_, _, _, ?_, hh (wr .u8 (wr .i64 (4 + wr .i64 (16 * (curX b i4 h4).tmod 16)))) (wr .u8 x1) (wr .u8 x2) (wr .u8 x3) (wr .u8 x4) 0 0 0 0 0 0 0 0 0 0 0 (curI b i4) (curH h4) ⟨⟨wr8_bd _, wr8_bd _, wr8_bd _, wr8_bd _, wr8_bd _, by omega, by omega, by omega, by omega, by omega, by omega, by omega, by omega, by omega, by omega, by omega⟩, curI_bd (b := b) hb4.2⟩⟩
      simp (config := { maxSteps := 2000000 }) only [go_sem, hG, hP, Nat.reduceEqDiff, ↓reduceIte, reduceCtorEq, Nat.reduceAdd, Nat.reduceSub, Nat.reduceMul, Nat.reduceLT, Nat.reduceLeDiff, Int.reduceAdd, Int.reduceSub, Int.reduceMul, Int.reduceLT, Int.reduceLE, Int.reduceEq, Int.reduceNeg, Int.reduceNe, Int.reduceGE, Int.reduceGT, Nat.reduceBEq, Int.reduceToNat]
      all_goals simp
    · simp (config := { maxSteps := 2000000 }) only [go_sem, hG, hP, Nat.reduceEqDiff, ↓reduceIte, reduceCtorEq, Nat.reduceAdd, Nat.reduceSub, Nat.reduceMul, Nat.reduceLT, Nat.reduceLeDiff, Int.reduceAdd, Int.reduceSub, Int.reduceMul, Int.reduceLT, Int.reduceLE, Int.reduceEq, Int.reduceNeg, Int.reduceNe, Int.reduceGE, Int.reduceGT, Nat.reduceBEq, Int.reduceToNat,  spBelow_f, spBelow_t, spBelow_k, spByteA_f, spByteA_t, spByteA_k, takeP_eq, hj]
      repeat (refine And.intro (by first | omega | (simp; done) | (simp; omega) | (unfold appRoom; omega)) ?_)
      refine unrollI hE [(), (), (), (), (), ()] ?_
      simp (config := { maxSteps := 2000000 }) only [go_sem, hG, hP, Nat.reduceEqDiff, ↓reduceIte, reduceCtorEq, Nat.reduceAdd, Nat.reduceSub, Nat.reduceMul, Nat.reduceLT, Nat.reduceLeDiff, Int.reduceAdd, Int.reduceSub, Int.reduceMul, Int.reduceLT, Int.reduceLE, Int.reduceEq, Int.reduceNeg, Int.reduceNe, Int.reduceGE, Int.reduceGT, Nat.reduceBEq, Int.reduceToNat,  spBelow_f, spBelow_t, spBelow_k, spByteA_f, spByteA_t, spByteA_k, takeP_eq]
      repeat (refine And.intro (by first | omega | (simp; done) | (simp; omega) | (unfold appRoom; omega)) ?_)
      intro x1 i1 hb1
      refine And.intro ⟨hb1.2.1, hb1.2.2, b3⟩ ?_
      intro x2 i2 hb2
      refine And.intro ⟨hb2.2.1, hb2.2.2, b3⟩ ?_
      intro x3 i3 hb3
      refine And.intro ⟨hb3.2.1, hb3.2.2, b3⟩ ?_
      intro x4 i4 hb4
      refine And.intro ⟨hb4.2.1, hb4.2.2, b3⟩ ?_
      intro x5 i5 h5 hb5
      refine And.intro ⟨hb5.2.1, hb5.2.2, b3⟩ ?_
      refine ⟨_, _, _, ?_, hh (wr .u8 (wr .i64 (5 + wr .i64 (16 * (curX b i5 h5).tmod 16)))) (wr .u8 x1) (wr .u8 x2) (wr .u8 x3) (wr .u8 x4) (wr .u8 x5) 0 0 0 0 0 0 0 0 0 0 (curI b i5) (curH h5) ⟨⟨wr8_bd _, wr8_bd _, wr8_bd _, wr8_bd _, wr8_bd _, wr8_bd _, by omega, by omega, by omega, by omega, by omega, by omega, by omega, by omega, by omega, by omega⟩, curI_bd (b := b) hb5.2⟩⟩
      simp (config := { maxSteps := 2000000 }) only [go_sem, hG, hP, Nat.reduceEqDiff, ↓reduceIte, reduceCtorEq, Nat.reduceAdd, Nat.reduceSub, Nat.reduceMul, Nat.reduceLT, Nat.reduceLeDiff, Int.reduceAdd, Int.reduceSub, Int.reduceMul, Int.reduceLT, Int.reduceLE, Int.reduceEq, Int.reduceNeg, Int.reduceNe, Int.reduceGE, Int.reduceGT, Nat.reduceBEq, Int.reduceToNat]
      all_goals simp
    · simp (config := { maxSteps := 2000000 }) only [go_sem, hG, hP, Nat.reduceEqDiff, ↓reduceIte, reduceCtorEq, Nat.reduceAdd, Nat.reduceSub, Nat.reduceMul, Nat.reduceLT, Nat.reduceLeDiff, Int.reduceAdd, Int.reduceSub, Int.reduceMul, Int.reduceLT, Int.reduceLE, Int.reduceEq, Int.reduceNeg, Int.reduceNe, Int.reduceGE, Int.reduceGT, Nat.reduceBEq, Int.reduceToNat,  spBelow_f, spBelow_t, spBelow_k, spByteA_f, spByteA_t, spByteA_k, takeP_eq, hj]
      repeat (refine And.intro (by first | omega | (simp; done) | (simp; omega) | (unfold appRoom; omega)) ?_)
      refine unrollI hE [(), (), (), (), (), (), ()] ?_
      simp (config := { maxSteps := 2000000 }) only [go_sem, hG, hP, Nat.reduceEqDiff, ↓reduceIte, reduceCtorEq, Nat.reduceAdd, Nat.reduceSub, Nat.reduceMul, Nat.reduceLT, Nat.reduceLeDiff, Int.reduceAdd, Int.reduceSub, Int.reduceMul, Int.reduceLT, Int.reduceLE, Int.reduceEq, Int.reduceNeg, Int.reduceNe, Int.reduceGE, Int.reduceGT, Nat.reduceBEq, Int.reduceToNat,  spBelow_f, spBelow_t, spBelow_k, spByteA_f, spByteA_t, spByteA_k, takeP_eq]
      repeat (refine And.intro (by first | omega | (simp; done) | (simp; omega) | (unfold appRoom; omega)) ?_)
      intro x1 i1 hb1
      refine And.intro ⟨hb1.2.1, hb1.2.2, b3⟩ ?_
      intro x2 i2 hb2
      refine And.intro ⟨hb2.2.1, hb2.2.2, b3⟩ ?_
      intro x3 i3 hb3
      refine And.intro ⟨hb3.2.1, hb3.2.2, b3⟩ ?_
      intro x4 i4 hb4
      refine And.intro ⟨hb4.2.1, hb4.2.2, b3⟩ ?_
      intro x5 i5 hb5
      refine And.intro ⟨hb5.2.1, hb5.2.2, b3⟩ ?_
      intro x6 i6 h6 hb6
      refine And.intro ⟨hb6.2.1, hb6.2.2, b3⟩ ?_
      refine ⟨_, _, _, ?_, hh (wr .u8 (wr .i64 (6 + wr .i64 (16 * (curX b i6 h6).tmod 16)))) (wr .u8 x1) (wr .u8 x2) (wr .u8 x3) (wr .u8 x4) (wr .u8 x5) (wr .u8 x6) 0 0 0 0 0 0 0 0 0 (curI b i6) (curH h6) ⟨⟨wr8_bd _, wr8_bd _, wr8_bd _, wr8_bd _, wr8_bd _, wr8_bd _, wr8_bd _, by omega, by omega, by omega, by omega, by omega, by omega, by omega, by omega, by omega⟩, curI_bd (b := b) hb6.2⟩⟩
      simp (config := { maxSteps := 2000000 }) only [go_sem, hG, hP, Nat.reduceEqDiff, ↓reduceIte, reduceCtorEq, Nat.reduceAdd, Nat.reduceSub, Nat.reduceMul, Nat.reduceLT, Nat.reduceLeDiff, Int.reduceAdd, Int.reduceSub, Int.reduceMul, Int.reduceLT, Int.reduceLE, Int.reduceEq, Int.reduceNeg, Int.reduceNe, Int.reduceGE, Int.reduceGT, Nat.reduceBEq, Int.reduceToNat]
      all_goals simp
    · simp (config := { maxSteps := 2000000 }) only [go_sem, hG, hP, Nat.reduceEqDiff, ↓reduceIte, reduceCtorEq, Nat.reduceAdd, Nat.reduceSub, Nat.reduceMul, Nat.reduceLT, Nat.reduceLeDiff, Int.reduceAdd, Int.reduceSub, Int.reduceMul, Int.reduceLT, Int.reduceLE, Int.reduceEq, Int.reduceNeg, Int.reduceNe, Int.reduceGE, Int.reduceGT, Nat.reduceBEq, Int.reduceToNat,  spBelow_f, spBelow_t, spBelow_k, spByteA_f, spByteA_t, spByteA_k, takeP_eq, hj]
      repeat (refine And.intro (by first | omega | (simp; done) | (simp; omega) | (unfold appRoom; omega)) ?_)
      refine unrollI hE [(), (), (), (), (), (), (), ()] ?_
      simp (config := { maxSteps := 2000000 }) only [go_sem, hG, hP, Nat.reduceEqDiff, ↓reduceIte, reduceCtorEq, Nat.reduceAdd, Nat.reduceSub, Nat.reduceMul, Nat.reduceLT, Nat.reduceLeDiff, Int.reduceAdd, Int.reduceSub, Int.reduceMul, Int.reduceLT, Int.reduceLE, Int.reduceEq, Int.reduceNeg, Int.reduceNe, Int.reduceGE, Int.reduceGT, Nat.reduceBEq, Int.reduceToNat,  spBelow_f, spBelow_t, spBelow_k, spByteA_f, spByteA_t, spByteA_k, takeP_eq]
      repeat (refine And.intro (by first | omega | (simp; done) | (simp; omega) | (unfold appRoom; omega)) ?_)
      intro x1 i1 hb1
      refine And.intro ⟨hb1.2.1, hb1.2.2, b3⟩ ?_
      intro x2 i2 hb2
      refine And.intro ⟨hb2.2.1, hb2.2.2, b3⟩ ?_
      intro x3 i3 hb3
      refine And.intro ⟨hb3.2.1, hb3.2.2, b3⟩ ?_
      intro x4 i4 hb4
      refine And.intro ⟨hb4.2.1, hb4.2.2, b3⟩ ?_
      intro x5 i5 hb5
      refine And.intro ⟨hb5.2.1, hb5.2.2, b3⟩ ?_
      intro x6 i6 hb6
      refine And.intro ⟨hb6.2.1, hb6.2.2, b3⟩ ?_
      intro x7 i7 h7 hb7
      refine And.intro ⟨hb7.2.1, hb7.2.2, b3⟩ ?_
      refine ⟨_, _, _, ?_, hh (wr .u8 (wr .i64 (7 + wr .i64 (16 * (curX b i7 h7).tmod 16)))) (wr .u8 x1) (wr .u8 x2) (wr .u8 x3) (wr .u8 x4) (wr .u8 x5) (wr .u8 x6) (wr .u8 x7) 0 0 0 0 0 0 0 0 (curI b i7) (curH h7) ⟨⟨wr8_bd _, wr8_bd _, wr8_bd _, wr8_bd _, wr8_bd _, wr8_bd _, wr8_bd _, wr8_bd _, by omega, by omega, by omega, by omega, by omega, by omega, by omega, by omega⟩, curI_bd (b := b) hb7.2⟩⟩
      simp (config := { maxSteps := 2000000 }) only [go_sem, hG, hP, Nat.reduceEqDiff, ↓reduceIte, reduceCtorEq, Nat.reduceAdd, Nat.reduceSub, Nat.reduceMul, Nat.reduceLT, Nat.reduceLeDiff, Int.reduceAdd, Int.reduceSub, Int.reduceMul, Int.reduceLT, Int.reduceLE, Int.reduceEq, Int.reduceNeg, Int.reduceNe, Int.reduceGE, Int.reduceGT, Nat.reduceBEq, Int.reduceToNat]
      all_goals simp
    · simp (config := { maxSteps := 2000000 }) only [go_sem, hG, hP, Nat.reduceEqDiff, ↓reduceIte, reduceCtorEq, Nat.reduceAdd, Nat.reduceSub, Nat.reduceMul, Nat.reduceLT, Nat.reduceLeDiff, Int.reduceAdd, Int.reduceSub, Int.reduceMul, Int.reduceLT, Int.reduceLE, Int.reduceEq, Int.reduceNeg, Int.reduceNe, Int.reduceGE, Int.reduceGT, Nat.reduceBEq, Int.reduceToNat,  spBelow_f, spBelow_t, spBelow_k, spByteA_f, spByteA_t, spByteA_k, takeP_eq, hj]
      repeat (refine And.intro (by first | omega | (simp; done) | (simp; omega) | (unfold appRoom; omega)) ?_)
      refine unrollI hE [(), (), (), (), (), (), (), (), ()] ?_
      simp (config := { maxSteps := 2000000 }) only [go_sem, hG, hP, Nat.reduceEqDiff, ↓reduceIte, reduceCtorEq, Nat.reduceAdd, Nat.reduceSub, Nat.reduceMul, Nat.reduceLT, Nat.reduceLeDiff, Int.reduceAdd, Int.reduceSub, Int.reduceMul, Int.reduceLT, Int.reduceLE, Int.reduceEq, Int.reduceNeg, Int.reduceNe, Int.reduceGE, Int.reduceGT, Nat.reduceBEq, Int.reduceToNat,  spBelow_f, spBelow_t, spBelow_k, spByteA_f, spByteA_t, spByteA_k, takeP_eq]
      repeat (refine And.intro (by first | omega | (simp; done) | (simp; omega) | (unfold appRoom; omega)) ?_)
      intro x1 i1 hb1
      refine And.intro ⟨hb1.2.1, hb1.2.2, b3⟩ ?_
      intro x2 i2 hb2
      refine And.intro ⟨hb2.2.1, hb2.2.2, b3⟩ ?_
      intro x3 i3 hb3
      refine And.intro ⟨hb3.2.1, hb3.2.2, b3⟩ ?_
      intro x4 i4 hb4
      refine And.intro ⟨hb4.2.1, hb4.2.2, b3⟩ ?_
      intro x5 i5 hb5
      refine And.intro ⟨hb5.2.1, hb5.2.2, b3⟩ ?_
      intro x6 i6 hb6
      refine And.intro ⟨hb6.2.1, hb6.2.2, b3⟩ ?_
      intro x7 i7 hb7
      refine And.intro ⟨hb7.2.1, hb7.2.2, b3⟩ ?_
      intro x8 i8 h8 hb8
      refine And.intro ⟨hb8.2.1, hb8.2.2, b3⟩ ?_
      refine ⟨_, _, _, ?_, hh (wr .u8 (wr .i64 (8 + wr .i64 (16 * (curX b i8 h8).tmod 16)))) (wr .u8 x1) (wr .u8 x2) (wr .u8 x3) (wr .u8 x4) (wr .u8 x5) (wr .u8 x6) (wr .u8 x7) (wr .u8 x8) 0 0 0 0 0 0 0 (curI b i8) (curH h8) ⟨⟨wr8_bd _, wr8_bd _, wr8_bd _, wr8_bd _, wr8_bd _, wr8_bd _, wr8_bd _, wr8_bd _, wr8_bd _, by omega, by omega, by omega, by omega, by omega, by omega, by omega⟩, curI_bd (b := b) hb8.2⟩⟩
      simp (config := { maxSteps := 2000000 }) only [go_sem, hG, hP, Nat.reduceEqDiff, ↓reduceIte, reduceCtorEq, Nat.reduceAdd, Nat.reduceSub, Nat.reduceMul, Nat.reduceLT, Nat.reduceLeDiff, Int.reduceAdd, Int.reduceSub, Int.reduceMul, Int.reduceLT, Int.reduceLE, Int.reduceEq, Int.reduceNeg, Int.reduceNe, Int.reduceGE, Int.reduceGT, Nat.reduceBEq, Int.reduceToNat]
      all_goals simp
    · simp (config := { maxSteps := 2000000 }) only [go_sem, hG, hP, Nat.reduceEqDiff, ↓reduceIte, reduceCtorEq, Nat.reduceAdd, Nat.reduceSub, Nat.reduceMul, Nat.reduceLT, Nat.reduceLeDiff, Int.reduceAdd, Int.reduceSub, Int.reduceMul, Int.reduceLT, Int.reduceLE, Int.reduceEq, Int.reduceNeg, Int.reduceNe, Int.reduceGE, Int.reduceGT, Nat.reduceBEq, Int.reduceToNat,  spBelow_f, spBelow_t, spBelow_k, spByteA_f, spByteA_t, spByteA_k, takeP_eq, hj]
      repeat (refine And.intro (by first | omega | (simp; done) | (simp; omega) | (unfold appRoom; omega)) ?_)
      refine unrollI hE [(), (), (), (), (), (), (), (), (), ()] ?_
      simp (config := { maxSteps := 2000000 }) only [go_sem, hG, hP, Nat.reduceEqDiff, ↓reduceIte, reduceCtorEq, Nat.reduceAdd, Nat.reduceSub, Nat.reduceMul, Nat.reduceLT, Nat.reduceLeDiff, Int.reduceAdd, Int.reduceSub, Int.reduceMul, Int.reduceLT, Int.reduceLE, Int.reduceEq, Int.reduceNeg, Int.reduceNe, Int.reduceGE, Int.reduceGT, Nat.reduceBEq, Int.reduceToNat,  spBelow_f, spBelow_t, spBelow_k, spByteA_f, spByteA_t, spByteA_k, takeP_eq]
      repeat (refine And.intro (by first | omega | (simp; done) | (simp; omega) | (unfold appRoom; omega)) ?_)
      intro x1 i1 hb1
      refine And.intro ⟨hb1.2.1, hb1.2.2, b3⟩ ?_
      intro x2 i2 hb2
      refine And.intro ⟨hb2.2.1, hb2.2.2, b3⟩ ?_
      intro x3 i3 hb3
      refine And.intro ⟨hb3.2.1, hb3.2.2, b3⟩ ?_
      intro x4 i4 hb4
      refine And.intro ⟨hb4.2.1, hb4.2.2, b3⟩ ?_
      intro x5 i5 hb5
      refine And.intro ⟨hb5.2.1, hb5.2.2, b3⟩ ?_
      intro x6 i6 hb6
      refine And.intro ⟨hb6.2.1, hb6.2.2, b3⟩ ?_
      intro x7 i7 hb7
      refine And.intro ⟨hb7.2.1, hb7.2.2, b3⟩ ?_
      intro x8 i8 hb8
      refine And.intro ⟨hb8.2.1, hb8.2.2, b3⟩ ?_
      intro x9 i9 h9 hb9
      refine And.intro ⟨hb9.2.1, hb9.2.2, b3⟩ ?_
      refine ⟨_, _, _, ?_, hh (wr .u8 (wr .i64 (9 + wr .i64 (16 * (curX b i9 h9).tmod 16)))) (wr .u8 x1) (wr .u8 x2) (wr .u8 x3) (wr .u8 x4) (wr .u8 x5) (wr .u8 x6) (wr .u8 x7) (wr .u8 x8) (wr .u8 x9) 0 0 0 0 0 0 (curI b i9) (curH h9) ⟨⟨wr8_bd _, wr8_bd _, wr8_bd _, wr8_bd _, wr8_bd _, wr8_bd _, wr8_bd _, wr8_bd _, wr8_bd _, wr8_bd _, by omega, by omega, by omega, by omega, by omega, by omega⟩, curI_bd (b := b) hb9.2⟩⟩
      simp (config := { maxSteps := 2000000 }) only [go_sem, hG, hP, Nat.reduceEqDiff, ↓reduceIte, reduceCtorEq, Nat.reduceAdd, Nat.reduceSub, Nat.reduceMul, Nat.reduceLT, Nat.reduceLeDiff, Int.reduceAdd, Int.reduceSub, Int.reduceMul, Int.reduceLT, Int.reduceLE, Int.reduceEq, Int.reduceNeg, Int.reduceNe, Int.reduceGE, Int.reduceGT, Nat.reduceBEq, Int.reduceToNat]
      all_goals simp
    · simp (config := { maxSteps := 2000000 }) only [go_sem, hG, hP, Nat.reduceEqDiff, ↓reduceIte, reduceCtorEq, Nat.reduceAdd, Nat.reduceSub, Nat.reduceMul, Nat.reduceLT, Nat.reduceLeDiff, Int.reduceAdd, Int.reduceSub, Int.reduceMul, Int.reduceLT, Int.reduceLE, Int.reduceEq, Int.reduceNeg, Int.reduceNe, Int.reduceGE, Int.reduceGT, Nat.reduceBEq, Int.reduceToNat,  spBelow_f, spBelow_t, spBelow_k, spByteA_f, spByteA_t, spByteA_k, takeP_eq, hj]
      repeat (refine And.intro (by first | omega | (simp; done) | (simp; omega) | (unfold appRoom; omega)) ?_)
      refine unrollI hE [(), (), (), (), (), (), (), (), (), (), ()] ?_
      simp (config := { maxSteps := 2000000 }) only [go_sem, hG, hP, Nat.reduceEqDiff, ↓reduceIte, reduceCtorEq, Nat.reduceAdd, Nat.reduceSub, Nat.reduceMul, Nat.reduceLT, Nat.reduceLeDiff, Int.reduceAdd, Int.reduceSub, Int.reduceMul, Int.reduceLT, Int.reduceLE, Int.reduceEq, Int.reduceNeg, Int.reduceNe, Int.reduceGE, Int.reduceGT, Nat.reduceBEq, Int.reduceToNat,  spBelow_f, spBelow_t, spBelow_k, spByteA_f, spByteA_t, spByteA_k, takeP_eq]
      repeat (refine And.intro (by first | omega | (simp; done) | (simp; omega) | (unfold appRoom; omega)) ?_)
      intro x1 i1 hb1
      refine And.intro ⟨hb1.2.1, hb1.2.2, b3⟩ ?_
      intro x2 i2 hb2
      refine And.intro ⟨hb2.2.1, hb2.2.2, b3⟩ ?_
      intro x3 i3 hb3
      refine And.intro ⟨hb3.2.1, hb3.2.2, b3⟩ ?_
      intro x4 i4 hb4
      refine And.intro ⟨hb4.2.1, hb4.2.2, b3⟩ ?_
      intro x5 i5 hb5
      refine And.intro ⟨hb5.2.1, hb5.2.2, b3⟩ ?_
      intro x6 i6 hb6
      refine And.intro ⟨hb6.2.1, hb6.2.2, b3⟩ ?_
      intro x7 i7 hb7
      refine And.intro ⟨hb7.2.1, hb7.2.2, b3⟩ ?_
      intro x8 i8 hb8
      refine And.intro ⟨hb8.2.1, hb8.2.2, b3⟩ ?_
      intro x9 i9 hb9
      refine And.intro ⟨hb9.2.1, hb9.2.2, b3⟩ ?_
      intro x10 i10 h10 hb10
      refine And.intro ⟨hb10.2.1, hb10.2.2, b3⟩ ?_
      refine ⟨_, _, _, ?_, hh (wr .u8 (wr .i64 (10 + wr .i64 (16 * (curX b i10 h10).tmod 16)))) (wr .u8 x1) (wr .u8 x2) (wr .u8 x3) (wr .u8 x4) (wr .u8 x5) (wr .u8 x6) (wr .u8 x7) (wr .u8 x8) (wr .u8 x9) (wr .u8 x10) 0 0 0 0 0 (curI b i10) (curH h10) ⟨⟨wr8_bd _, wr8_bd _, wr8_bd _, wr8_bd _, wr8_bd _, wr8_bd _, wr8_bd _, wr8_bd _, wr8_bd _, wr8_bd _, wr8_bd _, by omega, by omega, by omega, by omega, by omega⟩, curI_bd (b := b) hb10.2⟩⟩
      simp (config := { maxSteps := 2000000 }) only [go_sem, hG, hP, Nat.reduceEqDiff, ↓reduceIte, reduceCtorEq, Nat.reduceAdd, Nat.reduceSub, Nat.reduceMul, Nat.reduceLT, Nat.reduceLeDiff, Int.reduceAdd, Int.reduceSub, Int.reduceMul, Int.reduceLT, Int.reduceLE, Int.reduceEq, Int.reduceNeg, Int.reduceNe, Int.reduceGE, Int.reduceGT, Nat.reduceBEq, Int.reduceToNat]
      all_goals simp
    · simp (config := { maxSteps := 2000000 }) only [go_sem, hG, hP, Nat.reduceEqDiff, ↓reduceIte, reduceCtorEq, Nat.reduceAdd, Nat.reduceSub, Nat.reduceMul, Nat.reduceLT, Nat.reduceLeDiff, Int.reduceAdd, Int.reduceSub, Int.reduceMul, Int.reduceLT, Int.reduceLE, Int.reduceEq, Int.reduceNeg, Int.reduceNe, Int.reduceGE, Int.reduceGT, Nat.reduceBEq, Int.reduceToNat,  spBelow_f, spBelow_t, spBelow_k, spByteA_f, spByteA_t, spByteA_k, takeP_eq, hj]
      repeat (refine And.intro (by first | omega | (simp; done) | (simp; omega) | (unfold appRoom; omega)) ?_)
      refine unrollI hE [(), (), (), (), (), (), (), (), (), (), (), ()] ?_
      simp (config := { maxSteps := 2000000 }) only [go_sem, hG, hP, Nat.reduceEqDiff, ↓reduceIte, reduceCtorEq, Nat.reduceAdd, Nat.reduceSub, Nat.reduceMul, Nat.reduceLT, Nat.reduceLeDiff, Int.reduceAdd, Int.reduceSub, Int.reduceMul, Int.reduceLT, Int.reduceLE, Int.reduceEq, Int.reduceNeg, Int.reduceNe, Int.reduceGE, Int.reduceGT, Nat.reduceBEq, Int.reduceToNat,  spBelow_f, spBelow_t, spBelow_k, spByteA_f, spByteA_t, spByteA_k, takeP_eq]
      repeat (refine And.intro (by first | omega | (simp; done) | (simp; omega) | (unfold appRoom; omega)) ?_)
      intro x1 i1 hb1
      refine And.intro ⟨hb1.2.1, hb1.2.2, b3⟩ ?_
      intro x2 i2 hb2
      refine And.intro ⟨hb2.2.1, hb2.2.2, b3⟩ ?_
      intro x3 i3 hb3
      refine And.intro ⟨hb3.2.1, hb3.2.2, b3⟩ ?_
      intro x4 i4 hb4
      refine And.intro ⟨hb4.2.1, hb4.2.2, b3⟩ ?_
      intro x5 i5 hb5
      refine And.intro ⟨hb5.2.1, hb5.2.2, b3⟩ ?_
      intro x6 i6 hb6
      refine And.intro ⟨hb6.2.1, hb6.2.2, b3⟩ ?_
      intro x7 i7 hb7
      refine And.intro ⟨hb7.2.1, hb7.2.2, b3⟩ ?_
      intro x8 i8 hb8
      refine And.intro ⟨hb8.2.1, hb8.2.2, b3⟩ ?_
      intro x9 i9 hb9
      refine And.intro ⟨hb9.2.1, hb9.2.2, b3⟩ ?_
      intro x10 i10 hb10
      refine And.intro ⟨hb10.2.1, hb10.2.2, b3⟩ ?_
      intro x11 i11 h11 hb11
      refine And.intro ⟨hb11.2.1, hb11.2.2, b3⟩ ?_
      refine ⟨_, _, _, ?_, hh (wr .u8 (wr .i64 (11 + wr .i64 (16 * (curX b i11 h11).tmod 16)))) (wr .u8 x1) (wr .u8 x2) (wr .u8 x3) (wr .u8 x4) (wr .u8 x5) (wr .u8 x6) (wr .u8 x7) (wr .u8 x8) (wr .u8 x9) (wr .u8 x10) (wr .u8 x11) 0 0 0 0 (curI b i11) (curH h11) ⟨⟨wr8_bd _, wr8_bd _, wr8_bd _, wr8_bd _, wr8_bd _, wr8_bd _, wr8_bd _, wr8_bd _, wr8_bd _, wr8_bd _, wr8_bd _, wr8_bd _, by omega, by omega, by omega, by omega⟩, curI_bd (b := b) hb11.2⟩⟩
      simp (config := { maxSteps := 2000000 }) only [go_sem, hG, hP, Nat.reduceEqDiff, ↓reduceIte, reduceCtorEq, Nat.reduceAdd, Nat.reduceSub, Nat.reduceMul, Nat.reduceLT, Nat.reduceLeDiff, Int.reduceAdd, Int.reduceSub, Int.reduceMul, Int.reduceLT, Int.reduceLE, Int.reduceEq, Int.reduceNeg, Int.reduceNe, Int.reduceGE, Int.reduceGT, Nat.reduceBEq, Int.reduceToNat]
      all_goals simp
    · simp (config := { maxSteps := 2000000 }) only [go_sem, hG, hP, Nat.reduceEqDiff, ↓reduceIte, reduceCtorEq, Nat.reduceAdd, Nat.reduceSub, Nat.reduceMul, Nat.reduceLT, Nat.reduceLeDiff, Int.reduceAdd, Int.reduceSub, Int.reduceMul, Int.reduceLT, Int.reduceLE, Int.reduceEq, Int.reduceNeg, Int.reduceNe, Int.reduceGE, Int.reduceGT, Nat.reduceBEq, Int.reduceToNat,  spBelow_f, spBelow_t, spBelow_k, spByteA_f, spByteA_t, spByteA_k, takeP_eq, hj]
      repeat (refine And.intro (by first | omega | (simp; done) | (simp; omega) | (unfold appRoom; omega)) ?_)
      refine unrollI hE [(), (), (), (), (), (), (), (), (), (), (), (), ()] ?_
      simp (config := { maxSteps := 2000000 }) only [go_sem, hG, hP, Nat.reduceEqDiff, ↓reduceIte, reduceCtorEq, Nat.reduceAdd, Nat.reduceSub, Nat.reduceMul, Nat.reduceLT, Nat.reduceLeDiff, Int.reduceAdd, Int.reduceSub, Int.reduceMul, Int.reduceLT, Int.reduceLE, Int.reduceEq, Int.reduceNeg, Int.reduceNe, Int.reduceGE, Int.reduceGT, Nat.reduceBEq, Int.reduceToNat,  spBelow_f, spBelow_t, spBelow_k, spByteA_f, spByteA_t, spByteA_k, takeP_eq]
      repeat (refine And.intro (by first | omega | (simp; done) | (simp; omega) | (unfold appRoom; omega)) ?_)
      intro x1 i1 hb1
      refine And.intro ⟨hb1.2.1, hb1.2.2, b3⟩ ?_
      intro x2 i2 hb2
      refine And.intro ⟨hb2.2.1, hb2.2.2, b3⟩ ?_
      intro x3 i3 hb3
      refine And.intro ⟨hb3.2.1, hb3.2.2, b3⟩ ?_
      intro x4 i4 hb4
      refine And.intro ⟨hb4.2.1, hb4.2.2, b3⟩ ?_
      intro x5 i5 hb5
      refine And.intro ⟨hb5.2.1, hb5.2.2, b3⟩ ?_
      intro x6 i6 hb6
      refine And.intro ⟨hb6.2.1, hb6.2.2, b3⟩ ?_
      intro x7 i7 hb7
      refine And.intro ⟨hb7.2.1, hb7.2.2, b3⟩ ?_
      intro x8 i8 hb8
      refine And.intro ⟨hb8.2.1, hb8.2.2, b3⟩ ?_
      intro x9 i9 hb9
      refine And.intro ⟨hb9.2.1, hb9.2.2, b3⟩ ?_
      intro x10 i10 hb10
      refine And.intro ⟨hb10.2.1, hb10.2.2, b3⟩ ?_
      intro x11 i11 hb11
      refine And.intro ⟨hb11.2.1, hb11.2.2, b3⟩ ?_
      intro x12 i12 h12 hb12
      refine And.intro ⟨hb12.2.1, hb12.2.2, b3⟩ ?_
      refine ⟨_, _, _, ?_, hh (wr .u8 (wr .i64 (12 + wr .i64 (16 * (curX b i12 h12).tmod 16)))) (wr .u8 x1) (wr .u8 x2) (wr .u8 x3) (wr .u8 x4) (wr .u8 x5) (wr .u8 x6) (wr .u8 x7) (wr .u8 x8) (wr .u8 x9) (wr .u8 x10) (wr .u8 x11) (wr .u8 x12) 0 0 0 (curI b i12) (curH h12) ⟨⟨wr8_bd _, wr8_bd _, wr8_bd _, wr8_bd _, wr8_bd _, wr8_bd _, wr8_bd _, wr8_bd _, wr8_bd _, wr8_bd _, wr8_bd _, wr8_bd _, wr8_bd _, by omega, by omega, by omega⟩, curI_bd (b := b) hb12.2⟩⟩
      simp (config := { maxSteps := 2000000 }) only [go_sem, hG, hP, Nat.reduceEqDiff, ↓reduceIte, reduceCtorEq, Nat.reduceAdd, Nat.reduceSub, Nat.reduceMul, Nat.reduceLT, Nat.reduceLeDiff, Int.reduceAdd, Int.reduceSub, Int.reduceMul, Int.reduceLT, Int.reduceLE, Int.reduceEq, Int.reduceNeg, Int.reduceNe, Int.reduceGE, Int.reduceGT, Nat.reduceBEq, Int.reduceToNat]
      all_goals simp
    · simp (config := { maxSteps := 2000000 }) only [go_sem, hG, hP, Nat.reduceEqDiff, ↓reduceIte, reduceCtorEq, Nat.reduceAdd, Nat.reduceSub, Nat.reduceMul, Nat.reduceLT, Nat.reduceLeDiff, Int.reduceAdd, Int.reduceSub, Int.reduceMul, Int.reduceLT, Int.reduceLE, Int.reduceEq, Int.reduceNeg, Int.reduceNe, Int.reduceGE, Int.reduceGT, Nat.reduceBEq, Int.reduceToNat,  spBelow_f, spBelow_t, spBelow_k, spByteA_f, spByteA_t, spByteA_k, takeP_eq, hj]
      repeat (refine And.intro (by first | omega | (simp; done) | (simp; omega) | (unfold appRoom; omega)) ?_)
      refine unrollI hE [(), (), (), (), (), (), (), (), (), (), (), (), (), ()] ?_
      simp (config := { maxSteps := 2000000 }) only [go_sem, hG, hP, Nat.reduceEqDiff, ↓reduceIte, reduceCtorEq, Nat.reduceAdd, Nat.reduceSub, Nat.reduceMul, Nat.reduceLT, Nat.reduceLeDiff, Int.reduceAdd, Int.reduceSub, Int.reduceMul, Int.reduceLT, Int.reduceLE, Int.reduceEq, Int.reduceNeg, Int.reduceNe, Int.reduceGE, Int.reduceGT, Nat.reduceBEq, Int.reduceToNat,  spBelow_f, spBelow_t, spBelow_k, spByteA_f, spByteA_t, spByteA_k, takeP_eq]
      repeat (refine And.intro (by first | omega | (simp; done) | (simp; omega) | (unfold appRoom; omega)) ?_)
      intro x1 i1 hb1
      refine And.intro ⟨hb1.2.1, hb1.2.2, b3⟩ ?_
      intro x2 i2 hb2
      refine And.intro ⟨hb2.2.1, hb2.2.2, b3⟩ ?_
      intro x3 i3 hb3
      refine And.intro ⟨hb3.2.1, hb3.2.2, b3⟩ ?_
      intro x4 i4 hb4
      refine And.intro ⟨hb4.2.1, hb4.2.2, b3⟩ ?_
      intro x5 i5 hb5
      refine And.intro ⟨hb5.2.1, hb5.2.2, b3⟩ ?_
      intro x6 i6 hb6
      refine And.intro ⟨hb6.2.1, hb6.2.2, b3⟩ ?_
      intro x7 i7 hb7
      refine And.intro ⟨hb7.2.1, hb7.2.2, b3⟩ ?_
      intro x8 i8 hb8
      refine And.intro ⟨hb8.2.1, hb8.2.2, b3⟩ ?_
      intro x9 i9 hb9
      refine And.intro ⟨hb9.2.1, hb9.2.2, b3⟩ ?_
      intro x10 i10 hb10
      refine And.intro ⟨hb10.2.1, hb10.2.2, b3⟩ ?_
      intro x11 i11 hb11
      refine And.intro ⟨hb11.2.1, hb11.2.2, b3⟩ ?_
      intro x12 i12 hb12
      refine And.intro ⟨hb12.2.1, hb12.2.2, b3⟩ ?_
      intro x13 i13 h13 hb13
      refine And.intro ⟨hb13.2.1, hb13.2.2, b3⟩ ?_
      refine ⟨_, _, _, ?_, hh (wr .u8 (wr .i64 (13 + wr .i64 (16 * (curX b i13 h13).tmod 16)))) (wr .u8 x1) (wr .u8 x2) (wr .u8 x3) (wr .u8 x4) (wr .u8 x5) (wr .u8 x6) (wr .u8 x7) (wr .u8 x8) (wr .u8 x9) (wr .u8 x10) (wr .u8 x11) (wr .u8 x12) (wr .u8 x13) 0 0 (curI b i13) (curH h13) ⟨⟨wr8_bd _, wr8_bd _, wr8_bd _, wr8_bd _, wr8_bd _, wr8_bd _, wr8_bd _, wr8_bd _, wr8_bd _, wr8_bd _, wr8_bd _, wr8_bd _, wr8_bd _, wr8_bd _, by omega, by omega⟩, curI_bd (b := b) hb13.2⟩⟩
      simp (config := { maxSteps := 2000000 }) only [go_sem, hG, hP, Nat.reduceEqDiff, ↓reduceIte, reduceCtorEq, Nat.reduceAdd, Nat.reduceSub, Nat.reduceMul, Nat.reduceLT, Nat.reduceLeDiff, Int.reduceAdd, Int.reduceSub, Int.reduceMul, Int.reduceLT, Int.reduceLE, Int.reduceEq, Int.reduceNeg, Int.reduceNe, Int.reduceGE, Int.reduceGT, Nat.reduceBEq, Int.reduceToNat]
      all_goals simp
    · simp (config := { maxSteps := 2000000 }) only [go_sem, hG, hP, Nat.reduceEqDiff, ↓reduceIte, reduceCtorEq, Nat.reduceAdd, Nat.reduceSub, Nat.reduceMul, Nat.reduceLT, Nat.reduceLeDiff, Int.reduceAdd, Int.reduceSub, Int.reduceMul, Int.reduceLT, Int.reduceLE, Int.reduceEq, Int.reduceNeg, Int.reduceNe, Int.reduceGE, Int.reduceGT, Nat.reduceBEq, Int.reduceToNat,  spBelow_f, spBelow_t, spBelow_k, spByteA_f, spByteA_t, spByteA_k, takeP_eq, hj]
      repeat (refine And.intro (by first | omega | (simp; done) | (simp; omega) | (unfold appRoom; omega)) ?_)
      refine unrollI hE [(), (), (), (), (), (), (), (), (), (), (), (), (), (), ()] ?_
      simp (config := { maxSteps := 2000000 }) only [go_sem, hG, hP, Nat.reduceEqDiff, ↓reduceIte, reduceCtorEq, Nat.reduceAdd, Nat.reduceSub, Nat.reduceMul, Nat.reduceLT, Nat.reduceLeDiff, Int.reduceAdd, Int.reduceSub, Int.reduceMul, Int.reduceLT, Int.reduceLE, Int.reduceEq, Int.reduceNeg, Int.reduceNe, Int.reduceGE, Int.reduceGT, Nat.reduceBEq, Int.reduceToNat,  spBelow_f, spBelow_t, spBelow_k, spByteA_f, spByteA_t, spByteA_k, takeP_eq]
      repeat (refine And.intro (by first | omega | (simp; done) | (simp; omega) | (unfold appRoom; omega)) ?_)
      intro x1 i1 hb1
      refine And.intro ⟨hb1.2.1, hb1.2.2, b3⟩ ?_
      intro x2 i2 hb2
      refine And.intro ⟨hb2.2.1, hb2.2.2, b3⟩ ?_
      intro x3 i3 hb3
      refine And.intro ⟨hb3.2.1, hb3.2.2, b3⟩ ?_
      intro x4 i4 hb4
      refine And.intro ⟨hb4.2.1, hb4.2.2, b3⟩ ?_
      intro x5 i5 hb5
      refine And.intro ⟨hb5.2.1, hb5.2.2, b3⟩ ?_
      intro x6 i6 hb6
      refine And.intro ⟨hb6.2.1, hb6.2.2, b3⟩ ?_
      intro x7 i7 hb7
      refine And.intro ⟨hb7.2.1, hb7.2.2, b3⟩ ?_
      intro x8 i8 hb8
      refine And.intro ⟨hb8.2.1, hb8.2.2, b3⟩ ?_
      intro x9 i9 hb9
      refine And.intro ⟨hb9.2.1, hb9.2.2, b3⟩ ?_
      intro x10 i10 hb10
      refine And.intro ⟨hb10.2.1, hb10.2.2, b3⟩ ?_
      intro x11 i11 hb11
      refine And.intro ⟨hb11.2.1, hb11.2.2, b3⟩ ?_
      intro x12 i12 hb12
      refine And.intro ⟨hb12.2.1, hb12.2.2, b3⟩ ?_
      intro x13 i13 hb13
      refine And.intro ⟨hb13.2.1, hb13.2.2, b3⟩ ?_
      intro x14 i14 h14 hb14
      refine And.intro ⟨hb14.2.1, hb14.2.2, b3⟩ ?_
      refine ⟨_, _, _, ?_, hh (wr .u8 (wr .i64 (14 + wr .i64 (16 * (curX b i14 h14).tmod 16)))) (wr .u8 x1) (wr .u8 x2) (wr .u8 x3) (wr .u8 x4) (wr .u8 x5) (wr .u8 x6) (wr .u8 x7) (wr .u8 x8) (wr .u8 x9) (wr .u8 x10) (wr .u8 x11) (wr .u8 x12) (wr .u8 x13) (wr .u8 x14) 0 (curI b i14) (curH h14) ⟨⟨wr8_bd _, wr8_bd _, wr8_bd _, wr8_bd _, wr8_bd _, wr8_bd _, wr8_bd _, wr8_bd _, wr8_bd _, wr8_bd _, wr8_bd _, wr8_bd _, wr8_bd _, wr8_bd _, wr8_bd _, by omega⟩, curI_bd (b := b) hb14.2⟩⟩
      simp (config := { maxSteps := 2000000 }) only [go_sem, hG, hP, Nat.reduceEqDiff, ↓reduceIte, reduceCtorEq, Nat.reduceAdd, Nat.reduceSub, Nat.reduceMul, Nat.reduceLT, Nat.reduceLeDiff, Int.reduceAdd, Int.reduceSub, Int.reduceMul, Int.reduceLT, Int.reduceLE, Int.reduceEq, Int.reduceNeg, Int.reduceNe, Int.reduceGE, Int.reduceGT, Nat.reduceBEq, Int.reduceToNat]
      all_goals simp
    · simp (config := { maxSteps := 2000000 }) only [go_sem, hG, hP, Nat.reduceEqDiff, ↓reduceIte, reduceCtorEq, Nat.reduceAdd, Nat.reduceSub, Nat.reduceMul, Nat.reduceLT, Nat.reduceLeDiff, Int.reduceAdd, Int.reduceSub, Int.reduceMul, Int.reduceLT, Int.reduceLE, Int.reduceEq, Int.reduceNeg, Int.reduceNe, Int.reduceGE, Int.reduceGT, Nat.reduceBEq, Int.reduceToNat,  spBelow_f, spBelow_t, spBelow_k, spByteA_f, spByteA_t, spByteA_k, takeP_eq, hj]
      repeat (refine And.intro (by first | omega | (simp; done) | (simp; omega) | (unfold appRoom; omega)) ?_)
      refine unrollI hE [(), (), (), (), (), (), (), (), (), (), (), (), (), (), (), ()] ?_
      simp (config := { maxSteps := 2000000 }) only [go_sem, hG, hP, Nat.reduceEqDiff, ↓reduceIte, reduceCtorEq, Nat.reduceAdd, Nat.reduceSub, Nat.reduceMul, Nat.reduceLT, Nat.reduceLeDiff, Int.reduceAdd, Int.reduceSub, Int.reduceMul, Int.reduceLT, Int.reduceLE, Int.reduceEq, Int.reduceNeg, Int.reduceNe, Int.reduceGE, Int.reduceGT, Nat.reduceBEq, Int.reduceToNat,  spBelow_f, spBelow_t, spBelow_k, spByteA_f, spByteA_t, spByteA_k, takeP_eq]
      repeat (refine And.intro (by first | omega | (simp; done) | (simp; omega) | (unfold appRoom; omega)) ?_)
      intro x1 i1 hb1
      refine And.intro ⟨hb1.2.1, hb1.2.2, b3⟩ ?_
      intro x2 i2 hb2
      refine And.intro ⟨hb2.2.1, hb2.2.2, b3⟩ ?_
      intro x3 i3 hb3
      refine And.intro ⟨hb3.2.1, hb3.2.2, b3⟩ ?_
      intro x4 i4 hb4
      refine And.intro ⟨hb4.2.1, hb4.2.2, b3⟩ ?_
      intro x5 i5 hb5
      refine And.intro ⟨hb5.2.1, hb5.2.2, b3⟩ ?_
      intro x6 i6 hb6
      refine And.intro ⟨hb6.2.1, hb6.2.2, b3⟩ ?_
      intro x7 i7 hb7
      refine And.intro ⟨hb7.2.1, hb7.2.2, b3⟩ ?_
      intro x8 i8 hb8
      refine And.intro ⟨hb8.2.1, hb8.2.2, b3⟩ ?_
      intro x9 i9 hb9
      refine And.intro ⟨hb9.2.1, hb9.2.2, b3⟩ ?_
      intro x10 i10 hb10
      refine And.intro ⟨hb10.2.1, hb10.2.2, b3⟩ ?_
      intro x11 i11 hb11
      refine And.intro ⟨hb11.2.1, hb11.2.2, b3⟩ ?_
      intro x12 i12 hb12
      refine And.intro ⟨hb12.2.1, hb12.2.2, b3⟩ ?_
      intro x13 i13 hb13
      refine And.intro ⟨hb13.2.1, hb13.2.2, b3⟩ ?_
      intro x14 i14 hb14
      refine And.intro ⟨hb14.2.1, hb14.2.2, b3⟩ ?_
      intro x15 i15 h15 hb15
      refine And.intro ⟨hb15.2.1, hb15.2.2, b3⟩ ?_
      refine ⟨_, _, _, ?_, hh (wr .u8 (wr .i64 (15 + wr .i64 (16 * (curX b i15 h15).tmod 16)))) (wr .u8 x1) (wr .u8 x2) (wr .u8 x3) (wr .u8 x4) (wr .u8 x5) (wr .u8 x6) (wr .u8 x7) (wr .u8 x8) (wr .u8 x9) (wr .u8 x10) (wr .u8 x11) (wr .u8 x12) (wr .u8 x13) (wr .u8 x14) (wr .u8 x15) (curI b i15) (curH h15) ⟨⟨wr8_bd _, wr8_bd _, wr8_bd _, wr8_bd _, wr8_bd _, wr8_bd _, wr8_bd _, wr8_bd _, wr8_bd _, wr8_bd _, wr8_bd _, wr8_bd _, wr8_bd _, wr8_bd _, wr8_bd _, wr8_bd _⟩, curI_bd (b := b) hb15.2⟩⟩
      simp (config := { maxSteps := 2000000 }) only [go_sem, hG, hP, Nat.reduceEqDiff, ↓reduceIte, reduceCtorEq, Nat.reduceAdd, Nat.reduceSub, Nat.reduceMul, Nat.reduceLT, Nat.reduceLeDiff, Int.reduceAdd, Int.reduceSub, Int.reduceMul, Int.reduceLT, Int.reduceLE, Int.reduceEq, Int.reduceNeg, Int.reduceNe, Int.reduceGE, Int.reduceGT, Nat.reduceBEq, Int.reduceToNat]
      all_goals simp
  · exact hh.elim
end Go.Proofs.YtfjfaajdbomhbaaE

/-! Two drawn cells, a byte of the code, sums of cells. -/
namespace Go.Proofs.YtfjfaajdbomhbaaE
open Go Go.RowKit
set_option linter.unusedSimpArgs false
set_option linter.unusedVariables false
set_option maxRecDepth 50000
set_option maxHeartbeats 8000000

def spBig : Spec := ⟨fun _ _ => [], fun args objs K => match args, objs with
  | [.rs .byte code], [] => K (.v (.bool (decide ((code.length : Int) > 1048576)))) [] 0
  | _, _ => False, false⟩
theorem spBig_t {L : Hp} {a : List AVal} : Spec.take spBig L a = [] := id rfl
theorem spBig_k : Spec.keep spBig = false := id rfl
theorem spBig_f {code} {K : AVal → Hp → Nat → Prop} : Spec.f spBig ([.rs .byte code]) ([]) K = (K (.v (.bool (decide ((code.length : Int) > 1048576)))) [] 0) := id rfl
theorem valid17 : Valid Try.prog 17 spBig := by
  refine validI (Γ := lk []) Try.func17 bod17 low17 res17 (good_of trivial) ?_
  intro E args objs K h hE hG hP
  simp only [spBig] at h
  split at h
  · refine ⟨by simp [Try.ntmps17], ?_⟩
    simp (config := { maxSteps := 2000000 }) only [go_sem, hG, hP, Nat.reduceEqDiff, ↓reduceIte, reduceCtorEq, Nat.reduceAdd, Nat.reduceSub, Nat.reduceMul, Nat.reduceLT, Nat.reduceLeDiff, Int.reduceAdd, Int.reduceSub, Int.reduceMul, Int.reduceLT, Int.reduceLE, Int.reduceEq, Int.reduceNeg, Int.reduceNe, Int.reduceGE, Int.reduceGT, Nat.reduceBEq, Int.reduceToNat]
    refine ⟨_, _, _, ?_, h⟩
    simp (config := { maxSteps := 2000000 }) only [go_sem, hG, hP, Nat.reduceEqDiff, ↓reduceIte, reduceCtorEq, Nat.reduceAdd, Nat.reduceSub, Nat.reduceMul, Nat.reduceLT, Nat.reduceLeDiff, Int.reduceAdd, Int.reduceSub, Int.reduceMul, Int.reduceLT, Int.reduceLE, Int.reduceEq, Int.reduceNeg, Int.reduceNe, Int.reduceGE, Int.reduceGT, Nat.reduceBEq, Int.reduceToNat]
  · exact h.elim
theorem getD_byte {code : List Int} (h : ∀ x ∈ code, 0 ≤ x ∧ x ≤ 255) (i : Nat) : 0 ≤ code.getD i 0 ∧ code.getD i 0 ≤ 255 := by
  by_cases hi : i < code.length
  · rw [List.getD_eq_getElem?_getD, List.getElem?_eq_getElem hi]
    exact h _ (List.getElem_mem hi)
  · rw [List.getD_eq_getElem?_getD, List.getElem?_eq_none (by omega)]
    simp
def spAt : Spec := ⟨fun _ _ => [], fun args objs K => match args, objs with
  | [.rs .byte code, .v (.int .i64 i)], [] => ((code.length ≤ 1048576 ∧ 0 ≤ i ∧ i ≤ 1) ∧ ∀ x ∈ code, 0 ≤ x ∧ x ≤ 255) ∧ ∀ x : Int, (0 ≤ x ∧ x ≤ 255) → K (.v (.int .i64 x)) [] 0
  | _, _ => False, false⟩
theorem spAt_t {L : Hp} {a : List AVal} : Spec.take spAt L a = [] := id rfl
theorem spAt_k : Spec.keep spAt = false := id rfl
theorem spAt_f {code} {i} {K : AVal → Hp → Nat → Prop} : Spec.f spAt ([.rs .byte code, .v (.int .i64 i)]) ([]) K = (((code.length ≤ 1048576 ∧ 0 ≤ i ∧ i ≤ 1) ∧ ∀ x ∈ code, 0 ≤ x ∧ x ≤ 255) ∧ ∀ x : Int, (0 ≤ x ∧ x ≤ 255) → K (.v (.int .i64 x)) [] 0) := id rfl
theorem valid19 : Valid Try.prog 19 spAt := by
  refine validI (Γ := lk []) Try.func19 bod19 low19 res19 (good_of trivial) ?_
  intro E args objs K hh hE hG hP
  simp only [spAt] at hh
  split at hh
  · refine ⟨by simp [Try.ntmps19], ?_⟩
    rename_i code i
    obtain ⟨⟨⟨b1, b2, b3⟩, hb⟩, hh⟩ := hh
    have hg := getD_byte hb i.toNat
    have hw : wr .i64 (code.getD i.toNat 0) = code.getD i.toNat 0 := wrap_id (by omega) (by omega)
    simp (config := { maxSteps := 2000000 }) only [go_sem, hG, hP, Nat.reduceEqDiff, ↓reduceIte, reduceCtorEq, Nat.reduceAdd, Nat.reduceSub, Nat.reduceMul, Nat.reduceLT, Nat.reduceLeDiff, Int.reduceAdd, Int.reduceSub, Int.reduceMul, Int.reduceLT, Int.reduceLE, Int.reduceEq, Int.reduceNeg, Int.reduceNe, Int.reduceGE, Int.reduceGT, Nat.reduceBEq, Int.reduceToNat,  hw]
    (try simp (disch := omega) only [wrap_id])
    refine ⟨fun h1 => ?_, fun h1 => ?_⟩
    · repeat (refine And.intro (by first | omega | (simp; done) | (simp; omega) | (unfold appRoom; omega)) ?_)
      refine ⟨_, _, _, ?_, hh _ hg⟩
      simp (config := { maxSteps := 2000000 }) only [go_sem, hG, hP, Nat.reduceEqDiff, ↓reduceIte, reduceCtorEq, Nat.reduceAdd, Nat.reduceSub, Nat.reduceMul, Nat.reduceLT, Nat.reduceLeDiff, Int.reduceAdd, Int.reduceSub, Int.reduceMul, Int.reduceLT, Int.reduceLE, Int.reduceEq, Int.reduceNeg, Int.reduceNe, Int.reduceGE, Int.reduceGT, Nat.reduceBEq, Int.reduceToNat]
    · have hm : (i * 7 + (code.length : Int)).tmod 256 = (i * 7 + (code.length : Int)) % 256 := Int.tmod_eq_emod_of_nonneg (by omega)
      repeat (refine And.intro (by first | omega | (simp; done) | (simp; omega) | (unfold appRoom; omega)) ?_)
      refine ⟨_, _, _, ?_, hh ((i * 7 + (code.length : Int)).tmod 256) (by omega)⟩
      simp (config := { maxSteps := 2000000 }) only [go_sem, hG, hP, Nat.reduceEqDiff, ↓reduceIte, reduceCtorEq, Nat.reduceAdd, Nat.reduceSub, Nat.reduceMul, Nat.reduceLT, Nat.reduceLeDiff, Int.reduceAdd, Int.reduceSub, Int.reduceMul, Int.reduceLT, Int.reduceLE, Int.reduceEq, Int.reduceNeg, Int.reduceNe, Int.reduceGE, Int.reduceGT, Nat.reduceBEq, Int.reduceToNat]
  · exact hh.elim
def spDrawXor : Spec := ⟨fun _ _ => [], fun args objs K => match args, objs with
  | [.rs .byte code], [] => code.length ≤ 1099511627776 ∧ ∀ a0 a1 a2 a3 a4 a5 a6 a7 a8 a9 a10 a11 a12 a13 a14 a15 b0 b1 b2 b3 b4 b5 b6 b7 b8 b9 b10 b11 b12 b13 b14 b15 : Int, ((0 ≤ a0 ∧ a0 ≤ 255) ∧ (0 ≤ a1 ∧ a1 ≤ 255) ∧ (0 ≤ a2 ∧ a2 ≤ 255) ∧ (0 ≤ a3 ∧ a3 ≤ 255) ∧ (0 ≤ a4 ∧ a4 ≤ 255) ∧ (0 ≤ a5 ∧ a5 ≤ 255) ∧ (0 ≤ a6 ∧ a6 ≤ 255) ∧ (0 ≤ a7 ∧ a7 ≤ 255) ∧ (0 ≤ a8 ∧ a8 ≤ 255) ∧ (0 ≤ a9 ∧ a9 ≤ 255) ∧ (0 ≤ a10 ∧ a10 ≤ 255) ∧ (0 ≤ a11 ∧ a11 ≤ 255) ∧ (0 ≤ a12 ∧ a12 ≤ 255) ∧ (0 ≤ a13 ∧ a13 ≤ 255) ∧ (0 ≤ a14 ∧ a14 ≤ 255) ∧ (0 ≤ a15 ∧ a15 ≤ 255)) ∧ ((0 ≤ b0 ∧ b0 ≤ 255) ∧ (0 ≤ b1 ∧ b1 ≤ 255) ∧ (0 ≤ b2 ∧ b2 ≤ 255) ∧ (0 ≤ b3 ∧ b3 ≤ 255) ∧ (0 ≤ b4 ∧ b4 ≤ 255) ∧ (0 ≤ b5 ∧ b5 ≤ 255) ∧ (0 ≤ b6 ∧ b6 ≤ 255) ∧ (0 ≤ b7 ∧ b7 ≤ 255) ∧ (0 ≤ b8 ∧ b8 ≤ 255) ∧ (0 ≤ b9 ∧ b9 ≤ 255) ∧ (0 ≤ b10 ∧ b10 ≤ 255) ∧ (0 ≤ b11 ∧ b11 ≤ 255) ∧ (0 ≤ b12 ∧ b12 ≤ 255) ∧ (0 ≤ b13 ∧ b13 ≤ 255) ∧ (0 ≤ b14 ∧ b14 ≤ 255) ∧ (0 ≤ b15 ∧ b15 ≤ 255)) → K (.tup [.agg [.v (.int .u8 a0), .v (.int .u8 a1), .v (.int .u8 a2), .v (.int .u8 a3), .v (.int .u8 a4), .v (.int .u8 a5), .v (.int .u8 a6), .v (.int .u8 a7), .v (.int .u8 a8), .v (.int .u8 a9), .v (.int .u8 a10), .v (.int .u8 a11), .v (.int .u8 a12), .v (.int .u8 a13), .v (.int .u8 a14), .v (.int .u8 a15)], .agg [.v (.int .u8 b0), .v (.int .u8 b1), .v (.int .u8 b2), .v (.int .u8 b3), .v (.int .u8 b4), .v (.int .u8 b5), .v (.int .u8 b6), .v (.int .u8 b7), .v (.int .u8 b8), .v (.int .u8 b9), .v (.int .u8 b10), .v (.int .u8 b11), .v (.int .u8 b12), .v (.int .u8 b13), .v (.int .u8 b14), .v (.int .u8 b15)]]) [] 0
  | _, _ => False, false⟩
theorem spDrawXor_t {L : Hp} {a : List AVal} : Spec.take spDrawXor L a = [] := id rfl
theorem spDrawXor_k : Spec.keep spDrawXor = false := id rfl
theorem spDrawXor_f {code} {K : AVal → Hp → Nat → Prop} : Spec.f spDrawXor ([.rs .byte code]) ([]) K = (code.length ≤ 1099511627776 ∧ ∀ a0 a1 a2 a3 a4 a5 a6 a7 a8 a9 a10 a11 a12 a13 a14 a15 b0 b1 b2 b3 b4 b5 b6 b7 b8 b9 b10 b11 b12 b13 b14 b15 : Int, ((0 ≤ a0 ∧ a0 ≤ 255) ∧ (0 ≤ a1 ∧ a1 ≤ 255) ∧ (0 ≤ a2 ∧ a2 ≤ 255) ∧ (0 ≤ a3 ∧ a3 ≤ 255) ∧ (0 ≤ a4 ∧ a4 ≤ 255) ∧ (0 ≤ a5 ∧ a5 ≤ 255) ∧ (0 ≤ a6 ∧ a6 ≤ 255) ∧ (0 ≤ a7 ∧ a7 ≤ 255) ∧ (0 ≤ a8 ∧ a8 ≤ 255) ∧ (0 ≤ a9 ∧ a9 ≤ 255) ∧ (0 ≤ a10 ∧ a10 ≤ 255) ∧ (0 ≤ a11 ∧ a11 ≤ 255) ∧ (0 ≤ a12 ∧ a12 ≤ 255) ∧ (0 ≤ a13 ∧ a13 ≤ 255) ∧ (0 ≤ a14 ∧ a14 ≤ 255) ∧ (0 ≤ a15 ∧ a15 ≤ 255)) ∧ ((0 ≤ b0 ∧ b0 ≤ 255) ∧ (0 ≤ b1 ∧ b1 ≤ 255) ∧ (0 ≤ b2 ∧ b2 ≤ 255) ∧ (0 ≤ b3 ∧ b3 ≤ 255) ∧ (0 ≤ b4 ∧ b4 ≤ 255) ∧ (0 ≤ b5 ∧ b5 ≤ 255) ∧ (0 ≤ b6 ∧ b6 ≤ 255) ∧ (0 ≤ b7 ∧ b7 ≤ 255) ∧ (0 ≤ b8 ∧ b8 ≤ 255) ∧ (0 ≤ b9 ∧ b9 ≤ 255) ∧ (0 ≤ b10 ∧ b10 ≤ 255) ∧ (0 ≤ b11 ∧ b11 ≤ 255) ∧ (0 ≤ b12 ∧ b12 ≤ 255) ∧ (0 ≤ b13 ∧ b13 ≤ 255) ∧ (0 ≤ b14 ∧ b14 ≤ 255) ∧ (0 ≤ b15 ∧ b15 ≤ 255)) → K (.tup [.agg [.v (.int .u8 a0), .v (.int .u8 a1), .v (.int .u8 a2), .v (.int .u8 a3), .v (.int .u8 a4), .v (.int .u8 a5), .v (.int .u8 a6), .v (.int .u8 a7), .v (.int .u8 a8), .v (.int .u8 a9), .v (.int .u8 a10), .v (.int .u8 a11), .v (.int .u8 a12), .v (.int .u8 a13), .v (.int .u8 a14), .v (.int .u8 a15)], .agg [.v (.int .u8 b0), .v (.int .u8 b1), .v (.int .u8 b2), .v (.int .u8 b3), .v (.int .u8 b4), .v (.int .u8 b5), .v (.int .u8 b6), .v (.int .u8 b7), .v (.int .u8 b8), .v (.int .u8 b9), .v (.int .u8 b10), .v (.int .u8 b11), .v (.int .u8 b12), .v (.int .u8 b13), .v (.int .u8 b14), .v (.int .u8 b15)]]) [] 0) := id rfl
theorem valid18 : Valid Try.prog 18 spDrawXor := by
  refine validI (Γ := lk [(33, spNew), (34, spDrawCell)]) Try.func18 bod18 low18 res18 (good_of ⟨⟨cal33, valid33⟩, ⟨cal34, valid34⟩, trivial⟩) ?_
  intro E args objs K hh hE hG hP
  simp only [spDrawXor] at hh
  split at hh
  · refine ⟨by simp [Try.ntmps18], ?_⟩
    rename_i code
    obtain ⟨b3, hh⟩ := hh
    simp (config := { maxSteps := 2000000 }) only [go_sem, hG, hP, Nat.reduceEqDiff, ↓reduceIte, reduceCtorEq, Nat.reduceAdd, Nat.reduceSub, Nat.reduceMul, Nat.reduceLT, Nat.reduceLeDiff, Int.reduceAdd, Int.reduceSub, Int.reduceMul, Int.reduceLT, Int.reduceLE, Int.reduceEq, Int.reduceNeg, Int.reduceNe, Int.reduceGE, Int.reduceGT, Nat.reduceBEq, Int.reduceToNat,  spNew_f, spNew_t, spNew_k, spDrawCell_f, spDrawCell_t, spDrawCell_k, takeP_eq]
    repeat (refine And.intro (by first | omega | (simp; done) | (simp; omega) | (unfold appRoom; omega)) ?_)
    intro a0 a1 a2 a3 a4 a5 a6 a7 a8 a9 a10 a11 a12 a13 a14 a15 i1 hb1
    refine And.intro ⟨hb1.2.1, hb1.2.2, b3⟩ ?_
    intro b0 b1 b2 b3 b4 b5 b6 b7 b8 b9 b10 b11 b12 b13 b14 b15 i2 h2 hb2
    refine ⟨_, _, _, ?_, hh a0 a1 a2 a3 a4 a5 a6 a7 a8 a9 a10 a11 a12 a13 a14 a15 b0 b1 b2 b3 b4 b5 b6 b7 b8 b9 b10 b11 b12 b13 b14 b15 ⟨hb1.1, hb2.1⟩⟩
    simp (config := { maxSteps := 2000000 }) only [go_sem, hG, hP, Nat.reduceEqDiff, ↓reduceIte, reduceCtorEq, Nat.reduceAdd, Nat.reduceSub, Nat.reduceMul, Nat.reduceLT, Nat.reduceLeDiff, Int.reduceAdd, Int.reduceSub, Int.reduceMul, Int.reduceLT, Int.reduceLE, Int.reduceEq, Int.reduceNeg, Int.reduceNe, Int.reduceGE, Int.reduceGT, Nat.reduceBEq, Int.reduceToNat]
    all_goals simp
  · exact hh.elim
def sumC (a0 a1 a2 a3 a4 a5 a6 a7 a8 a9 a10 a11 a12 a13 a14 a15 : Int) : Int := ((((((((((((((((0 + a0 * 1) + a1 * 2) + a2 * 3) + a3 * 4) + a4 * 5) + a5 * 6) + a6 * 7) + a7 * 8) + a8 * 9) + a9 * 10) + a10 * 11) + a11 * 12) + a12 * 13) + a13 * 14) + a14 * 15) + a15 * 16)
def spSum : Spec := ⟨fun _ _ => [], fun args objs K => match args, objs with
  | [.agg [.v (.int .u8 a0), .v (.int .u8 a1), .v (.int .u8 a2), .v (.int .u8 a3), .v (.int .u8 a4), .v (.int .u8 a5), .v (.int .u8 a6), .v (.int .u8 a7), .v (.int .u8 a8), .v (.int .u8 a9), .v (.int .u8 a10), .v (.int .u8 a11), .v (.int .u8 a12), .v (.int .u8 a13), .v (.int .u8 a14), .v (.int .u8 a15)]], [] => ((0 ≤ a0 ∧ a0 ≤ 255) ∧ (0 ≤ a1 ∧ a1 ≤ 255) ∧ (0 ≤ a2 ∧ a2 ≤ 255) ∧ (0 ≤ a3 ∧ a3 ≤ 255) ∧ (0 ≤ a4 ∧ a4 ≤ 255) ∧ (0 ≤ a5 ∧ a5 ≤ 255) ∧ (0 ≤ a6 ∧ a6 ≤ 255) ∧ (0 ≤ a7 ∧ a7 ≤ 255) ∧ (0 ≤ a8 ∧ a8 ≤ 255) ∧ (0 ≤ a9 ∧ a9 ≤ 255) ∧ (0 ≤ a10 ∧ a10 ≤ 255) ∧ (0 ≤ a11 ∧ a11 ≤ 255) ∧ (0 ≤ a12 ∧ a12 ≤ 255) ∧ (0 ≤ a13 ∧ a13 ≤ 255) ∧ (0 ≤ a14 ∧ a14 ≤ 255) ∧ (0 ≤ a15 ∧ a15 ≤ 255)) ∧ K (.v (.int .i64 ((sumC a0 a1 a2 a3 a4 a5 a6 a7 a8 a9 a10 a11 a12 a13 a14 a15).tmod 251))) [] 0
  | _, _ => False, false⟩
theorem spSum_t {L : Hp} {a : List AVal} : Spec.take spSum L a = [] := id rfl
theorem spSum_k : Spec.keep spSum = false := id rfl
theorem spSum_f {a0} {a1} {a2} {a3} {a4} {a5} {a6} {a7} {a8} {a9} {a10} {a11} {a12} {a13} {a14} {a15} {K : AVal → Hp → Nat → Prop} : Spec.f spSum ([.agg [.v (.int .u8 a0), .v (.int .u8 a1), .v (.int .u8 a2), .v (.int .u8 a3), .v (.int .u8 a4), .v (.int .u8 a5), .v (.int .u8 a6), .v (.int .u8 a7), .v (.int .u8 a8), .v (.int .u8 a9), .v (.int .u8 a10), .v (.int .u8 a11), .v (.int .u8 a12), .v (.int .u8 a13), .v (.int .u8 a14), .v (.int .u8 a15)]]) ([]) K = (((0 ≤ a0 ∧ a0 ≤ 255) ∧ (0 ≤ a1 ∧ a1 ≤ 255) ∧ (0 ≤ a2 ∧ a2 ≤ 255) ∧ (0 ≤ a3 ∧ a3 ≤ 255) ∧ (0 ≤ a4 ∧ a4 ≤ 255) ∧ (0 ≤ a5 ∧ a5 ≤ 255) ∧ (0 ≤ a6 ∧ a6 ≤ 255) ∧ (0 ≤ a7 ∧ a7 ≤ 255) ∧ (0 ≤ a8 ∧ a8 ≤ 255) ∧ (0 ≤ a9 ∧ a9 ≤ 255) ∧ (0 ≤ a10 ∧ a10 ≤ 255) ∧ (0 ≤ a11 ∧ a11 ≤ 255) ∧ (0 ≤ a12 ∧ a12 ≤ 255) ∧ (0 ≤ a13 ∧ a13 ≤ 255) ∧ (0 ≤ a14 ∧ a14 ≤ 255) ∧ (0 ≤ a15 ∧ a15 ≤ 255)) ∧ K (.v (.int .i64 ((sumC a0 a1 a2 a3 a4 a5 a6 a7 a8 a9 a10 a11 a12 a13 a14 a15).tmod 251))) [] 0) := id rfl
theorem valid20 : Valid Try.prog 20 spSum := by
  refine validI (Γ := lk []) Try.func20 bod20 low20 res20 (good_of trivial) ?_
  intro E args objs K h hE hG hP
  simp only [spSum, sumC] at h
  split at h
  · refine ⟨by simp [Try.ntmps20], ?_⟩
    rename_i a0 a1 a2 a3 a4 a5 a6 a7 a8 a9 a10 a11 a12 a13 a14 a15
    obtain ⟨hb, h⟩ := h
    simp (config := { maxSteps := 2000000 }) only [go_sem, hG, hP, Nat.reduceEqDiff, ↓reduceIte, reduceCtorEq, Nat.reduceAdd, Nat.reduceSub, Nat.reduceMul, Nat.reduceLT, Nat.reduceLeDiff, Int.reduceAdd, Int.reduceSub, Int.reduceMul, Int.reduceLT, Int.reduceLE, Int.reduceEq, Int.reduceNeg, Int.reduceNe, Int.reduceGE, Int.reduceGT, Nat.reduceBEq, Int.reduceToNat]
    refine unrollI hE [(), (), (), (), (), (), (), (), (), (), (), (), (), (), (), (), ()] ?_
    simp (config := { maxSteps := 2000000 }) only [go_sem, hG, hP, Nat.reduceEqDiff, ↓reduceIte, reduceCtorEq, Nat.reduceAdd, Nat.reduceSub, Nat.reduceMul, Nat.reduceLT, Nat.reduceLeDiff, Int.reduceAdd, Int.reduceSub, Int.reduceMul, Int.reduceLT, Int.reduceLE, Int.reduceEq, Int.reduceNeg, Int.reduceNe, Int.reduceGE, Int.reduceGT, Nat.reduceBEq, Int.reduceToNat]
    (try simp (disch := omega) only [wrap_id])
    repeat (refine And.intro (by first | omega | (simp; done) | (simp; omega) | (unfold appRoom; omega)) ?_)
    refine ⟨_, _, _, ?_, h⟩
    simp (config := { maxSteps := 2000000 }) only [go_sem, hG, hP, Nat.reduceEqDiff, ↓reduceIte, reduceCtorEq, Nat.reduceAdd, Nat.reduceSub, Nat.reduceMul, Nat.reduceLT, Nat.reduceLeDiff, Int.reduceAdd, Int.reduceSub, Int.reduceMul, Int.reduceLT, Int.reduceLE, Int.reduceEq, Int.reduceNeg, Int.reduceNe, Int.reduceGE, Int.reduceGT, Nat.reduceBEq, Int.reduceToNat]
    all_goals simp
  · exact h.elim
end Go.Proofs.YtfjfaajdbomhbaaE

/-! The code of a function, in the engine's words. -/
namespace Go.Proofs.YtfjfaajdbomhbaaE
open Go Go.RowKit
@[reducible] def ic5 : IC := (.seq (.ops [⟨some 2, .mov (.const (.bool false)), none⟩]) (.seq (.seq (.ops [⟨some 10, .mov (.tmp 0), none⟩, ⟨some 11, .call 17 [(.tmp 10)], none⟩]) (.cond (.tmp 11) (.seq (.ops [⟨some 2, .mov (.const (.bool true)), none⟩]) .ret) .skip)) (.seq (.ops [⟨some 13, .mov (.tmp 0), none⟩, ⟨some 14, .call 18 [(.tmp 13)], none⟩, ⟨some 12, .mov (.tmp 14), none⟩, ⟨some 15, .ext (.tmp 12) 0, none⟩, ⟨some 16, .ext (.tmp 12) 1, none⟩, ⟨some 3, .new [(.int .u8 0), (.int .u8 0), (.int .u8 0), (.int .u8 0), (.int .u8 0), (.int .u8 0), (.int .u8 0), (.int .u8 0), (.int .u8 0), (.int .u8 0), (.int .u8 0), (.int .u8 0), (.int .u8 0), (.int .u8 0), (.int .u8 0), (.int .u8 0)], none⟩, ⟨some 4, .new [(.int .u8 0), (.int .u8 0), (.int .u8 0), (.int .u8 0), (.int .u8 0), (.int .u8 0), (.int .u8 0), (.int .u8 0), (.int .u8 0), (.int .u8 0), (.int .u8 0), (.int .u8 0), (.int .u8 0), (.int .u8 0), (.int .u8 0), (.int .u8 0)], none⟩, ⟨none, .store 16 (.tmp 3) (.tmp 15), none⟩, ⟨none, .store 16 (.tmp 4) (.tmp 16), none⟩]) (.seq (.ops [⟨some 17, .load 16 true (.tmp 3), none⟩, ⟨some 18, .load 16 true (.tmp 4), none⟩, ⟨some 19, .call 11 [(.tmp 17), (.tmp 18)], none⟩, ⟨some 5, .new [(.int .u8 0), (.int .u8 0), (.int .u8 0), (.int .u8 0), (.int .u8 0), (.int .u8 0), (.int .u8 0), (.int .u8 0), (.int .u8 0), (.int .u8 0), (.int .u8 0), (.int .u8 0), (.int .u8 0), (.int .u8 0), (.int .u8 0), (.int .u8 0)], none⟩, ⟨none, .store 16 (.tmp 5) (.tmp 19), none⟩]) (.seq (.ops [⟨some 20, .load 16 true (.tmp 3), none⟩, ⟨some 6, .new [(.int .u8 0), (.int .u8 0), (.int .u8 0), (.int .u8 0), (.int .u8 0), (.int .u8 0), (.int .u8 0), (.int .u8 0), (.int .u8 0), (.int .u8 0), (.int .u8 0), (.int .u8 0), (.int .u8 0), (.int .u8 0), (.int .u8 0), (.int .u8 0)], none⟩, ⟨none, .store 16 (.tmp 6) (.tmp 20), none⟩]) (.seq (.ops [⟨some 21, .mov (.tmp 0), none⟩, ⟨some 22, .call 19 [(.tmp 21), (.const (.int .i64 0))], none⟩, ⟨some 23, .bin .rem (.tmp 22) (.const (.int .i64 16)), none⟩, ⟨some 7, .mov (.tmp 23), none⟩]) (.seq (.ops [⟨some 24, .mov (.tmp 0), none⟩, ⟨some 25, .call 19 [(.tmp 24), (.const (.int .i64 1))], none⟩, ⟨some 26, .bin .rem (.tmp 25) (.const (.int .i64 250)), none⟩, ⟨some 27, .bin .add (.const (.int .i64 1)) (.tmp 26), none⟩, ⟨some 8, .mov (.tmp 27), none⟩]) (.hold (.seq (.ops [⟨some 28, .mov (.tmp 7), none⟩, ⟨some 29, .mov (.tmp 7), none⟩, ⟨some 30, .iarr 1 16 (.tmp 6) (.tmp 29), none⟩, ⟨some 31, .load 1 false (.tmp 30), none⟩, ⟨some 32, .cvi .i64 (.tmp 31), none⟩, ⟨some 33, .mov (.tmp 8), none⟩, ⟨some 34, .bin .add (.tmp 32) (.tmp 33), none⟩, ⟨some 35, .bin .rem (.tmp 34) (.const (.int .i64 256)), none⟩, ⟨some 36, .cvi .u8 (.tmp 35), none⟩, ⟨some 37, .iarr 1 16 (.tmp 6) (.tmp 28), none⟩, ⟨none, .store 1 (.tmp 37) (.tmp 36), none⟩]) (.seq (.draw [⟨some 38, .mov (.tmp 7), none⟩, ⟨some 39, .iarr 1 16 (.tmp 6) (.tmp 38), none⟩, ⟨some 40, .load 1 false (.tmp 39), none⟩, ⟨some 41, .cvi .i64 (.tmp 40), none⟩, ⟨some 42, .mov (.tmp 7), none⟩, ⟨some 43, .iarr 1 16 (.tmp 3) (.tmp 42), none⟩, ⟨some 44, .load 1 false (.tmp 43), none⟩, ⟨some 45, .cvi .i64 (.tmp 44), none⟩, ⟨some 46, .bin .sub (.tmp 41) (.tmp 45), none⟩, ⟨some 47, .bin .rem (.tmp 46) (.const (.int .i64 251)), none⟩, ⟨some 9, .mov (.tmp 47), none⟩] (.held ⟨some 38, .mov (.tmp 7), none⟩ (.held ⟨some 39, .iarr 1 16 (.tmp 6) (.tmp 38), none⟩ (.held ⟨some 40, .load 1 false (.tmp 39), none⟩ (.held ⟨some 41, .cvi .i64 (.tmp 40), none⟩ (.held ⟨some 42, .mov (.tmp 7), none⟩ (.held ⟨some 43, .iarr 1 16 (.tmp 3) (.tmp 42), none⟩ (.held ⟨some 44, .load 1 false (.tmp 43), none⟩ (.held ⟨some 45, .cvi .i64 (.tmp 44), none⟩ (.held ⟨some 46, .bin .sub (.tmp 41) (.tmp 45), none⟩ (.held ⟨some 47, .bin .rem (.tmp 46) (.const (.int .i64 251)), none⟩ (.held ⟨some 9, .mov (.tmp 47), none⟩ .done)))))))))))) (.seq (.draw [⟨some 48, .load 16 true (.tmp 5), none⟩, ⟨some 49, .load 16 true (.tmp 4), none⟩, ⟨some 50, .call 11 [(.tmp 48), (.tmp 49)], none⟩, ⟨some 51, .load 16 true (.tmp 3), none⟩, ⟨some 52, .aeq false 16 (.tmp 50) (.tmp 51), none⟩, ⟨some 53, .mov (.tmp 52), none⟩, ⟨some 54, .mov (.tmp 9), some (53, true)⟩, ⟨some 55, .bin .eql (.tmp 54) (.const (.int .i64 0)), some (53, true)⟩, ⟨some 56, .mov (.tmp 55), some (53, true)⟩, ⟨some 57, .load 16 true (.tmp 6), some (56, false)⟩, ⟨some 58, .call 20 [(.tmp 57)], some (56, false)⟩, ⟨some 59, .load 16 true (.tmp 3), some (56, false)⟩, ⟨some 60, .call 20 [(.tmp 59)], some (56, false)⟩, ⟨some 61, .bin .neq (.tmp 58) (.tmp 60), some (56, false)⟩, ⟨some 62, .pick (.tmp 56) (.const (.bool true)) (.tmp 61), some (53, true)⟩, ⟨some 63, .pick (.tmp 53) (.tmp 62) (.const (.bool false)), none⟩, ⟨some 64, .mov (.tmp 63), none⟩, ⟨some 65, .bld [(.int .u8 0), (.int .u8 0), (.int .u8 0), (.int .u8 0), (.int .u8 0), (.int .u8 0), (.int .u8 0), (.int .u8 0), (.int .u8 0), (.int .u8 0), (.int .u8 0), (.int .u8 0), (.int .u8 0), (.int .u8 0), (.int .u8 0), (.int .u8 0)] [(0, 1, (.const (.int .u8 0))), (1, 1, (.const (.int .u8 1)))], some (64, true)⟩, ⟨some 66, .call 20 [(.tmp 65)], some (64, true)⟩, ⟨some 67, .bin .eql (.tmp 66) (.const (.int .i64 2)), some (64, true)⟩, ⟨some 68, .pick (.tmp 64) (.tmp 67) (.const (.bool false)), none⟩, ⟨some 2, .mov (.tmp 68), none⟩] (.held ⟨some 48, .load 16 true (.tmp 5), none⟩ (.held ⟨some 49, .load 16 true (.tmp 4), none⟩ (.held ⟨some 51, .load 16 true (.tmp 3), none⟩ (.alt ⟨some 50, .call 11 [(.tmp 48), (.tmp 49)], none⟩ (.held ⟨some 52, .aeq false 16 (.tmp 50) (.tmp 51), none⟩ (.held ⟨some 53, .mov (.tmp 52), none⟩ (.held ⟨some 54, .mov (.tmp 9), some (53, true)⟩ (.held ⟨some 55, .bin .eql (.tmp 54) (.const (.int .i64 0)), some (53, true)⟩ (.held ⟨some 56, .mov (.tmp 55), some (53, true)⟩ (.held ⟨some 57, .load 16 true (.tmp 6), some (56, false)⟩ (.held ⟨some 59, .load 16 true (.tmp 3), some (56, false)⟩ (.alt ⟨some 58, .call 20 [(.tmp 57)], some (56, false)⟩ (.alt ⟨some 60, .call 20 [(.tmp 59)], some (56, false)⟩ (.held ⟨some 61, .bin .neq (.tmp 58) (.tmp 60), some (56, false)⟩ (.held ⟨some 62, .pick (.tmp 56) (.const (.bool true)) (.tmp 61), some (53, true)⟩ (.held ⟨some 63, .pick (.tmp 53) (.tmp 62) (.const (.bool false)), none⟩ (.held ⟨some 64, .mov (.tmp 63), none⟩ (.held ⟨some 65, .bld [(.int .u8 0), (.int .u8 0), (.int .u8 0), (.int .u8 0), (.int .u8 0), (.int .u8 0), (.int .u8 0), (.int .u8 0), (.int .u8 0), (.int .u8 0), (.int .u8 0), (.int .u8 0), (.int .u8 0), (.int .u8 0), (.int .u8 0), (.int .u8 0)] [(0, 1, (.const (.int .u8 0))), (1, 1, (.const (.int .u8 1)))], some (64, true)⟩ (.alt ⟨some 66, .call 20 [(.tmp 65)], some (64, true)⟩ (.held ⟨some 67, .bin .eql (.tmp 66) (.const (.int .i64 2)), some (64, true)⟩ (.held ⟨some 68, .pick (.tmp 64) (.tmp 67) (.const (.bool false)), none⟩ (.held ⟨some 2, .mov (.tmp 68), none⟩ .done))) .stop)))))) .stop) .stop)))))))) .stop))))) .ret)))))))))))
@[reducible] def rv5 : List RV := [.tmp 2]
theorem low5 : lowC Try.prog tau Try.f5.ntmps (Try.f5.body.getD .skip) = some (erase ic5) := by kernel_rfl
theorem res5 : lowR Try.prog Try.f5.results.toList = some rv5 := by kernel_rfl
theorem bod5 : Try.f5.body = some (Try.f5.body.getD .skip) := by kernel_rfl
theorem cal5 : callable Try.prog 5 = true := by kernel_rfl

end Go.Proofs.YtfjfaajdbomhbaaE

/-! The law of hurt cells. -/
namespace Go.Proofs.YtfjfaajdbomhbaaE
open Go Go.RowKit
set_option linter.unusedSimpArgs false
set_option linter.unusedVariables false
set_option maxRecDepth 50000
set_option maxHeartbeats 16000000

theorem holdI {E : Env} (hE : E.good) {c : IC} {s : S} {Q : Ex → S → Prop} (h : VcI E c s Q) : OkI E c s Q := by rw [vcI] at h; exact vc_ok hE c s Q h
theorem xor_back {a b : Int} (ha : 0 ≤ a ∧ a ≤ 255) : xorV .u8 (xorV .u8 a b) b = a := by
  have key : ∀ x : BitVec 8, wr .u8 (x.toNat : Int) = x.toNat := fun x => by
    have := x.isLt
    rw [wr_eq, IntKind.wrap_u8]; omega
  have e : BitVec.ofInt 8 (((BitVec.ofInt 8 a ^^^ BitVec.ofInt 8 b).toNat : Nat) : Int) = BitVec.ofInt 8 a ^^^ BitVec.ofInt 8 b := by
    rw [BitVec.ofInt_natCast, BitVec.ofNat_toNat]; simp
  show wr .u8 ((BitVec.ofInt 8 (wr .u8 ((BitVec.ofInt 8 a ^^^ BitVec.ofInt 8 b).toNat : Int)) ^^^ BitVec.ofInt 8 b).toNat : Int) = a
  rw [key (BitVec.ofInt 8 a ^^^ BitVec.ofInt 8 b), e, BitVec.xor_assoc, BitVec.xor_self, BitVec.xor_zero, key, BitVec.toNat_ofInt]
  omega
theorem tmod_ne {x : Int} (h : ¬ x.tmod 251 = 0) : ¬ x % 251 = 0 := fun e => h (Int.tmod_eq_zero_of_dvd (Int.dvd_of_emod_eq_zero e))
def spLaw5 : Spec := ⟨fun _ _ => [], fun args objs K => match args, objs with
  | [.rs .byte code], [] => (∀ x ∈ code, 0 ≤ x ∧ x ≤ 255) ∧ K (.v (.bool true)) [] 0
  | _, _ => False, false⟩
theorem spLaw5_t {L : Hp} {a : List AVal} : Spec.take spLaw5 L a = [] := id rfl
theorem spLaw5_k : Spec.keep spLaw5 = false := id rfl
theorem spLaw5_f {code} {K : AVal → Hp → Nat → Prop} : Spec.f spLaw5 ([.rs .byte code]) ([]) K = ((∀ x ∈ code, 0 ≤ x ∧ x ≤ 255) ∧ K (.v (.bool true)) [] 0) := id rfl
theorem valid5 : Valid Try.prog 5 spLaw5 := by
  refine validI (Γ := lk [(17, spBig), (18, spDrawXor), (11, spXor), (19, spAt), (20, spSum)]) Try.func5 bod5 low5 res5 (good_of ⟨⟨cal17, valid17⟩, ⟨cal18, valid18⟩, ⟨cal11, valid11⟩, ⟨cal19, valid19⟩, ⟨cal20, valid20⟩, trivial⟩) ?_
  intro E args objs K hh hE hG hP
  simp only [spLaw5] at hh
  split at hh
  · refine ⟨by simp [Try.ntmps5], ?_⟩
    rename_i code
    obtain ⟨hb, hh⟩ := hh
    simp (config := { maxSteps := 2000000 }) only [go_sem, hG, hP, Nat.reduceEqDiff, ↓reduceIte, reduceCtorEq, Nat.reduceAdd, Nat.reduceSub, Nat.reduceMul, Nat.reduceLT, Nat.reduceLeDiff, Int.reduceAdd, Int.reduceSub, Int.reduceMul, Int.reduceLT, Int.reduceLE, Int.reduceEq, Int.reduceNeg, Int.reduceNe, Int.reduceGE, Int.reduceGT, Nat.reduceBEq, Int.reduceToNat,  spBig_f, spBig_t, spBig_k, spDrawXor_f, spDrawXor_t, spDrawXor_k, spXor_f, spXor_t, spXor_k, spAt_f, spAt_t, spAt_k]
    refine ⟨fun h1 => ⟨_, _, _, ?_, hh⟩, fun h1 => ?_⟩
    · simp (config := { maxSteps := 2000000 }) only [go_sem, hG, hP, Nat.reduceEqDiff, ↓reduceIte, reduceCtorEq, Nat.reduceAdd, Nat.reduceSub, Nat.reduceMul, Nat.reduceLT, Nat.reduceLeDiff, Int.reduceAdd, Int.reduceSub, Int.reduceMul, Int.reduceLT, Int.reduceLE, Int.reduceEq, Int.reduceNeg, Int.reduceNe, Int.reduceGE, Int.reduceGT, Nat.reduceBEq, Int.reduceToNat]
    have hl : code.length ≤ 1048576 := by omega
    repeat (refine And.intro (by first | omega | (simp; done) | (simp; omega) | (unfold appRoom; omega)) ?_)
    intro a0 a1 a2 a3 a4 a5 a6 a7 a8 a9 a10 a11 a12 a13 a14 a15 b0 b1 b2 b3 b4 b5 b6 b7 b8 b9 b10 b11 b12 b13 b14 b15 hab
    refine And.intro ⟨hl, hb⟩ ?_
    intro x0 hx0
    repeat (refine And.intro (by first | omega | (simp; done) | (simp; omega) | (unfold appRoom; omega)) ?_)
    refine And.intro ⟨hl, hb⟩ ?_
    intro x1 hx1
    repeat (refine And.intro (by first | omega | (simp; done) | (simp; omega) | (unfold appRoom; omega)) ?_)
    refine holdI hE ?_
    obtain ⟨y, hy⟩ : ∃ y, x1.tmod 250 = y := ⟨_, rfl⟩
    have hyb : 0 ≤ y ∧ y ≤ 249 := by
      rw [Int.tmod_eq_emod_of_nonneg hx1.1] at hy; omega
    have hwy : wr .i64 (1 + y) = 1 + y := wrap_id (by omega) (by omega)
    have hz2 : (sumC 0 1 0 0 0 0 0 0 0 0 0 0 0 0 0 0).tmod 251 = 2 := by decide
    have hk : (x0.tmod 16 = 0 ∨ x0.tmod 16 = 1 ∨ x0.tmod 16 = 2 ∨ x0.tmod 16 = 3 ∨ x0.tmod 16 = 4 ∨ x0.tmod 16 = 5 ∨ x0.tmod 16 = 6 ∨ x0.tmod 16 = 7 ∨ x0.tmod 16 = 8 ∨ x0.tmod 16 = 9 ∨ x0.tmod 16 = 10 ∨ x0.tmod 16 = 11 ∨ x0.tmod 16 = 12 ∨ x0.tmod 16 = 13 ∨ x0.tmod 16 = 14 ∨ x0.tmod 16 = 15) := by
      rw [Int.tmod_eq_emod_of_nonneg hx0.1]; omega
    rcases hk with hj | hj | hj | hj | hj | hj | hj | hj | hj | hj | hj | hj | hj | hj | hj | hj
    · obtain ⟨g, hg⟩ : ∃ g, (a0 + (1 + y)).tmod 256 = g := ⟨_, rfl⟩
      have hgb : (0 ≤ g ∧ g ≤ 255) ∧ (g = a0 + 1 + y ∨ g = a0 + 1 + y - 256) := by
        rw [Int.tmod_eq_emod_of_nonneg (by omega)] at hg; omega
      have w1 : wr .i64 a0 = a0 := wrap_id (by omega) (by omega)
      have w2 : wr .i64 (a0 + (1 + y)) = a0 + (1 + y) := wrap_id (by omega) (by omega)
      have w3 : wr .u8 g = g := by rw [wr_eq, IntKind.wrap_u8]; omega
      have w4 : wr .i64 g = g := wrap_id (by omega) (by omega)
      have w5 : wr .i64 (g - a0) = g - a0 := wrap_id (by omega) (by omega)
      simp (config := { maxSteps := 2000000 }) only [go_sem, hG, hP, Nat.reduceEqDiff, ↓reduceIte, reduceCtorEq, Nat.reduceAdd, Nat.reduceSub, Nat.reduceMul, Nat.reduceLT, Nat.reduceLeDiff, Int.reduceAdd, Int.reduceSub, Int.reduceMul, Int.reduceLT, Int.reduceLE, Int.reduceEq, Int.reduceNeg, Int.reduceNe, Int.reduceGE, Int.reduceGT, Nat.reduceBEq, Int.reduceToNat,  spXor, spSum, hj, hy, hwy, w1, w2, hg, w3, w4, w5, hz2, xor_back (b := b0) hab.1.1, xor_back (b := b1) hab.1.2.1, xor_back (b := b2) hab.1.2.2.1, xor_back (b := b3) hab.1.2.2.2.1, xor_back (b := b4) hab.1.2.2.2.2.1, xor_back (b := b5) hab.1.2.2.2.2.2.1, xor_back (b := b6) hab.1.2.2.2.2.2.2.1, xor_back (b := b7) hab.1.2.2.2.2.2.2.2.1, xor_back (b := b8) hab.1.2.2.2.2.2.2.2.2.1, xor_back (b := b9) hab.1.2.2.2.2.2.2.2.2.2.1, xor_back (b := b10) hab.1.2.2.2.2.2.2.2.2.2.2.1, xor_back (b := b11) hab.1.2.2.2.2.2.2.2.2.2.2.2.1, xor_back (b := b12) hab.1.2.2.2.2.2.2.2.2.2.2.2.2.1, xor_back (b := b13) hab.1.2.2.2.2.2.2.2.2.2.2.2.2.2.1, xor_back (b := b14) hab.1.2.2.2.2.2.2.2.2.2.2.2.2.2.2.1, xor_back (b := b15) hab.1.2.2.2.2.2.2.2.2.2.2.2.2.2.2.2]
      repeat' (first | intro _ | refine And.intro ?_ ?_)
      all_goals first | omega | (refine ⟨_, _, _, ?_, hh⟩; simp (config := { maxSteps := 2000000 }) only [go_sem, hG, hP, Nat.reduceEqDiff, ↓reduceIte, reduceCtorEq, Nat.reduceAdd, Nat.reduceSub, Nat.reduceMul, Nat.reduceLT, Nat.reduceLeDiff, Int.reduceAdd, Int.reduceSub, Int.reduceMul, Int.reduceLT, Int.reduceLE, Int.reduceEq, Int.reduceNeg, Int.reduceNe, Int.reduceGE, Int.reduceGT, Nat.reduceBEq, Int.reduceToNat]; done) | (refine ⟨_, _, _, ?_, hh⟩; simp (config := { maxSteps := 2000000 }) only [go_sem, hG, hP, Nat.reduceEqDiff, ↓reduceIte, reduceCtorEq, Nat.reduceAdd, Nat.reduceSub, Nat.reduceMul, Nat.reduceLT, Nat.reduceLeDiff, Int.reduceAdd, Int.reduceSub, Int.reduceMul, Int.reduceLT, Int.reduceLE, Int.reduceEq, Int.reduceNeg, Int.reduceNe, Int.reduceGE, Int.reduceGT, Nat.reduceBEq, Int.reduceToNat]; simp; done) | skip
      all_goals
        exfalso
        have hd := tmod_ne (x := g - a0) (by assumption)
        have hne : ¬ ¬ (sumC g a1 a2 a3 a4 a5 a6 a7 a8 a9 a10 a11 a12 a13 a14 a15).tmod 251 = (sumC a0 a1 a2 a3 a4 a5 a6 a7 a8 a9 a10 a11 a12 a13 a14 a15).tmod 251 := by assumption
        have he := Decidable.not_not.1 hne
        rw [Int.tmod_eq_emod_of_nonneg (by unfold sumC; omega), Int.tmod_eq_emod_of_nonneg (by unfold sumC; omega)] at he
        unfold sumC at he
        omega
    · obtain ⟨g, hg⟩ : ∃ g, (a1 + (1 + y)).tmod 256 = g := ⟨_, rfl⟩
      have hgb : (0 ≤ g ∧ g ≤ 255) ∧ (g = a1 + 1 + y ∨ g = a1 + 1 + y - 256) := by
        rw [Int.tmod_eq_emod_of_nonneg (by omega)] at hg; omega
      have w1 : wr .i64 a1 = a1 := wrap_id (by omega) (by omega)
      have w2 : wr .i64 (a1 + (1 + y)) = a1 + (1 + y) := wrap_id (by omega) (by omega)
      have w3 : wr .u8 g = g := by rw [wr_eq, IntKind.wrap_u8]; omega
      have w4 : wr .i64 g = g := wrap_id (by omega) (by omega)
      have w5 : wr .i64 (g - a1) = g - a1 := wrap_id (by omega) (by omega)
      simp (config := { maxSteps := 2000000 }) only [go_sem, hG, hP, Nat.reduceEqDiff, ↓reduceIte, reduceCtorEq, Nat.reduceAdd, Nat.reduceSub, Nat.reduceMul, Nat.reduceLT, Nat.reduceLeDiff, Int.reduceAdd, Int.reduceSub, Int.reduceMul, Int.reduceLT, Int.reduceLE, Int.reduceEq, Int.reduceNeg, Int.reduceNe, Int.reduceGE, Int.reduceGT, Nat.reduceBEq, Int.reduceToNat,  spXor, spSum, hj, hy, hwy, w1, w2, hg, w3, w4, w5, hz2, xor_back (b := b0) hab.1.1, xor_back (b := b1) hab.1.2.1, xor_back (b := b2) hab.1.2.2.1, xor_back (b := b3) hab.1.2.2.2.1, xor_back (b := b4) hab.1.2.2.2.2.1, xor_back (b := b5) hab.1.2.2.2.2.2.1, xor_back (b := b6) hab.1.2.2.2.2.2.2.1, xor_back (b := b7) hab.1.2.2.2.2.2.2.2.1, xor_back (b := b8) hab.1.2.2.2.2.2.2.2.2.1, xor_back (b := b9) hab.1.2.2.2.2.2.2.2.2.2.1, xor_back (b := b10) hab.1.2.2.2.2.2.2.2.2.2.2.1, xor_back (b := b11) hab.1.2.2.2.2.2.2.2.2.2.2.2.1, xor_back (b := b12) hab.1.2.2.2.2.2.2.2.2.2.2.2.2.1, xor_back (b := b13) hab.1.2.2.2.2.2.2.2.2.2.2.2.2.2.1, xor_back (b := b14) hab.1.2.2.2.2.2.2.2.2.2.2.2.2.2.2.1, xor_back (b := b15) hab.1.2.2.2.2.2.2.2.2.2.2.2.2.2.2.2]
      repeat' (first | intro _ | refine And.intro ?_ ?_)
      all_goals first | omega | (refine ⟨_, _, _, ?_, hh⟩; simp (config := { maxSteps := 2000000 }) only [go_sem, hG, hP, Nat.reduceEqDiff, ↓reduceIte, reduceCtorEq, Nat.reduceAdd, Nat.reduceSub, Nat.reduceMul, Nat.reduceLT, Nat.reduceLeDiff, Int.reduceAdd, Int.reduceSub, Int.reduceMul, Int.reduceLT, Int.reduceLE, Int.reduceEq, Int.reduceNeg, Int.reduceNe, Int.reduceGE, Int.reduceGT, Nat.reduceBEq, Int.reduceToNat]; done) | (refine ⟨_, _, _, ?_, hh⟩; simp (config := { maxSteps := 2000000 }) only [go_sem, hG, hP, Nat.reduceEqDiff, ↓reduceIte, reduceCtorEq, Nat.reduceAdd, Nat.reduceSub, Nat.reduceMul, Nat.reduceLT, Nat.reduceLeDiff, Int.reduceAdd, Int.reduceSub, Int.reduceMul, Int.reduceLT, Int.reduceLE, Int.reduceEq, Int.reduceNeg, Int.reduceNe, Int.reduceGE, Int.reduceGT, Nat.reduceBEq, Int.reduceToNat]; simp; done) | skip
      all_goals
        exfalso
        have hd := tmod_ne (x := g - a1) (by assumption)
        have hne : ¬ ¬ (sumC a0 g a2 a3 a4 a5 a6 a7 a8 a9 a10 a11 a12 a13 a14 a15).tmod 251 = (sumC a0 a1 a2 a3 a4 a5 a6 a7 a8 a9 a10 a11 a12 a13 a14 a15).tmod 251 := by assumption
        have he := Decidable.not_not.1 hne
        rw [Int.tmod_eq_emod_of_nonneg (by unfold sumC; omega), Int.tmod_eq_emod_of_nonneg (by unfold sumC; omega)] at he
        unfold sumC at he
        omega
    · obtain ⟨g, hg⟩ : ∃ g, (a2 + (1 + y)).tmod 256 = g := ⟨_, rfl⟩
      have hgb : (0 ≤ g ∧ g ≤ 255) ∧ (g = a2 + 1 + y ∨ g = a2 + 1 + y - 256) := by
        rw [Int.tmod_eq_emod_of_nonneg (by omega)] at hg; omega
      have w1 : wr .i64 a2 = a2 := wrap_id (by omega) (by omega)
      have w2 : wr .i64 (a2 + (1 + y)) = a2 + (1 + y) := wrap_id (by omega) (by omega)
      have w3 : wr .u8 g = g := by rw [wr_eq, IntKind.wrap_u8]; omega
      have w4 : wr .i64 g = g := wrap_id (by omega) (by omega)
      have w5 : wr .i64 (g - a2) = g - a2 := wrap_id (by omega) (by omega)
      simp (config := { maxSteps := 2000000 }) only [go_sem, hG, hP, Nat.reduceEqDiff, ↓reduceIte, reduceCtorEq, Nat.reduceAdd, Nat.reduceSub, Nat.reduceMul, Nat.reduceLT, Nat.reduceLeDiff, Int.reduceAdd, Int.reduceSub, Int.reduceMul, Int.reduceLT, Int.reduceLE, Int.reduceEq, Int.reduceNeg, Int.reduceNe, Int.reduceGE, Int.reduceGT, Nat.reduceBEq, Int.reduceToNat,  spXor, spSum, hj, hy, hwy, w1, w2, hg, w3, w4, w5, hz2, xor_back (b := b0) hab.1.1, xor_back (b := b1) hab.1.2.1, xor_back (b := b2) hab.1.2.2.1, xor_back (b := b3) hab.1.2.2.2.1, xor_back (b := b4) hab.1.2.2.2.2.1, xor_back (b := b5) hab.1.2.2.2.2.2.1, xor_back (b := b6) hab.1.2.2.2.2.2.2.1, xor_back (b := b7) hab.1.2.2.2.2.2.2.2.1, xor_back (b := b8) hab.1.2.2.2.2.2.2.2.2.1, xor_back (b := b9) hab.1.2.2.2.2.2.2.2.2.2.1, xor_back (b := b10) hab.1.2.2.2.2.2.2.2.2.2.2.1, xor_back (b := b11) hab.1.2.2.2.2.2.2.2.2.2.2.2.1, xor_back (b := b12) hab.1.2.2.2.2.2.2.2.2.2.2.2.2.1, xor_back (b := b13) hab.1.2.2.2.2.2.2.2.2.2.2.2.2.2.1, xor_back (b := b14) hab.1.2.2.2.2.2.2.2.2.2.2.2.2.2.2.1, xor_back (b := b15) hab.1.2.2.2.2.2.2.2.2.2.2.2.2.2.2.2]
      repeat' (first | intro _ | refine And.intro ?_ ?_)
      all_goals first | omega | (refine ⟨_, _, _, ?_, hh⟩; simp (config := { maxSteps := 2000000 }) only [go_sem, hG, hP, Nat.reduceEqDiff, ↓reduceIte, reduceCtorEq, Nat.reduceAdd, Nat.reduceSub, Nat.reduceMul, Nat.reduceLT, Nat.reduceLeDiff, Int.reduceAdd, Int.reduceSub, Int.reduceMul, Int.reduceLT, Int.reduceLE, Int.reduceEq, Int.reduceNeg, Int.reduceNe, Int.reduceGE, Int.reduceGT, Nat.reduceBEq, Int.reduceToNat]; done) | (refine ⟨_, _, _, ?_, hh⟩; simp (config := { maxSteps := 2000000 }) only [go_sem, hG, hP, Nat.reduceEqDiff, ↓reduceIte, reduceCtorEq, Nat.reduceAdd, Nat.reduceSub, Nat.reduceMul, Nat.reduceLT, Nat.reduceLeDiff, Int.reduceAdd, Int.reduceSub, Int.reduceMul, Int.reduceLT, Int.reduceLE, Int.reduceEq, Int.reduceNeg, Int.reduceNe, Int.reduceGE, Int.reduceGT, Nat.reduceBEq, Int.reduceToNat]; simp; done) | skip
      all_goals
        exfalso
        have hd := tmod_ne (x := g - a2) (by assumption)
        have hne : ¬ ¬ (sumC a0 a1 g a3 a4 a5 a6 a7 a8 a9 a10 a11 a12 a13 a14 a15).tmod 251 = (sumC a0 a1 a2 a3 a4 a5 a6 a7 a8 a9 a10 a11 a12 a13 a14 a15).tmod 251 := by assumption
        have he := Decidable.not_not.1 hne
        rw [Int.tmod_eq_emod_of_nonneg (by unfold sumC; omega), Int.tmod_eq_emod_of_nonneg (by unfold sumC; omega)] at he
        unfold sumC at he
        omega
    · obtain ⟨g, hg⟩ : ∃ g, (a3 + (1 + y)).tmod 256 = g := ⟨_, rfl⟩
      have hgb : (0 ≤ g ∧ g ≤ 255) ∧ (g = a3 + 1 + y ∨ g = a3 + 1 + y - 256) := by
        rw [Int.tmod_eq_emod_of_nonneg (by omega)] at hg; omega
      have w1 : wr .i64 a3 = a3 := wrap_id (by omega) (by omega)
      have w2 : wr .i64 (a3 + (1 + y)) = a3 + (1 + y) := wrap_id (by omega) (by omega)
      have w3 : wr .u8 g = g := by rw [wr_eq, IntKind.wrap_u8]; omega
      have w4 : wr .i64 g = g := wrap_id (by omega) (by omega)
      have w5 : wr .i64 (g - a3) = g - a3 := wrap_id (by omega) (by omega)
      simp (config := { maxSteps := 2000000 }) only [go_sem, hG, hP, Nat.reduceEqDiff, ↓reduceIte, reduceCtorEq, Nat.reduceAdd, Nat.reduceSub, Nat.reduceMul, Nat.reduceLT, Nat.reduceLeDiff, Int.reduceAdd, Int.reduceSub, Int.reduceMul, Int.reduceLT, Int.reduceLE, Int.reduceEq, Int.reduceNeg, Int.reduceNe, Int.reduceGE, Int.reduceGT, Nat.reduceBEq, Int.reduceToNat,  spXor, spSum, hj, hy, hwy, w1, w2, hg, w3, w4, w5, hz2, xor_back (b := b0) hab.1.1, xor_back (b := b1) hab.1.2.1, xor_back (b := b2) hab.1.2.2.1, xor_back (b := b3) hab.1.2.2.2.1, xor_back (b := b4) hab.1.2.2.2.2.1, xor_back (b := b5) hab.1.2.2.2.2.2.1, xor_back (b := b6) hab.1.2.2.2.2.2.2.1, xor_back (b := b7) hab.1.2.2.2.2.2.2.2.1, xor_back (b := b8) hab.1.2.2.2.2.2.2.2.2.1, xor_back (b := b9) hab.1.2.2.2.2.2.2.2.2.2.1, xor_back (b := b10) hab.1.2.2.2.2.2.2.2.2.2.2.1, xor_back (b := b11) hab.1.2.2.2.2.2.2.2.2.2.2.2.1, xor_back (b := b12) hab.1.2.2.2.2.2.2.2.2.2.2.2.2.1, xor_back (b := b13) hab.1.2.2.2.2.2.2.2.2.2.2.2.2.2.1, xor_back (b := b14) hab.1.2.2.2.2.2.2.2.2.2.2.2.2.2.2.1, xor_back (b := b15) hab.1.2.2.2.2.2.2.2.2.2.2.2.2.2.2.2]
      repeat' (first | intro _ | refine And.intro ?_ ?_)
      all_goals first | omega | (refine ⟨_, _, _, ?_, hh⟩; simp (config := { maxSteps := 2000000 }) only [go_sem, hG, hP, Nat.reduceEqDiff, ↓reduceIte, reduceCtorEq, Nat.reduceAdd, Nat.reduceSub, Nat.reduceMul, Nat.reduceLT, Nat.reduceLeDiff, Int.reduceAdd, Int.reduceSub, Int.reduceMul, Int.reduceLT, Int.reduceLE, Int.reduceEq, Int.reduceNeg, Int.reduceNe, Int.reduceGE, Int.reduceGT, Nat.reduceBEq, Int.reduceToNat]; done) | (refine ⟨_, _, _, ?_, hh⟩; simp (config := { maxSteps := 2000000 }) only [go_sem, hG, hP, Nat.reduceEqDiff, ↓reduceIte, reduceCtorEq, Nat.reduceAdd, Nat.reduceSub, Nat.reduceMul, Nat.reduceLT, Nat.reduceLeDiff, Int.reduceAdd, Int.reduceSub, Int.reduceMul, Int.reduceLT, Int.reduceLE, Int.reduceEq, Int.reduceNeg, Int.reduceNe, Int.reduceGE, Int.reduceGT, Nat.reduceBEq, Int.reduceToNat]; simp; done) | skip
      all_goals
        exfalso
        have hd := tmod_ne (x := g - a3) (by assumption)
        have hne : ¬ ¬ (sumC a0 a1 a2 g a4 a5 a6 a7 a8 a9 a10 a11 a12 a13 a14 a15).tmod 251 = (sumC a0 a1 a2 a3 a4 a5 a6 a7 a8 a9 a10 a11 a12 a13 a14 a15).tmod 251 := by assumption
        have he := Decidable.not_not.1 hne
        rw [Int.tmod_eq_emod_of_nonneg (by unfold sumC; omega), Int.tmod_eq_emod_of_nonneg (by unfold sumC; omega)] at he
        unfold sumC at he
        omega
    · obtain ⟨g, hg⟩ : ∃ g, (a4 + (1 + y)).tmod 256 = g := ⟨_, rfl⟩
      have hgb : (0 ≤ g ∧ g ≤ 255) ∧ (g = a4 + 1 + y ∨ g = a4 + 1 + y - 256) := by
        rw [Int.tmod_eq_emod_of_nonneg (by omega)] at hg; omega
      have w1 : wr .i64 a4 = a4 := wrap_id (by omega) (by omega)
      have w2 : wr .i64 (a4 + (1 + y)) = a4 + (1 + y) := wrap_id (by omega) (by omega)
      have w3 : wr .u8 g = g := by rw [wr_eq, IntKind.wrap_u8]; omega
      have w4 : wr .i64 g = g := wrap_id (by omega) (by omega)
      have w5 : wr .i64 (g - a4) = g - a4 := wrap_id (by omega) (by omega)
      simp (config := { maxSteps := 2000000 }) only [go_sem, hG, hP, Nat.reduceEqDiff, ↓reduceIte, reduceCtorEq, Nat.reduceAdd, Nat.reduceSub, Nat.reduceMul, Nat.reduceLT, Nat.reduceLeDiff, Int.reduceAdd, Int.reduceSub, Int.reduceMul, Int.reduceLT, Int.reduceLE, Int.reduceEq, Int.reduceNeg, Int.reduceNe, Int.reduceGE, Int.reduceGT, Nat.reduceBEq, Int.reduceToNat,  spXor, spSum, hj, hy, hwy, w1, w2, hg, w3, w4, w5, hz2, xor_back (b := b0) hab.1.1, xor_back (b := b1) hab.1.2.1, xor_back (b := b2) hab.1.2.2.1, xor_back (b := b3) hab.1.2.2.2.1, xor_back (b := b4) hab.1.2.2.2.2.1, xor_back (b := b5) hab.1.2.2.2.2.2.1, xor_back (b := b6) hab.1.2.2.2.2.2.2.1, xor_back (b := b7) hab.1.2.2.2.2.2.2.2.1, xor_back (b := b8) hab.1.2.2.2.2.2.2.2.2.1, xor_back (b := b9) hab.1.2.2.2.2.2.2.2.2.2.1, xor_back (b := b10) hab.1.2.2.2.2.2.2.2.2.2.2.1, xor_back (b := b11) hab.1.2.2.2.2.2.2.2.2.2.2.2.1, xor_back (b := b12) hab.1.2.2.2.2.2.2.2.2.2.2.2.2.1, xor_back (b := b13) hab.1.2.2.2.2.2.2.2.2.2.2.2.2.2.1, xor_back (b := b14) hab.1.2.2.2.2.2.2.2.2.2.2.2.2.2.2.1, xor_back (b := b15) hab.1.2.2.2.2.2.2.2.2.2.2.2.2.2.2.2]
      repeat' (first | intro _ | refine And.intro ?_ ?_)
      all_goals first | omega | (refine ⟨_, _, _, ?_, hh⟩; simp (config := { maxSteps := 2000000 }) only [go_sem, hG, hP, Nat.reduceEqDiff, ↓reduceIte, reduceCtorEq, Nat.reduceAdd, Nat.reduceSub, Nat.reduceMul, Nat.reduceLT, Nat.reduceLeDiff, Int.reduceAdd, Int.reduceSub, Int.reduceMul, Int.reduceLT, Int.reduceLE, Int.reduceEq, Int.reduceNeg, Int.reduceNe, Int.reduceGE, Int.reduceGT, Nat.reduceBEq, Int.reduceToNat]; done) | (refine ⟨_, _, _, ?_, hh⟩; simp (config := { maxSteps := 2000000 }) only [go_sem, hG, hP, Nat.reduceEqDiff, ↓reduceIte, reduceCtorEq, Nat.reduceAdd, Nat.reduceSub, Nat.reduceMul, Nat.reduceLT, Nat.reduceLeDiff, Int.reduceAdd, Int.reduceSub, Int.reduceMul, Int.reduceLT, Int.reduceLE, Int.reduceEq, Int.reduceNeg, Int.reduceNe, Int.reduceGE, Int.reduceGT, Nat.reduceBEq, Int.reduceToNat]; simp; done) | skip
      all_goals
        exfalso
        have hd := tmod_ne (x := g - a4) (by assumption)
        have hne : ¬ ¬ (sumC a0 a1 a2 a3 g a5 a6 a7 a8 a9 a10 a11 a12 a13 a14 a15).tmod 251 = (sumC a0 a1 a2 a3 a4 a5 a6 a7 a8 a9 a10 a11 a12 a13 a14 a15).tmod 251 := by assumption
        have he := Decidable.not_not.1 hne
        rw [Int.tmod_eq_emod_of_nonneg (by unfold sumC; omega), Int.tmod_eq_emod_of_nonneg (by unfold sumC; omega)] at he
        unfold sumC at he
        omega
    · obtain ⟨g, hg⟩ : ∃ g, (a5 + (1 + y)).tmod 256 = g := ⟨_, rfl⟩
      have hgb : (0 ≤ g ∧ g ≤ 255) ∧ (g = a5 + 1 + y ∨ g = a5 + 1 + y - 256) := by
        rw [Int.tmod_eq_emod_of_nonneg (by omega)] at hg; omega
      have w1 : wr .i64 a5 = a5 := wrap_id (by omega) (by omega)
      have w2 : wr .i64 (a5 + (1 + y)) = a5 + (1 + y) := wrap_id (by omega) (by omega)
      have w3 : wr .u8 g = g := by rw [wr_eq, IntKind.wrap_u8]; omega
      have w4 : wr .i64 g = g := wrap_id (by omega) (by omega)
      have w5 : wr .i64 (g - a5) = g - a5 := wrap_id (by omega) (by omega)
      simp (config := { maxSteps := 2000000 }) only [go_sem, hG, hP, Nat.reduceEqDiff, ↓reduceIte, reduceCtorEq, Nat.reduceAdd, Nat.reduceSub, Nat.reduceMul, Nat.reduceLT, Nat.reduceLeDiff, Int.reduceAdd, Int.reduceSub, Int.reduceMul, Int.reduceLT, Int.reduceLE, Int.reduceEq, Int.reduceNeg, Int.reduceNe, Int.reduceGE, Int.reduceGT, Nat.reduceBEq, Int.reduceToNat,  spXor, spSum, hj, hy, hwy, w1, w2, hg, w3, w4, w5, hz2, xor_back (b := b0) hab.1.1, xor_back (b := b1) hab.1.2.1, xor_back (b := b2) hab.1.2.2.1, xor_back (b := b3) hab.1.2.2.2.1, xor_back (b := b4) hab.1.2.2.2.2.1, xor_back (b := b5) hab.1.2.2.2.2.2.1, xor_back (b := b6) hab.1.2.2.2.2.2.2.1, xor_back (b := b7) hab.1.2.2.2.2.2.2.2.1, xor_back (b := b8) hab.1.2.2.2.2.2.2.2.2.1, xor_back (b := b9) hab.1.2.2.2.2.2.2.2.2.2.1, xor_back (b := b10) hab.1.2.2.2.2.2.2.2.2.2.2.1, xor_back (b := b11) hab.1.2.2.2.2.2.2.2.2.2.2.2.1, xor_back (b := b12) hab.1.2.2.2.2.2.2.2.2.2.2.2.2.1, xor_back (b := b13) hab.1.2.2.2.2.2.2.2.2.2.2.2.2.2.1, xor_back (b := b14) hab.1.2.2.2.2.2.2.2.2.2.2.2.2.2.2.1, xor_back (b := b15) hab.1.2.2.2.2.2.2.2.2.2.2.2.2.2.2.2]
      repeat' (first | intro _ | refine And.intro ?_ ?_)
      all_goals first | omega | (refine ⟨_, _, _, ?_, hh⟩; simp (config := { maxSteps := 2000000 }) only [go_sem, hG, hP, Nat.reduceEqDiff, ↓reduceIte, reduceCtorEq, Nat.reduceAdd, Nat.reduceSub, Nat.reduceMul, Nat.reduceLT, Nat.reduceLeDiff, Int.reduceAdd, Int.reduceSub, Int.reduceMul, Int.reduceLT, Int.reduceLE, Int.reduceEq, Int.reduceNeg, Int.reduceNe, Int.reduceGE, Int.reduceGT, Nat.reduceBEq, Int.reduceToNat]; done) | (refine ⟨_, _, _, ?_, hh⟩; simp (config := { maxSteps := 2000000 }) only [go_sem, hG, hP, Nat.reduceEqDiff, ↓reduceIte, reduceCtorEq, Nat.reduceAdd, Nat.reduceSub, Nat.reduceMul, Nat.reduceLT, Nat.reduceLeDiff, Int.reduceAdd, Int.reduceSub, Int.reduceMul, Int.reduceLT, Int.reduceLE, Int.reduceEq, Int.reduceNeg, Int.reduceNe, Int.reduceGE, Int.reduceGT, Nat.reduceBEq, Int.reduceToNat]; simp; done) | skip
      all_goals
        exfalso
        have hd := tmod_ne (x := g - a5) (by assumption)
        have hne : ¬ ¬ (sumC a0 a1 a2 a3 a4 g a6 a7 a8 a9 a10 a11 a12 a13 a14 a15).tmod 251 = (sumC a0 a1 a2 a3 a4 a5 a6 a7 a8 a9 a10 a11 a12 a13 a14 a15).tmod 251 := by assumption
        have he := Decidable.not_not.1 hne
        rw [Int.tmod_eq_emod_of_nonneg (by unfold sumC; omega), Int.tmod_eq_emod_of_nonneg (by unfold sumC; omega)] at he
        unfold sumC at he
        omega
    · obtain ⟨g, hg⟩ : ∃ g, (a6 + (1 + y)).tmod 256 = g := ⟨_, rfl⟩
      have hgb : (0 ≤ g ∧ g ≤ 255) ∧ (g = a6 + 1 + y ∨ g = a6 + 1 + y - 256) := by
        rw [Int.tmod_eq_emod_of_nonneg (by omega)] at hg; omega
      have w1 : wr .i64 a6 = a6 := wrap_id (by omega) (by omega)
      have w2 : wr .i64 (a6 + (1 + y)) = a6 + (1 + y) := wrap_id (by omega) (by omega)
      have w3 : wr .u8 g = g := by rw [wr_eq, IntKind.wrap_u8]; omega
      have w4 : wr .i64 g = g := wrap_id (by omega) (by omega)
      have w5 : wr .i64 (g - a6) = g - a6 := wrap_id (by omega) (by omega)
      simp (config := { maxSteps := 2000000 }) only [go_sem, hG, hP, Nat.reduceEqDiff, ↓reduceIte, reduceCtorEq, Nat.reduceAdd, Nat.reduceSub, Nat.reduceMul, Nat.reduceLT, Nat.reduceLeDiff, Int.reduceAdd, Int.reduceSub, Int.reduceMul, Int.reduceLT, Int.reduceLE, Int.reduceEq, Int.reduceNeg, Int.reduceNe, Int.reduceGE, Int.reduceGT, Nat.reduceBEq, Int.reduceToNat,  spXor, spSum, hj, hy, hwy, w1, w2, hg, w3, w4, w5, hz2, xor_back (b := b0) hab.1.1, xor_back (b := b1) hab.1.2.1, xor_back (b := b2) hab.1.2.2.1, xor_back (b := b3) hab.1.2.2.2.1, xor_back (b := b4) hab.1.2.2.2.2.1, xor_back (b := b5) hab.1.2.2.2.2.2.1, xor_back (b := b6) hab.1.2.2.2.2.2.2.1, xor_back (b := b7) hab.1.2.2.2.2.2.2.2.1, xor_back (b := b8) hab.1.2.2.2.2.2.2.2.2.1, xor_back (b := b9) hab.1.2.2.2.2.2.2.2.2.2.1, xor_back (b := b10) hab.1.2.2.2.2.2.2.2.2.2.2.1, xor_back (b := b11) hab.1.2.2.2.2.2.2.2.2.2.2.2.1, xor_back (b := b12) hab.1.2.2.2.2.2.2.2.2.2.2.2.2.1, xor_back (b := b13) hab.1.2.2.2.2.2.2.2.2.2.2.2.2.2.1, xor_back (b := b14) hab.1.2.2.2.2.2.2.2.2.2.2.2.2.2.2.1, xor_back (b := b15) hab.1.2.2.2.2.2.2.2.2.2.2.2.2.2.2.2]
      repeat' (first | intro _ | refine And.intro ?_ ?_)
      all_goals first | omega | (refine ⟨_, _, _, ?_, hh⟩; simp (config := { maxSteps := 2000000 }) only [go_sem, hG, hP, Nat.reduceEqDiff, ↓reduceIte, reduceCtorEq, Nat.reduceAdd, Nat.reduceSub, Nat.reduceMul, Nat.reduceLT, Nat.reduceLeDiff, Int.reduceAdd, Int.reduceSub, Int.reduceMul, Int.reduceLT, Int.reduceLE, Int.reduceEq, Int.reduceNeg, Int.reduceNe, Int.reduceGE, Int.reduceGT, Nat.reduceBEq, Int.reduceToNat]; done) | (refine ⟨_, _, _, ?_, hh⟩; simp (config := { maxSteps := 2000000 }) only [go_sem, hG, hP, Nat.reduceEqDiff, ↓reduceIte, reduceCtorEq, Nat.reduceAdd, Nat.reduceSub, Nat.reduceMul, Nat.reduceLT, Nat.reduceLeDiff, Int.reduceAdd, Int.reduceSub, Int.reduceMul, Int.reduceLT, Int.reduceLE, Int.reduceEq, Int.reduceNeg, Int.reduceNe, Int.reduceGE, Int.reduceGT, Nat.reduceBEq, Int.reduceToNat]; simp; done) | skip
      all_goals
        exfalso
        have hd := tmod_ne (x := g - a6) (by assumption)
        have hne : ¬ ¬ (sumC a0 a1 a2 a3 a4 a5 g a7 a8 a9 a10 a11 a12 a13 a14 a15).tmod 251 = (sumC a0 a1 a2 a3 a4 a5 a6 a7 a8 a9 a10 a11 a12 a13 a14 a15).tmod 251 := by assumption
        have he := Decidable.not_not.1 hne
        rw [Int.tmod_eq_emod_of_nonneg (by unfold sumC; omega), Int.tmod_eq_emod_of_nonneg (by unfold sumC; omega)] at he
        unfold sumC at he
        omega
    · obtain ⟨g, hg⟩ : ∃ g, (a7 + (1 + y)).tmod 256 = g := ⟨_, rfl⟩
      have hgb : (0 ≤ g ∧ g ≤ 255) ∧ (g = a7 + 1 + y ∨ g = a7 + 1 + y - 256) := by
        rw [Int.tmod_eq_emod_of_nonneg (by omega)] at hg; omega
      have w1 : wr .i64 a7 = a7 := wrap_id (by omega) (by omega)
      have w2 : wr .i64 (a7 + (1 + y)) = a7 + (1 + y) := wrap_id (by omega) (by omega)
      have w3 : wr .u8 g = g := by rw [wr_eq, IntKind.wrap_u8]; omega
      have w4 : wr .i64 g = g := wrap_id (by omega) (by omega)
      have w5 : wr .i64 (g - a7) = g - a7 := wrap_id (by omega) (by omega)
      simp (config := { maxSteps := 2000000 }) only [go_sem, hG, hP, Nat.reduceEqDiff, ↓reduceIte, reduceCtorEq, Nat.reduceAdd, Nat.reduceSub, Nat.reduceMul, Nat.reduceLT, Nat.reduceLeDiff, Int.reduceAdd, Int.reduceSub, Int.reduceMul, Int.reduceLT, Int.reduceLE, Int.reduceEq, Int.reduceNeg, Int.reduceNe, Int.reduceGE, Int.reduceGT, Nat.reduceBEq, Int.reduceToNat,  spXor, spSum, hj, hy, hwy, w1, w2, hg, w3, w4, w5, hz2, xor_back (b := b0) hab.1.1, xor_back (b := b1) hab.1.2.1, xor_back (b := b2) hab.1.2.2.1, xor_back (b := b3) hab.1.2.2.2.1, xor_back (b := b4) hab.1.2.2.2.2.1, xor_back (b := b5) hab.1.2.2.2.2.2.1, xor_back (b := b6) hab.1.2.2.2.2.2.2.1, xor_back (b := b7) hab.1.2.2.2.2.2.2.2.1, xor_back (b := b8) hab.1.2.2.2.2.2.2.2.2.1, xor_back (b := b9) hab.1.2.2.2.2.2.2.2.2.2.1, xor_back (b := b10) hab.1.2.2.2.2.2.2.2.2.2.2.1, xor_back (b := b11) hab.1.2.2.2.2.2.2.2.2.2.2.2.1, xor_back (b := b12) hab.1.2.2.2.2.2.2.2.2.2.2.2.2.1, xor_back (b := b13) hab.1.2.2.2.2.2.2.2.2.2.2.2.2.2.1, xor_back (b := b14) hab.1.2.2.2.2.2.2.2.2.2.2.2.2.2.2.1, xor_back (b := b15) hab.1.2.2.2.2.2.2.2.2.2.2.2.2.2.2.2]
      repeat' (first | intro _ | refine And.intro ?_ ?_)
      all_goals first | omega | (refine ⟨_, _, _, ?_, hh⟩; simp (config := { maxSteps := 2000000 }) only [go_sem, hG, hP, Nat.reduceEqDiff, ↓reduceIte, reduceCtorEq, Nat.reduceAdd, Nat.reduceSub, Nat.reduceMul, Nat.reduceLT, Nat.reduceLeDiff, Int.reduceAdd, Int.reduceSub, Int.reduceMul, Int.reduceLT, Int.reduceLE, Int.reduceEq, Int.reduceNeg, Int.reduceNe, Int.reduceGE, Int.reduceGT, Nat.reduceBEq, Int.reduceToNat]; done) | (refine ⟨_, _, _, ?_, hh⟩; simp (config := { maxSteps := 2000000 }) only [go_sem, hG, hP, Nat.reduceEqDiff, ↓reduceIte, reduceCtorEq, Nat.reduceAdd, Nat.reduceSub, Nat.reduceMul, Nat.reduceLT, Nat.reduceLeDiff, Int.reduceAdd, Int.reduceSub, Int.reduceMul, Int.reduceLT, Int.reduceLE, Int.reduceEq, Int.reduceNeg, Int.reduceNe, Int.reduceGE, Int.reduceGT, Nat.reduceBEq, Int.reduceToNat]; simp; done) | skip
      all_goals
        exfalso
        have hd := tmod_ne (x := g - a7) (by assumption)
        have hne : ¬ ¬ (sumC a0 a1 a2 a3 a4 a5 a6 g a8 a9 a10 a11 a12 a13 a14 a15).tmod 251 = (sumC a0 a1 a2 a3 a4 a5 a6 a7 a8 a9 a10 a11 a12 a13 a14 a15).tmod 251 := by assumption
        have he := Decidable.not_not.1 hne
        rw [Int.tmod_eq_emod_of_nonneg (by unfold sumC; omega), Int.tmod_eq_emod_of_nonneg (by unfold sumC; omega)] at he
        unfold sumC at he
        omega
    · obtain ⟨g, hg⟩ : ∃ g, (a8 + (1 + y)).tmod 256 = g := ⟨_, rfl⟩
      have hgb : (0 ≤ g ∧ g ≤ 255) ∧ (g = a8 + 1 + y ∨ g = a8 + 1 + y - 256) := by
        rw [Int.tmod_eq_emod_of_nonneg (by omega)] at hg; omega
      have w1 : wr .i64 a8 = a8 := wrap_id (by omega) (by omega)
      have w2 : wr .i64 (a8 + (1 + y)) = a8 + (1 + y) := wrap_id (by omega) (by omega)
      have w3 : wr .u8 g = g := by rw [wr_eq, IntKind.wrap_u8]; omega
      have w4 : wr .i64 g = g := wrap_id (by omega) (by omega)
      have w5 : wr .i64 (g - a8) = g - a8 := wrap_id (by omega) (by omega)
      simp (config := { maxSteps := 2000000 }) only [go_sem, hG, hP, Nat.reduceEqDiff, ↓reduceIte, reduceCtorEq, Nat.reduceAdd, Nat.reduceSub, Nat.reduceMul, Nat.reduceLT, Nat.reduceLeDiff, Int.reduceAdd, Int.reduceSub, Int.reduceMul, Int.reduceLT, Int.reduceLE, Int.reduceEq, Int.reduceNeg, Int.reduceNe, Int.reduceGE, Int.reduceGT, Nat.reduceBEq, Int.reduceToNat,  spXor, spSum, hj, hy, hwy, w1, w2, hg, w3, w4, w5, hz2, xor_back (b := b0) hab.1.1, xor_back (b := b1) hab.1.2.1, xor_back (b := b2) hab.1.2.2.1, xor_back (b := b3) hab.1.2.2.2.1, xor_back (b := b4) hab.1.2.2.2.2.1, xor_back (b := b5) hab.1.2.2.2.2.2.1, xor_back (b := b6) hab.1.2.2.2.2.2.2.1, xor_back (b := b7) hab.1.2.2.2.2.2.2.2.1, xor_back (b := b8) hab.1.2.2.2.2.2.2.2.2.1, xor_back (b := b9) hab.1.2.2.2.2.2.2.2.2.2.1, xor_back (b := b10) hab.1.2.2.2.2.2.2.2.2.2.2.1, xor_back (b := b11) hab.1.2.2.2.2.2.2.2.2.2.2.2.1, xor_back (b := b12) hab.1.2.2.2.2.2.2.2.2.2.2.2.2.1, xor_back (b := b13) hab.1.2.2.2.2.2.2.2.2.2.2.2.2.2.1, xor_back (b := b14) hab.1.2.2.2.2.2.2.2.2.2.2.2.2.2.2.1, xor_back (b := b15) hab.1.2.2.2.2.2.2.2.2.2.2.2.2.2.2.2]
      repeat' (first | intro _ | refine And.intro ?_ ?_)
      all_goals first | omega | (refine ⟨_, _, _, ?_, hh⟩; simp (config := { maxSteps := 2000000 }) only [go_sem, hG, hP, Nat.reduceEqDiff, ↓reduceIte, reduceCtorEq, Nat.reduceAdd, Nat.reduceSub, Nat.reduceMul, Nat.reduceLT, Nat.reduceLeDiff, Int.reduceAdd, Int.reduceSub, Int.reduceMul, Int.reduceLT, Int.reduceLE, Int.reduceEq, Int.reduceNeg, Int.reduceNe, Int.reduceGE, Int.reduceGT, Nat.reduceBEq, Int.reduceToNat]; done) | (refine ⟨_, _, _, ?_, hh⟩; simp (config := { maxSteps := 2000000 }) only [go_sem, hG, hP, Nat.reduceEqDiff, ↓reduceIte, reduceCtorEq, Nat.reduceAdd, Nat.reduceSub, Nat.reduceMul, Nat.reduceLT, Nat.reduceLeDiff, Int.reduceAdd, Int.reduceSub, Int.reduceMul, Int.reduceLT, Int.reduceLE, Int.reduceEq, Int.reduceNeg, Int.reduceNe, Int.reduceGE, Int.reduceGT, Nat.reduceBEq, Int.reduceToNat]; simp; done) | skip
      all_goals
        exfalso
        have hd := tmod_ne (x := g - a8) (by assumption)
        have hne : ¬ ¬ (sumC a0 a1 a2 a3 a4 a5 a6 a7 g a9 a10 a11 a12 a13 a14 a15).tmod 251 = (sumC a0 a1 a2 a3 a4 a5 a6 a7 a8 a9 a10 a11 a12 a13 a14 a15).tmod 251 := by assumption
        have he := Decidable.not_not.1 hne
        rw [Int.tmod_eq_emod_of_nonneg (by unfold sumC; omega), Int.tmod_eq_emod_of_nonneg (by unfold sumC; omega)] at he
        unfold sumC at he
        omega
    · obtain ⟨g, hg⟩ : ∃ g, (a9 + (1 + y)).tmod 256 = g := ⟨_, rfl⟩
      have hgb : (0 ≤ g ∧ g ≤ 255) ∧ (g = a9 + 1 + y ∨ g = a9 + 1 + y - 256) := by
        rw [Int.tmod_eq_emod_of_nonneg (by omega)] at hg; omega
      have w1 : wr .i64 a9 = a9 := wrap_id (by omega) (by omega)
      have w2 : wr .i64 (a9 + (1 + y)) = a9 + (1 + y) := wrap_id (by omega) (by omega)
      have w3 : wr .u8 g = g := by rw [wr_eq, IntKind.wrap_u8]; omega
      have w4 : wr .i64 g = g := wrap_id (by omega) (by omega)
      have w5 : wr .i64 (g - a9) = g - a9 := wrap_id (by omega) (by omega)
      simp (config := { maxSteps := 2000000 }) only [go_sem, hG, hP, Nat.reduceEqDiff, ↓reduceIte, reduceCtorEq, Nat.reduceAdd, Nat.reduceSub, Nat.reduceMul, Nat.reduceLT, Nat.reduceLeDiff, Int.reduceAdd, Int.reduceSub, Int.reduceMul, Int.reduceLT, Int.reduceLE, Int.reduceEq, Int.reduceNeg, Int.reduceNe, Int.reduceGE, Int.reduceGT, Nat.reduceBEq, Int.reduceToNat,  spXor, spSum, hj, hy, hwy, w1, w2, hg, w3, w4, w5, hz2, xor_back (b := b0) hab.1.1, xor_back (b := b1) hab.1.2.1, xor_back (b := b2) hab.1.2.2.1, xor_back (b := b3) hab.1.2.2.2.1, xor_back (b := b4) hab.1.2.2.2.2.1, xor_back (b := b5) hab.1.2.2.2.2.2.1, xor_back (b := b6) hab.1.2.2.2.2.2.2.1, xor_back (b := b7) hab.1.2.2.2.2.2.2.2.1, xor_back (b := b8) hab.1.2.2.2.2.2.2.2.2.1, xor_back (b := b9) hab.1.2.2.2.2.2.2.2.2.2.1, xor_back (b := b10) hab.1.2.2.2.2.2.2.2.2.2.2.1, xor_back (b := b11) hab.1.2.2.2.2.2.2.2.2.2.2.2.1, xor_back (b := b12) hab.1.2.2.2.2.2.2.2.2.2.2.2.2.1, xor_back (b := b13) hab.1.2.2.2.2.2.2.2.2.2.2.2.2.2.1, xor_back (b := b14) hab.1.2.2.2.2.2.2.2.2.2.2.2.2.2.2.1, xor_back (b := b15) hab.1.2.2.2.2.2.2.2.2.2.2.2.2.2.2.2]
      repeat' (first | intro _ | refine And.intro ?_ ?_)
      all_goals first | omega | (refine ⟨_, _, _, ?_, hh⟩; simp (config := { maxSteps := 2000000 }) only [go_sem, hG, hP, Nat.reduceEqDiff, ↓reduceIte, reduceCtorEq, Nat.reduceAdd, Nat.reduceSub, Nat.reduceMul, Nat.reduceLT, Nat.reduceLeDiff, Int.reduceAdd, Int.reduceSub, Int.reduceMul, Int.reduceLT, Int.reduceLE, Int.reduceEq, Int.reduceNeg, Int.reduceNe, Int.reduceGE, Int.reduceGT, Nat.reduceBEq, Int.reduceToNat]; done) | (refine ⟨_, _, _, ?_, hh⟩; simp (config := { maxSteps := 2000000 }) only [go_sem, hG, hP, Nat.reduceEqDiff, ↓reduceIte, reduceCtorEq, Nat.reduceAdd, Nat.reduceSub, Nat.reduceMul, Nat.reduceLT, Nat.reduceLeDiff, Int.reduceAdd, Int.reduceSub, Int.reduceMul, Int.reduceLT, Int.reduceLE, Int.reduceEq, Int.reduceNeg, Int.reduceNe, Int.reduceGE, Int.reduceGT, Nat.reduceBEq, Int.reduceToNat]; simp; done) | skip
      all_goals
        exfalso
        have hd := tmod_ne (x := g - a9) (by assumption)
        have hne : ¬ ¬ (sumC a0 a1 a2 a3 a4 a5 a6 a7 a8 g a10 a11 a12 a13 a14 a15).tmod 251 = (sumC a0 a1 a2 a3 a4 a5 a6 a7 a8 a9 a10 a11 a12 a13 a14 a15).tmod 251 := by assumption
        have he := Decidable.not_not.1 hne
        rw [Int.tmod_eq_emod_of_nonneg (by unfold sumC; omega), Int.tmod_eq_emod_of_nonneg (by unfold sumC; omega)] at he
        unfold sumC at he
        omega
    · obtain ⟨g, hg⟩ : ∃ g, (a10 + (1 + y)).tmod 256 = g := ⟨_, rfl⟩
      have hgb : (0 ≤ g ∧ g ≤ 255) ∧ (g = a10 + 1 + y ∨ g = a10 + 1 + y - 256) := by
        rw [Int.tmod_eq_emod_of_nonneg (by omega)] at hg; omega
      have w1 : wr .i64 a10 = a10 := wrap_id (by omega) (by omega)
      have w2 : wr .i64 (a10 + (1 + y)) = a10 + (1 + y) := wrap_id (by omega) (by omega)
      have w3 : wr .u8 g = g := by rw [wr_eq, IntKind.wrap_u8]; omega
      have w4 : wr .i64 g = g := wrap_id (by omega) (by omega)
      have w5 : wr .i64 (g - a10) = g - a10 := wrap_id (by omega) (by omega)
      simp (config := { maxSteps := 2000000 }) only [go_sem, hG, hP, Nat.reduceEqDiff, ↓reduceIte, reduceCtorEq, Nat.reduceAdd, Nat.reduceSub, Nat.reduceMul, Nat.reduceLT, Nat.reduceLeDiff, Int.reduceAdd, Int.reduceSub, Int.reduceMul, Int.reduceLT, Int.reduceLE, Int.reduceEq, Int.reduceNeg, Int.reduceNe, Int.reduceGE, Int.reduceGT, Nat.reduceBEq, Int.reduceToNat,  spXor, spSum, hj, hy, hwy, w1, w2, hg, w3, w4, w5, hz2, xor_back (b := b0) hab.1.1, xor_back (b := b1) hab.1.2.1, xor_back (b := b2) hab.1.2.2.1, xor_back (b := b3) hab.1.2.2.2.1, xor_back (b := b4) hab.1.2.2.2.2.1, xor_back (b := b5) hab.1.2.2.2.2.2.1, xor_back (b := b6) hab.1.2.2.2.2.2.2.1, xor_back (b := b7) hab.1.2.2.2.2.2.2.2.1, xor_back (b := b8) hab.1.2.2.2.2.2.2.2.2.1, xor_back (b := b9) hab.1.2.2.2.2.2.2.2.2.2.1, xor_back (b := b10) hab.1.2.2.2.2.2.2.2.2.2.2.1, xor_back (b := b11) hab.1.2.2.2.2.2.2.2.2.2.2.2.1, xor_back (b := b12) hab.1.2.2.2.2.2.2.2.2.2.2.2.2.1, xor_back (b := b13) hab.1.2.2.2.2.2.2.2.2.2.2.2.2.2.1, xor_back (b := b14) hab.1.2.2.2.2.2.2.2.2.2.2.2.2.2.2.1, xor_back (b := b15) hab.1.2.2.2.2.2.2.2.2.2.2.2.2.2.2.2]
      repeat' (first | intro _ | refine And.intro ?_ ?_)
      all_goals first | omega | (refine ⟨_, _, _, ?_, hh⟩; simp (config := { maxSteps := 2000000 }) only [go_sem, hG, hP, Nat.reduceEqDiff, ↓reduceIte, reduceCtorEq, Nat.reduceAdd, Nat.reduceSub, Nat.reduceMul, Nat.reduceLT, Nat.reduceLeDiff, Int.reduceAdd, Int.reduceSub, Int.reduceMul, Int.reduceLT, Int.reduceLE, Int.reduceEq, Int.reduceNeg, Int.reduceNe, Int.reduceGE, Int.reduceGT, Nat.reduceBEq, Int.reduceToNat]; done) | (refine ⟨_, _, _, ?_, hh⟩; simp (config := { maxSteps := 2000000 }) only [go_sem, hG, hP, Nat.reduceEqDiff, ↓reduceIte, reduceCtorEq, Nat.reduceAdd, Nat.reduceSub, Nat.reduceMul, Nat.reduceLT, Nat.reduceLeDiff, Int.reduceAdd, Int.reduceSub, Int.reduceMul, Int.reduceLT, Int.reduceLE, Int.reduceEq, Int.reduceNeg, Int.reduceNe, Int.reduceGE, Int.reduceGT, Nat.reduceBEq, Int.reduceToNat]; simp; done) | skip
      all_goals
        exfalso
        have hd := tmod_ne (x := g - a10) (by assumption)
        have hne : ¬ ¬ (sumC a0 a1 a2 a3 a4 a5 a6 a7 a8 a9 g a11 a12 a13 a14 a15).tmod 251 = (sumC a0 a1 a2 a3 a4 a5 a6 a7 a8 a9 a10 a11 a12 a13 a14 a15).tmod 251 := by assumption
        have he := Decidable.not_not.1 hne
        rw [Int.tmod_eq_emod_of_nonneg (by unfold sumC; omega), Int.tmod_eq_emod_of_nonneg (by unfold sumC; omega)] at he
        unfold sumC at he
        omega
    · obtain ⟨g, hg⟩ : ∃ g, (a11 + (1 + y)).tmod 256 = g := ⟨_, rfl⟩
      have hgb : (0 ≤ g ∧ g ≤ 255) ∧ (g = a11 + 1 + y ∨ g = a11 + 1 + y - 256) := by
        rw [Int.tmod_eq_emod_of_nonneg (by omega)] at hg; omega
      have w1 : wr .i64 a11 = a11 := wrap_id (by omega) (by omega)
      have w2 : wr .i64 (a11 + (1 + y)) = a11 + (1 + y) := wrap_id (by omega) (by omega)
      have w3 : wr .u8 g = g := by rw [wr_eq, IntKind.wrap_u8]; omega
      have w4 : wr .i64 g = g := wrap_id (by omega) (by omega)
      have w5 : wr .i64 (g - a11) = g - a11 := wrap_id (by omega) (by omega)
      simp (config := { maxSteps := 2000000 }) only [go_sem, hG, hP, Nat.reduceEqDiff, ↓reduceIte, reduceCtorEq, Nat.reduceAdd, Nat.reduceSub, Nat.reduceMul, Nat.reduceLT, Nat.reduceLeDiff, Int.reduceAdd, Int.reduceSub, Int.reduceMul, Int.reduceLT, Int.reduceLE, Int.reduceEq, Int.reduceNeg, Int.reduceNe, Int.reduceGE, Int.reduceGT, Nat.reduceBEq, Int.reduceToNat,  spXor, spSum, hj, hy, hwy, w1, w2, hg, w3, w4, w5, hz2, xor_back (b := b0) hab.1.1, xor_back (b := b1) hab.1.2.1, xor_back (b := b2) hab.1.2.2.1, xor_back (b := b3) hab.1.2.2.2.1, xor_back (b := b4) hab.1.2.2.2.2.1, xor_back (b := b5) hab.1.2.2.2.2.2.1, xor_back (b := b6) hab.1.2.2.2.2.2.2.1, xor_back (b := b7) hab.1.2.2.2.2.2.2.2.1, xor_back (b := b8) hab.1.2.2.2.2.2.2.2.2.1, xor_back (b := b9) hab.1.2.2.2.2.2.2.2.2.2.1, xor_back (b := b10) hab.1.2.2.2.2.2.2.2.2.2.2.1, xor_back (b := b11) hab.1.2.2.2.2.2.2.2.2.2.2.2.1, xor_back (b := b12) hab.1.2.2.2.2.2.2.2.2.2.2.2.2.1, xor_back (b := b13) hab.1.2.2.2.2.2.2.2.2.2.2.2.2.2.1, xor_back (b := b14) hab.1.2.2.2.2.2.2.2.2.2.2.2.2.2.2.1, xor_back (b := b15) hab.1.2.2.2.2.2.2.2.2.2.2.2.2.2.2.2]
      repeat' (first | intro _ | refine And.intro ?_ ?_)
      all_goals first | omega | (refine ⟨_, _, _, ?_, hh⟩; simp (config := { maxSteps := 2000000 }) only [go_sem, hG, hP, Nat.reduceEqDiff, ↓reduceIte, reduceCtorEq, Nat.reduceAdd, Nat.reduceSub, Nat.reduceMul, Nat.reduceLT, Nat.reduceLeDiff, Int.reduceAdd, Int.reduceSub, Int.reduceMul, Int.reduceLT, Int.reduceLE, Int.reduceEq, Int.reduceNeg, Int.reduceNe, Int.reduceGE, Int.reduceGT, Nat.reduceBEq, Int.reduceToNat]; done) | (refine ⟨_, _, _, ?_, hh⟩; simp (config := { maxSteps := 2000000 }) only [go_sem, hG, hP, Nat.reduceEqDiff, ↓reduceIte, reduceCtorEq, Nat.reduceAdd, Nat.reduceSub, Nat.reduceMul, Nat.reduceLT, Nat.reduceLeDiff, Int.reduceAdd, Int.reduceSub, Int.reduceMul, Int.reduceLT, Int.reduceLE, Int.reduceEq, Int.reduceNeg, Int.reduceNe, Int.reduceGE, Int.reduceGT, Nat.reduceBEq, Int.reduceToNat]; simp; done) | skip
      all_goals
        exfalso
        have hd := tmod_ne (x := g - a11) (by assumption)
        have hne : ¬ ¬ (sumC a0 a1 a2 a3 a4 a5 a6 a7 a8 a9 a10 g a12 a13 a14 a15).tmod 251 = (sumC a0 a1 a2 a3 a4 a5 a6 a7 a8 a9 a10 a11 a12 a13 a14 a15).tmod 251 := by assumption
        have he := Decidable.not_not.1 hne
        rw [Int.tmod_eq_emod_of_nonneg (by unfold sumC; omega), Int.tmod_eq_emod_of_nonneg (by unfold sumC; omega)] at he
        unfold sumC at he
        omega
    · obtain ⟨g, hg⟩ : ∃ g, (a12 + (1 + y)).tmod 256 = g := ⟨_, rfl⟩
      have hgb : (0 ≤ g ∧ g ≤ 255) ∧ (g = a12 + 1 + y ∨ g = a12 + 1 + y - 256) := by
        rw [Int.tmod_eq_emod_of_nonneg (by omega)] at hg; omega
      have w1 : wr .i64 a12 = a12 := wrap_id (by omega) (by omega)
      have w2 : wr .i64 (a12 + (1 + y)) = a12 + (1 + y) := wrap_id (by omega) (by omega)
      have w3 : wr .u8 g = g := by rw [wr_eq, IntKind.wrap_u8]; omega
      have w4 : wr .i64 g = g := wrap_id (by omega) (by omega)
      have w5 : wr .i64 (g - a12) = g - a12 := wrap_id (by omega) (by omega)
      simp (config := { maxSteps := 2000000 }) only [go_sem, hG, hP, Nat.reduceEqDiff, ↓reduceIte, reduceCtorEq, Nat.reduceAdd, Nat.reduceSub, Nat.reduceMul, Nat.reduceLT, Nat.reduceLeDiff, Int.reduceAdd, Int.reduceSub, Int.reduceMul, Int.reduceLT, Int.reduceLE, Int.reduceEq, Int.reduceNeg, Int.reduceNe, Int.reduceGE, Int.reduceGT, Nat.reduceBEq, Int.reduceToNat,  spXor, spSum, hj, hy, hwy, w1, w2, hg, w3, w4, w5, hz2, xor_back (b := b0) hab.1.1, xor_back (b := b1) hab.1.2.1, xor_back (b := b2) hab.1.2.2.1, xor_back (b := b3) hab.1.2.2.2.1, xor_back (b := b4) hab.1.2.2.2.2.1, xor_back (b := b5) hab.1.2.2.2.2.2.1, xor_back (b := b6) hab.1.2.2.2.2.2.2.1, xor_back (b := b7) hab.1.2.2.2.2.2.2.2.1, xor_back (b := b8) hab.1.2.2.2.2.2.2.2.2.1, xor_back (b := b9) hab.1.2.2.2.2.2.2.2.2.2.1, xor_back (b := b10) hab.1.2.2.2.2.2.2.2.2.2.2.1, xor_back (b := b11) hab.1.2.2.2.2.2.2.2.2.2.2.2.1, xor_back (b := b12) hab.1.2.2.2.2.2.2.2.2.2.2.2.2.1, xor_back (b := b13) hab.1.2.2.2.2.2.2.2.2.2.2.2.2.2.1, xor_back (b := b14) hab.1.2.2.2.2.2.2.2.2.2.2.2.2.2.2.1, xor_back (b := b15) hab.1.2.2.2.2.2.2.2.2.2.2.2.2.2.2.2]
      repeat' (first | intro _ | refine And.intro ?_ ?_)
      all_goals first | omega | (refine ⟨_, _, _, ?_, hh⟩; simp (config := { maxSteps := 2000000 }) only [go_sem, hG, hP, Nat.reduceEqDiff, ↓reduceIte, reduceCtorEq, Nat.reduceAdd, Nat.reduceSub, Nat.reduceMul, Nat.reduceLT, Nat.reduceLeDiff, Int.reduceAdd, Int.reduceSub, Int.reduceMul, Int.reduceLT, Int.reduceLE, Int.reduceEq, Int.reduceNeg, Int.reduceNe, Int.reduceGE, Int.reduceGT, Nat.reduceBEq, Int.reduceToNat]; done) | (refine ⟨_, _, _, ?_, hh⟩; simp (config := { maxSteps := 2000000 }) only [go_sem, hG, hP, Nat.reduceEqDiff, ↓reduceIte, reduceCtorEq, Nat.reduceAdd, Nat.reduceSub, Nat.reduceMul, Nat.reduceLT, Nat.reduceLeDiff, Int.reduceAdd, Int.reduceSub, Int.reduceMul, Int.reduceLT, Int.reduceLE, Int.reduceEq, Int.reduceNeg, Int.reduceNe, Int.reduceGE, Int.reduceGT, Nat.reduceBEq, Int.reduceToNat]; simp; done) | skip
      all_goals
        exfalso
        have hd := tmod_ne (x := g - a12) (by assumption)
        have hne : ¬ ¬ (sumC a0 a1 a2 a3 a4 a5 a6 a7 a8 a9 a10 a11 g a13 a14 a15).tmod 251 = (sumC a0 a1 a2 a3 a4 a5 a6 a7 a8 a9 a10 a11 a12 a13 a14 a15).tmod 251 := by assumption
        have he := Decidable.not_not.1 hne
        rw [Int.tmod_eq_emod_of_nonneg (by unfold sumC; omega), Int.tmod_eq_emod_of_nonneg (by unfold sumC; omega)] at he
        unfold sumC at he
        omega
    · obtain ⟨g, hg⟩ : ∃ g, (a13 + (1 + y)).tmod 256 = g := ⟨_, rfl⟩
      have hgb : (0 ≤ g ∧ g ≤ 255) ∧ (g = a13 + 1 + y ∨ g = a13 + 1 + y - 256) := by
        rw [Int.tmod_eq_emod_of_nonneg (by omega)] at hg; omega
      have w1 : wr .i64 a13 = a13 := wrap_id (by omega) (by omega)
      have w2 : wr .i64 (a13 + (1 + y)) = a13 + (1 + y) := wrap_id (by omega) (by omega)
      have w3 : wr .u8 g = g := by rw [wr_eq, IntKind.wrap_u8]; omega
      have w4 : wr .i64 g = g := wrap_id (by omega) (by omega)
      have w5 : wr .i64 (g - a13) = g - a13 := wrap_id (by omega) (by omega)
      simp (config := { maxSteps := 2000000 }) only [go_sem, hG, hP, Nat.reduceEqDiff, ↓reduceIte, reduceCtorEq, Nat.reduceAdd, Nat.reduceSub, Nat.reduceMul, Nat.reduceLT, Nat.reduceLeDiff, Int.reduceAdd, Int.reduceSub, Int.reduceMul, Int.reduceLT, Int.reduceLE, Int.reduceEq, Int.reduceNeg, Int.reduceNe, Int.reduceGE, Int.reduceGT, Nat.reduceBEq, Int.reduceToNat,  spXor, spSum, hj, hy, hwy, w1, w2, hg, w3, w4, w5, hz2, xor_back (b := b0) hab.1.1, xor_back (b := b1) hab.1.2.1, xor_back (b := b2) hab.1.2.2.1, xor_back (b := b3) hab.1.2.2.2.1, xor_back (b := b4) hab.1.2.2.2.2.1, xor_back (b := b5) hab.1.2.2.2.2.2.1, xor_back (b := b6) hab.1.2.2.2.2.2.2.1, xor_back (b := b7) hab.1.2.2.2.2.2.2.2.1, xor_back (b := b8) hab.1.2.2.2.2.2.2.2.2.1, xor_back (b := b9) hab.1.2.2.2.2.2.2.2.2.2.1, xor_back (b := b10) hab.1.2.2.2.2.2.2.2.2.2.2.1, xor_back (b := b11) hab.1.2.2.2.2.2.2.2.2.2.2.2.1, xor_back (b := b12) hab.1.2.2.2.2.2.2.2.2.2.2.2.2.1, xor_back (b := b13) hab.1.2.2.2.2.2.2.2.2.2.2.2.2.2.1, xor_back (b := b14) hab.1.2.2.2.2.2.2.2.2.2.2.2.2.2.2.1, xor_back (b := b15) hab.1.2.2.2.2.2.2.2.2.2.2.2.2.2.2.2]
      repeat' (first | intro _ | refine And.intro ?_ ?_)
      all_goals first | omega | (refine ⟨_, _, _, ?_, hh⟩; simp (config := { maxSteps := 2000000 }) only [go_sem, hG, hP, Nat.reduceEqDiff, ↓reduceIte, reduceCtorEq, Nat.reduceAdd, Nat.reduceSub, Nat.reduceMul, Nat.reduceLT, Nat.reduceLeDiff, Int.reduceAdd, Int.reduceSub, Int.reduceMul, Int.reduceLT, Int.reduceLE, Int.reduceEq, Int.reduceNeg, Int.reduceNe, Int.reduceGE, Int.reduceGT, Nat.reduceBEq, Int.reduceToNat]; done) | (refine ⟨_, _, _, ?_, hh⟩; simp (config := { maxSteps := 2000000 }) only [go_sem, hG, hP, Nat.reduceEqDiff, ↓reduceIte, reduceCtorEq, Nat.reduceAdd, Nat.reduceSub, Nat.reduceMul, Nat.reduceLT, Nat.reduceLeDiff, Int.reduceAdd, Int.reduceSub, Int.reduceMul, Int.reduceLT, Int.reduceLE, Int.reduceEq, Int.reduceNeg, Int.reduceNe, Int.reduceGE, Int.reduceGT, Nat.reduceBEq, Int.reduceToNat]; simp; done) | skip
      all_goals
        exfalso
        have hd := tmod_ne (x := g - a13) (by assumption)
        have hne : ¬ ¬ (sumC a0 a1 a2 a3 a4 a5 a6 a7 a8 a9 a10 a11 a12 g a14 a15).tmod 251 = (sumC a0 a1 a2 a3 a4 a5 a6 a7 a8 a9 a10 a11 a12 a13 a14 a15).tmod 251 := by assumption
        have he := Decidable.not_not.1 hne
        rw [Int.tmod_eq_emod_of_nonneg (by unfold sumC; omega), Int.tmod_eq_emod_of_nonneg (by unfold sumC; omega)] at he
        unfold sumC at he
        omega
    · obtain ⟨g, hg⟩ : ∃ g, (a14 + (1 + y)).tmod 256 = g := ⟨_, rfl⟩
      have hgb : (0 ≤ g ∧ g ≤ 255) ∧ (g = a14 + 1 + y ∨ g = a14 + 1 + y - 256) := by
        rw [Int.tmod_eq_emod_of_nonneg (by omega)] at hg; omega
      have w1 : wr .i64 a14 = a14 := wrap_id (by omega) (by omega)
      have w2 : wr .i64 (a14 + (1 + y)) = a14 + (1 + y) := wrap_id (by omega) (by omega)
      have w3 : wr .u8 g = g := by rw [wr_eq, IntKind.wrap_u8]; omega
      have w4 : wr .i64 g = g := wrap_id (by omega) (by omega)
      have w5 : wr .i64 (g - a14) = g - a14 := wrap_id (by omega) (by omega)
      simp (config := { maxSteps := 2000000 }) only [go_sem, hG, hP, Nat.reduceEqDiff, ↓reduceIte, reduceCtorEq, Nat.reduceAdd, Nat.reduceSub, Nat.reduceMul, Nat.reduceLT, Nat.reduceLeDiff, Int.reduceAdd, Int.reduceSub, Int.reduceMul, Int.reduceLT, Int.reduceLE, Int.reduceEq, Int.reduceNeg, Int.reduceNe, Int.reduceGE, Int.reduceGT, Nat.reduceBEq, Int.reduceToNat,  spXor, spSum, hj, hy, hwy, w1, w2, hg, w3, w4, w5, hz2, xor_back (b := b0) hab.1.1, xor_back (b := b1) hab.1.2.1, xor_back (b := b2) hab.1.2.2.1, xor_back (b := b3) hab.1.2.2.2.1, xor_back (b := b4) hab.1.2.2.2.2.1, xor_back (b := b5) hab.1.2.2.2.2.2.1, xor_back (b := b6) hab.1.2.2.2.2.2.2.1, xor_back (b := b7) hab.1.2.2.2.2.2.2.2.1, xor_back (b := b8) hab.1.2.2.2.2.2.2.2.2.1, xor_back (b := b9) hab.1.2.2.2.2.2.2.2.2.2.1, xor_back (b := b10) hab.1.2.2.2.2.2.2.2.2.2.2.1, xor_back (b := b11) hab.1.2.2.2.2.2.2.2.2.2.2.2.1, xor_back (b := b12) hab.1.2.2.2.2.2.2.2.2.2.2.2.2.1, xor_back (b := b13) hab.1.2.2.2.2.2.2.2.2.2.2.2.2.2.1, xor_back (b := b14) hab.1.2.2.2.2.2.2.2.2.2.2.2.2.2.2.1, xor_back (b := b15) hab.1.2.2.2.2.2.2.2.2.2.2.2.2.2.2.2]
      repeat' (first | intro _ | refine And.intro ?_ ?_)
      all_goals first | omega | (refine ⟨_, _, _, ?_, hh⟩; simp (config := { maxSteps := 2000000 }) only [go_sem, hG, hP, Nat.reduceEqDiff, ↓reduceIte, reduceCtorEq, Nat.reduceAdd, Nat.reduceSub, Nat.reduceMul, Nat.reduceLT, Nat.reduceLeDiff, Int.reduceAdd, Int.reduceSub, Int.reduceMul, Int.reduceLT, Int.reduceLE, Int.reduceEq, Int.reduceNeg, Int.reduceNe, Int.reduceGE, Int.reduceGT, Nat.reduceBEq, Int.reduceToNat]; done) | (refine ⟨_, _, _, ?_, hh⟩; simp (config := { maxSteps := 2000000 }) only [go_sem, hG, hP, Nat.reduceEqDiff, ↓reduceIte, reduceCtorEq, Nat.reduceAdd, Nat.reduceSub, Nat.reduceMul, Nat.reduceLT, Nat.reduceLeDiff, Int.reduceAdd, Int.reduceSub, Int.reduceMul, Int.reduceLT, Int.reduceLE, Int.reduceEq, Int.reduceNeg, Int.reduceNe, Int.reduceGE, Int.reduceGT, Nat.reduceBEq, Int.reduceToNat]; simp; done) | skip
      all_goals
        exfalso
        have hd := tmod_ne (x := g - a14) (by assumption)
        have hne : ¬ ¬ (sumC a0 a1 a2 a3 a4 a5 a6 a7 a8 a9 a10 a11 a12 a13 g a15).tmod 251 = (sumC a0 a1 a2 a3 a4 a5 a6 a7 a8 a9 a10 a11 a12 a13 a14 a15).tmod 251 := by assumption
        have he := Decidable.not_not.1 hne
        rw [Int.tmod_eq_emod_of_nonneg (by unfold sumC; omega), Int.tmod_eq_emod_of_nonneg (by unfold sumC; omega)] at he
        unfold sumC at he
        omega
    · obtain ⟨g, hg⟩ : ∃ g, (a15 + (1 + y)).tmod 256 = g := ⟨_, rfl⟩
      have hgb : (0 ≤ g ∧ g ≤ 255) ∧ (g = a15 + 1 + y ∨ g = a15 + 1 + y - 256) := by
        rw [Int.tmod_eq_emod_of_nonneg (by omega)] at hg; omega
      have w1 : wr .i64 a15 = a15 := wrap_id (by omega) (by omega)
      have w2 : wr .i64 (a15 + (1 + y)) = a15 + (1 + y) := wrap_id (by omega) (by omega)
      have w3 : wr .u8 g = g := by rw [wr_eq, IntKind.wrap_u8]; omega
      have w4 : wr .i64 g = g := wrap_id (by omega) (by omega)
      have w5 : wr .i64 (g - a15) = g - a15 := wrap_id (by omega) (by omega)
      simp (config := { maxSteps := 2000000 }) only [go_sem, hG, hP, Nat.reduceEqDiff, ↓reduceIte, reduceCtorEq, Nat.reduceAdd, Nat.reduceSub, Nat.reduceMul, Nat.reduceLT, Nat.reduceLeDiff, Int.reduceAdd, Int.reduceSub, Int.reduceMul, Int.reduceLT, Int.reduceLE, Int.reduceEq, Int.reduceNeg, Int.reduceNe, Int.reduceGE, Int.reduceGT, Nat.reduceBEq, Int.reduceToNat,  spXor, spSum, hj, hy, hwy, w1, w2, hg, w3, w4, w5, hz2, xor_back (b := b0) hab.1.1, xor_back (b := b1) hab.1.2.1, xor_back (b := b2) hab.1.2.2.1, xor_back (b := b3) hab.1.2.2.2.1, xor_back (b := b4) hab.1.2.2.2.2.1, xor_back (b := b5) hab.1.2.2.2.2.2.1, xor_back (b := b6) hab.1.2.2.2.2.2.2.1, xor_back (b := b7) hab.1.2.2.2.2.2.2.2.1, xor_back (b := b8) hab.1.2.2.2.2.2.2.2.2.1, xor_back (b := b9) hab.1.2.2.2.2.2.2.2.2.2.1, xor_back (b := b10) hab.1.2.2.2.2.2.2.2.2.2.2.1, xor_back (b := b11) hab.1.2.2.2.2.2.2.2.2.2.2.2.1, xor_back (b := b12) hab.1.2.2.2.2.2.2.2.2.2.2.2.2.1, xor_back (b := b13) hab.1.2.2.2.2.2.2.2.2.2.2.2.2.2.1, xor_back (b := b14) hab.1.2.2.2.2.2.2.2.2.2.2.2.2.2.2.1, xor_back (b := b15) hab.1.2.2.2.2.2.2.2.2.2.2.2.2.2.2.2]
      repeat' (first | intro _ | refine And.intro ?_ ?_)
      all_goals first | omega | (refine ⟨_, _, _, ?_, hh⟩; simp (config := { maxSteps := 2000000 }) only [go_sem, hG, hP, Nat.reduceEqDiff, ↓reduceIte, reduceCtorEq, Nat.reduceAdd, Nat.reduceSub, Nat.reduceMul, Nat.reduceLT, Nat.reduceLeDiff, Int.reduceAdd, Int.reduceSub, Int.reduceMul, Int.reduceLT, Int.reduceLE, Int.reduceEq, Int.reduceNeg, Int.reduceNe, Int.reduceGE, Int.reduceGT, Nat.reduceBEq, Int.reduceToNat]; done) | (refine ⟨_, _, _, ?_, hh⟩; simp (config := { maxSteps := 2000000 }) only [go_sem, hG, hP, Nat.reduceEqDiff, ↓reduceIte, reduceCtorEq, Nat.reduceAdd, Nat.reduceSub, Nat.reduceMul, Nat.reduceLT, Nat.reduceLeDiff, Int.reduceAdd, Int.reduceSub, Int.reduceMul, Int.reduceLT, Int.reduceLE, Int.reduceEq, Int.reduceNeg, Int.reduceNe, Int.reduceGE, Int.reduceGT, Nat.reduceBEq, Int.reduceToNat]; simp; done) | skip
      all_goals
        exfalso
        have hd := tmod_ne (x := g - a15) (by assumption)
        have hne : ¬ ¬ (sumC a0 a1 a2 a3 a4 a5 a6 a7 a8 a9 a10 a11 a12 a13 a14 g).tmod 251 = (sumC a0 a1 a2 a3 a4 a5 a6 a7 a8 a9 a10 a11 a12 a13 a14 a15).tmod 251 := by assumption
        have he := Decidable.not_not.1 hne
        rw [Int.tmod_eq_emod_of_nonneg (by unfold sumC; omega), Int.tmod_eq_emod_of_nonneg (by unfold sumC; omega)] at he
        unfold sumC at he
        omega
  · exact hh.elim
end Go.Proofs.YtfjfaajdbomhbaaE

/-! What an argument of a law reads as, in the engine's words; and what a proved function gives a law. -/
namespace Go.Proofs.YtfjfaajdbomhbaaE
open Go Go.RowKit Go.ChangeShapes Go.WideShapes
set_option linter.unusedSimpArgs false
set_option linter.unusedVariables false

def nm0 : Nm := fun _ => none
def noC : CR := ⟨fun _ => False, fun _ => False, fun _ h => h⟩
/-- What type t's data read as, by d; ok: what is known of it. -/
def Tells (P : Program) (t : TypeId) {α : Type} (n : Nat) (d : α → List AVal) (ok : α → Prop) : Prop :=
  ∀ (H : Type) (enc : TypeId × Value → H) (W : World) (base : Nat) (spare : Nat → Bool) (held : Bool) (fuel : Nat) (cs : List Value) (x : DataW H × List MemPlace),
    DataW.trod enc P W base spare held fuel t cs = some x → (∀ b ∈ x.1.weights P t, b ≤ reachBytes) → ∃ y : α, (DenL W noC nm0 (d y) cs ∧ cs.length = n) ∧ ok y
def TellsF (P : Program) (fs : List Field) (off : Nat) {α : Type} (n : Nat) (d : α → List AVal) (ok : α → Prop) : Prop :=
  ∀ (H : Type) (enc : TypeId × Value → H) (W : World) (base : Nat) (spare : Nat → Bool) (held : Bool) (fuel : Nat) (cs : List Value) (xs : List (DataW H × List MemPlace)),
    (∀ (i : Nat) (f : Field), fs[i]? = some f → DataW.trod enc P W base spare held fuel f.type ((cs.drop f.offset).take (P.cellsOf f.type)) = xs[i]?) → xs.length = fs.length → cs.length = off + n →
    (∀ (i : Nat) (f : Field) x, fs[i]? = some f → xs[i]? = some x → ∀ b ∈ x.1.weights P f.type, b ≤ reachBytes) → ∃ y : α, (DenL W noC nm0 (d y) (cs.drop off)) ∧ ok y

theorem den1 {W : World} (v : Value) : DenL W noC nm0 [.v v] [v] := DenL.cons (.v v) .nil
theorem Tells.int {P : Program} {t : TypeId} {k : IntKind} (ht : P.underlying t = some (.int k)) : Tells P t 1 (fun n : Int => [.v (.int k n)]) (fun n => (Lit.int k n).wf = true) := by
  intro H enc W base spare held fuel cs x h _
  cases fuel with
  | zero => simp [DataW.trod] at h
  | succ m =>
    unfold DataW.trod at h
    rw [ht] at h
    split at h <;> simp_all
    obtain ⟨⟨_, h1⟩, _⟩ := h
    exact ⟨_, den1 _, h1⟩
theorem Tells.bool {P : Program} {t : TypeId} (ht : P.underlying t = some .bool) : Tells P t 1 (fun b : Bool => [.v (.bool b)]) (fun _ => True) := by
  intro H enc W base spare held fuel cs x h _
  cases fuel with
  | zero => simp [DataW.trod] at h
  | succ m =>
    unfold DataW.trod at h
    rw [ht] at h
    split at h <;> simp_all
    rename_i b
    cases b
    · exact .inl (den1 _)
    · exact .inr (den1 _)
theorem Tells.string {P : Program} {t : TypeId} (ht : P.underlying t = some .string) : Tells P t 1 (fun s : ByteArray => [.v (.string s)]) (fun s => s.size ≤ 140737488351232) := by
  intro H enc W base spare held fuel cs x h hw
  cases fuel with
  | zero => simp [DataW.trod] at h
  | succ m =>
    unfold DataW.trod at h
    rw [ht] at h
    split at h <;> simp_all
    obtain ⟨_, h2⟩ := h
    subst h2
    refine ⟨_, den1 _, ?_⟩
    have := hw _ (by simp only [DataW.weights]; exact List.mem_singleton.2 rfl)
    rw [Array.length_toList] at this
    exact this
theorem weights_all {H : Type} {P : Program} {e : TypeId} {ds : List (DataW H)} {d : DataW H} (hd : d ∈ ds) {b : Nat} (hb : b ∈ d.weights P e) : b ∈ DataW.weightsAll P e ds := by
  induction ds with
  | nil => cases hd
  | cons a r ih =>
    simp only [DataW.weightsAll, List.mem_append]
    rcases List.mem_cons.1 hd with rfl | hd
    · exact .inl hb
    · exact .inr (ih hd)
theorem Tells.slice {P : Program} {t e : TypeId} (ht : P.underlying t = some (.slice e)) {τ : Ty} {ok : τ.D → Prop} (he : Tells P e (sz τ) (enc τ) ok) (hs : P.cellsOf e = sz τ) {B : Nat} (hB : P.bytesOf e = B) :
    Tells P t 1 (fun xs : List τ.D => [.rs τ xs]) (fun xs => xs.length * B ≤ 140737488351232 ∧ xs.length ≤ maxLen ∧ ∀ x ∈ xs, ok x) := by
  intro H enc' W base spare held fuel cs x h hw
  rcases Go.Deep.open_slice ht h with ⟨rfl, rfl⟩ | ⟨a, len, cap, m, n, D, Pl, rfl, hb, hl, hm, hmm, rfl, hx⟩
  · exact ⟨[], ⟨DenL.cons (Den.rs (t := τ) (xs := []) (A := none) (c := 0) (fun _ => undef) (.inl (by simp)) (Nat.le_refl _) (fun i f x av hx => by simp at hx)) .nil, rfl⟩, by simp [maxLen]⟩
  · have hlm : len ≤ m := by rw [hmm]; split <;> omega
    have hel : ∀ i, i < len → ∃ y : τ.D, (∃ c, W.cells? base (a.add (i * P.cellsOf e)) (P.cellsOf e) = some c ∧ (DenL W noC nm0 (enc τ y) c ∧ c.length = sz τ)) ∧ ok y := by
      intro i hi
      obtain ⟨c, hc, hd⟩ := hx i (by omega)
      obtain ⟨y, hy, hok⟩ := he H enc' W base spare held n c _ hd (fun b hb => hw b (by
        simp only [DataW.weights, ht, List.mem_cons, List.mem_append]
        exact .inr (.inl (weights_all (List.mem_map.2 ⟨i, List.mem_range.2 hi, rfl⟩) hb))))
      exact ⟨y, ⟨c, hc, hy⟩, hok⟩
    have : Inhabited τ.D := ⟨dflt τ⟩
    obtain ⟨f, hf⟩ := Go.Deep.choose_lt hel
    have hlen : ((List.range len).map f).length = len := by simp
    have hcell : ∀ i, i < len → ∃ c, DenL W noC nm0 (enc τ (f i)) c ∧ c.length = sz τ ∧ ∀ j, j < sz τ → W.cell? (a.add (i * sz τ + j)) = c[j]? := by
      intro i hi
      obtain ⟨⟨c, hc, hd, hcl⟩, _⟩ := hf i hi
      refine ⟨c, hd, hcl, fun j hj => ?_⟩
      have hc' := World.cells?_some hc
      rw [hs] at hc'
      have := hc'.2.2 j hj
      rw [← this, Go.Deep.add_add]
    have hall : ∀ k, k < len * sz τ → ∃ u, W.cell? (a.add k) = some u := by
      intro k hk
      have hz := sz_pos τ
      have hi : k / sz τ < len := Nat.div_lt_of_lt_mul (by rw [Nat.mul_comm]; exact hk)
      have hj : k % sz τ < sz τ := Nat.mod_lt _ hz
      obtain ⟨c, _, hcl, hc⟩ := hcell _ hi
      refine ⟨c[k % sz τ]'(by omega), ?_⟩
      have := hc _ hj
      rw [show k / sz τ * sz τ + k % sz τ = k by rw [Nat.mul_comm]; exact Nat.div_add_mod k (sz τ)] at this
      rw [this, List.getElem?_eq_getElem]
    refine ⟨(List.range len).map f, ⟨DenL.cons ?_ .nil, rfl⟩, ?_, by rw [hlen]; exact Nat.le_trans hl hm, ?_⟩
    · have key : Den W noC nm0 (.rs τ ((List.range len).map f)) (.slice (some a) ((List.range len).map f).length cap) := by
        refine .rs (fun k => (W.cell? (a.add k)).getD undef) ?_ (by rw [hlen]; exact hl) ?_
        · rw [hlen]
          rcases Nat.eq_zero_or_pos (len * sz τ) with h0 | hp
          · exact .inl h0
          · obtain ⟨u, hu⟩ := hall 0 hp
            refine .inr ⟨a, rfl, ?_, fun h => h, fun k hk => ?_⟩
            · have := World.block_lt_of_cell? _ _ hu
              simpa [Addr.add] using this
            · obtain ⟨u, hu⟩ := hall k hk
              simp [hu]
        · intro i j x av hx hav
          have hi : i < len := by
            have := (List.getElem?_eq_some_iff.1 hx).1
            rwa [hlen] at this
          have hx' : f i = x := by simpa [hi] using hx
          subst hx'
          obtain ⟨c, hd, hcl, hc⟩ := hcell i hi
          have hj : j < sz τ := by
            have := (List.getElem?_eq_some_iff.1 hav).1
            rwa [enc_length] at this
          have := hc j hj
          rw [this, List.getElem?_eq_getElem (by omega)]
          exact hd.2 j av _ hav (List.getElem?_eq_getElem (by omega))
      rw [hlen] at key
      exact key
    · rw [hlen]
      have := hw ((((List.range len).map D).length + ((List.range (m - len)).map fun j => D (len + j)).length) * P.bytesOf e) (by simp only [DataW.weights, ht]; exact List.mem_cons_self)
      rw [hB] at this
      simp only [List.length_map, List.length_range] at this
      have h2 : len * B ≤ (len + (m - len)) * B := Nat.mul_le_mul_right _ (by omega)
      unfold reachBytes at this
      omega
    · intro y hy
      obtain ⟨i, hi, rfl⟩ := List.mem_map.1 hy
      exact (hf i (List.mem_range.1 hi)).2
theorem TellsF.one {P : Program} {f : Field} {off n : Nat} {α : Type} {d : α → List AVal} {ok : α → Prop} (h : Tells P f.type n d ok) (ho : f.offset = off) (hc : P.cellsOf f.type = n) : TellsF P [f] off n d ok := by
  intro H enc W base spare held fuel cs xs hx hl hcs hw
  match xs, hl with
  | [x], _ =>
    have h0 := hx 0 f rfl
    rw [ho, hc, List.take_of_length_le (by rw [List.length_drop]; omega)] at h0
    obtain ⟨y, hy, hok⟩ := h H enc W base spare held fuel _ x h0 (hw 0 f x rfl rfl)
    exact ⟨y, hy.1, hok⟩
theorem TellsF.cons {P : Program} {f : Field} {fs : List Field} {off n n' : Nat} {α β : Type} {d : α → List AVal} {d' : β → List AVal} {ok : α → Prop} {ok' : β → Prop} (h : Tells P f.type n d ok) (ho : f.offset = off) (hc : P.cellsOf f.type = n)
    (r : TellsF P fs (off + n) n' d' ok') : TellsF P (f :: fs) off (n + n') (fun x : α × β => d x.1 ++ d' x.2) (fun x => ok x.1 ∧ ok' x.2) := by
  intro H enc W base spare held fuel cs xs hx hl hcs hw
  match xs, hl with
  | x :: xs, hl =>
    have h0 := hx 0 f rfl
    rw [ho, hc] at h0
    obtain ⟨y, hy, hok⟩ := h H enc W base spare held fuel _ x h0 (hw 0 f x rfl rfl)
    obtain ⟨y', hy', hok'⟩ := r H enc W base spare held fuel cs xs (fun i g hg => hx (i + 1) g hg) (by simpa using hl) (by omega) (fun i g z hg hz => hw (i + 1) g z hg hz)
    refine ⟨(y, y'), ?_, hok, hok'⟩
    have := hy.1.append hy'
    rw [← List.drop_drop, List.take_append_drop] at this
    exact this
theorem weights_each {H : Type} {P : Program} {fs : List Field} : ∀ {xs : List (DataW H × List MemPlace)} {i : Nat} {f : Field} {x : DataW H × List MemPlace}, fs[i]? = some f → xs[i]? = some x → ∀ b ∈ x.1.weights P f.type, b ∈ DataW.weightsEach P (fs.map (·.type)) (xs.map (·.1)) := by
  intro xs i f x hf hx b hb
  exact DataW.weights_mem_each (j := i) (t := f.type) (d := x.1) (by simp [hf]) (by simp [hx]) b hb
theorem Tells.struct {P : Program} {t : TypeId} {fs : Array Field} (ht : P.underlying t = some (.struct fs)) {α : Type} {n : Nat} {d : α → List AVal} {ok : α → Prop} (h : TellsF P fs.toList 0 n d ok) (hc : P.cellsOf t = n) : Tells P t n d ok := by
  intro H enc W base spare held fuel cs x hx hw
  obtain ⟨xs, m, _, rfl, hl, hlen, hf⟩ := DataW.trod_struct ht hx
  obtain ⟨y, hy, hok⟩ := h H enc W base spare held m cs xs (fun i f hi => hf i f (by rw [← Array.getElem?_toList]; exact hi)) (by simpa using hlen) (by omega) (fun i f x hi hx b hb => hw b (by
    simp only [DataW.weights, ht]
    exact weights_each hi hx b hb))
  exact ⟨y, ⟨by simpa using hy, by omega⟩, hok⟩
/-- An array's elements in line, as fields. -/
theorem Tells.array {P : Program} {t e : TypeId} {k : Nat} (ht : P.underlying t = some (.array k e)) {α : Type} {n : Nat} {d : α → List AVal} {ok : α → Prop} (h : TellsF P ((List.range k).map fun i => { name := "", type := e, offset := i * P.cellsOf e, embedded := false, tag := "", pkgPath := "", byteOffset := 0 }) 0 n d ok)
    (hc : P.cellsOf t = n) : Tells P t n d ok := by
  intro H enc W base spare held fuel cs x hx hw
  obtain ⟨xs, m, _, rfl, hl, hlen, hf⟩ := DataW.trod_array ht hx
  obtain ⟨y, hy, hok⟩ := h H enc W base spare held m cs xs (fun i f hi => by
      have hin : i < k := by
        rcases Nat.lt_or_ge i k with h | h
        · exact h
        · simp [h] at hi
      simp [hin] at hi
      subst hi
      exact hf i hin) (by simpa using hlen) (by omega) (fun i f x hi hx b hb => hw b (by
    have hin : i < k := by
      rcases Nat.lt_or_ge i k with h | h
      · exact h
      · simp [h] at hi
    simp [hin] at hi
    subst hi
    simp only [DataW.weights, ht]
    exact weights_all (List.mem_map.2 ⟨x, List.mem_iff_getElem?.2 ⟨i, hx⟩, rfl⟩) hb))
  exact ⟨y, ⟨by simpa using hy, by omega⟩, hok⟩
/-- The same data, told by another name. -/
theorem Tells.as {P : Program} {t : TypeId} {α β : Type} {n : Nat} {d : α → List AVal} {ok : α → Prop} (h : Tells P t n d ok) (g : α → β) (d' : β → List AVal) (hd : ∀ a, d' (g a) = d a) (ok' : β → Prop) (hok : ∀ a, ok a → ok' (g a)) : Tells P t n d' ok' := by
  intro H enc W base spare held fuel cs x hx hw
  obtain ⟨y, hy, hk⟩ := h H enc W base spare held fuel cs x hx hw
  exact ⟨g y, by rw [hd]; exact hy, hok y hk⟩
theorem okWide_agg {P : Program} {w : World} {r : Reach} {base : Nat} {t : TypeId} {v : Value} (ht : (∃ fs, P.underlying t = some (.struct fs)) ∨ ∃ n e, P.underlying t = some (.array n e)) (h : Value.okWide P w r base t v) : ∃ cs, v = .agg cs ∧ cs.size = P.cellsOf t := by
  rcases ht with ⟨fs, ht⟩ | ⟨n, e, ht⟩
  all_goals
    simp only [Value.okWide, ht] at h
    obtain ⟨cs, h1, h2, _⟩ := h
    exact ⟨cs, h1, h2⟩
section
variable {P : Program} {t : TypeId} {α : Type} {n : Nat} {d : α → List AVal} {ok : α → Prop} {H : Type} {enc : TypeId × Value → H} {W : World} {base : Nat} {spare : Nat → Bool} {held : Bool} {x : DataW H} {ps : List MemPlace} {ts : List TypeId} {ds : List (DataW H)}
/-- A struct (an array) that came in by value. -/
theorem Tells.agg (h : Tells P t n d ok) {cs : Array Value} (hsz : (DataW.weightsEach P ts ds).all (· ≤ reachBytes) = true) (j : Nat) (ht : ts[j]? = some t) (hd : ds[j]? = some x)
    (hx : DataW.Trod enc P W base spare held t (.agg cs) x ps) : ∃ y : α, Den W noC nm0 (.agg (d y)) (.agg cs) ∧ ok y := by
  obtain ⟨fuel, hf⟩ := hx
  have hf' : DataW.trod enc P W base spare held fuel t cs.toList = some (x, ps) := by simpa [Value.cells] using hf
  obtain ⟨y, ⟨hy, _⟩, hok⟩ := h H enc W base spare held fuel cs.toList (x, ps) hf' (fun b hb => by simpa using List.all_eq_true.1 hsz b (DataW.weights_mem_each ht hd b hb))
  exact ⟨y, .agg cs.toList hy.1 hy.2, hok⟩
/-- A value of one cell that came in. -/
theorem Tells.cell {f : α → AVal} (h : Tells P t 1 (fun y => [f y]) ok) {v : Value} (hv : v.cells = #[v]) (hsz : (DataW.weightsEach P ts ds).all (· ≤ reachBytes) = true) (j : Nat) (ht : ts[j]? = some t) (hd : ds[j]? = some x)
    (hx : DataW.Trod enc P W base spare held t v x ps) : ∃ y : α, Den W noC nm0 (f y) v ∧ ok y := by
  obtain ⟨fuel, hf⟩ := hx
  have hf' : DataW.trod enc P W base spare held fuel t [v] = some (x, ps) := by simpa [hv] using hf
  obtain ⟨y, ⟨hy, _⟩, hok⟩ := h H enc W base spare held fuel [v] (x, ps) hf' (fun b hb => by simpa using List.all_eq_true.1 hsz b (DataW.weights_mem_each ht hd b hb))
  exact ⟨y, hy.2 0 _ v rfl rfl, hok⟩
end
/-- A proved law at arguments that can only be read. -/
theorem law_ok {P : Program} {f : Nat} {sp : Spec} (hv : Valid P f sp) {W : World} {args : List AVal} {vals : List Value} (hd : DenL W noC nm0 args vals) (h : ∀ K : AVal → Hp → Nat → Prop, K (.v (.bool true)) [] 0 → sp.f args [] K) :
    Calls P f ⟨vals⟩ W fun e w' => e = .returned (.bool true) ∧ Below W.heap.size W w' := by
  refine Calls.mono (hv W noC nm0 args vals [] (fun r _ _ => r = .v (.bool true)) hd ?_ (h _ rfl)) ?_
  · exact ⟨fun m o h => (by cases h), fun m o m' o' b x b' x' h => (by cases h), fun m o b x h => (by cases h), fun m _ => rfl, rfl, rfl, rfl, Nat.le_refl _, fun b _ _ => rfl⟩
  · rintro e w' ⟨r, v, L', nx', ρ', rfl, hden, hp, _, hr⟩
    subst hr
    rw [den_v hden]
    exact ⟨rfl, hp.os, hp.tape, hp.output, hp.size, fun k hk => hp.old k hk (fun h => h)⟩
end Go.Proofs.YtfjfaajdbomhbaaE

/-! The law FnCellHurt, as its row states it: whatever the input the law returns true; no condition. -/
namespace Go.Proofs.Ytfjfaajdbomhbaa.fnCellHurt
open Go.ChangeShapes Go.WideShapes Go.ChangeAt Go.RowKit Go.Proofs.YtfjfaajdbomhbaaE
set_option linter.unusedVariables false
theorem own : ownKnob Try.prog.godebug = none := by kernel_rfl
theorem laidOut : laidOutB Try.prog = true := by kernel_rfl
theorem T5 : Tells Try.prog 5 (sz .byte) (enc .byte) (fun x : Int => 0 ≤ x ∧ x ≤ 255) := (Tells.int Try.underlying5).as (fun n : Int => n) (enc .byte) (fun _ => rfl) _ (fun n h => by
  simp [Lit.wf, IntKind.min, IntKind.max, IntKind.bits, IntKind.signed] at h
  omega)
theorem T26 : Tells Try.prog 26 1 (fun xs : List Int => [.rs .byte xs]) (fun xs => ∀ x ∈ xs, 0 ≤ x ∧ x ≤ 255) := (Tells.slice (τ := .byte) Try.underlying26 T5 (by kernel_rfl) (B := 1) (by kernel_rfl)).as id _ (fun _ => rfl) _ (fun xs h => h.2.2)
set_option maxRecDepth 100000 in
set_option maxHeartbeats 1000000 in
theorem lifted (os : Os) (started : os.Started) (H : Type) (enc : TypeId × Value → H) :
    ReturnsInHanded {} Try.checked os 5 .any (Rows.fnCellHurtSpec.pre6 enc Try.prog Try.f5 Rows.fnCellHurtRow.domain false) (Rows.fnCellHurtSpec.post enc Try.prog Try.f5 false true false false) := by
  refine returnsInHanded_of_change_sized (C := Try.checked) own started (by kernel_rfl) Try.func5
    (ChangeSpec.witness6 (enc := enc) (C := Try.checked) false ⟨#[], #[.slice none 0 0], []⟩ 8 (by kernel_rfl) (by kernel_rfl) (by kernel_rfl) (by kernel_rfl)) ?_
  intro W base args ds gs before hval0 hW hcnd hsz0 _
  have hsz : (DataW.weightsEach Try.prog (Try.f5.params.toList ++ Rows.fnCellHurtSpec.plain.varTypes Try.prog) (ds ++ gs)).all (· ≤ reachBytes) = true := hsz0
  have hval : ∀ (j : Nat) t v, Try.f5.params[j]? = some t → args[j]? = some v → Value.okWide Try.prog W .any base t v := hval0
  have hW' := hW
  obtain ⟨p, q, hA0, hV, rfl, hfz, hnd⟩ := hW
  have hA : DataW.TrodAll enc Try.prog W 0 (fun _ => true) true Try.f5.params.toList args.toList ds p := hA0
  rw [Try.params5] at hA hval hsz
  obtain ⟨v0, vs0, d0, ds0, p0, q0, hargs, rfl, rfl, h0, r0⟩ := trodAll_cons hA
  obtain ⟨rfl, rfl, rfl⟩ := trodAll_nil r0
  obtain rfl : args = #[v0] := by cases args; simp_all
  obtain ⟨rfl, rfl⟩ := trodVars_none hV
  obtain ⟨ax0, len0, cap0, rfl⟩ := okWide_slice Try.underlying26 (hval 0 26 v0 rfl rfl)
  have k0 := h0
  have lt0 : ∀ x ∈ p0, x.block < W.heap.size := by obtain ⟨m, hm⟩ := k0; exact DataW.trod_lt m _ _ _ hm
  obtain ⟨y0, hK0, o0⟩ := Tells.cell T26 rfl hsz 0 rfl rfl h0
  clear hA0 hval0 hsz0 hsz
  refine (law_ok valid5 (DenL.cons hK0 .nil) (fun K hk => ⟨o0, hk⟩)).mono fun e W' ⟨he, bel⟩ => ?_
  subst he
  exact ⟨_, rfl, _, _, _, [], _, [], hW', trodAll_mk1 (shut_bool Try.underlying4 _), (trodAll_cons_mk (Below.trod laidOut (by kernel_rfl) (of_decide_eq_true (by kernel_rfl)) k0 bel lt0) trodAll_mk0), rfl, bel.frame _, fun h => by cases h⟩
theorem over : Rows.fnCellHurtRow.holds Try.pinned (OpenSpec.ofChange Rows.fnCellHurtSpec) :=
  OpenClaim.holds_of_wide 5 Try.f5 rfl rfl rfl rfl rfl rfl rfl ⟨rfl, rfl, rfl, rfl, rfl⟩ rfl rfl rfl rfl rfl (by kernel_rfl) Try.func5 (by kernel_rfl)
    (of_decide_eq_true (by kernel_rfl)) (by unfold Func.isWrapper; first | (rw [if_pos (by decide +kernel)]; kernel_rfl) | (rw [if_neg (by decide +kernel)]; exact ⟨rfl, rfl⟩))
    (fun os started H enc _ => lifted os started H enc)
theorem proved : Rows.FnCellHurtSaid := over
#print axioms proved
end Go.Proofs.Ytfjfaajdbomhbaa.fnCellHurt
namespace Go.Proofs.Ytfjfaajdbomhbaa
/-- The row, under a short name, for the claim. -/
theorem fnCellHurt_holds : Rows.FnCellHurtSaid := fnCellHurt.proved
end Go.Proofs.Ytfjfaajdbomhbaa
