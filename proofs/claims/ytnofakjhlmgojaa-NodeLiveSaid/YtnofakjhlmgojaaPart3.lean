/- Part 3: contracts of the functions that the law reaches: each answers as its model does. No condition beyond those that each theorem states. -/
import Derived.Test.YtnofakjhlmgojaaPart2
import Derived.RangeFuncIn
import Derived.RangeFuncRecord
import Derived.RangeFuncLeaves
import Derived.LoopNIn
/-
 Ranges over functions: the same judgement over the fenced walk, within a round or not, with deferred calls or none.
-/
set_option linter.unusedVariables false
set_option linter.unusedSimpArgs false
namespace Go.GL
/-- The fence that bars nothing; r: the loop whose round it is. -/
def RF (r : Option Nat) : Fence := { Fence.wide with round := r }
/-- Read at an activation that has these deferred calls. -/
def XN (ds : List Deferred) (K : Act → World → Prop) : Act → World → Prop := fun a w => K ⟨a.tmps, ds⟩ w
theorem rf_depth {r : Option Nat} : ¬ ((RF r).depth.isSome = true) := by
 intro h
 cases h
theorem callsIn_rf {r : Option Nat} {n : Nat} {P : Program} {f : FuncId} {args : Array Value} {w : World} {R : Ending → World → Prop} : CallsIn (RF r) n P f args w R ↔ Calls P f args w R :=
 ⟨fun h => callsIn_wide.1 (show CallsIn Fence.wide n P f args w R from h), fun h => show CallsIn Fence.wide n P f args w R from callsIn_wide.2 h⟩
theorem rowsIn_rf {r : Option Nat} {n : Nat} {P : Program} {row : String} {args : Array Value} {w : World} {R : Value → World → Prop} (h : Rows P row args w R) : RowsIn (RF r) n P row args w R :=
 fun c cs _ => let ⟨v, w', hr, s⟩ := h c cs; ⟨v, w', hr, show StepsIn (Machine.fenced P Fence.wide) P _ _ from stepsIn_wide.2 s⟩
theorem no_defer_of_value {P : Program} {ρ : Operand → Value} {o : Oper} {v : Value} {w w' : World} (h : (execOp ρ o).run P w = .ok (.value v) w') : ∀ c, o.op ≠ .defer c := by
 intro c hc
 unfold execOp at h
 rw [hc] at h
 simp only [Sem.run_bind] at h
 cases hr : (resolve ρ c o.type).run P w with
 | ok d w2 => rw [hr] at h; simp at h
 | halt e w2 => rw [hr] at h; simp [Result.andThen] at h
section
variable {w0 : World} {n : Nat} {F : Frm} {A : List Asrt} {I : List Chunk} {P : Program} {Q : Exit → Act → World → Prop} {r : Option Nat} {ds : List Deferred}
theorem opg_in {o : Oper} {G : Value → List Asrt → List Chunk → Prop} (hop : OpG P w0 n o F A I G) {t : Array Value} {w : World} {K : Act → World → Prop} (hf : Fr t n F) (hs : St w0 w A I)
  (hk : ∀ w' v A' I', G v A' I' → St w0 w' A' I' → K (Act.put ⟨t, ds⟩ o.dst v) w') : o.wpIn (RF r) 0 P ⟨t, ds⟩ w K Q := by
 have hput : ∀ v, Act.put ⟨t, ds⟩ o.dst v = ⟨(Act.put ⟨t, []⟩ o.dst v).tmps, ds⟩ := fun v => by cases o.dst <;> rfl
 have hput0 : ∀ v, (Act.put ⟨t, []⟩ o.dst v).defers = [] := fun v => by cases o.dst <;> rfl
 have h := hop t w (fun a w' => a.defers = [] ∧ K ⟨a.tmps, ds⟩ w') (fun _ _ _ => False) hf hs (fun w' v A' I' hG hS => ⟨hput0 v, by rw [← hput]; exact hk w' v A' I' hG hS⟩)
 unfold Oper.wp at h
 have hev : Act.eval ⟨t, ds⟩ = Act.eval ⟨t, []⟩ := rfl
 refine ⟨fun _ _ => trivial, ?_⟩
 by_cases hd : ∃ c, o.op = .defer c
 ·obtain ⟨c, hc⟩ := hd
  exfalso
  unfold execOp at h
  rw [hc] at h
  simp only [Sem.run_bind] at h
  cases hr : (resolve (Act.eval ⟨t, []⟩) c o.type).run P w with
  | ok d w2 =>
   rw [hr] at h
   simp only [Result.andThen_ok, Sem.run_pure, Oper.upon] at h
   have h1 := h.1
   cases hdst : o.dst <;> rw [hdst] at h1 <;> cases h1
  | halt e w2 =>
   rw [hr] at h
   cases e <;> exact h
 ·rw [Oper.semAt_eq _ _ _ (fun c hc => hd ⟨c, hc⟩), hev]
  generalize (execOp (Act.eval ⟨t, []⟩) o).run P w = res at h ⊢
  cases res with
  | halt e w2 => cases e <;> exact h.elim
  | ok nx w2 =>
   cases nx with
   | value v =>
    simp only [Oper.upon, Oper.uponIn] at h ⊢
    rw [hput]; exact h.2
   | skip =>
    simp only [Oper.upon, Oper.uponIn] at h ⊢
    rw [hput]; exact h.2
   | defer d =>
    exfalso
    simp only [Oper.upon] at h
    have h1 := h.1
    cases hdst : o.dst <;> rw [hdst] at h1 <;> cases h1
   | enter f args =>
    simp only [Oper.upon, Oper.uponIn] at h ⊢
    refine ⟨fun hx => absurd hx rf_depth, callsIn_rf.2 (h.mono ?_)⟩
    intro e w3 he
    cases e with
    | returned v => simp only at he ⊢; rw [hput]; exact he.2
    | panicked c => exact he.elim
    | outgrown => obtain ⟨_, _, hx⟩ := he; exact hx.elim
   | row rw_ args =>
    simp only [Oper.upon, Oper.uponIn] at h ⊢
    exact ⟨fun hx => absurd hx rf_depth, rowsIn_rf (h.mono fun v w3 he => by rw [hput]; exact he.2)⟩
   | _ => exact h.elim
namespace Rd
/-! #### code -/
theorem tri_seq {x y : Code} (h : Tri w0 n F A I (XN ds (Code.wpIn (RF r) 0 P x (Exit.then (Code.wpIn (RF r) 0 P y Q) Q)))) : Tri w0 n F A I (XN ds (Code.wpIn (RF r) 0 P (.seq x y) Q)) := fun t w hf hs => wpIn_seq (h t w hf hs)
theorem tri_skip (h : Tri w0 n F A I (XN ds (Q .normal))) : Tri w0 n F A I (XN ds (Code.wpIn (RF r) 0 P .skip Q)) := fun t w hf hs => wpIn_skip (h t w hf hs)
theorem tri_exit {id : Nat} (h : Tri w0 n F A I (XN ds (Q (.exit id)))) : Tri w0 n F A I (XN ds (Code.wpIn (RF r) 0 P (.exit id) Q)) := fun t w hf hs => wpIn_exit (h t w hf hs)
theorem tri_ret (h : Tri w0 n F A I (XN ds (Q .ret))) : Tri w0 n F A I (XN ds (Code.wpIn (RF r) 0 P .ret Q)) := fun t w hf hs => wpIn_ret (h t w hf hs)
theorem tri_block {id : Nat} {c : Code} (h : Tri w0 n F A I (XN ds (Code.wpIn (RF r) 0 P c (Exit.inBlock id Q)))) : Tri w0 n F A I (XN ds (Code.wpIn (RF r) 0 P (.block id c) Q)) := fun t w hf hs => wpIn_block (h t w hf hs)
theorem tri_region {id : Nat} {l : List Oper} (h : Tri w0 n F A I (XN ds (wpListIn (RF r) 0 P l.toArray Q l))) : Tri w0 n F A I (XN ds (Code.wpIn (RF r) 0 P (.region id l.toArray false) Q)) := fun t w hf hs => wpIn_region_lit (h t w hf hs)
theorem tri_nil {ops : Array Oper} (h : Tri w0 n F A I (XN ds (Q .normal))) : Tri w0 n F A I (XN ds (wpListIn (RF r) 0 P ops Q [])) := h
theorem tri_then {K : Act → World → Prop} (h : Tri w0 n F A I (XN ds K)) : Tri w0 n F A I (XN ds (Exit.then K Q .normal)) := h
theorem tri_then_exit {K : Act → World → Prop} {id : Nat} (h : Tri w0 n F A I (XN ds (Q (.exit id)))) : Tri w0 n F A I (XN ds (Exit.then K Q (.exit id))) := h
theorem tri_then_ret {K : Act → World → Prop} (h : Tri w0 n F A I (XN ds (Q .ret))) : Tri w0 n F A I (XN ds (Exit.then K Q .ret)) := h
theorem tri_inBlock {id : Nat} (h : Tri w0 n F A I (XN ds (Q .normal))) : Tri w0 n F A I (XN ds (Exit.inBlock id Q .normal)) := h
theorem tri_inBlock_ret {id : Nat} (h : Tri w0 n F A I (XN ds (Q .ret))) : Tri w0 n F A I (XN ds (Exit.inBlock id Q .ret)) := h
theorem tri_inBlock_hit {id id' : Nat} (he : Nat.beq id' id = true) (h : Tri w0 n F A I (XN ds (Q .normal))) : Tri w0 n F A I (XN ds (Exit.inBlock id Q (.exit id'))) := by
 have : id' = id := Nat.eq_of_beq_eq_true he
 subst this
 intro t w hf hs
 simp only [XN, Exit.inBlock, if_true]
 exact h t w hf hs
theorem tri_inBlock_miss {id id' : Nat} (he : Nat.beq id' id = false) (h : Tri w0 n F A I (XN ds (Q (.exit id')))) : Tri w0 n F A I (XN ds (Exit.inBlock id Q (.exit id'))) := by
 have : id' ≠ id := Nat.ne_of_beq_eq_false he
 intro t w hf hs
 simp only [XN, Exit.inBlock, if_neg this]
 exact h t w hf hs
theorem tri_cond {c : Operand} {x y : Code} {b : Bool} (hc : ev F c = some (.bool b)) (ht : b = true → Tri w0 n F A I (XN ds (Code.wpIn (RF r) 0 P x Q))) (hf : b = false → Tri w0 n F A I (XN ds (Code.wpIn (RF r) 0 P y Q))) : Tri w0 n F A I (XN ds (Code.wpIn (RF r) 0 P (.cond c x y) Q)) :=
 fun t w hfr hs => wpIn_cond_split (hfr.eval hc) (fun h => ht h t w hfr hs) (fun h => hf h t w hfr hs)
theorem tri_cond_true {c : Operand} {x y : Code} (hc : ev F c = some (.bool true)) (ht : Tri w0 n F A I (XN ds (Code.wpIn (RF r) 0 P x Q))) : Tri w0 n F A I (XN ds (Code.wpIn (RF r) 0 P (.cond c x y) Q)) := tri_cond hc (fun _ => ht) (by simp)
theorem tri_cond_false {c : Operand} {x y : Code} (hc : ev F c = some (.bool false)) (hf : Tri w0 n F A I (XN ds (Code.wpIn (RF r) 0 P y Q))) : Tri w0 n F A I (XN ds (Code.wpIn (RF r) 0 P (.cond c x y) Q)) := tri_cond hc (by simp) (fun _ => hf)
theorem tri_cond_dec {c : Operand} {x y : Code} {p : Prop} [Decidable p] (hc : ev F c = some (.bool (decide p))) (ht : p → Tri w0 n F A I (XN ds (Code.wpIn (RF r) 0 P x Q))) (hf : ¬ p → Tri w0 n F A I (XN ds (Code.wpIn (RF r) 0 P y Q))) : Tri w0 n F A I (XN ds (Code.wpIn (RF r) 0 P (.cond c x y) Q)) :=
 tri_cond hc (fun h => ht (of_decide_eq_true h)) (fun h => hf (of_decide_eq_false h))
theorem tri_cond_is {c : Operand} {x y : Code} {p : Prop} [Decidable p] (hc : ev F c = some (.bool (decide p))) (hp : p) (ht : Tri w0 n F A I (XN ds (Code.wpIn (RF r) 0 P x Q))) : Tri w0 n F A I (XN ds (Code.wpIn (RF r) 0 P (.cond c x y) Q)) :=
 tri_cond_dec hc (fun _ => ht) (fun h => absurd hp h)
theorem tri_cond_not {c : Operand} {x y : Code} {p : Prop} [Decidable p] (hc : ev F c = some (.bool (decide p))) (hp : ¬ p) (hf : Tri w0 n F A I (XN ds (Code.wpIn (RF r) 0 P y Q))) : Tri w0 n F A I (XN ds (Code.wpIn (RF r) 0 P (.cond c x y) Q)) :=
 tri_cond_dec hc (fun h => absurd h hp) (fun _ => hf)
theorem tri_rounds {c : Code} (m : Nat) (h : Tri w0 n F A I (XN ds (Code.roundsIn (RF r) 0 P c Q m))) : Tri w0 n F A I (XN ds (Code.wpIn (RF r) 0 P (.loop c) Q)) := fun t w hf hs => wpIn_loop_rounds m (h t w hf hs)
theorem tri_round {c : Code} {m : Nat} (h : Tri w0 n F A I (XN ds (Code.wpIn (RF r) 0 P c (Exit.then (Code.roundsIn (RF r) 0 P c Q m) Q)))) : Tri w0 n F A I (XN ds (Code.roundsIn (RF r) 0 P c Q (m + 1))) := h
theorem loop_ind {G : Type} (μ : G → Nat) (pre : G → Prop) (Fg : G → Frm) (Ag : G → List Asrt) (Ig : G → List Chunk) {c : Code}
  (round : ∀ g, pre g → ∀ K : Act → World → Prop, (∀ g', pre g' → μ g' < μ g → Tri w0 n (Fg g') (Ag g') (Ig g') (XN ds K)) → Tri w0 n (Fg g) (Ag g) (Ig g) (XN ds (Code.wpIn (RF r) 0 P c (Exit.then K Q)))) (g : G) (hg : pre g) :
  Tri w0 n (Fg g) (Ag g) (Ig g) (XN ds (Code.wpIn (RF r) 0 P (.loop c) Q)) := by
 have key : ∀ m g, pre g → μ g < m → Tri w0 n (Fg g) (Ag g) (Ig g) (XN ds (Code.roundsIn (RF r) 0 P c Q m)) := by
  intro m
  induction m with
  | zero => intro g _ h; omega
  | succ m ih => intro g hg hm; exact round g hg _ fun g' hg' hlt => ih g' hg' (by omega)
 exact fun t w hf hs => wpIn_loop_rounds (μ g + 1) (key _ g hg (by omega) t w hf hs)
/-- A cut. -/
def cutQ (ds : List Deferred) (w0 : World) (n : Nat) (C : Frm → List Asrt → List Chunk → Prop) (Q : Exit → Act → World → Prop) : Exit → Act → World → Prop
 | .normal, a, w => ∃ F' A' I', C F' A' I' ∧ Fr a.tmps n F' ∧ a.defers = ds ∧ St w0 w A' I'
 | e, a, w => Q e a w
theorem tri_cut {c : Code} (C : Frm → List Asrt → List Chunk → Prop) (h : Tri w0 n F A I (XN ds (Code.wpIn (RF r) 0 P c (cutQ ds w0 n C Q)))) (k : ∀ F' A' I', C F' A' I' → Tri w0 n F' A' I' (XN ds (Q .normal))) : Tri w0 n F A I (XN ds (Code.wpIn (RF r) 0 P c Q)) := by
 intro t w hf hs
 refine Code.wpIn_mono ?_ (h t w hf hs)
 intro e a w q
 cases e with
 | normal =>
  obtain ⟨F', A', I', hC, hF, hd, hS⟩ := q
  obtain ⟨t', ds'⟩ := a
  simp only at hd hF
  subst hd
  exact k F' A' I' hC t' w hF hS
 | _ => exact q
theorem tri_cutEnd {C : Frm → List Asrt → List Chunk → Prop} (F' : Frm) (hC : C F' A I) (hs : Sub F' F) : Tri w0 n F A I (XN ds (cutQ ds w0 n C Q .normal)) := fun t w hf hst => ⟨F', A, I, hC, hf.sub hs, rfl, hst⟩
theorem tri_cut_exit {C : Frm → List Asrt → List Chunk → Prop} {id : Nat} (h : Tri w0 n F A I (XN ds (Q (.exit id)))) : Tri w0 n F A I (XN ds (cutQ ds w0 n C Q (.exit id))) := h
theorem tri_cut_ret {C : Frm → List Asrt → List Chunk → Prop} (h : Tri w0 n F A I (XN ds (Q .ret))) : Tri w0 n F A I (XN ds (cutQ ds w0 n C Q .ret)) := h
/-! #### operations, in a region of fixed order -/
section
variable {ops : Array Oper} {rest : List Oper} {d : Nat} {dst : Option Tmp} {ty : TypeId} {pos : String} {af : Array Edge} {gd : Option (Nat × Bool)}
theorem put_ds (t : Array Value) (ds : List Deferred) (dst : Option Tmp) (v : Value) : Act.put ⟨t, ds⟩ dst v = ⟨(Act.put ⟨t, []⟩ dst v).tmps, ds⟩ := by cases dst <;> rfl
theorem tri_g {G : Value → List Asrt → List Chunk → Prop} {op : Op} (hop : OpG P w0 n ⟨dst, op, ty, pos, af, none⟩ F A I G) (hn : dOk n ⟨dst, op, ty, pos, af, none⟩ = true)
  (k : ∀ v A' I', G v A' I' → Tri w0 n (putF dst v F) A' I' (XN ds (wpListIn (RF r) 0 P ops Q rest))) : Tri w0 n F A I (XN ds (wpListIn (RF r) 0 P ops Q (⟨dst, op, ty, pos, af, none⟩ :: rest))) := by
 intro t w hf hs
 refine wpListIn_plain rfl fun K hK => ?_
 refine opg_in hop hf hs fun w' v A' I' hG hs' => hK _ _ ?_
 have := k v A' I' hG _ _ (hf.putF (o := ⟨dst, op, ty, pos, af, none⟩) hn v) hs'
 simp only [XN] at this
 rw [put_ds]
 exact this
theorem tri_v {op : Op} {v : Value} (hop : OpV P w0 n ⟨some d, op, ty, pos, af, none⟩ F A I v) (hn : Nat.blt d n = true) (k : Tri w0 n ((d, v) :: F) A I (XN ds (wpListIn (RF r) 0 P ops Q rest))) : Tri w0 n F A I (XN ds (wpListIn (RF r) 0 P ops Q (⟨some d, op, ty, pos, af, none⟩ :: rest))) :=
 tri_g hop.toG hn fun v' A' I' h => by
  obtain ⟨rfl, rfl, rfl⟩ := h
  exact k
/-! ##### guards -/
theorem tri_guard_run {op : Op} {j dj : Nat} {b c : Bool} (hj : (ops[j]?).bind (·.dst) = some dj) (hv : look F dj = some (.bool b)) (hbc : (b == c) = true)
  (k : Tri w0 n F A I (XN ds (wpListIn (RF r) 0 P ops Q (⟨dst, op, ty, pos, af, none⟩ :: rest)))) : Tri w0 n F A I (XN ds (wpListIn (RF r) 0 P ops Q (⟨dst, op, ty, pos, af, some (j, c)⟩ :: rest))) := by
 intro t w hf hs
 have hy := yielded_of (ops := ops) hf hj hv
 have hbc' : b = c := by simpa using hbc
 subst hbc'
 have := k t w hf hs
 simp only [XN] at this ⊢
 unfold wpListIn at this ⊢
 rw [if_pos (by simp [Region.wanted])] at this
 rw [if_pos (by simp [Region.wanted, hy])]
 exact this
theorem tri_guard_skip {op : Op} {j dj : Nat} {b c : Bool} (hj : (ops[j]?).bind (·.dst) = some dj) (hv : look F dj = some (.bool b)) (hbc : (b == c) = false) (hn : dOk n ⟨dst, op, ty, pos, af, none⟩ = true)
  (k : Tri w0 n (putF dst undef F) A I (XN ds (wpListIn (RF r) 0 P ops Q rest))) : Tri w0 n F A I (XN ds (wpListIn (RF r) 0 P ops Q (⟨dst, op, ty, pos, af, some (j, c)⟩ :: rest))) := by
 intro t w hf hs
 have hy := yielded_of (ops := ops) hf hj hv
 simp only [XN]
 unfold wpListIn
 rw [if_neg (by simp [Region.wanted, hy]; simpa using hbc), put_ds]
 exact ⟨fun _ _ => trivial, k _ _ (hf.putF (o := ⟨dst, op, ty, pos, af, none⟩) hn undef) hs⟩
theorem tri_split {op : Op} {j dj : Nat} {c : Bool} {p : Prop} [Decidable p] (hj : (ops[j]?).bind (·.dst) = some dj) (hv : look F dj = some (.bool (decide p)))
  (ht : p → Tri w0 n ((dj, .bool true) :: F) A I (XN ds (wpListIn (RF r) 0 P ops Q (⟨dst, op, ty, pos, af, some (j, c)⟩ :: rest)))) (hf : ¬ p → Tri w0 n ((dj, .bool false) :: F) A I (XN ds (wpListIn (RF r) 0 P ops Q (⟨dst, op, ty, pos, af, some (j, c)⟩ :: rest)))) : Tri w0 n F A I (XN ds (wpListIn (RF r) 0 P ops Q (⟨dst, op, ty, pos, af, some (j, c)⟩ :: rest))) :=
 tri_bool_dec dj hv ht hf
theorem tri_true {op : Op} {j dj : Nat} {c : Bool} {p : Prop} [Decidable p] (hj : (ops[j]?).bind (·.dst) = some dj) (hv : look F dj = some (.bool (decide p))) (hp : p)
  (ht : Tri w0 n ((dj, .bool true) :: F) A I (XN ds (wpListIn (RF r) 0 P ops Q (⟨dst, op, ty, pos, af, some (j, c)⟩ :: rest)))) : Tri w0 n F A I (XN ds (wpListIn (RF r) 0 P ops Q (⟨dst, op, ty, pos, af, some (j, c)⟩ :: rest))) :=
 tri_bool_dec dj hv (fun _ => ht) (fun h => absurd hp h)
theorem tri_false {op : Op} {j dj : Nat} {c : Bool} {p : Prop} [Decidable p] (hj : (ops[j]?).bind (·.dst) = some dj) (hv : look F dj = some (.bool (decide p))) (hp : ¬ p)
  (ht : Tri w0 n ((dj, .bool false) :: F) A I (XN ds (wpListIn (RF r) 0 P ops Q (⟨dst, op, ty, pos, af, some (j, c)⟩ :: rest)))) : Tri w0 n F A I (XN ds (wpListIn (RF r) 0 P ops Q (⟨dst, op, ty, pos, af, some (j, c)⟩ :: rest))) :=
 tri_bool_dec dj hv (fun h => absurd h hp) (fun _ => ht)
/-! ##### a round -/
/-- The slots of a loop's left sides. -/
def putL : List Nat → List Value → Frm → Frm
 | d :: l, v :: vs, F => putL l vs ((d, v) :: F)
 | _, _, F => F
def allLt (n : Nat) : List Nat → Bool | [] => true | d :: l => Nat.blt d n && allLt n l
theorem fr_putL : ∀ (l : List Nat) (vs : List Value) (t : Array Value) (F : Frm), Fr t n F → allLt n l = true → Fr ((l.zip vs).foldl (fun t p => t.setIfInBounds p.1 p.2) t) n (putL l vs F)
 | [], vs, t, F, h, _ => by simpa [putL] using h
 | d :: l, [], t, F, h, _ => by simpa [putL] using h
 | d :: l, v :: vs, t, F, h, hl => by
  simp only [allLt, Bool.and_eq_true] at hl
  simp only [List.zip_cons_cons, List.foldl_cons, putL]
  exact fr_putL l vs _ _ (h.put d (Nat.le_of_ble_eq_true hl.1) v) hl.2
/-- What one round comes to: the record lp lies at l. -/
def RoundC (P : Program) (l : Nat) (lp : Loop) (vs : List Value) (A : List Asrt) (I : List Chunk) (R : Value → List Asrt → List Chunk → Prop) : Prop :=
 ∀ w0 w, St w0 w (Pt l (.loop lp) :: A) I → RoundIn (RF none) 0 P l lp.fn ((lp.params.zip vs.toArray).foldl (fun t (p : Tmp × Value) => t.setIfInBounds p.1 p.2) lp.tmps) lp.assign lp.body w fun e w' => ∃ v A' I', e = .returned v ∧ R v A' I' ∧ St w0 w' A' I'
/-- The end of a round. -/
def RoundEnds (P : Program) (l : Nat) (w0 : World) (R : Value → List Asrt → List Chunk → Prop) : Exit → Act → World → Prop :=
 roundPost P l fun e w' => ∃ v A' I', e = .returned v ∧ R v A' I' ∧ St w0 w' A' I'
theorem st_putObj {w : World} {l : Nat} {o : Obj} (h : St w0 w (Pt l o :: A) I) (o' : Obj) : St w0 (w.putObj l o') (Pt l o' :: A) I := by
 have hl : l < w.heap.size := (Array.getElem?_eq_some_iff.1 h.at).1
 exact h.set o' (w.heap.setIfInBounds l o') (by simp) (by simp [hl]) (fun k hk => by rw [Array.getElem?_setIfInBounds, if_neg (Ne.symm hk)])
theorem round_enter {l : Nat} {lp : Loop} {ps : List Nat} {vs : List Value} {R : Value → List Asrt → List Chunk → Prop} (C : Frm → List Asrt → List Chunk → Prop) (hps : lp.params = ps.toArray) (hrd : lp.state = .ready) (hlt : allLt n ps = true) (hfr : Fr lp.tmps n F)
  (h1 : ∀ w0, Tri w0 n (putL ps vs F) (Pt l (.loop lp) :: A) I (XN [] (Code.wpIn (RF (some l)) 0 P lp.assign (cutQ [] w0 n (fun F' A' I' => ∃ A'', A' = Pt l (.loop lp) :: A'' ∧ C F' A'' I') fun _ _ _ => False))))
  (h2 : ∀ w0 F' A'' I', C F' A'' I' → Tri w0 n F' (Pt l (.loop { lp with state := .busy }) :: A'') I' (XN [] (Code.wpIn (RF (some l)) 0 P lp.body (RoundEnds P l w0 R)))) :
  RoundC P l lp vs A I R := by
 intro w0 w hs
 have hfr' := fr_putL ps vs lp.tmps F hfr hlt
 have e : (lp.params.zip vs.toArray).foldl (fun t (p : Tmp × Value) => t.setIfInBounds p.1 p.2) lp.tmps = (ps.zip vs).foldl (fun t p => t.setIfInBounds p.1 p.2) lp.tmps := by
  rw [hps, List.zip_toArray, List.foldl_toArray]
 rw [e]
 refine roundIn_of_wpIn (F := RF none) trivial ?_
 have h := h1 w0 _ w hfr' hs
 refine Code.wpIn_mono ?_ h
 intro ex a w1 q
 cases ex with
 | normal =>
  obtain ⟨F', _, I', ⟨A'', rfl, hC⟩, hF, hd, hS⟩ := q
  have hT := h2 w0 F' A'' I' hC
  obtain ⟨t', ds'⟩ := a
  simp only at hd hF
  subst hd
  exact ⟨_, run_beginRound hS.at hrd, hT t' _ hF (st_putObj hS _)⟩
 | _ => exact q.elim
theorem round_normal {l : Nat} {lp : Loop} {R : Value → List Asrt → List Chunk → Prop} (h : R (.bool true) (Pt l (.loop { lp with state := .ready, pending := none }) :: A) I) : Tri w0 n F (Pt l (.loop lp) :: A) I (XN [] (RoundEnds P l w0 R .normal)) :=
 fun t w hf hs => ⟨_, _, run_endRound none hs.at, _, _, _, rfl, h, st_putObj hs _⟩
theorem round_exit {l id : Nat} {lp : Loop} {R : Value → List Asrt → List Chunk → Prop} (h : R (.bool false) (Pt l (.loop { lp with state := .done, pending := some (.exit id) }) :: A) I) : Tri w0 n F (Pt l (.loop lp) :: A) I (XN [] (RoundEnds P l w0 R (.exit id))) :=
 fun t w hf hs => ⟨_, _, run_endRound (some (.exit id)) hs.at, _, _, _, rfl, h, st_putObj hs _⟩
/-- A call of yield. -/
theorem tri_yield {l : Nat} {lp : Loop} {x : Operand} {xs : List Operand} {vs : List Value} {ats : Array TypeId} {R : Value → List Asrt → List Chunk → Prop} (hx : ev F x = some (.func (.yield l) #[] #[])) (hxs : xs.map (ev F) = vs.map some) (hsz : vs.length = lp.params.size) (hR : RoundC P l lp vs A I R)
  (hn : dOk n ⟨dst, .call ⟨.value x, xs.toArray, ats⟩, ty, pos, af, none⟩ = true)
  (k : ∀ v A' I', R v A' I' → Tri w0 n (putF dst v F) A' I' (XN ds (wpListIn (RF none) 0 P ops Q rest))) :
  Tri w0 n F (Pt l (.loop lp) :: A) I (XN ds (wpListIn (RF none) 0 P ops Q (⟨dst, .call ⟨.value x, xs.toArray, ats⟩, ty, pos, af, none⟩ :: rest))) := by
 intro t w hf hs
 refine wpListIn_plain rfl fun K hK => ?_
 refine ⟨fun _ _ => trivial, ?_⟩
 have hl : #[] ++ vs.toArray ++ #[] = vs.toArray := by simp
 have hrun : (execOp (Act.eval ⟨t, ds⟩) ⟨dst, .call ⟨.value x, xs.toArray, ats⟩, ty, pos, af, none⟩).run P w = .ok (.round l lp.fn ((lp.params.zip vs.toArray).foldl (fun t (p : Tmp × Value) => t.setIfInBounds p.1 p.2) lp.tmps) lp.assign lp.body) w := by
  have hy := run_yield (P := P) (args := vs.toArray) hs.at (by simpa using hsz)
  simp only [execOp, resolve, show Act.eval ⟨t, ds⟩ x = _ from hf.eval hx, Deferred.ofValue, show xs.toArray.map (Act.eval ⟨t, ds⟩) = vs.toArray from evs hf hxs, Sem.run_bind, Sem.run_pure, Result.andThen_ok, invoke, Array.append_empty]
  rw [show #[] ++ vs.toArray = vs.toArray by simp]
  exact hy
 rw [show (RF none).round = none from rfl, Oper.semAt_none, hrun, Oper.uponIn_round]
 refine ⟨fun hx => absurd hx rf_depth, (hR w0 w hs).mono ?_⟩
 rintro e w' ⟨v, A', I', rfl, hR', hs'⟩
 simp only
 rw [put_ds]
 exact hK _ _ (k v A' I' hR' _ _ (hf.putF (o := ⟨dst, .call ⟨.value x, xs.toArray, ats⟩, ty, pos, af, none⟩) hn v) hs')
/-! #### the statement -/
/-- The mark of the rounds' deferred calls. -/
def mark (b : Nat) : Deferred := { target := .collected b, args := #[] }
/-- What the function that is ranged over leaves: the record, and the pending jump. -/
def RangeR (l b : Nat) (C : Option Code → List Asrt → List Chunk → Prop) : Value → List Asrt → List Chunk → Prop :=
 fun _ A' I' => ∃ lp A'', A' = Pt l (.loop lp) :: Pt b (.deferred (some [])) :: A'' ∧ lp.state ≠ .busy ∧ C lp.pending A'' I'
theorem tri_range {f : FuncId} {g : Operand} {ps : Array Tmp} {assign body : Code} {lb : List Value} (C : Option Code → List Asrt → List Chunk → Prop) [hfi : FnI P f] (hg : ev F g = some (.func (.func f) #[] lb.toArray))
  (hc : ∀ l b fnn tm df, Fr tm n F → FnC P f (.func (.yield l) #[] #[] :: lb).toArray (Pt l (.loop ⟨.ready, none, fnn, tm, ps, assign, body, df⟩) :: Pt b (.deferred (some [])) :: A) I (RangeR l b C))
  (hC : ∀ j A' I', C j A' I' → j = none ∨ ∃ id, j = some (.exit id))
  (k : ∀ l b lp A' I', C none A' I' → Tri w0 n F (Pt l (.loop lp) :: Pt b (.deferred (some [])) :: A') I' (XN [mark b] (Q .normal)))
  (kx : ∀ l b lp id A' I', C (some (.exit id)) A' I' → Tri w0 n F (Pt l (.loop lp) :: Pt b (.deferred (some [])) :: A') I' (XN [mark b] (Q (.exit id)))) :
  Tri w0 n F A I (XN [] (Code.wpIn (RF none) 0 P (.rangeFunc g ps assign body) Q)) := by
 intro t w hf hs
 refine wpIn_rangeFunc fun fnn _ => ?_
 obtain ⟨fn, h1, h2, h3⟩ := hfi.fn
 have s1 := hs.alloc (.deferred (some []))
 have s2 := s1.alloc (.loop { state := .ready, pending := none, fn := fnn, tmps := t, params := ps, assign := assign, body := body, defers := w.heap.size })
 have hsz : (w.alloc (.deferred (some []))).heap.size = w.heap.size + 1 := by rw [World.size_alloc]
 rw [hsz] at s2
 obtain ⟨W2, hW2⟩ : ∃ W2, W2 = (w.alloc (.deferred (some []))).alloc (.loop { state := .ready, pending := none, fn := fnn, tmps := t, params := ps, assign := assign, body := body, defers := w.heap.size }) := ⟨_, rfl⟩
 rw [← hW2] at s2
 refine ⟨w.heap.size + 1, [mark w.heap.size], W2, ⟨.fn (.func f) lb.toArray, #[.func (.yield (w.heap.size + 1)) #[] #[]]⟩, W2, f, (.func (.yield (w.heap.size + 1)) #[] #[] :: lb).toArray, W2, by rw [hW2]; exact run_enterLoop_outer fnn t ps assign body, ?_, fun _ _ => trivial, ?_, fun hx => absurd hx rf_depth, ?_⟩
 ·have he := hf.eval (ds := []) hg
  simp only [resolve, rangeCall, he, Deferred.ofValue, Sem.run_bind, Sem.run_pure, Result.andThen_ok]
  simp [Act.eval]
 ·have hl : #[Value.func (.yield (w.heap.size + 1)) #[] #[]] ++ lb.toArray = (Value.func (.yield (w.heap.size + 1)) #[] #[] :: lb).toArray := by simp
  simp only [invoke, callFunc, Sem.run_bind, run_program, Result.andThen_ok, h1, h2, h3, hl]
  rfl
 ·refine callsIn_rf.2 ((hc _ _ _ _ _ hf w0 _ s2).mono ?_)
  rintro e w' ⟨v, A', I', rfl, ⟨lp, A'', rfl, hst, hCC⟩, hs'⟩
  refine ⟨lp.pending, _, run_endLoop hs'.at hst, ?_⟩
  have hs2 := st_putObj hs' (.loop { lp with state := .exhausted })
  obtain ⟨st, pd, f0, t0, p0, as0, bd0, df0⟩ := lp
  simp only at hCC hs2 ⊢
  rcases hC _ _ _ hCC with rfl | ⟨id, rfl⟩
  ·exact k _ _ _ _ _ hCC t _ hf hs2
  ·exact wpIn_exit (kx _ _ _ id _ _ hCC t _ hf hs2)
end
/-! #### functions -/
/-- The post of a body. -/
def Ends (P : Program) (fn : Func) (w0 : World) (R : Value → List Asrt → List Chunk → Prop) : Exit → Act → World → Prop :=
 bodyPostM (RF none) 0 P fn fun e w' => ∃ v A' I', e = .returned v ∧ R v A' I' ∧ St w0 w' A' I'
theorem fn_enter {f : FuncId} {fn : Func} {c : Code} {args : List Value} {R : Value → List Asrt → List Chunk → Prop} {m : Nat} (hf : P.funcs[f]? = some fn) (hb : fn.body = some c) (hn : fn.ntmps = m) (hle : Nat.ble args.length m = true)
  (h : ∀ w0, Tri w0 m (argF args 0) A I (XN [] (Code.wpIn (RF none) 0 P c (Ends P fn w0 R)))) : FnC P f args.toArray A I R := by
 intro w0 w hs
 have hle' := Nat.le_of_ble_eq_true hle
 refine callsIn_rf.1 (callsIn_of_wp_marks (F := RF none) (n := 0) hf hb trivial (h w0 _ w ⟨?_, ?_⟩ hs))
 ·simp only [Array.size_append, Array.size_replicate, List.size_toArray, hn]; omega
 ·refine fr_of_args args _ 0 (fun i v hi => ?_)
  have hlt : i < args.length := (List.getElem?_eq_some_iff.1 hi).1
  rw [Nat.zero_add, Array.getElem?_append, if_pos (by simpa using hlt)]
  simpa using hi
section
variable {f : FuncId} {fn : Func} {c : Code} {R : Value → List Asrt → List Chunk → Prop} {m : Nat} (hf : P.funcs[f]? = some fn) (hb : fn.body = some c) (hn : fn.ntmps = m)
include hf hb hn
theorem fn_enter1 {a : Value} (hle : Nat.ble 1 m = true) (h : ∀ w0, Tri w0 m [(0, a)] A I (XN [] (Code.wpIn (RF none) 0 P c (Ends P fn w0 R)))) : FnC P f [a].toArray A I R := fn_enter (args := [a]) hf hb hn hle h
theorem fn_enter2 {a b : Value} (hle : Nat.ble 2 m = true) (h : ∀ w0, Tri w0 m [(0, a), (1, b)] A I (XN [] (Code.wpIn (RF none) 0 P c (Ends P fn w0 R)))) : FnC P f [a, b].toArray A I R := fn_enter (args := [a, b]) hf hb hn hle h
theorem fn_enter3 {a b d : Value} (hle : Nat.ble 3 m = true) (h : ∀ w0, Tri w0 m [(0, a), (1, b), (2, d)] A I (XN [] (Code.wpIn (RF none) 0 P c (Ends P fn w0 R)))) : FnC P f [a, b, d].toArray A I R := fn_enter (args := [a, b, d]) hf hb hn hle h
end
theorem end_ret {fn : Func} {rs : List ResultVar} {vs : List Value} {R : Value → List Asrt → List Chunk → Prop} (B : List Asrt) (hA : ∃ Am, A = Am ++ B) (hres : fn.results = rs.toArray) (h : RVs P w0 n F A I rs vs) (hR : R (retV vs) B I) {t : Array Value} {w : World} (hf : Fr t n F) (hs : St w0 w A I) :
  LeavesInM (RF none) 0 P fn t (fun e w' => ∃ v A' I', e = .returned v ∧ R v A' I' ∧ St w0 w' A' I') [] .returning w := by
 obtain ⟨Am, rfl⟩ := hA
 exact ⟨retV vs, run_results hres h hf hs, _, B, I, rfl, hR, hs.suffix⟩
theorem tri_end {fn : Func} {rs : List ResultVar} {vs : List Value} {R : Value → List Asrt → List Chunk → Prop} (B : List Asrt) (hA : ∃ Am, A = Am ++ B) (hres : fn.results = rs.toArray) (h : RVs P w0 n F A I rs vs) (hR : R (retV vs) B I) : Tri w0 n F A I (XN [] (Ends P fn w0 R .ret)) :=
 fun t w hf hs => end_ret B hA hres h hR hf hs
theorem tri_end_n {fn : Func} {rs : List ResultVar} {vs : List Value} {R : Value → List Asrt → List Chunk → Prop} (B : List Asrt) (hA : ∃ Am, A = Am ++ B) (hres : fn.results = rs.toArray) (h : RVs P w0 n F A I rs vs) (hR : R (retV vs) B I) : Tri w0 n F A I (XN [] (Ends P fn w0 R .normal)) :=
 fun t w hf hs => end_ret B hA hres h hR hf hs
/-- With the rounds' deferred calls: there are none. -/
theorem tri_endM {fn : Func} {rs : List ResultVar} {vs : List Value} {b : Nat} {R : Value → List Asrt → List Chunk → Prop} (B : List Asrt) (hA : ∃ Am, A = Am ++ B) (hres : fn.results = rs.toArray) (h : RVs P w0 n F (Pt b (.deferred none) :: A) I rs vs) (hR : R (retV vs) B I) : Tri w0 n F (Pt b (.deferred (some [])) :: A) I (XN [mark b] (Ends P fn w0 R .ret)) := by
 intro t w hf hs
 refine ⟨fun h => (by cases h), .inl ⟨b, _, rfl, run_takeDeferred hs.at, ?_⟩⟩
 obtain ⟨Am, rfl⟩ := hA
 exact end_ret B ⟨Pt b (.deferred none) :: Am, rfl⟩ hres h hR hf (st_putObj hs _)
theorem tri_endM_n {fn : Func} {rs : List ResultVar} {vs : List Value} {b : Nat} {R : Value → List Asrt → List Chunk → Prop} (B : List Asrt) (hA : ∃ Am, A = Am ++ B) (hres : fn.results = rs.toArray) (h : RVs P w0 n F (Pt b (.deferred none) :: A) I rs vs) (hR : R (retV vs) B I) : Tri w0 n F (Pt b (.deferred (some [])) :: A) I (XN [mark b] (Ends P fn w0 R .normal)) := by
 intro t w hf hs
 refine ⟨fun h => (by cases h), .inl ⟨b, _, rfl, run_takeDeferred hs.at, ?_⟩⟩
 obtain ⟨Am, rfl⟩ := hA
 exact end_ret B ⟨Pt b (.deferred none) :: Am, rfl⟩ hres h hR hf (st_putObj hs _)
end Rd
end
end Go.GL

set_option linter.unusedVariables false
namespace Go.GL
open Enc (enc)
/-! ### An element of a row is written -/
theorem encs_splice {α : Type} [Enc α] [Inhabited α] {vs : List Value} {x' : α} {fo : Nat} : ∀ {xs : List α} {i : Nat}, i < xs.length → spl (enc (xs.getD i default)) fo vs = some (enc x') →
  (encs xs).take (i * Enc.sz α + fo) ++ vs ++ (encs xs).drop (i * Enc.sz α + fo + vs.length) = encs (xs.set i x')
 | [], i, hi, h => absurd hi (by simp)
 | x :: xs, 0, hi, h => by
  obtain ⟨h1, h2⟩ := spl_spec h
  simp only [List.getD_cons_zero] at h1 h2
  rw [Nat.zero_mul, Nat.zero_add, encs_cons, List.set_cons_zero, encs_cons, h2, List.take_append_of_le_length (by omega), List.drop_append_of_le_length (by omega)]
  simp
 | x :: xs, i + 1, hi, h => by
  have ih := encs_splice (xs := xs) (i := i) (by simpa using hi) (by simpa using h)
  have hl : (enc x).length = Enc.sz α := Enc.hlen x
  have e : (i + 1) * Enc.sz α + fo = (enc x).length + (i * Enc.sz α + fo) := by rw [hl, Nat.succ_mul]; omega
  rw [encs_cons, List.set_cons_succ, encs_cons, e, List.take_length_add_append, Nat.add_assoc, List.drop_length_add_append, ← ih]
  simp
section
variable {w0 : World} {n : Nat} {F : Frm} {A : List Asrt} {I : List Chunk} {P : Program}
variable {dst : Option Tmp} {ty : TypeId} {pos : String} {af : Array Edge} {gd : Option (Nat × Bool)} {x y : Operand} {t E : TypeId} {d : TypeDesc} {s by_ : Nat} {z : List Value} {a : Option Addr} {len cap : Nat}
/-- Into an element, or a part of it. -/
theorem opg_storeRX {α : Type} [Enc α] [Inhabited α] {xs : List α} (x' : α) {i fo sz : Nat} {v : Value} {vs : List Value} {u : Asrt → List Asrt} [SelR A a cap len E sz (encs xs) u] [TyI P t d s by_ z] (hx : ev F x = some (epf a sz i fo)) (hy : ev F y = some v) (hz : Enc.sz α = sz) (hi : i < xs.length) (hl : len = xs.length)
  (hv : v.cells = vs.toArray) (hls : vs.length = s) (h0 : Nat.blt 0 s = true) (h : spl (enc (xs.getD i default)) fo vs = some (enc x')) :
  OpG P w0 n ⟨dst, .store t x y, ty, pos, af, gd⟩ F A I (fun _ A' I' => A' = u (Row a cap len E sz (encs (xs.set i x'))) ∧ I = I') := by
 have hspec := spl_spec h
 have hel : (enc (xs.getD i default)).length = Enc.sz α := Enc.hlen _
 have h1 : vs.all (·.oneCell') = true := by
  have := Enc.one x'
  rw [hspec.2] at this
  simp only [List.all_append, Bool.and_eq_true] at this
  exact this.1.2
 refine (opg_storeR (a := a) hx hy hv hls h1 h0 (by omega) (by omega)).mono fun v' A' I' ⟨e1, e2⟩ => ⟨?_, e2⟩
 rw [e1]
 congr 2
 rw [← hz, ← hls, encs_splice hi h]
/-- Where a slice begins that leaves out the first l. -/
def loA (a : Option Addr) (cap l s : Nat) : Option Addr := if cap = l then a else a.map fun q => q.add (l * s)
theorem opv_sliceLo {α : Type} [Enc α] {xs : List α} {lo : Operand} {k : IntKind} {l : Int} {t e : TypeId} {d' : TypeDesc} {s by_ s' by' : Nat} {z z' : List Value} [TyI P t (.slice e) s by_ z] [TyI P e d' s' by' z'] (hx : ev F x = some (.slice a len cap)) (hh : ev F lo = some (.int k l)) (h0 : 0 ≤ l) (h1 : l ≤ len) (hs : StA I a cap xs) (hl : len = xs.length) :
  OpV P w0 n ⟨dst, .slice t x (some lo) none none, ty, pos, af, gd⟩ F A I (.slice (loA a cap l.toNat s') (xs.drop l.toNat).length (cap - l.toNat)) := by
 intro tt w hf hst
 have hle := hs.le
 have hlen : (xs.drop l.toNat).length = len - l.toNat := by rw [List.length_drop]; omega
 rw [hlen]
 simp [execOp, hf.eval hx, hf.eval hh, Instr.sliceAt, Instr.slice, run_und (P := P) (t := t), Instr.sliceBounds, Instr.sliceBound, asIntOf, h0, h1, run_size (P := P) (t := e), loA]
theorem StA.lo {α : Type} [Enc α] {xs : List α} (hs : StA I a cap xs) {l s : Nat} (h1 : l ≤ xs.length) (hz : Enc.sz α = s) : StA I (loA a cap l s) (cap - l) (xs.drop l) := by
 have hle := hs.le
 have hlen : (xs.drop l).length = xs.length - l := by rw [List.length_drop]
 refine ⟨?_, by rw [hlen]; omega⟩
 unfold loA
 split
 ·left
  exact List.drop_of_length_le (by omega)
 ·rcases hs.sl with rfl | ⟨b, off, rfl, cs, T, fz, hm, hc⟩
  ·exact .inl (by simp)
  ·refine .inr ⟨b, off + l * s, by simp [add_pt], cs, T, fz, hm, fun j v hj => ?_⟩
   rw [encs_drop xs (by omega), hz] at hj
   rw [Nat.add_assoc]
   exact hc _ _ hj
/-- An entry of a map's literal. -/
theorem opg_insert {b : Nat} {kt e : TypeId} {es : KVs} {k : Nat} {u : KVs → List Asrt} {ks : List Int} {vk v : Value} {ym : Operand} [SelM P A b kt es u] [TyI P t (.map kt e) s by_ z] (hx : ev F x = some (.map (some b))) (hy : ev F y = some vk) (hv : ev F ym = some v) (hk : vk = mkv P kt ks) (hi : intAt P 9 kt = some k) (hl : ks.length = k) :
  OpG P w0 n ⟨dst, .insert t x y ym, ty, pos, af, gd⟩ F A I (fun _ A' I' => A' = u (mset es ks v) ∧ I = I') :=
 fun tt w K Q hf hs hk' => opg_mapUpdate (P := P) (dst := dst) (ty := ty) (pos := pos) (af := af) (gd := gd) (t := t) hx hy hv hk hi hl tt w K Q hf hs hk'
/-- A slice that is nil has no elements. -/
theorem tri_rowSome {α : Type} [Enc α] {xs : List α} {K : Act → World → Prop} (hz : Nat.beq (Enc.sz α) 0 = false) (h : (a = none → xs = []) → Tri w0 n F (Row a cap len E (Enc.sz α) (encs xs) :: A) I K) : Tri w0 n F (Row a cap len E (Enc.sz α) (encs xs) :: A) I K := by
 intro t w hf hs
 have h2 := hs
 obtain ⟨cs, h1, _⟩ := hs
 obtain ⟨c, cs', rfl, ⟨hl, ha⟩, hr⟩ := h1.cons_inv
 refine h (fun e => ?_) t w hf h2
 rcases ha with ⟨_, _, h3, _⟩ | ⟨b, cur, h3, _⟩
 ·rw [encs_length, h3, Nat.zero_mul] at hl
  rcases Nat.mul_eq_zero.1 hl with h4 | h4
  ·exact List.length_eq_zero_iff.1 h4
  ·rw [h4] at hz; cases hz
 ·rw [e] at h3; cases h3
end
end Go.GL

set_option linter.unusedVariables false
namespace Go.GL
open Go.Proofs
attribute [local irreducible] wpList Code.wp Exit.then Exit.inBlock Ends Tri TriH OpV OpG FnC epf wpAnyH
variable {A : List Asrt} {I : List Chunk}
set_option maxRecDepth 100000 in
theorem slices_containsFunc {l : List Int} {p : Int → Bool} {f : FuncId} {ca : List Value} {a : Option Addr} {cap : Nat} [FnI Try.prog f] (hp : ∀ x ∈ l, FnC Try.prog f ([] ++ [Value.int .i64 x] ++ ca).toArray A I (fun v A' I' => v = .bool (p x) ∧ A = A' ∧ I = I')) (hs : SlAt I a l) (hn : l.length ≤ 1000000000) :
  FnC Try.prog 35 [.slice a l.length cap, .func (.func f) #[] ca.toArray].toArray A I (fun v A' I' => v = .bool (decide (0 ≤ R11.idx p l)) ∧ A = A' ∧ I = I') := by
 refine fn_enter2 Try.func35 rfl Try.ntmps35 rfl fun w0 => ?_
 refine tS (tR (tA rfl rfl (tN (tT (tS (tR (tM rfl rfl ?_)))))))
 refine tM rfl rfl ?_
 refine tri_g (opg_call (xs := [_, _]) rfl (slices_indexFunc hp hs hn)) rfl ?_
 rintro _ _ _ ⟨rfl, rfl, rfl⟩
 refine tri_v (opv_geq rfl rfl) rfl ?_
 refine tA rfl rfl (tN (tT (tri_ret ?_)))
 refine tri_end A Suf.h rfl (.cons (rv_tmp rfl) .nil) ⟨rfl, rfl, rfl⟩
theorem idx_any {p : Int → Bool} {l : List Int} : 0 ≤ R11.idx p l ↔ ∃ i, i < l.length ∧ p (l.getD i default) = true := by
 constructor
 ·intro h
  obtain ⟨h1, h2, _⟩ := R11.idx_some h
  exact ⟨_, h1, h2⟩
 ·rintro ⟨i, h1, h2⟩
  apply Decidable.byContradiction
  intro h
  have := R11.idx_none h _ (R11.getD_mem h1)
  rw [h2] at this
  cases this
set_option maxRecDepth 100000 in
theorem live_clo {ns ns2 : List Node} {a a2 : Option Addr} {cap cap2 bx mb b : Nat} {room room2 n : Int} {es : KVs} {T : TypeId} {X : Asrt} :
  FnC Try.prog 36 [.int .i64 n, pt b 0].toArray (IxA bx mb a cap ns room es (X :: Box b [.slice a2 ns2.length cap2, .int .i64 room2] T :: A)) I (fun v A' I' => v = .bool (decide (n < 0 ∨ (ns2.length : Int) ≤ n)) ∧ IxA bx mb a cap ns room es (X :: Box b [.slice a2 ns2.length cap2, .int .i64 room2] T :: A) = A' ∧ I = I') := by
 refine fn_enter2 Try.func36 rfl Try.ntmps36 rfl fun w0 => ?_
 refine tS (tR (tA rfl rfl (tN (tT (tS (tR (tM rfl rfl ?_)))))))
 refine tri_v (opv_lss rfl rfl) rfl ?_
 refine tM rfl rfl ?_
 refine tri_split rfl rfl (fun h => ?_) (fun h => ?_)
 ·refine tri_guard_skip rfl rfl rfl rfl (tri_guard_skip rfl rfl rfl rfl (tri_guard_skip rfl rfl rfl rfl (tri_guard_skip rfl rfl rfl rfl (tri_guard_skip rfl rfl rfl rfl ?_))))
  refine tri_v (by first | exact opv_pick_t rfl rfl | exact opv_pick_f rfl rfl | exact opv_pick_bool rfl rfl rfl | exact opv_pick rfl rfl rfl) rfl ?_
  refine tA rfl rfl (tN (tT (tri_ret ?_)))
  refine tri_end _ (by first | exact ⟨[], rfl⟩ | exact ⟨[_], rfl⟩ | exact ⟨[_, _], rfl⟩ | exact ⟨[_, _, _], rfl⟩ | exact ⟨[_, _, _, _], rfl⟩ | exact ⟨[_, _, _, _, _], rfl⟩ | exact ⟨[_, _, _, _, _, _], rfl⟩ | exact ⟨[_, _, _, _, _, _, _], rfl⟩ | exact ⟨[_, _, _, _, _, _, _, _], rfl⟩) rfl (.cons (rv_tmp rfl) .nil) ⟨?_, rfl, rfl⟩
  exact congrArg Value.bool (decide_eq_true (Or.inl h)).symm
 ·refine tri_guard_run rfl rfl rfl (tM rfl rfl (tri_guard_run rfl rfl rfl ?_))
  refine tri_v (by first | exact opv_fieldAddr rfl rfl | exact opv_fieldAddrE rfl (by assumption) (by omega) rfl | exact opv_fieldAddrR rfl (by omega) rfl) rfl ?_
  refine tri_guard_run rfl rfl rfl ?_
  refine tri_v (by first | exact opv_load1 rfl rfl rfl | exact opv_loadA rfl rfl rfl | exact opv_loadE1 rfl (by assumption) rfl (by omega) rfl rfl | exact opv_loadEA rfl (by assumption) rfl (by omega) rfl rfl | exact opv_loadRX1 rfl rfl (by omega) rfl rfl | exact opv_loadRXA rfl rfl (by omega) rfl rfl rfl | exact opv_loadIX rfl rfl (by omega) | exact opv_loadR1 rfl rfl rfl | exact opv_loadRA rfl rfl rfl rfl) rfl ?_
  refine tri_guard_run rfl rfl rfl ?_
  refine tri_v (opv_len rfl) rfl ?_
  refine tri_guard_run rfl rfl rfl ?_
  refine tri_v (opv_geq rfl rfl) rfl ?_
  refine tri_v (by first | exact opv_pick_t rfl rfl | exact opv_pick_f rfl rfl | exact opv_pick_bool rfl rfl rfl | exact opv_pick rfl rfl rfl) rfl ?_
  refine tA rfl rfl (tN (tT (tri_ret ?_)))
  refine tri_end _ (by first | exact ⟨[], rfl⟩ | exact ⟨[_], rfl⟩ | exact ⟨[_, _], rfl⟩ | exact ⟨[_, _, _], rfl⟩ | exact ⟨[_, _, _, _], rfl⟩ | exact ⟨[_, _, _, _, _], rfl⟩ | exact ⟨[_, _, _, _, _, _], rfl⟩ | exact ⟨[_, _, _, _, _, _, _], rfl⟩ | exact ⟨[_, _, _, _, _, _, _, _], rfl⟩) rfl (.cons (rv_tmp rfl) .nil) ⟨?_, rfl, rfl⟩
  exact congrArg Value.bool (decide_eq_decide.2 ⟨Or.inr, fun hx => hx.resolve_left h⟩)
set_option maxRecDepth 100000 in
theorem slices_backward {a : Option Addr} {len cap : Nat} :
  FnC Try.prog 37 [.slice a len cap].toArray A I (fun v A' I' => ∃ b, v = .func (.func 42) #[] #[pt b 0] ∧ A' = Box b [.slice a len cap] 23 :: A ∧ I = I') := by
 skip
 refine fn_enter1 Try.func37 rfl Try.ntmps37 rfl fun w0 => ?_
 refine tS (tR ?_)
 first | refine tri_g (opg_box_agg rfl) rfl ?_ | refine tri_g (opg_box1 rfl rfl) rfl ?_
 rintro _ _ _ ⟨b1, rfl, rfl, rfl⟩
 refine tA rfl rfl (tN (tT (tS (tR ?_))))
 refine tri_v (opv_makeFunc (fs := []) (cs := [_]) (vf := []) (vc := [_]) rfl rfl) rfl ?_
 refine tA rfl rfl (tN (tT (tri_ret ?_)))
 refine tri_end _ (by first | exact ⟨[], rfl⟩ | exact ⟨[_], rfl⟩ | exact ⟨[_, _], rfl⟩ | exact ⟨[_, _, _], rfl⟩ | exact ⟨[_, _, _, _], rfl⟩ | exact ⟨[_, _, _, _, _], rfl⟩ | exact ⟨[_, _, _, _, _, _], rfl⟩ | exact ⟨[_, _, _, _, _, _, _], rfl⟩ | exact ⟨[_, _, _, _, _, _, _, _], rfl⟩) rfl (.cons (rv_tmp rfl) .nil) ⟨b1, rfl, rfl, rfl⟩
theorem keyI (i : Int) : Value.int .i64 i = mkv Try.prog 3 [i] := by kernel_rfl
theorem keyIAt : intAt Try.prog 9 3 = some 1 := by kernel_rfl
theorem zeroE (w : World) : (zeroValue 67).run Try.prog w = .ok (.agg #[]) w := by kernel_rfl
/-- The keys of a map are those that are kept. -/
structure KeepIx (es : KVs) (keep : List Bool) : Prop where
 ix : ∀ i : Nat, i < keep.length → (mfind es [(i : Int)]).isSome = keep.getD i default
 val : ∀ k v, mfind es k = some v → v = .agg #[]
theorem KeepIx.set {es : KVs} {keep : List Bool} (h : KeepIx es keep) {q : Int} (hq : 0 ≤ q ∧ q < keep.length) : KeepIx (mset es [q] (.agg #[])) (keep.set q.toNat true) := by
 constructor
 ·intro i hi
  rw [List.length_set] at hi
  rw [mfind_mset, List.getD_eq_getElem?_getD, List.getElem?_set]
  by_cases e : q = (i : Int)
  ·rw [if_pos (by rw [e]), if_pos (by omega), if_pos (by omega)]
   rfl
  ·rw [if_neg (fun hx => e (by injection hx)), if_neg (by omega), ← List.getD_eq_getElem?_getD]
   exact h.ix i hi
 ·intro k v hv
  rw [mfind_mset] at hv
  split at hv
  ·injection hv with hv
   exact hv.symm
  ·exact h.val k v hv
theorem KeepIx.get {es : KVs} {keep : List Bool} (h : KeepIx es keep) (k : List Int) : (mfind es k).getD (.agg #[]) = .agg #[] := by
 cases hm : mfind es k with
 | none => rfl
 | some v => exact h.val k v hm
theorem KeepIx.start {n : Nat} (h : 2 ≤ n) : KeepIx (mset (mset [] [0] (.agg #[])) [1] (.agg #[])) (((List.replicate n false).set 0 true).set 1 true) := by
 have h0 : KeepIx [] (List.replicate n false) := ⟨fun i hi => by
  rw [List.length_replicate] at hi
  rw [List.getD_eq_getElem?_getD, List.getElem?_replicate, if_pos hi]
  rfl, fun k v hv => by cases hv⟩
 exact (h0.set (q := 0) (by rw [List.length_replicate]; omega)).set (q := 1) (by rw [List.length_set, List.length_replicate]; omega)
end Go.GL

set_option linter.unusedVariables false
namespace Go.GL.Rd
open Go.Proofs
attribute [local irreducible] wpListIn Code.wpIn Exit.then Exit.inBlock Ends Tri OpV OpG FnC epf XN RoundC Go.GL.Ends
variable {A : List Asrt} {I : List Chunk}
theorem tri_mid3 {w0 : World} {n : Nat} {F : Frm} {p x1 x2 x3 : Asrt} {L : List Asrt} {K : Act → World → Prop} (h : Tri w0 n F (p :: (L ++ x1 :: x2 :: x3 :: A)) I K) : Tri w0 n F (p :: x1 :: x2 :: x3 :: (L ++ A)) I K :=
 tri_perm (B := p :: (L ++ x1 :: x2 :: x3 :: A)) (List.Perm.cons _ (List.perm_append_comm_assoc [x1, x2, x3] L A)) h
theorem tri_mid3' {w0 : World} {n : Nat} {F : Frm} {p x1 x2 x3 : Asrt} {L : List Asrt} {K : Act → World → Prop} (h : Tri w0 n F (p :: x1 :: x2 :: x3 :: (L ++ A)) I K) : Tri w0 n F (p :: (L ++ x1 :: x2 :: x3 :: A)) I K :=
 tri_perm (B := p :: x1 :: x2 :: x3 :: (L ++ A)) (List.Perm.cons _ (List.perm_append_comm_assoc L [x1, x2, x3] A)) h
set_option maxHeartbeats 1000000 in
set_option maxRecDepth 100000 in
theorem slices_backward1 {S : Nat → List Asrt → Prop} {ns : List Node} {a1 : Option Addr} {c1 l b b1 : Nat} {E T : TypeId} {fnn : FuncId} {tm : Array Value} {ps : Array Tmp} {sg bd : Code} {df : Nat} {L0 : List Asrt} (hn : ns.length ≤ 1000000) (hps : 2 = ps.size)
  (hround : ∀ (i : Nat) (L M : List Asrt), i < ns.length → S (i + 1) L → RoundC Try.prog l ⟨.ready, none, fnn, tm, ps, sg, bd, df⟩ [.int .i64 (i : Nat), nodeV (ns.getD i default)] (L ++ M) I (fun v A' I' => v = .bool true ∧ ∃ L', S i L' ∧ A' = Pt l (.loop ⟨.ready, none, fnn, tm, ps, sg, bd, df⟩) :: (L' ++ M) ∧ I = I')) (hS0 : S ns.length L0) :
  FnC Try.prog 42 [.func (.yield l) #[] #[], pt b1 0].toArray (Pt l (.loop ⟨.ready, none, fnn, tm, ps, sg, bd, df⟩) :: Pt b (.deferred (some [])) :: Box b1 [.slice a1 ns.length c1] T :: Row a1 c1 ns.length E 6 (encs ns) :: (L0 ++ A)) I
   (RangeR l b fun j A' I' => j = none ∧ ∃ L' : List Asrt, S 0 L' ∧ A' = Box b1 [.slice a1 ns.length c1] T :: Row a1 c1 ns.length E 6 (encs ns) :: (L' ++ A) ∧ I = I') := by
 refine fn_enter2 Try.func42 rfl Try.ntmps42 rfl fun w0 => ?_
 refine tri_seq ?_
 refine tri_region ?_
 refine tri_v (by first | exact opv_load1 rfl rfl rfl | exact opv_loadA rfl rfl rfl | exact opv_loadE1 rfl (by assumption) rfl (by omega) rfl rfl | exact opv_loadEA rfl (by assumption) rfl (by omega) rfl rfl | exact opv_loadRX1 rfl rfl (by omega) rfl rfl | exact opv_loadRXA rfl rfl (by omega) rfl rfl rfl | exact opv_loadIX rfl rfl (by omega) | exact opv_loadR1 rfl rfl rfl | exact opv_loadRA rfl rfl rfl rfl) rfl ?_
 refine tri_v (opv_len rfl) rfl ?_
 refine tri_v (by first | exact opv_sub rfl rfl (w64 (by omega) (by omega)) | exact opv_sub rfl rfl rfl) rfl ?_
 refine tri_v (opv_assign rfl) rfl ?_
 refine tri_nil ?_
 refine tri_then ?_
 refine tri_block ?_
 refine tri_sub (F' := [(0, .func (.yield l) #[] #[]), (1, pt b1 0), (3, .int .i64 ((ns.length : Int) - 1))]) ⟨rfl, rfl, rfl, trivial⟩ ?_
 refine loop_ind (G := Nat × List Asrt) (fun g => g.1) (fun g => g.1 ≤ ns.length ∧ S g.1 g.2) (fun g => [(0, .func (.yield l) #[] #[]), (1, pt b1 0), (3, .int .i64 ((g.1 : Int) - 1))]) (fun g => Pt l (.loop ⟨.ready, none, fnn, tm, ps, sg, bd, df⟩) :: Pt b (.deferred (some [])) :: Box b1 [.slice a1 ns.length c1] T :: Row a1 c1 ns.length E 6 (encs ns) :: (g.2 ++ A)) (fun _ => I) ?_ (ns.length, L0) ⟨by simp, hS0⟩
 rintro ⟨q, L⟩ ⟨hq, hS⟩ K hK
 simp only at hq hS hK ⊢
 skip
 refine tri_seq ?_
 refine tri_seq ?_
 refine tri_region ?_
 refine tri_v (opv_move rfl) rfl ?_
 refine tri_v (opv_geq rfl rfl) rfl ?_
 refine tri_nil ?_
 refine tri_then ?_
 refine tri_cond_dec rfl (fun h => ?_) (fun h => ?_)
 ·obtain ⟨i, rfl⟩ : ∃ i, q = i + 1 := ⟨q - 1, by omega⟩
  rw [show ((i + 1 : Nat) : Int) - 1 = (i : Nat) by omega]
  have hi : i < ns.length := by omega
  refine tri_skip ?_
  refine tri_then ?_
  refine tri_seq ?_
  refine tri_block ?_
  refine tri_seq ?_
  refine tri_region ?_
  refine tri_v (opv_move rfl) rfl ?_
  refine tri_v (opv_move rfl) rfl ?_
  refine tri_v (by first | exact opv_load1 rfl rfl rfl | exact opv_loadA rfl rfl rfl | exact opv_loadE1 rfl (by assumption) rfl (by omega) rfl rfl | exact opv_loadEA rfl (by assumption) rfl (by omega) rfl rfl | exact opv_loadRX1 rfl rfl (by omega) rfl rfl | exact opv_loadRXA rfl rfl (by omega) rfl rfl rfl | exact opv_loadIX rfl rfl (by omega) | exact opv_loadR1 rfl rfl rfl | exact opv_loadRA rfl rfl rfl rfl) rfl ?_
  refine tri_v (opv_move rfl) rfl ?_
  refine tri_v (by first | exact opv_indexAddrA rfl rfl (by first | decide | omega) (by first | decide | omega) | exact opv_indexAddrSN rfl rfl (by omega) (by assumption) rfl | exact opv_indexAddrS rfl rfl (by omega) (by omega) (by assumption) rfl | exact opv_indexAddrE rfl (by assumption) (by omega) rfl (by first | decide | omega) (by first | decide | omega) | exact opv_indexAddrRN rfl rfl (by omega) | exact opv_indexAddrR rfl rfl (by omega) (by omega) | exact opv_indexAddrRA rfl (by omega) rfl (by first | decide | omega) (by first | decide | omega)) rfl ?_
  refine tri_v (by first | exact opv_load1 rfl rfl rfl | exact opv_loadA rfl rfl rfl | exact opv_loadE1 rfl (by assumption) rfl (by omega) rfl rfl | exact opv_loadEA rfl (by assumption) rfl (by omega) rfl rfl | exact opv_loadRX1 rfl rfl (by omega) rfl rfl | exact opv_loadRXA rfl rfl (by omega) rfl rfl rfl | exact opv_loadIX rfl rfl (by omega) | exact opv_loadR1 rfl rfl rfl | exact opv_loadRA rfl rfl rfl rfl) rfl ?_
  refine tri_mid3 ?_
  refine tri_yield (xs := [_, _]) rfl rfl (by first | rfl | assumption) (hround i L _ hi hS) rfl ?_
  rintro _ _ _ ⟨rfl, L', hS', rfl, rfl⟩
  refine tri_mid3' ?_
  refine tri_v (by first | exact opv_notD rfl | exact opv_not rfl) rfl ?_
  refine tri_nil ?_
  refine tri_then ?_
  refine tri_cond_false (by first | rfl | exact rfl) ?_
  refine tri_skip ?_
  refine tri_inBlock ?_
  refine tri_then ?_
  refine tri_region ?_
  refine tri_v (opv_move rfl) rfl ?_
  refine tri_v (by first | exact opv_sub rfl rfl (w64 (by omega) (by omega)) | exact opv_sub rfl rfl rfl) rfl ?_
  refine tri_v (opv_assign rfl) rfl ?_
  refine tri_nil ?_
  refine tri_then ?_
  refine tri_sub ?_ (hK (i, L') ⟨by omega, hS'⟩ (by simp only; omega))
  exact ⟨rfl, rfl, rfl, trivial⟩
 ·obtain rfl : q = 0 := by omega
  refine tri_exit ?_
  refine tri_then_exit ?_
  refine tri_then_exit ?_
  refine tri_inBlock_hit rfl ?_
  refine tri_end_n _ ⟨[], rfl⟩ rfl .nil ⟨_, _, rfl, (by intro h; cases h), rfl, L, hS, rfl, rfl⟩
end Go.GL.Rd

set_option linter.unusedVariables false
namespace Go.GL
open Go.Proofs
attribute [local irreducible] wpList Code.wp Exit.then Exit.inBlock Ends Tri TriH OpV OpG FnC epf wpAnyH
variable {A : List Asrt} {I : List Chunk}
theorem R6.Good.emptyF {room : Int} : ∀ (k : Nat) (ns : List Node) (n : Int), R6.Good ns room → R6.Good (R7.emptyF room k ns n).1 room
 | 0, ns, n, h => h
 | k + 1, ns, n, h => by
  unfold R7.emptyF
  split
  ·exact h
  ·exact Good.emptyF k _ _ (h.put _ _ _ _)
set_option maxHeartbeats 1000000 in
set_option maxRecDepth 100000 in
theorem ref06_empty {ns : List Node} {a : Option Addr} {cap : Nat} {room lv : Int} (hs : StA I a cap ns) (hn : ns.length ≤ 1000000000) (hr : R6.Rng ns) :
  FnC Try.prog 22 [storeV a ns.length cap room, .int .i64 lv].toArray A I (StoreR (R6.emptyT ns room lv) room A I) := by
 skip
 refine fn_enter2 Try.func22 rfl Try.ntmps22 rfl fun w0 => ?_
 refine tS (tR ?_)
 first | refine tri_g (opg_box_agg rfl) rfl ?_ | refine tri_g (opg_box1 rfl rfl) rfl ?_
 rintro _ _ _ ⟨b2, rfl, rfl, rfl⟩
 refine tri_g opg_alloc rfl ?_
 rintro _ _ _ ⟨b4, rfl, rfl, rfl⟩
 refine tA rfl rfl (tA rfl rfl (tN (tT (tS (tS (tR ?_))))))
 refine tri_v (by first | exact opv_load1 rfl rfl rfl | exact opv_loadA rfl rfl rfl | exact opv_loadE1 rfl (by assumption) rfl (by omega) rfl rfl | exact opv_loadEA rfl (by assumption) rfl (by omega) rfl rfl | exact opv_loadRX1 rfl rfl (by omega) rfl rfl | exact opv_loadRXA rfl rfl (by omega) rfl rfl rfl | exact opv_loadIX rfl rfl (by omega) | exact opv_loadR1 rfl rfl rfl | exact opv_loadRA rfl rfl rfl rfl) rfl ?_
 refine tri_g (opg_call (xs := [_]) rfl (ref06_right hs.sl hn hr)) rfl ?_
 rintro _ _ _ ⟨rfl, rfl, rfl⟩
 refine tri_v (by first | exact opv_notD rfl | exact opv_not rfl) rfl ?_
 refine tM rfl rfl ?_
 refine tri_split rfl rfl (fun h0 => ?_) (fun h0 => ?_)
 ·refine tri_guard_skip rfl rfl rfl rfl (tri_guard_skip rfl rfl rfl rfl ?_)
  refine tri_v (by first | exact opv_pick_t rfl rfl | exact opv_pick_f rfl rfl | exact opv_pick_bool rfl rfl rfl | exact opv_pick rfl rfl rfl) rfl ?_
  refine tM rfl rfl (tri_guard_skip rfl rfl rfl rfl (tri_guard_skip rfl rfl rfl rfl ?_))
  refine tri_v (by first | exact opv_pick_t rfl rfl | exact opv_pick_f rfl rfl | exact opv_pick_bool rfl rfl rfl | exact opv_pick rfl rfl rfl) rfl ?_
  refine tN (tT ?_)
  refine tri_cond_true rfl ?_
  refine tS (tR ?_)
  refine tri_v (by first | exact opv_load1 rfl rfl rfl | exact opv_loadA rfl rfl rfl | exact opv_loadE1 rfl (by assumption) rfl (by omega) rfl rfl | exact opv_loadEA rfl (by assumption) rfl (by omega) rfl rfl | exact opv_loadRX1 rfl rfl (by omega) rfl rfl | exact opv_loadRXA rfl rfl (by omega) rfl rfl rfl | exact opv_loadIX rfl rfl (by omega) | exact opv_loadR1 rfl rfl rfl | exact opv_loadRA rfl rfl rfl rfl) rfl ?_
  refine tri_g (opg_store rfl rfl rfl rfl rfl rfl) rfl ?_
  rintro _ _ _ ⟨rfl, rfl⟩
  refine tA rfl rfl (tA rfl rfl (tN (tT (tri_ret (tri_then_ret ?_)))))
  refine tri_end A Suf.h rfl (.cons (rv_cellA rfl rfl rfl) (.cons (rv_tmp rfl) (.cons (rv_tmp rfl) .nil))) ?_
  rw [show R6.emptyT ns room lv = (ns, 0, 1) by unfold R6.emptyT R6.told; rw [if_neg h0]; split <;> rfl]
  exact ⟨a, cap, rfl, hs, rfl, fun _ h => h⟩
 refine tri_guard_run rfl rfl rfl (tM rfl rfl (tri_guard_run rfl rfl rfl ?_))
 refine tri_v (opv_lss rfl rfl) rfl ?_
 refine tri_v (by first | exact opv_pick_t rfl rfl | exact opv_pick_f rfl rfl | exact opv_pick_bool rfl rfl rfl | exact opv_pick rfl rfl rfl) rfl ?_
 refine tM rfl rfl ?_
 refine tri_split rfl rfl (fun h1 => ?_) (fun h1 => ?_)
 ·refine tri_guard_skip rfl rfl rfl rfl (tri_guard_skip rfl rfl rfl rfl ?_)
  refine tri_v (by first | exact opv_pick_t rfl rfl | exact opv_pick_f rfl rfl | exact opv_pick_bool rfl rfl rfl | exact opv_pick rfl rfl rfl) rfl ?_
  refine tN (tT ?_)
  refine tri_cond_true rfl ?_
  refine tS (tR ?_)
  refine tri_v (by first | exact opv_load1 rfl rfl rfl | exact opv_loadA rfl rfl rfl | exact opv_loadE1 rfl (by assumption) rfl (by omega) rfl rfl | exact opv_loadEA rfl (by assumption) rfl (by omega) rfl rfl | exact opv_loadRX1 rfl rfl (by omega) rfl rfl | exact opv_loadRXA rfl rfl (by omega) rfl rfl rfl | exact opv_loadIX rfl rfl (by omega) | exact opv_loadR1 rfl rfl rfl | exact opv_loadRA rfl rfl rfl rfl) rfl ?_
  refine tri_g (opg_store rfl rfl rfl rfl rfl rfl) rfl ?_
  rintro _ _ _ ⟨rfl, rfl⟩
  refine tA rfl rfl (tA rfl rfl (tN (tT (tri_ret (tri_then_ret ?_)))))
  refine tri_end A Suf.h rfl (.cons (rv_cellA rfl rfl rfl) (.cons (rv_tmp rfl) (.cons (rv_tmp rfl) .nil))) ?_
  rw [show R6.emptyT ns room lv = (ns, 0, 1) from if_pos (.inl h1)]
  exact ⟨a, cap, rfl, hs, rfl, fun _ h => h⟩
 refine tri_guard_run rfl rfl rfl (tM rfl rfl (tri_guard_run rfl rfl rfl ?_))
 refine tri_v (opv_gtr rfl rfl) rfl ?_
 refine tri_v (by first | exact opv_pick_t rfl rfl | exact opv_pick_f rfl rfl | exact opv_pick_bool rfl rfl rfl | exact opv_pick rfl rfl rfl) rfl ?_
 refine tN (tT ?_)
 refine tri_cond_dec rfl (fun h2 => ?_) (fun h2 => ?_)
 ·refine tS (tR ?_)
  refine tri_v (by first | exact opv_load1 rfl rfl rfl | exact opv_loadA rfl rfl rfl | exact opv_loadE1 rfl (by assumption) rfl (by omega) rfl rfl | exact opv_loadEA rfl (by assumption) rfl (by omega) rfl rfl | exact opv_loadRX1 rfl rfl (by omega) rfl rfl | exact opv_loadRXA rfl rfl (by omega) rfl rfl rfl | exact opv_loadIX rfl rfl (by omega) | exact opv_loadR1 rfl rfl rfl | exact opv_loadRA rfl rfl rfl rfl) rfl ?_
  refine tri_g (opg_store rfl rfl rfl rfl rfl rfl) rfl ?_
  rintro _ _ _ ⟨rfl, rfl⟩
  refine tA rfl rfl (tA rfl rfl (tN (tT (tri_ret (tri_then_ret ?_)))))
  refine tri_end A Suf.h rfl (.cons (rv_cellA rfl rfl rfl) (.cons (rv_tmp rfl) (.cons (rv_tmp rfl) .nil))) ?_
  rw [show R6.emptyT ns room lv = (ns, 0, 1) from if_pos (.inr h2)]
  exact ⟨a, cap, rfl, hs, rfl, fun _ h => h⟩
 refine tri_skip (tT (tS (tR ?_)))
 refine tri_v (by first | exact opv_load1 rfl rfl rfl | exact opv_loadA rfl rfl rfl | exact opv_loadE1 rfl (by assumption) rfl (by omega) rfl rfl | exact opv_loadEA rfl (by assumption) rfl (by omega) rfl rfl | exact opv_loadRX1 rfl rfl (by omega) rfl rfl | exact opv_loadRXA rfl rfl (by omega) rfl rfl rfl | exact opv_loadIX rfl rfl (by omega) | exact opv_loadR1 rfl rfl rfl | exact opv_loadRA rfl rfl rfl rfl) rfl ?_
 refine tri_g opg_alloc rfl ?_
 rintro _ _ _ ⟨b7, rfl, rfl, rfl⟩
 refine tri_g (opg_store rfl rfl rfl rfl rfl rfl) rfl ?_
 rintro _ _ _ ⟨rfl, rfl⟩
 refine tN (tT (tS (tR (tA rfl rfl (tN (tT (tS ?_)))))))
 refine tS (tR (tA rfl rfl (tN (tT (tri_block ?_)))))
 have h0' : R6.right ns room := Decidable.not_not.1 h0
 obtain ⟨l, rfl⟩ : ∃ l : Nat, lv = l := ⟨lv.toNat, by omega⟩
 have hE : R6.emptyT ns room (l : Int) = if (R7.empty ns room l).2.2 ≠ 0 then (ns, 0, (R7.empty ns room l).2.2) else R7.empty ns room l := (if_neg (by omega)).trans (if_pos h0')
 refine tri_sub (F' := [(1, .int .i64 (l : Nat)), (2, pt b2 0), (4, pt b4 0), (7, pt b7 0), (8, .int .i64 0), (9, .int .i64 (0 : Nat))]) ⟨rfl, rfl, rfl, rfl, rfl, rfl, trivial⟩ ?_
 refine loop_ind (G := Nat × List Node × Int × Option Addr × Nat × List Chunk) (fun g => l - g.1) (fun g => g.1 ≤ l ∧ R6.Good g.2.1 room ∧ StA g.2.2.2.2.2 g.2.2.2.1 g.2.2.2.2.1 g.2.1 ∧ R7.empty ns room l = R7.emptyF room (l - g.1) g.2.1 g.2.2.1 ∧ I ⊆ g.2.2.2.2.2) (fun g => [(1, .int .i64 (l : Nat)), (2, pt b2 0), (4, pt b4 0), (7, pt b7 0), (8, .int .i64 g.2.2.1), (9, .int .i64 (g.1 : Nat))])
  (fun g => Box b7 [.slice g.2.2.2.1 g.2.1.length g.2.2.2.2.1, .int .i64 room] 25 :: Box b4 [.slice none 0 0, .int .i64 0] 25 :: Box b2 [.slice a ns.length cap, .int .i64 room] 25 :: A) (fun g => g.2.2.2.2.2) ?_ (0, ns, 0, a, cap, I) ⟨by simp, h0'.good (by have := h0'.1.2.1; omega), hs, rfl, fun _ h => h⟩
 rintro ⟨i, ns1, n1, a1, c1, J⟩ ⟨hi1, hg1, hs1, he, hJ⟩ K hK
 simp only at hi1 hg1 hs1 he hJ hK ⊢
 skip
 refine tS (tS (tR (tM rfl rfl (tM rfl rfl ?_))))
 refine tri_v (opv_lss rfl rfl) rfl ?_
 refine tN (tT ?_)
 refine tri_cond_dec rfl (fun h => ?_) (fun h => ?_)
 ·have hlt : i < l := by omega
  rw [show l - i = (l - (i + 1)) + 1 by omega] at he
  unfold R7.emptyF at he
  refine tri_skip (tT (tS (tri_block (tS (tR ?_)))))
  refine tri_v (by first | exact opv_load1 rfl rfl rfl | exact opv_loadA rfl rfl rfl | exact opv_loadE1 rfl (by assumption) rfl (by omega) rfl rfl | exact opv_loadEA rfl (by assumption) rfl (by omega) rfl rfl | exact opv_loadRX1 rfl rfl (by omega) rfl rfl | exact opv_loadRXA rfl rfl (by omega) rfl rfl rfl | exact opv_loadIX rfl rfl (by omega) | exact opv_loadR1 rfl rfl rfl | exact opv_loadRA rfl rfl rfl rfl) rfl ?_
  refine tM rfl rfl (tM rfl rfl (tM rfl rfl (tM rfl rfl ?_)))
  refine tri_v (by first | exact opv_buildS rfl rfl | exact opv_buildA rfl rfl) rfl ?_
  refine tri_g (opg_call (xs := [_, _]) rfl (ref06_put (room := room) (q0 := n1) (q1 := n1) (q2 := n1) (q3 := n1) hs1 hg1.len hg1.mod)) rfl ?_
  rintro _ _ J2 ⟨a2, c2, rfl, hs2, rfl, hJ2⟩
  obtain ⟨r, hr⟩ : ∃ r, R6.put ns1 room n1 n1 n1 n1 = r := ⟨_, rfl⟩
  have hg2 := hg1.put n1 n1 n1 n1
  rw [hr] at he hs2 hg2 ⊢
  refine tM rfl rfl ?_
  refine tri_v (opv_extract rfl rfl) rfl ?_
  refine tri_v (opv_extract rfl rfl) rfl ?_
  refine tri_v (opv_extract rfl rfl) rfl ?_
  refine tri_g opg_alloc rfl ?_
  rintro _ _ _ ⟨b10, rfl, rfl, rfl⟩
  refine tri_g (opg_store rfl rfl rfl rfl rfl rfl) rfl ?_
  rintro _ _ _ ⟨rfl, rfl⟩
  refine tA rfl rfl (tA rfl rfl (tN (tT (tS (tS (tR (tM rfl rfl ?_)))))))
  refine tri_v (by first | exact opv_neq rfl rfl | exact opv_neqI rfl rfl rfl rfl rfl rfl | exact opv_neqB rfl rfl) rfl ?_
  refine tN (tT ?_)
  refine tri_cond_dec rfl (fun x => ?_) (fun x => ?_)
  ·rw [if_pos x] at he
   refine tS (tR ?_)
   refine tri_v (by first | exact opv_load1 rfl rfl rfl | exact opv_loadA rfl rfl rfl | exact opv_loadE1 rfl (by assumption) rfl (by omega) rfl rfl | exact opv_loadEA rfl (by assumption) rfl (by omega) rfl rfl | exact opv_loadRX1 rfl rfl (by omega) rfl rfl | exact opv_loadRXA rfl rfl (by omega) rfl rfl rfl | exact opv_loadIX rfl rfl (by omega) | exact opv_loadR1 rfl rfl rfl | exact opv_loadRA rfl rfl rfl rfl) rfl ?_
   refine tM rfl rfl ?_
   refine tri_g (opg_store rfl rfl rfl rfl rfl rfl) rfl ?_
   rintro _ _ _ ⟨rfl, rfl⟩
   refine tA rfl rfl (tA rfl rfl (tN (tT (tri_ret (tri_then_ret ?_)))))
   refine tri_inBlock_ret ?_
   refine tri_then_ret (tri_then_ret ?_)
   refine tri_inBlock_ret ?_
   refine tri_then_ret ?_
   refine tri_end A Suf.h rfl (.cons (rv_cellA rfl rfl rfl) (.cons (rv_tmp rfl) (.cons (rv_tmp rfl) .nil))) ?_
   rw [hE, he, if_pos x]
   exact ⟨a, cap, rfl, (hs.mono hJ).mono hJ2, rfl, fun _ h => hJ2 (hJ h)⟩
  ·rw [if_neg x] at he
   refine tri_skip (tT (tS (tR ?_)))
   refine tri_v (by first | exact opv_load1 rfl rfl rfl | exact opv_loadA rfl rfl rfl | exact opv_loadE1 rfl (by assumption) rfl (by omega) rfl rfl | exact opv_loadEA rfl (by assumption) rfl (by omega) rfl rfl | exact opv_loadRX1 rfl rfl (by omega) rfl rfl | exact opv_loadRXA rfl rfl (by omega) rfl rfl rfl | exact opv_loadIX rfl rfl (by omega) | exact opv_loadR1 rfl rfl rfl | exact opv_loadRA rfl rfl rfl rfl) rfl ?_
   refine tri_g (opg_store rfl rfl rfl rfl rfl rfl) rfl ?_
   rintro _ _ _ ⟨rfl, rfl⟩
   refine tN (tT (tR (tM rfl rfl (tA rfl rfl (tN ?_)))))
   refine tri_inBlock ?_
   refine tT (tR (tM rfl rfl ?_))
   refine tri_v (by first | exact opv_add rfl rfl (w64 (by omega) (by omega))) rfl ?_
   refine tA rfl rfl (tN (tT ?_))
   refine tri_drop ?_
   refine tri_sub ?_ (hK (i + 1, r.1, r.2.1, a2, c2, J2) ⟨by simp only; omega, hg2, hs2, he, fun _ h => hJ2 (hJ h)⟩ (by simp only; omega))
   exact ⟨rfl, rfl, rfl, rfl, rfl, rfl, trivial⟩
 ·obtain rfl : i = l := by omega
  rw [Nat.sub_self] at he
  unfold R7.emptyF at he
  refine tri_exit ?_
  refine tri_then_exit ?_
  refine tri_then_exit ?_
  refine tri_inBlock_hit rfl ?_
  refine tT (tS (tR ?_))
  refine tri_v (by first | exact opv_load1 rfl rfl rfl | exact opv_loadA rfl rfl rfl | exact opv_loadE1 rfl (by assumption) rfl (by omega) rfl rfl | exact opv_loadEA rfl (by assumption) rfl (by omega) rfl rfl | exact opv_loadRX1 rfl rfl (by omega) rfl rfl | exact opv_loadRXA rfl rfl (by omega) rfl rfl rfl | exact opv_loadIX rfl rfl (by omega) | exact opv_loadR1 rfl rfl rfl | exact opv_loadRA rfl rfl rfl rfl) rfl ?_
  refine tM rfl rfl ?_
  refine tri_g (opg_store rfl rfl rfl rfl rfl rfl) rfl ?_
  rintro _ _ _ ⟨rfl, rfl⟩
  refine tA rfl rfl (tA rfl rfl (tN (tT (tri_ret ?_))))
  refine tri_end A Suf.h rfl (.cons (rv_cellA rfl rfl rfl) (.cons (rv_tmp rfl) (.cons (rv_tmp rfl) .nil))) ?_
  rw [hE, he, if_neg (fun h => h rfl)]
  exact ⟨a1, c1, rfl, hs1, rfl, hJ⟩
end Go.GL

set_option linter.unusedVariables false
namespace Go.GL
open Go.Proofs
attribute [local irreducible] wpList Code.wp Exit.then Exit.inBlock Ends Tri TriH OpV OpG FnC epf wpAnyH
variable {A : List Asrt} {I : List Chunk}
theorem encs_rep {α : Type} [Enc α] {x : α} {v : Value} (h : Enc.enc x = [v]) (n : Nat) : List.replicate n v = encs (List.replicate n x) := by
 unfold encs
 rw [List.flatMap_replicate, h]
 exact (List.flatten_replicate_singleton).symm
theorem R6.live_bad {ns : List Node} {room : Int} {roots : List Int} (h : ¬ (R6.right ns room ∧ ∀ i, i < roots.length → R6.inS ns (roots.getD i default))) : R6.live ns room roots = (ns, [], 1) := if_neg h
theorem R6.liveStep_len {ns : List Node} {keep : List Bool} : ∀ i, ((List.range i).foldl (R6.liveStep ns keep) (List.replicate ns.length 0, [])).1.length = ns.length ∧ ((List.range i).foldl (R6.liveStep ns keep) (List.replicate ns.length 0, [])).2.length ≤ i
 | 0 => by simp
 | i + 1 => by
  have ih := liveStep_len (ns := ns) (keep := keep) i
  rw [List.range_succ, List.foldl_append, List.foldl_cons, List.foldl_nil]
  generalize (List.range i).foldl (R6.liveStep ns keep) (List.replicate ns.length 0, []) = s at *
  unfold R6.liveStep
  split
  ·simp only [List.length_set, List.length_append, List.length_singleton]
   omega
  ·omega
set_option maxHeartbeats 4000000 in
set_option maxRecDepth 100000 in
theorem ref06_live {ns : List Node} {roots : List Int} {a ar : Option Addr} {cap capr : Nat} {room : Int} (hs : StA I a cap ns) (hn : ns.length ≤ 1000000) (hr : R6.Rng ns) (hsr : SlAt I ar roots) (hrl : roots.length ≤ 1000000) :
  FnC Try.prog 24 [storeV a ns.length cap room, .slice ar roots.length capr].toArray A I (LiveR (R6.live ns room roots) room A I) := by
 have hsl := hs.sl
 skip
 skip
 refine fn_enter2 Try.func24 rfl Try.ntmps24 rfl fun w0 => ?_
 refine tS (tR ?_)
 first | refine tri_g (opg_box_agg rfl) rfl ?_ | refine tri_g (opg_box1 rfl rfl) rfl ?_
 rintro _ _ _ ⟨b2, rfl, rfl, rfl⟩
 refine tri_g opg_alloc rfl ?_
 rintro _ _ _ ⟨b4, rfl, rfl, rfl⟩
 refine tA rfl rfl (tA rfl rfl (tN (tT (tS (tS (tR ?_))))))
 refine tri_v (by first | exact opv_load1 rfl rfl rfl | exact opv_loadA rfl rfl rfl | exact opv_loadE1 rfl (by assumption) rfl (by omega) rfl rfl | exact opv_loadEA rfl (by assumption) rfl (by omega) rfl rfl | exact opv_loadRX1 rfl rfl (by omega) rfl rfl | exact opv_loadRXA rfl rfl (by omega) rfl rfl rfl | exact opv_loadIX rfl rfl (by omega) | exact opv_loadR1 rfl rfl rfl | exact opv_loadRA rfl rfl rfl rfl) rfl ?_
 refine tri_g (opg_call (xs := [_]) rfl (ref06_right hs.sl (by omega) hr)) rfl ?_
 rintro _ _ _ ⟨rfl, rfl, rfl⟩
 refine tri_v (by first | exact opv_notD rfl | exact opv_not rfl) rfl ?_
 refine tN (tT ?_)
 refine tri_cond_dec rfl (fun h0 => ?_) (fun h0 => ?_)
 ·refine tS (tR ?_)
  refine tri_v (by first | exact opv_load1 rfl rfl rfl | exact opv_loadA rfl rfl rfl | exact opv_loadE1 rfl (by assumption) rfl (by omega) rfl rfl | exact opv_loadEA rfl (by assumption) rfl (by omega) rfl rfl | exact opv_loadRX1 rfl rfl (by omega) rfl rfl | exact opv_loadRXA rfl rfl (by omega) rfl rfl rfl | exact opv_loadIX rfl rfl (by omega) | exact opv_loadR1 rfl rfl rfl | exact opv_loadRA rfl rfl rfl rfl) rfl ?_
  refine tri_g (opg_store rfl rfl rfl rfl rfl rfl) rfl ?_
  rintro _ _ _ ⟨rfl, rfl⟩
  refine tA rfl rfl (tA rfl rfl (tN (tT (tri_ret (tri_then_ret ?_)))))
  refine tri_end A Suf.h rfl (.cons (rv_cellA rfl rfl rfl) (.cons (rv_tmp rfl) (.cons (rv_tmp rfl) .nil))) ?_
  rw [R6.live_bad (fun h => h0 h.1)]
  exact ⟨a, cap, none, 0, rfl, hs, SlAt.nil, rfl, fun _ h => h⟩
 refine tri_skip (tT (tS (tR ?_)))
 refine tri_v (by first | exact opv_fieldAddr rfl rfl | exact opv_fieldAddrE rfl (by assumption) (by omega) rfl | exact opv_fieldAddrR rfl (by omega) rfl) rfl ?_
 refine tri_v (by first | exact opv_load1 rfl rfl rfl | exact opv_loadA rfl rfl rfl | exact opv_loadE1 rfl (by assumption) rfl (by omega) rfl rfl | exact opv_loadEA rfl (by assumption) rfl (by omega) rfl rfl | exact opv_loadRX1 rfl rfl (by omega) rfl rfl | exact opv_loadRXA rfl rfl (by omega) rfl rfl rfl | exact opv_loadIX rfl rfl (by omega) | exact opv_loadR1 rfl rfl rfl | exact opv_loadRA rfl rfl rfl rfl) rfl ?_
 refine tri_v (opv_len rfl) rfl ?_
 have hrt : R6.right ns room := Decidable.not_not.1 h0
 have hn2 : 2 ≤ ns.length := hrt.1.2.2.1
 have hkid := fun i hi => hrt.kid (i := i) hi
 refine tri_g (opg_makeSlice rfl rfl rfl (by omega) (by omega) (by omega)) rfl ?_
 rintro _ _ _ ⟨a7, ha7, rfl, rfl, rfl⟩
 rw [show ((ns.length : Nat) : Int).toNat = ns.length from rfl]
 refine tri_rowEq (len' := ns.length) (cells' := encs (List.replicate ns.length false)) rfl (encs_rep rfl _) ?_
 refine tA rfl rfl (tN (tT (tS (tR (tM rfl rfl ?_)))))
 refine tri_v (by first | exact opv_indexAddrA rfl rfl (by first | decide | omega) (by first | decide | omega) | exact opv_indexAddrSN rfl rfl (by omega) (by assumption) rfl | exact opv_indexAddrS rfl rfl (by omega) (by omega) (by assumption) rfl | exact opv_indexAddrE rfl (by assumption) (by omega) rfl (by first | decide | omega) (by first | decide | omega) | exact opv_indexAddrRN rfl rfl (by omega) | exact opv_indexAddrR rfl rfl (by omega) (by omega) | exact opv_indexAddrRA rfl (by omega) rfl (by first | decide | omega) (by first | decide | omega)) rfl ?_
 refine tri_g (opg_storeRX true rfl rfl rfl (by rw [List.length_replicate]; exact Nat.lt_of_lt_of_le (by decide) hn2) (List.length_replicate).symm rfl rfl rfl rfl) rfl ?_
 rintro _ _ _ ⟨rfl, rfl⟩
 refine tN (tT (tS (tR (tM rfl rfl ?_))))
 refine tri_v (by first | exact opv_indexAddrA rfl rfl (by first | decide | omega) (by first | decide | omega) | exact opv_indexAddrSN rfl rfl (by omega) (by assumption) rfl | exact opv_indexAddrS rfl rfl (by omega) (by omega) (by assumption) rfl | exact opv_indexAddrE rfl (by assumption) (by omega) rfl (by first | decide | omega) (by first | decide | omega) | exact opv_indexAddrRN rfl rfl (by omega) | exact opv_indexAddrR rfl rfl (by omega) (by omega) | exact opv_indexAddrRA rfl (by omega) rfl (by first | decide | omega) (by first | decide | omega)) rfl ?_
 refine tri_g (opg_storeRX true rfl rfl rfl (by rw [List.length_set, List.length_replicate]; exact hn2) (by rw [List.length_set, List.length_replicate]) rfl rfl rfl rfl) rfl ?_
 rintro _ _ _ ⟨rfl, rfl⟩
 refine tN (tT (tS (tS (tR (tA rfl rfl (tN (tT ?_)))))))
 refine tri_cut (fun F' A' J => F' = [(1, .slice ar roots.length capr), (2, pt b2 0), (4, pt b4 0), (7, .slice a7 ns.length ns.length)] ∧ A' = Row a7 ns.length ns.length 4 1 (encs (R6.keepRoots ns.length roots)) :: Box b4 [.slice none 0 0, .int .i64 0] 25 :: Box b2 [.slice a ns.length cap, .int .i64 room] 25 :: A ∧ I = J ∧ ∀ i, i < roots.length → R6.inS ns (roots.getD i default)) ?_ ?_
 ·refine tri_block ?_
  refine tri_sub (F' := [(1, .slice ar roots.length capr), (2, pt b2 0), (4, pt b4 0), (7, .slice a7 ns.length ns.length), (8, .int .i64 (0 : Nat))]) ⟨rfl, rfl, rfl, rfl, rfl, trivial⟩ ?_
  refine loop_ind (G := Nat × List Bool) (fun g => roots.length - g.1) (fun g => g.1 ≤ roots.length ∧ g.2.length = ns.length ∧ g.2 = (roots.take g.1).foldl (fun keep r => keep.set r.toNat true) (((List.replicate ns.length false).set 0 true).set 1 true) ∧ ∀ j, j < g.1 → R6.inS ns (roots.getD j default)) (fun g => [(1, .slice ar roots.length capr), (2, pt b2 0), (4, pt b4 0), (7, .slice a7 ns.length ns.length), (8, .int .i64 (g.1 : Nat))])
   (fun g => Row a7 ns.length ns.length 4 1 (encs g.2) :: Box b4 [.slice none 0 0, .int .i64 0] 25 :: Box b2 [.slice a ns.length cap, .int .i64 room] 25 :: A) (fun _ => I) ?_ (0, ((List.replicate ns.length false).set 0 true).set 1 true) ⟨by simp, by simp, rfl, fun j h => absurd h (by simp)⟩
  rintro ⟨i, keep⟩ ⟨hi, hkl, hke, hin⟩ K hK
  simp only at hi hkl hke hin hK ⊢
  skip
  refine tS (tS (tR (tM rfl rfl (tM rfl rfl ?_))))
  refine tri_v (opv_len rfl) rfl ?_
  refine tri_v (opv_lss rfl rfl) rfl ?_
  refine tN (tT ?_)
  refine tri_cond_dec rfl (fun h => ?_) (fun h => ?_)
  ·have hlt : i < roots.length := by omega
   refine tri_skip (tT (tS (tri_block (tS (tS ?_)))))
   refine tri_draw [0, 1, 2, 3, 4, 5, 6, 7, 8, 9, 10, 11, 12, 13, 14] rfl [] rfl mixed ?_
   refine th_take rfl rfl (by kernel_rfl)  (opv_move rfl) ?_
   refine th_take rfl rfl (by kernel_rfl)  (opv_move rfl) ?_
   refine th_take rfl rfl (by kernel_rfl)  (by first | exact opv_indexAddrA rfl rfl (by first | decide | omega) (by first | decide | omega) | exact opv_indexAddrSN rfl rfl (by omega) (by assumption) rfl | exact opv_indexAddrS rfl rfl (by omega) (by omega) (by assumption) rfl | exact opv_indexAddrE rfl (by assumption) (by omega) rfl (by first | decide | omega) (by first | decide | omega) | exact opv_indexAddrRN rfl rfl (by omega) | exact opv_indexAddrR rfl rfl (by omega) (by omega) | exact opv_indexAddrRA rfl (by omega) rfl (by first | decide | omega) (by first | decide | omega)) ?_
   refine th_take rfl rfl (by kernel_rfl)  (by first | exact opv_load1 rfl rfl rfl | exact opv_loadA rfl rfl rfl | exact opv_loadE1 rfl (by assumption) rfl (by omega) rfl rfl | exact opv_loadEA rfl (by assumption) rfl (by omega) rfl rfl | exact opv_loadRX1 rfl rfl (by omega) rfl rfl | exact opv_loadRXA rfl rfl (by omega) rfl rfl rfl | exact opv_loadIX rfl rfl (by omega) | exact opv_loadR1 rfl rfl rfl | exact opv_loadRA rfl rfl rfl rfl) ?_
   refine th_take rfl rfl (by kernel_rfl)  (opv_lss rfl rfl) ?_
   refine th_take rfl rfl (by kernel_rfl)  (opv_move rfl) ?_
   refine th_split rfl rfl rfl (fun h5 => ?_) (fun h5 => ?_)
   ·refine th_skip rfl rfl rfl rfl rfl (by kernel_rfl)  ?_
    refine th_skip rfl rfl rfl rfl rfl (by kernel_rfl)  ?_
    refine th_skip rfl rfl rfl rfl rfl (by kernel_rfl)  ?_
    refine th_skip rfl rfl rfl rfl rfl (by kernel_rfl)  ?_
    refine th_skip rfl rfl rfl rfl rfl (by kernel_rfl)  ?_
    refine th_skip rfl rfl rfl rfl rfl (by kernel_rfl)  ?_
    refine th_skip rfl rfl rfl rfl rfl (by kernel_rfl)  ?_
    refine th_skip rfl rfl rfl rfl rfl (by kernel_rfl)  ?_
    refine th_take rfl rfl (by kernel_rfl)  (by first | exact opv_pick_t rfl rfl | exact opv_pick_f rfl rfl | exact opv_pick_bool rfl rfl rfl | exact opv_pick rfl rfl rfl) ?_
    refine th_done (by kernel_rfl) ?_
    refine tT ?_
    refine tri_cond_true rfl ?_
    refine tS (tR ?_)
    refine tri_v (by first | exact opv_load1 rfl rfl rfl | exact opv_loadA rfl rfl rfl | exact opv_loadE1 rfl (by assumption) rfl (by omega) rfl rfl | exact opv_loadEA rfl (by assumption) rfl (by omega) rfl rfl | exact opv_loadRX1 rfl rfl (by omega) rfl rfl | exact opv_loadRXA rfl rfl (by omega) rfl rfl rfl | exact opv_loadIX rfl rfl (by omega) | exact opv_loadR1 rfl rfl rfl | exact opv_loadRA rfl rfl rfl rfl) rfl ?_
    refine tri_g (opg_store rfl rfl rfl rfl rfl rfl) rfl ?_
    rintro _ _ _ ⟨rfl, rfl⟩
    refine tA rfl rfl (tA rfl rfl (tN (tT (tri_ret (tri_then_ret ?_)))))
    refine tri_inBlock_ret ?_
    refine tri_then_ret (tri_then_ret ?_)
    refine tri_inBlock_ret ?_
    refine tri_cut_ret ?_
    refine tri_then_ret ?_
    refine tri_end A Suf.h rfl (.cons (rv_cellA rfl rfl rfl) (.cons (rv_tmp rfl) (.cons (rv_tmp rfl) .nil))) ?_
    rw [R6.live_bad (fun h => by have := (h.2 i hlt).1; omega)]
    exact ⟨a, cap, none, 0, rfl, hs, SlAt.nil, rfl, fun _ h => h⟩
   refine th_take_g rfl rfl rfl rfl rfl (by kernel_rfl)  (opv_move rfl) ?_
   refine th_take_g rfl rfl rfl rfl rfl (by kernel_rfl)  (opv_move rfl) ?_
   refine th_take_g rfl rfl rfl rfl rfl (by kernel_rfl)  (by first | exact opv_indexAddrA rfl rfl (by first | decide | omega) (by first | decide | omega) | exact opv_indexAddrSN rfl rfl (by omega) (by assumption) rfl | exact opv_indexAddrS rfl rfl (by omega) (by omega) (by assumption) rfl | exact opv_indexAddrE rfl (by assumption) (by omega) rfl (by first | decide | omega) (by first | decide | omega) | exact opv_indexAddrRN rfl rfl (by omega) | exact opv_indexAddrR rfl rfl (by omega) (by omega) | exact opv_indexAddrRA rfl (by omega) rfl (by first | decide | omega) (by first | decide | omega)) ?_
   refine th_take_g rfl rfl rfl rfl rfl (by kernel_rfl)  (by first | exact opv_load1 rfl rfl rfl | exact opv_loadA rfl rfl rfl | exact opv_loadE1 rfl (by assumption) rfl (by omega) rfl rfl | exact opv_loadEA rfl (by assumption) rfl (by omega) rfl rfl | exact opv_loadRX1 rfl rfl (by omega) rfl rfl | exact opv_loadRXA rfl rfl (by omega) rfl rfl rfl | exact opv_loadIX rfl rfl (by omega) | exact opv_loadR1 rfl rfl rfl | exact opv_loadRA rfl rfl rfl rfl) ?_
   refine th_take_g rfl rfl rfl rfl rfl (by kernel_rfl)  (by first | exact opv_fieldAddr rfl rfl | exact opv_fieldAddrE rfl (by assumption) (by omega) rfl | exact opv_fieldAddrR rfl (by omega) rfl) ?_
   refine th_take_g rfl rfl rfl rfl rfl (by kernel_rfl)  (by first | exact opv_load1 rfl rfl rfl | exact opv_loadA rfl rfl rfl | exact opv_loadE1 rfl (by assumption) rfl (by omega) rfl rfl | exact opv_loadEA rfl (by assumption) rfl (by omega) rfl rfl | exact opv_loadRX1 rfl rfl (by omega) rfl rfl | exact opv_loadRXA rfl rfl (by omega) rfl rfl rfl | exact opv_loadIX rfl rfl (by omega) | exact opv_loadR1 rfl rfl rfl | exact opv_loadRA rfl rfl rfl rfl) ?_
   refine th_take_g rfl rfl rfl rfl rfl (by kernel_rfl)  (opv_len rfl) ?_
   refine th_take_g rfl rfl rfl rfl rfl (by kernel_rfl)  (opv_geq rfl rfl) ?_
   refine th_take rfl rfl (by kernel_rfl)  (by first | exact opv_pick_t rfl rfl | exact opv_pick_f rfl rfl | exact opv_pick_bool rfl rfl rfl | exact opv_pick rfl rfl rfl) ?_
   refine th_done (by kernel_rfl) ?_
   refine tT ?_
   refine tri_cond_dec rfl (fun h6 => ?_) (fun h6 => ?_)
   ·refine tS (tR ?_)
    refine tri_v (by first | exact opv_load1 rfl rfl rfl | exact opv_loadA rfl rfl rfl | exact opv_loadE1 rfl (by assumption) rfl (by omega) rfl rfl | exact opv_loadEA rfl (by assumption) rfl (by omega) rfl rfl | exact opv_loadRX1 rfl rfl (by omega) rfl rfl | exact opv_loadRXA rfl rfl (by omega) rfl rfl rfl | exact opv_loadIX rfl rfl (by omega) | exact opv_loadR1 rfl rfl rfl | exact opv_loadRA rfl rfl rfl rfl) rfl ?_
    refine tri_g (opg_store rfl rfl rfl rfl rfl rfl) rfl ?_
    rintro _ _ _ ⟨rfl, rfl⟩
    refine tA rfl rfl (tA rfl rfl (tN (tT (tri_ret (tri_then_ret ?_)))))
    refine tri_inBlock_ret ?_
    refine tri_then_ret (tri_then_ret ?_)
    refine tri_inBlock_ret ?_
    refine tri_cut_ret ?_
    refine tri_then_ret ?_
    refine tri_end A Suf.h rfl (.cons (rv_cellA rfl rfl rfl) (.cons (rv_tmp rfl) (.cons (rv_tmp rfl) .nil))) ?_
    rw [R6.live_bad (fun h => by have := (h.2 i hlt).2; omega)]
    exact ⟨a, cap, none, 0, rfl, hs, SlAt.nil, rfl, fun _ h => h⟩
   ·refine tri_skip (tT (tR (tM rfl rfl (tM rfl rfl (tM rfl rfl ?_)))))
    refine tri_v (by first | exact opv_indexAddrA rfl rfl (by first | decide | omega) (by first | decide | omega) | exact opv_indexAddrSN rfl rfl (by omega) (by assumption) rfl | exact opv_indexAddrS rfl rfl (by omega) (by omega) (by assumption) rfl | exact opv_indexAddrE rfl (by assumption) (by omega) rfl (by first | decide | omega) (by first | decide | omega) | exact opv_indexAddrRN rfl rfl (by omega) | exact opv_indexAddrR rfl rfl (by omega) (by omega) | exact opv_indexAddrRA rfl (by omega) rfl (by first | decide | omega) (by first | decide | omega)) rfl ?_
    refine tri_v (by first | exact opv_load1 rfl rfl rfl | exact opv_loadA rfl rfl rfl | exact opv_loadE1 rfl (by assumption) rfl (by omega) rfl rfl | exact opv_loadEA rfl (by assumption) rfl (by omega) rfl rfl | exact opv_loadRX1 rfl rfl (by omega) rfl rfl | exact opv_loadRXA rfl rfl (by omega) rfl rfl rfl | exact opv_loadIX rfl rfl (by omega) | exact opv_loadR1 rfl rfl rfl | exact opv_loadRA rfl rfl rfl rfl) rfl ?_
    refine tri_v (by first | exact opv_indexAddrA rfl rfl (by first | decide | omega) (by first | decide | omega) | exact opv_indexAddrSN rfl rfl (by omega) (by assumption) rfl | exact opv_indexAddrS rfl rfl (by omega) (by omega) (by assumption) rfl | exact opv_indexAddrE rfl (by assumption) (by omega) rfl (by first | decide | omega) (by first | decide | omega) | exact opv_indexAddrRN rfl rfl (by omega) | exact opv_indexAddrR rfl rfl (by omega) (by omega) | exact opv_indexAddrRA rfl (by omega) rfl (by first | decide | omega) (by first | decide | omega)) rfl ?_
    refine tri_g (opg_storeRX true rfl rfl rfl (by omega) hkl.symm rfl rfl rfl rfl) rfl ?_
    rintro _ _ _ ⟨rfl, rfl⟩
    refine tN ?_
    refine tri_inBlock ?_
    refine tT (tR (tM rfl rfl ?_))
    refine tri_v (by first | exact opv_add rfl rfl (w64 (by omega) (by omega))) rfl ?_
    refine tA rfl rfl (tN (tT ?_))
    refine tri_sub ?_ (hK (i + 1, keep.set (roots.getD i default).toNat true) ⟨by simp only; omega, by simp only [List.length_set]; exact hkl, ?_, fun j hj => ?_⟩ (by simp only; omega))
    ·exact ⟨rfl, rfl, rfl, rfl, rfl, trivial⟩
    ·simp only
     rw [List.take_succ_eq_append_getElem hlt, List.foldl_append, ← hke, show roots.getD i default = roots[i] by simp [hlt]]
     rfl
    ·by_cases e : j = i
     ·subst e
      exact ⟨by omega, by omega⟩
     ·exact hin j (by simp only at hj; omega)
  ·obtain rfl : i = roots.length := by omega
   rw [List.take_length] at hke
   rw [show keep = R6.keepRoots ns.length roots from hke]
   refine tri_exit ?_
   refine tri_then_exit ?_
   refine tri_then_exit ?_
   refine tri_inBlock_hit rfl ?_
   exact tri_cutEnd _ ⟨rfl, rfl, rfl, hin⟩ ⟨rfl, rfl, rfl, rfl, trivial⟩
 rintro _ _ _ ⟨rfl, rfl, rfl, hin⟩
 have hlive : R6.live ns room roots = ((R6.liveAll ns (R6.kept ns roots)).2, roots.map fun r => (R6.liveAll ns (R6.kept ns roots)).1.getD r.toNat default, 0) := if_pos ⟨hrt, hin⟩
 skip
 refine tT (tS (tS (tR ?_)))
 refine tri_v (by first | exact opv_fieldAddr rfl rfl | exact opv_fieldAddrE rfl (by assumption) (by omega) rfl | exact opv_fieldAddrR rfl (by omega) rfl) rfl ?_
 refine tri_v (by first | exact opv_load1 rfl rfl rfl | exact opv_loadA rfl rfl rfl | exact opv_loadE1 rfl (by assumption) rfl (by omega) rfl rfl | exact opv_loadEA rfl (by assumption) rfl (by omega) rfl rfl | exact opv_loadRX1 rfl rfl (by omega) rfl rfl | exact opv_loadRXA rfl rfl (by omega) rfl rfl rfl | exact opv_loadIX rfl rfl (by omega) | exact opv_loadR1 rfl rfl rfl | exact opv_loadRA rfl rfl rfl rfl) rfl ?_
 refine tri_v (opv_len rfl) rfl ?_
 refine tri_v (by first | exact opv_sub rfl rfl (w64 (by omega) (by omega)) | exact opv_sub rfl rfl rfl) rfl ?_
 refine tA rfl rfl (tN (tT (tri_block ?_)))
 refine tri_sub (F' := [(1, .slice ar roots.length capr), (2, pt b2 0), (4, pt b4 0), (7, .slice a7 ns.length ns.length), (9, .int .i64 ((ns.length - 1 : Nat) : Int))]) ⟨rfl, rfl, rfl, rfl, congrArg (fun z => some (Value.int IntKind.i64 z)) (by omega), trivial⟩ ?_
 refine loop_ind (G := Nat × List Bool) (fun g => g.1) (fun g => 1 ≤ g.1 ∧ g.1 < ns.length ∧ g.2.length = ns.length ∧ R6.kept ns roots = R6.keepDown ns (g.1 - 1) g.2) (fun g => [(1, .slice ar roots.length capr), (2, pt b2 0), (4, pt b4 0), (7, .slice a7 ns.length ns.length), (9, .int .i64 (g.1 : Nat))])
  (fun g => Row a7 ns.length ns.length 4 1 (encs g.2) :: Box b4 [.slice none 0 0, .int .i64 0] 25 :: Box b2 [.slice a ns.length cap, .int .i64 room] 25 :: A) (fun _ => I) ?_ (ns.length - 1, R6.keepRoots ns.length roots) ⟨by simp only; omega, by simp only; omega, R6.keepRoots_len _ _, by simp only; rw [show ns.length - 1 - 1 = ns.length - 2 by omega]; rfl⟩
 rintro ⟨i, keep⟩ ⟨hi1, hi, hkl, hke⟩ K hK
 simp only at hi1 hi hkl hke hK ⊢
 skip
 refine tS (tS (tR (tM rfl rfl ?_)))
 refine tri_v (opv_geq rfl rfl) rfl ?_
 refine tN (tT ?_)
 refine tri_cond_dec rfl (fun h => ?_) (fun h => ?_)
 ·have hi2 : 2 ≤ i := by omega
  obtain ⟨⟨p0, q0, r0⟩, ⟨p1, q1, r1⟩, ⟨p2, q2, r2⟩, ⟨p3, q3, r3⟩⟩ := hkid i hi
  have r0 := r0 hi2
  have r1 := r1 hi2
  have r2 := r2 hi2
  have r3 := r3 hi2
  rw [show i - 1 = (i - 2) + 1 by omega] at hke
  unfold R6.keepDown at hke
  rw [show i - 2 + 2 = i by omega] at hke
  refine tri_skip (tT (tS ?_))
  refine tri_cut (fun F' A' J => F' = [(1, .slice ar roots.length capr), (2, pt b2 0), (4, pt b4 0), (7, .slice a7 ns.length ns.length), (9, .int .i64 (i : Nat))] ∧ A' = Row a7 ns.length ns.length 4 1 (encs (if keep.getD i default = true then R6.keepKids keep (ns.getD i default) else keep)) :: Box b4 [.slice none 0 0, .int .i64 0] 25 :: Box b2 [.slice a ns.length cap, .int .i64 room] 25 :: A ∧ I = J) ?_ ?_
  ·refine tri_block (tS (tR (tA rfl rfl (tN (tT (tri_block ?_))))))
   refine tri_rounds 5 ?_
   refine tri_round ?_
   refine tS (tS (tR (tM rfl rfl ?_)))
   refine tri_v (opv_lss rfl rfl) rfl ?_
   refine tM rfl rfl ?_
   refine tri_true rfl rfl ((by decide)) ?_
   refine tri_guard_run rfl rfl rfl (tM rfl rfl (tri_guard_run rfl rfl rfl (tM rfl rfl (tri_guard_run rfl rfl rfl ?_))))
   refine tri_v (by first | exact opv_indexAddrA rfl rfl (by first | decide | omega) (by first | decide | omega) | exact opv_indexAddrSN rfl rfl (by omega) (by assumption) rfl | exact opv_indexAddrS rfl rfl (by omega) (by omega) (by assumption) rfl | exact opv_indexAddrE rfl (by assumption) (by omega) rfl (by first | decide | omega) (by first | decide | omega) | exact opv_indexAddrRN rfl rfl (by omega) | exact opv_indexAddrR rfl rfl (by omega) (by omega) | exact opv_indexAddrRA rfl (by omega) rfl (by first | decide | omega) (by first | decide | omega)) rfl ?_
   refine tri_guard_run rfl rfl rfl ?_
   refine tri_v (by first | exact opv_load1 rfl rfl rfl | exact opv_loadA rfl rfl rfl | exact opv_loadE1 rfl (by assumption) rfl (by omega) rfl rfl | exact opv_loadEA rfl (by assumption) rfl (by omega) rfl rfl | exact opv_loadRX1 rfl rfl (by omega) rfl rfl | exact opv_loadRXA rfl rfl (by omega) rfl rfl rfl | exact opv_loadIX rfl rfl (by omega) | exact opv_loadR1 rfl rfl rfl | exact opv_loadRA rfl rfl rfl rfl) rfl ?_
   refine tri_v (by first | exact opv_pick_t rfl rfl | exact opv_pick_f rfl rfl | exact opv_pick_bool rfl rfl rfl | exact opv_pick rfl rfl rfl) rfl ?_
   refine tN (tT ?_)
   refine tri_cond rfl (fun hb => ?_) (fun hb => ?_)
   ·refine tri_skip (tT (tS (tri_block (tR (tM rfl rfl ?_)))))
    refine tri_v (by first | exact opv_fieldAddr rfl rfl | exact opv_fieldAddrE rfl (by assumption) (by omega) rfl | exact opv_fieldAddrR rfl (by omega) rfl) rfl ?_
    refine tri_v (by first | exact opv_load1 rfl rfl rfl | exact opv_loadA rfl rfl rfl | exact opv_loadE1 rfl (by assumption) rfl (by omega) rfl rfl | exact opv_loadEA rfl (by assumption) rfl (by omega) rfl rfl | exact opv_loadRX1 rfl rfl (by omega) rfl rfl | exact opv_loadRXA rfl rfl (by omega) rfl rfl rfl | exact opv_loadIX rfl rfl (by omega) | exact opv_loadR1 rfl rfl rfl | exact opv_loadRA rfl rfl rfl rfl) rfl ?_
    refine tM rfl rfl (tM rfl rfl ?_)
    refine tri_v (by first | exact opv_indexAddrA rfl rfl (by first | decide | omega) (by first | decide | omega) | exact opv_indexAddrSN rfl rfl (by omega) (by assumption) rfl | exact opv_indexAddrS rfl rfl (by omega) (by omega) (by assumption) rfl | exact opv_indexAddrE rfl (by assumption) (by omega) rfl (by first | decide | omega) (by first | decide | omega) | exact opv_indexAddrRN rfl rfl (by omega) | exact opv_indexAddrR rfl rfl (by omega) (by omega) | exact opv_indexAddrRA rfl (by omega) rfl (by first | decide | omega) (by first | decide | omega)) rfl ?_
    refine tri_v (by first | exact opv_fieldAddr rfl rfl | exact opv_fieldAddrE rfl (by assumption) (by omega) rfl | exact opv_fieldAddrR rfl (by omega) rfl) rfl ?_
    refine tri_v (by first | exact opv_indexAddrA rfl rfl (by first | decide | omega) (by first | decide | omega) | exact opv_indexAddrSN rfl rfl (by omega) (by assumption) rfl | exact opv_indexAddrS rfl rfl (by omega) (by omega) (by assumption) rfl | exact opv_indexAddrE rfl (by assumption) (by omega) rfl (by first | decide | omega) (by first | decide | omega) | exact opv_indexAddrRN rfl rfl (by omega) | exact opv_indexAddrR rfl rfl (by omega) (by omega) | exact opv_indexAddrRA rfl (by omega) rfl (by first | decide | omega) (by first | decide | omega)) rfl ?_
    refine tri_v (by first | exact opv_load1 rfl rfl rfl | exact opv_loadA rfl rfl rfl | exact opv_loadE1 rfl (by assumption) rfl (by omega) rfl rfl | exact opv_loadEA rfl (by assumption) rfl (by omega) rfl rfl | exact opv_loadRX1 rfl rfl (by omega) rfl rfl | exact opv_loadRXA rfl rfl (by omega) rfl rfl rfl | exact opv_loadIX rfl rfl (by omega) | exact opv_loadR1 rfl rfl rfl | exact opv_loadRA rfl rfl rfl rfl) rfl ?_
    refine tri_v (by first | exact opv_indexAddrA rfl rfl (by first | decide | omega) (by first | decide | omega) | exact opv_indexAddrSN rfl rfl (by omega) (by assumption) rfl | exact opv_indexAddrS rfl rfl (by omega) (by omega) (by assumption) rfl | exact opv_indexAddrE rfl (by assumption) (by omega) rfl (by first | decide | omega) (by first | decide | omega) | exact opv_indexAddrRN rfl rfl (by omega) | exact opv_indexAddrR rfl rfl (by omega) (by omega) | exact opv_indexAddrRA rfl (by omega) rfl (by first | decide | omega) (by first | decide | omega)) rfl ?_
    refine tri_g (opg_storeRX true rfl rfl rfl (by omega) hkl.symm rfl rfl rfl rfl) rfl ?_
    rintro _ _ _ ⟨rfl, rfl⟩
    obtain ⟨keep1, hk1⟩ : ∃ x, x = keep.set (ns.getD i default).k0.toNat true := ⟨_, rfl⟩
    have hl1 : keep1.length = ns.length := by rw [hk1, List.length_set]; exact hkl
    have ht1 : keep1.getD i default = true := by rw [hk1, R6.set_getD (by omega)]; exact hb
    rw [← hk1]
    refine tN ?_
    refine tri_inBlock ?_
    refine tT (tR (tM rfl rfl ?_))
    refine tri_v (by first | exact opv_add rfl rfl (w64 (by omega) (by omega))) rfl ?_
    refine tA rfl rfl (tN (tT ?_))
    refine tri_round ?_
    refine tS (tS (tR (tM rfl rfl ?_)))
    refine tri_v (opv_lss rfl rfl) rfl ?_
    refine tM rfl rfl ?_
    refine tri_true rfl rfl ((by decide)) ?_
    refine tri_guard_run rfl rfl rfl (tM rfl rfl (tri_guard_run rfl rfl rfl (tM rfl rfl (tri_guard_run rfl rfl rfl ?_))))
    refine tri_v (by first | exact opv_indexAddrA rfl rfl (by first | decide | omega) (by first | decide | omega) | exact opv_indexAddrSN rfl rfl (by omega) (by assumption) rfl | exact opv_indexAddrS rfl rfl (by omega) (by omega) (by assumption) rfl | exact opv_indexAddrE rfl (by assumption) (by omega) rfl (by first | decide | omega) (by first | decide | omega) | exact opv_indexAddrRN rfl rfl (by omega) | exact opv_indexAddrR rfl rfl (by omega) (by omega) | exact opv_indexAddrRA rfl (by omega) rfl (by first | decide | omega) (by first | decide | omega)) rfl ?_
    refine tri_guard_run rfl rfl rfl ?_
    refine tri_v (by first | exact opv_load1 rfl rfl rfl | exact opv_loadA rfl rfl rfl | exact opv_loadE1 rfl (by assumption) rfl (by omega) rfl rfl | exact opv_loadEA rfl (by assumption) rfl (by omega) rfl rfl | exact opv_loadRX1 rfl rfl (by omega) rfl rfl | exact opv_loadRXA rfl rfl (by omega) rfl rfl rfl | exact opv_loadIX rfl rfl (by omega) | exact opv_loadR1 rfl rfl rfl | exact opv_loadRA rfl rfl rfl rfl) rfl ?_
    refine tri_v (by first | exact opv_pick_t rfl rfl | exact opv_pick_f rfl rfl | exact opv_pick_bool rfl rfl rfl | exact opv_pick rfl rfl rfl) rfl ?_
    refine tN (tT ?_)
    refine tri_cond_true (by first | rfl | exact (congrArg some (congrArg Value.bool ht1))) ?_
    refine tri_skip (tT (tS (tri_block (tR (tM rfl rfl ?_)))))
    refine tri_v (by first | exact opv_fieldAddr rfl rfl | exact opv_fieldAddrE rfl (by assumption) (by omega) rfl | exact opv_fieldAddrR rfl (by omega) rfl) rfl ?_
    refine tri_v (by first | exact opv_load1 rfl rfl rfl | exact opv_loadA rfl rfl rfl | exact opv_loadE1 rfl (by assumption) rfl (by omega) rfl rfl | exact opv_loadEA rfl (by assumption) rfl (by omega) rfl rfl | exact opv_loadRX1 rfl rfl (by omega) rfl rfl | exact opv_loadRXA rfl rfl (by omega) rfl rfl rfl | exact opv_loadIX rfl rfl (by omega) | exact opv_loadR1 rfl rfl rfl | exact opv_loadRA rfl rfl rfl rfl) rfl ?_
    refine tM rfl rfl (tM rfl rfl ?_)
    refine tri_v (by first | exact opv_indexAddrA rfl rfl (by first | decide | omega) (by first | decide | omega) | exact opv_indexAddrSN rfl rfl (by omega) (by assumption) rfl | exact opv_indexAddrS rfl rfl (by omega) (by omega) (by assumption) rfl | exact opv_indexAddrE rfl (by assumption) (by omega) rfl (by first | decide | omega) (by first | decide | omega) | exact opv_indexAddrRN rfl rfl (by omega) | exact opv_indexAddrR rfl rfl (by omega) (by omega) | exact opv_indexAddrRA rfl (by omega) rfl (by first | decide | omega) (by first | decide | omega)) rfl ?_
    refine tri_v (by first | exact opv_fieldAddr rfl rfl | exact opv_fieldAddrE rfl (by assumption) (by omega) rfl | exact opv_fieldAddrR rfl (by omega) rfl) rfl ?_
    refine tri_v (by first | exact opv_indexAddrA rfl rfl (by first | decide | omega) (by first | decide | omega) | exact opv_indexAddrSN rfl rfl (by omega) (by assumption) rfl | exact opv_indexAddrS rfl rfl (by omega) (by omega) (by assumption) rfl | exact opv_indexAddrE rfl (by assumption) (by omega) rfl (by first | decide | omega) (by first | decide | omega) | exact opv_indexAddrRN rfl rfl (by omega) | exact opv_indexAddrR rfl rfl (by omega) (by omega) | exact opv_indexAddrRA rfl (by omega) rfl (by first | decide | omega) (by first | decide | omega)) rfl ?_
    refine tri_v (by first | exact opv_load1 rfl rfl rfl | exact opv_loadA rfl rfl rfl | exact opv_loadE1 rfl (by assumption) rfl (by omega) rfl rfl | exact opv_loadEA rfl (by assumption) rfl (by omega) rfl rfl | exact opv_loadRX1 rfl rfl (by omega) rfl rfl | exact opv_loadRXA rfl rfl (by omega) rfl rfl rfl | exact opv_loadIX rfl rfl (by omega) | exact opv_loadR1 rfl rfl rfl | exact opv_loadRA rfl rfl rfl rfl) rfl ?_
    refine tri_v (by first | exact opv_indexAddrA rfl rfl (by first | decide | omega) (by first | decide | omega) | exact opv_indexAddrSN rfl rfl (by omega) (by assumption) rfl | exact opv_indexAddrS rfl rfl (by omega) (by omega) (by assumption) rfl | exact opv_indexAddrE rfl (by assumption) (by omega) rfl (by first | decide | omega) (by first | decide | omega) | exact opv_indexAddrRN rfl rfl (by omega) | exact opv_indexAddrR rfl rfl (by omega) (by omega) | exact opv_indexAddrRA rfl (by omega) rfl (by first | decide | omega) (by first | decide | omega)) rfl ?_
    refine tri_g (opg_storeRX true rfl rfl rfl (by omega) hl1.symm rfl rfl rfl rfl) rfl ?_
    rintro _ _ _ ⟨rfl, rfl⟩
    obtain ⟨keep2, hk2⟩ : ∃ x, x = keep1.set (ns.getD i default).k1.toNat true := ⟨_, rfl⟩
    have hl2 : keep2.length = ns.length := by rw [hk2, List.length_set]; exact hl1
    have ht2 : keep2.getD i default = true := by rw [hk2, R6.set_getD (by omega)]; exact ht1
    rw [← hk2]
    refine tN ?_
    refine tri_inBlock ?_
    refine tT (tR (tM rfl rfl ?_))
    refine tri_v (by first | exact opv_add rfl rfl (w64 (by omega) (by omega))) rfl ?_
    refine tA rfl rfl (tN (tT ?_))
    refine tri_round ?_
    refine tS (tS (tR (tM rfl rfl ?_)))
    refine tri_v (opv_lss rfl rfl) rfl ?_
    refine tM rfl rfl ?_
    refine tri_true rfl rfl ((by decide)) ?_
    refine tri_guard_run rfl rfl rfl (tM rfl rfl (tri_guard_run rfl rfl rfl (tM rfl rfl (tri_guard_run rfl rfl rfl ?_))))
    refine tri_v (by first | exact opv_indexAddrA rfl rfl (by first | decide | omega) (by first | decide | omega) | exact opv_indexAddrSN rfl rfl (by omega) (by assumption) rfl | exact opv_indexAddrS rfl rfl (by omega) (by omega) (by assumption) rfl | exact opv_indexAddrE rfl (by assumption) (by omega) rfl (by first | decide | omega) (by first | decide | omega) | exact opv_indexAddrRN rfl rfl (by omega) | exact opv_indexAddrR rfl rfl (by omega) (by omega) | exact opv_indexAddrRA rfl (by omega) rfl (by first | decide | omega) (by first | decide | omega)) rfl ?_
    refine tri_guard_run rfl rfl rfl ?_
    refine tri_v (by first | exact opv_load1 rfl rfl rfl | exact opv_loadA rfl rfl rfl | exact opv_loadE1 rfl (by assumption) rfl (by omega) rfl rfl | exact opv_loadEA rfl (by assumption) rfl (by omega) rfl rfl | exact opv_loadRX1 rfl rfl (by omega) rfl rfl | exact opv_loadRXA rfl rfl (by omega) rfl rfl rfl | exact opv_loadIX rfl rfl (by omega) | exact opv_loadR1 rfl rfl rfl | exact opv_loadRA rfl rfl rfl rfl) rfl ?_
    refine tri_v (by first | exact opv_pick_t rfl rfl | exact opv_pick_f rfl rfl | exact opv_pick_bool rfl rfl rfl | exact opv_pick rfl rfl rfl) rfl ?_
    refine tN (tT ?_)
    refine tri_cond_true (by first | rfl | exact (congrArg some (congrArg Value.bool ht2))) ?_
    refine tri_skip (tT (tS (tri_block (tR (tM rfl rfl ?_)))))
    refine tri_v (by first | exact opv_fieldAddr rfl rfl | exact opv_fieldAddrE rfl (by assumption) (by omega) rfl | exact opv_fieldAddrR rfl (by omega) rfl) rfl ?_
    refine tri_v (by first | exact opv_load1 rfl rfl rfl | exact opv_loadA rfl rfl rfl | exact opv_loadE1 rfl (by assumption) rfl (by omega) rfl rfl | exact opv_loadEA rfl (by assumption) rfl (by omega) rfl rfl | exact opv_loadRX1 rfl rfl (by omega) rfl rfl | exact opv_loadRXA rfl rfl (by omega) rfl rfl rfl | exact opv_loadIX rfl rfl (by omega) | exact opv_loadR1 rfl rfl rfl | exact opv_loadRA rfl rfl rfl rfl) rfl ?_
    refine tM rfl rfl (tM rfl rfl ?_)
    refine tri_v (by first | exact opv_indexAddrA rfl rfl (by first | decide | omega) (by first | decide | omega) | exact opv_indexAddrSN rfl rfl (by omega) (by assumption) rfl | exact opv_indexAddrS rfl rfl (by omega) (by omega) (by assumption) rfl | exact opv_indexAddrE rfl (by assumption) (by omega) rfl (by first | decide | omega) (by first | decide | omega) | exact opv_indexAddrRN rfl rfl (by omega) | exact opv_indexAddrR rfl rfl (by omega) (by omega) | exact opv_indexAddrRA rfl (by omega) rfl (by first | decide | omega) (by first | decide | omega)) rfl ?_
    refine tri_v (by first | exact opv_fieldAddr rfl rfl | exact opv_fieldAddrE rfl (by assumption) (by omega) rfl | exact opv_fieldAddrR rfl (by omega) rfl) rfl ?_
    refine tri_v (by first | exact opv_indexAddrA rfl rfl (by first | decide | omega) (by first | decide | omega) | exact opv_indexAddrSN rfl rfl (by omega) (by assumption) rfl | exact opv_indexAddrS rfl rfl (by omega) (by omega) (by assumption) rfl | exact opv_indexAddrE rfl (by assumption) (by omega) rfl (by first | decide | omega) (by first | decide | omega) | exact opv_indexAddrRN rfl rfl (by omega) | exact opv_indexAddrR rfl rfl (by omega) (by omega) | exact opv_indexAddrRA rfl (by omega) rfl (by first | decide | omega) (by first | decide | omega)) rfl ?_
    refine tri_v (by first | exact opv_load1 rfl rfl rfl | exact opv_loadA rfl rfl rfl | exact opv_loadE1 rfl (by assumption) rfl (by omega) rfl rfl | exact opv_loadEA rfl (by assumption) rfl (by omega) rfl rfl | exact opv_loadRX1 rfl rfl (by omega) rfl rfl | exact opv_loadRXA rfl rfl (by omega) rfl rfl rfl | exact opv_loadIX rfl rfl (by omega) | exact opv_loadR1 rfl rfl rfl | exact opv_loadRA rfl rfl rfl rfl) rfl ?_
    refine tri_v (by first | exact opv_indexAddrA rfl rfl (by first | decide | omega) (by first | decide | omega) | exact opv_indexAddrSN rfl rfl (by omega) (by assumption) rfl | exact opv_indexAddrS rfl rfl (by omega) (by omega) (by assumption) rfl | exact opv_indexAddrE rfl (by assumption) (by omega) rfl (by first | decide | omega) (by first | decide | omega) | exact opv_indexAddrRN rfl rfl (by omega) | exact opv_indexAddrR rfl rfl (by omega) (by omega) | exact opv_indexAddrRA rfl (by omega) rfl (by first | decide | omega) (by first | decide | omega)) rfl ?_
    refine tri_g (opg_storeRX true rfl rfl rfl (by omega) hl2.symm rfl rfl rfl rfl) rfl ?_
    rintro _ _ _ ⟨rfl, rfl⟩
    obtain ⟨keep3, hk3⟩ : ∃ x, x = keep2.set (ns.getD i default).k2.toNat true := ⟨_, rfl⟩
    have hl3 : keep3.length = ns.length := by rw [hk3, List.length_set]; exact hl2
    have ht3 : keep3.getD i default = true := by rw [hk3, R6.set_getD (by omega)]; exact ht2
    rw [← hk3]
    refine tN ?_
    refine tri_inBlock ?_
    refine tT (tR (tM rfl rfl ?_))
    refine tri_v (by first | exact opv_add rfl rfl (w64 (by omega) (by omega))) rfl ?_
    refine tA rfl rfl (tN (tT ?_))
    refine tri_round ?_
    refine tS (tS (tR (tM rfl rfl ?_)))
    refine tri_v (opv_lss rfl rfl) rfl ?_
    refine tM rfl rfl ?_
    refine tri_true rfl rfl ((by decide)) ?_
    refine tri_guard_run rfl rfl rfl (tM rfl rfl (tri_guard_run rfl rfl rfl (tM rfl rfl (tri_guard_run rfl rfl rfl ?_))))
    refine tri_v (by first | exact opv_indexAddrA rfl rfl (by first | decide | omega) (by first | decide | omega) | exact opv_indexAddrSN rfl rfl (by omega) (by assumption) rfl | exact opv_indexAddrS rfl rfl (by omega) (by omega) (by assumption) rfl | exact opv_indexAddrE rfl (by assumption) (by omega) rfl (by first | decide | omega) (by first | decide | omega) | exact opv_indexAddrRN rfl rfl (by omega) | exact opv_indexAddrR rfl rfl (by omega) (by omega) | exact opv_indexAddrRA rfl (by omega) rfl (by first | decide | omega) (by first | decide | omega)) rfl ?_
    refine tri_guard_run rfl rfl rfl ?_
    refine tri_v (by first | exact opv_load1 rfl rfl rfl | exact opv_loadA rfl rfl rfl | exact opv_loadE1 rfl (by assumption) rfl (by omega) rfl rfl | exact opv_loadEA rfl (by assumption) rfl (by omega) rfl rfl | exact opv_loadRX1 rfl rfl (by omega) rfl rfl | exact opv_loadRXA rfl rfl (by omega) rfl rfl rfl | exact opv_loadIX rfl rfl (by omega) | exact opv_loadR1 rfl rfl rfl | exact opv_loadRA rfl rfl rfl rfl) rfl ?_
    refine tri_v (by first | exact opv_pick_t rfl rfl | exact opv_pick_f rfl rfl | exact opv_pick_bool rfl rfl rfl | exact opv_pick rfl rfl rfl) rfl ?_
    refine tN (tT ?_)
    refine tri_cond_true (by first | rfl | exact (congrArg some (congrArg Value.bool ht3))) ?_
    refine tri_skip (tT (tS (tri_block (tR (tM rfl rfl ?_)))))
    refine tri_v (by first | exact opv_fieldAddr rfl rfl | exact opv_fieldAddrE rfl (by assumption) (by omega) rfl | exact opv_fieldAddrR rfl (by omega) rfl) rfl ?_
    refine tri_v (by first | exact opv_load1 rfl rfl rfl | exact opv_loadA rfl rfl rfl | exact opv_loadE1 rfl (by assumption) rfl (by omega) rfl rfl | exact opv_loadEA rfl (by assumption) rfl (by omega) rfl rfl | exact opv_loadRX1 rfl rfl (by omega) rfl rfl | exact opv_loadRXA rfl rfl (by omega) rfl rfl rfl | exact opv_loadIX rfl rfl (by omega) | exact opv_loadR1 rfl rfl rfl | exact opv_loadRA rfl rfl rfl rfl) rfl ?_
    refine tM rfl rfl (tM rfl rfl ?_)
    refine tri_v (by first | exact opv_indexAddrA rfl rfl (by first | decide | omega) (by first | decide | omega) | exact opv_indexAddrSN rfl rfl (by omega) (by assumption) rfl | exact opv_indexAddrS rfl rfl (by omega) (by omega) (by assumption) rfl | exact opv_indexAddrE rfl (by assumption) (by omega) rfl (by first | decide | omega) (by first | decide | omega) | exact opv_indexAddrRN rfl rfl (by omega) | exact opv_indexAddrR rfl rfl (by omega) (by omega) | exact opv_indexAddrRA rfl (by omega) rfl (by first | decide | omega) (by first | decide | omega)) rfl ?_
    refine tri_v (by first | exact opv_fieldAddr rfl rfl | exact opv_fieldAddrE rfl (by assumption) (by omega) rfl | exact opv_fieldAddrR rfl (by omega) rfl) rfl ?_
    refine tri_v (by first | exact opv_indexAddrA rfl rfl (by first | decide | omega) (by first | decide | omega) | exact opv_indexAddrSN rfl rfl (by omega) (by assumption) rfl | exact opv_indexAddrS rfl rfl (by omega) (by omega) (by assumption) rfl | exact opv_indexAddrE rfl (by assumption) (by omega) rfl (by first | decide | omega) (by first | decide | omega) | exact opv_indexAddrRN rfl rfl (by omega) | exact opv_indexAddrR rfl rfl (by omega) (by omega) | exact opv_indexAddrRA rfl (by omega) rfl (by first | decide | omega) (by first | decide | omega)) rfl ?_
    refine tri_v (by first | exact opv_load1 rfl rfl rfl | exact opv_loadA rfl rfl rfl | exact opv_loadE1 rfl (by assumption) rfl (by omega) rfl rfl | exact opv_loadEA rfl (by assumption) rfl (by omega) rfl rfl | exact opv_loadRX1 rfl rfl (by omega) rfl rfl | exact opv_loadRXA rfl rfl (by omega) rfl rfl rfl | exact opv_loadIX rfl rfl (by omega) | exact opv_loadR1 rfl rfl rfl | exact opv_loadRA rfl rfl rfl rfl) rfl ?_
    refine tri_v (by first | exact opv_indexAddrA rfl rfl (by first | decide | omega) (by first | decide | omega) | exact opv_indexAddrSN rfl rfl (by omega) (by assumption) rfl | exact opv_indexAddrS rfl rfl (by omega) (by omega) (by assumption) rfl | exact opv_indexAddrE rfl (by assumption) (by omega) rfl (by first | decide | omega) (by first | decide | omega) | exact opv_indexAddrRN rfl rfl (by omega) | exact opv_indexAddrR rfl rfl (by omega) (by omega) | exact opv_indexAddrRA rfl (by omega) rfl (by first | decide | omega) (by first | decide | omega)) rfl ?_
    refine tri_g (opg_storeRX true rfl rfl rfl (by omega) hl3.symm rfl rfl rfl rfl) rfl ?_
    rintro _ _ _ ⟨rfl, rfl⟩
    obtain ⟨keep4, hk4⟩ : ∃ x, x = keep3.set (ns.getD i default).k3.toNat true := ⟨_, rfl⟩
    have hl4 : keep4.length = ns.length := by rw [hk4, List.length_set]; exact hl3
    have ht4 : keep4.getD i default = true := by rw [hk4, R6.set_getD (by omega)]; exact ht3
    rw [← hk4]
    refine tN ?_
    refine tri_inBlock ?_
    refine tT (tR (tM rfl rfl ?_))
    refine tri_v (by first | exact opv_add rfl rfl (w64 (by omega) (by omega))) rfl ?_
    refine tA rfl rfl (tN (tT ?_))
    refine tri_round ?_
    refine tS (tS (tR (tM rfl rfl ?_)))
    refine tri_v (opv_lss rfl rfl) rfl ?_
    refine tM rfl rfl ?_
    refine tri_false rfl rfl ((by decide)) ?_
    refine tri_guard_skip rfl rfl rfl rfl (tri_guard_skip rfl rfl rfl rfl (tri_guard_skip rfl rfl rfl rfl (tri_guard_skip rfl rfl rfl rfl ?_)))
    refine tri_v (by first | exact opv_pick_t rfl rfl | exact opv_pick_f rfl rfl | exact opv_pick_bool rfl rfl rfl | exact opv_pick rfl rfl rfl) rfl ?_
    refine tN (tT ?_)
    refine tri_cond_false rfl ?_
    refine tri_exit ?_
    refine tri_then_exit ?_
    refine tri_then_exit ?_
    refine tri_inBlock_hit rfl ?_
    refine tri_inBlock ?_
    refine tri_cutEnd _ ⟨rfl, ?_, rfl⟩ ⟨rfl, rfl, rfl, rfl, rfl, trivial⟩
    rw [if_pos hb, hk4, hk3, hk2, hk1]
    rfl
   ·refine tri_exit ?_
    refine tri_then_exit ?_
    refine tri_then_exit ?_
    refine tri_inBlock_hit rfl ?_
    refine tri_inBlock ?_
    refine tri_cutEnd _ ⟨rfl, ?_, rfl⟩ ⟨rfl, rfl, rfl, rfl, rfl, trivial⟩
    rw [if_neg (by rw [hb]; decide)]
  rintro _ _ _ ⟨rfl, rfl, rfl⟩
  skip
  refine tT (tR (tM rfl rfl ?_))
  refine tri_v (by first | exact opv_sub rfl rfl (w64 (by omega) (by omega)) | exact opv_sub rfl rfl rfl) rfl ?_
  refine tA rfl rfl (tN (tT ?_))
  refine tri_sub ?_ (hK (i - 1, if keep.getD i default = true then R6.keepKids keep (ns.getD i default) else keep) ⟨by simp only; omega, by simp only; omega, ?_, ?_⟩ (by simp only; omega))
  ·exact ⟨rfl, rfl, rfl, rfl, congrArg (fun z => some (Value.int IntKind.i64 z)) (by simp only; omega), trivial⟩
  ·simp only
   split
   ·rw [R6.keepKids_len, hkl]
   ·exact hkl
  ·simp only
   rw [show i - 1 - 1 = i - 2 by omega]
   exact hke
 ·obtain rfl : i = 1 := by omega
  rw [show keep = R6.kept ns roots from hke.symm]
  have hkl : (R6.kept ns roots).length = ns.length := by rw [hke]; exact hkl
  have hall : R6.liveAll ns (R6.kept ns roots) = (List.range ns.length).foldl (R6.liveStep ns (R6.kept ns roots)) (List.replicate ns.length 0, []) := rfl
  generalize R6.kept ns roots = kp at *
  generalize hR : R6.liveAll ns kp = R at *
  refine tri_exit ?_
  refine tri_then_exit ?_
  refine tri_then_exit ?_
  refine tri_inBlock_hit rfl ?_
  refine tT (tS (tR ?_))
  refine tri_v (by first | exact opv_fieldAddr rfl rfl | exact opv_fieldAddrE rfl (by assumption) (by omega) rfl | exact opv_fieldAddrR rfl (by omega) rfl) rfl ?_
  refine tri_v (by first | exact opv_load1 rfl rfl rfl | exact opv_loadA rfl rfl rfl | exact opv_loadE1 rfl (by assumption) rfl (by omega) rfl rfl | exact opv_loadEA rfl (by assumption) rfl (by omega) rfl rfl | exact opv_loadRX1 rfl rfl (by omega) rfl rfl | exact opv_loadRXA rfl rfl (by omega) rfl rfl rfl | exact opv_loadIX rfl rfl (by omega) | exact opv_loadR1 rfl rfl rfl | exact opv_loadRA rfl rfl rfl rfl) rfl ?_
  refine tri_v (opv_len rfl) rfl ?_
  refine tri_g (opg_makeSlice rfl rfl rfl (by omega) (by omega) (by omega)) rfl ?_
  rintro _ _ _ ⟨a11, ha11, rfl, rfl, rfl⟩
  rw [show ((ns.length : Nat) : Int).toNat = ns.length from rfl]
  refine tri_rowEq (len' := ns.length) (cells' := encs (List.replicate ns.length (0 : Int))) rfl (encs_rep rfl _) ?_
  refine tA rfl rfl (tN (tT (tS (tR ?_))))
  refine tri_v (by first | exact opv_fieldAddr rfl rfl | exact opv_fieldAddrE rfl (by assumption) (by omega) rfl | exact opv_fieldAddrR rfl (by omega) rfl) rfl ?_
  refine tri_v (by first | exact opv_load1 rfl rfl rfl | exact opv_loadA rfl rfl rfl | exact opv_loadE1 rfl (by assumption) rfl (by omega) rfl rfl | exact opv_loadEA rfl (by assumption) rfl (by omega) rfl rfl | exact opv_loadRX1 rfl rfl (by omega) rfl rfl | exact opv_loadRXA rfl rfl (by omega) rfl rfl rfl | exact opv_loadIX rfl rfl (by omega) | exact opv_loadR1 rfl rfl rfl | exact opv_loadRA rfl rfl rfl rfl) rfl ?_
  refine tri_v (by first | exact opv_buildS rfl rfl | exact opv_buildA rfl rfl) rfl ?_
  refine tri_g opg_alloc rfl ?_
  rintro _ _ _ ⟨b12, rfl, rfl, rfl⟩
  refine tri_g (opg_store rfl rfl rfl rfl rfl rfl) rfl ?_
  rintro _ _ _ ⟨rfl, rfl⟩
  refine tN (tT (tS (tS (tR (tA rfl rfl (tN (tT ?_)))))))
  refine tri_block ?_
  refine tri_nilRow (E := 49) (sz := 6) ?_
  refine tri_sub (F' := [(1, .slice ar roots.length capr), (2, pt b2 0), (4, pt b4 0), (7, .slice a7 ns.length ns.length), (11, .slice a11 ns.length ns.length), (12, pt b12 0), (13, .int .i64 (0 : Nat))]) ⟨rfl, rfl, rfl, rfl, rfl, rfl, rfl, trivial⟩ ?_
  refine loop_ind (G := Nat × List Int × List Node × Option Addr × Nat) (fun g => ns.length - g.1) (fun g => g.1 ≤ ns.length ∧ (List.range g.1).foldl (R6.liveStep ns kp) (List.replicate ns.length 0, []) = (g.2.1, g.2.2.1)) (fun g => [(1, .slice ar roots.length capr), (2, pt b2 0), (4, pt b4 0), (7, .slice a7 ns.length ns.length), (11, .slice a11 ns.length ns.length), (12, pt b12 0), (13, .int .i64 (g.1 : Nat))])
   (fun g => Row g.2.2.2.1 g.2.2.2.2 g.2.2.1.length 49 6 (encs g.2.2.1) :: Box b12 [.slice g.2.2.2.1 g.2.2.1.length g.2.2.2.2, .int .i64 room] 25 :: Row a11 ns.length ns.length 3 1 (encs g.2.1) :: Row a7 ns.length ns.length 4 1 (encs kp) :: Box b4 [.slice none 0 0, .int .i64 0] 25 :: Box b2 [.slice a ns.length cap, .int .i64 room] 25 :: A) (fun _ => I) ?_ (0, List.replicate ns.length 0, [], none, 0) ⟨by simp, rfl⟩
  rintro ⟨i, to, out, a1, c1⟩ ⟨hi, hst⟩ K2 hK2
  simp only at hi hst hK2 ⊢
  have hlen := R6.liveStep_len (ns := ns) (keep := kp) i
  rw [hst] at hlen
  obtain ⟨htl, hol⟩ := hlen
  simp only at htl hol
  skip
  refine tS (tS (tR (tM rfl rfl ?_)))
  refine tri_v (by first | exact opv_fieldAddr rfl rfl | exact opv_fieldAddrE rfl (by assumption) (by omega) rfl | exact opv_fieldAddrR rfl (by omega) rfl) rfl ?_
  refine tri_v (by first | exact opv_load1 rfl rfl rfl | exact opv_loadA rfl rfl rfl | exact opv_loadE1 rfl (by assumption) rfl (by omega) rfl rfl | exact opv_loadEA rfl (by assumption) rfl (by omega) rfl rfl | exact opv_loadRX1 rfl rfl (by omega) rfl rfl | exact opv_loadRXA rfl rfl (by omega) rfl rfl rfl | exact opv_loadIX rfl rfl (by omega) | exact opv_loadR1 rfl rfl rfl | exact opv_loadRA rfl rfl rfl rfl) rfl ?_
  refine tri_v (opv_len rfl) rfl ?_
  refine tri_v (opv_lss rfl rfl) rfl ?_
  refine tN (tT ?_)
  refine tri_cond_dec rfl (fun h2 => ?_) (fun h2 => ?_)
  ·have hil : i < ns.length := by omega
   obtain ⟨⟨p0, q0, r0⟩, ⟨p1, q1, r1⟩, ⟨p2, q2, r2⟩, ⟨p3, q3, r3⟩⟩ := hkid i hil
   have hnx : (List.range (i + 1)).foldl (R6.liveStep ns kp) (List.replicate ns.length 0, []) = R6.liveStep ns kp (to, out) i := by
    rw [List.range_succ, List.foldl_append, hst]; rfl
   refine tri_skip (tT (tS (tri_block (tS (tS (tR (tM rfl rfl ?_)))))))
   refine tM rfl rfl ?_
   refine tri_v (by first | exact opv_indexAddrA rfl rfl (by first | decide | omega) (by first | decide | omega) | exact opv_indexAddrSN rfl rfl (by omega) (by assumption) rfl | exact opv_indexAddrS rfl rfl (by omega) (by omega) (by assumption) rfl | exact opv_indexAddrE rfl (by assumption) (by omega) rfl (by first | decide | omega) (by first | decide | omega) | exact opv_indexAddrRN rfl rfl (by omega) | exact opv_indexAddrR rfl rfl (by omega) (by omega) | exact opv_indexAddrRA rfl (by omega) rfl (by first | decide | omega) (by first | decide | omega)) rfl ?_
   refine tri_v (by first | exact opv_load1 rfl rfl rfl | exact opv_loadA rfl rfl rfl | exact opv_loadE1 rfl (by assumption) rfl (by omega) rfl rfl | exact opv_loadEA rfl (by assumption) rfl (by omega) rfl rfl | exact opv_loadRX1 rfl rfl (by omega) rfl rfl | exact opv_loadRXA rfl rfl (by omega) rfl rfl rfl | exact opv_loadIX rfl rfl (by omega) | exact opv_loadR1 rfl rfl rfl | exact opv_loadRA rfl rfl rfl rfl) rfl ?_
   refine tri_v (by first | exact opv_notD rfl | exact opv_not rfl) rfl ?_
   refine tN (tT ?_)
   refine tri_cond rfl (fun hb => ?_) (fun hb => ?_)
   ·have hb' : kp.getD i default = false := by simpa using hb
    rw [show R6.liveStep ns kp (to, out) i = (to, out) from if_neg (by rw [hb']; decide)] at hnx
    refine tri_exit ?_
    refine tri_then_exit ?_
    refine tri_inBlock_hit rfl ?_
    refine tT (tR (tM rfl rfl ?_))
    refine tri_v (by first | exact opv_add rfl rfl (w64 (by omega) (by omega))) rfl ?_
    refine tA rfl rfl (tN (tT ?_))
    refine tri_sub ?_ (hK2 (i + 1, to, out, a1, c1) ⟨by simp only; omega, hnx⟩ (by simp only; omega))
    exact ⟨rfl, rfl, rfl, rfl, rfl, rfl, rfl, trivial⟩
   ·have hb' : kp.getD i default = true := by simpa using hb
    rw [show R6.liveStep ns kp (to, out) i = (to.set i (out.length : Nat), out ++ [R6.mapKids to (ns.getD i default)]) from if_pos hb'] at hnx
    refine tri_skip (tT (tS (tR ?_)))
    refine tri_v (by first | exact opv_fieldAddr rfl rfl | exact opv_fieldAddrE rfl (by assumption) (by omega) rfl | exact opv_fieldAddrR rfl (by omega) rfl) rfl ?_
    refine tri_v (by first | exact opv_load1 rfl rfl rfl | exact opv_loadA rfl rfl rfl | exact opv_loadE1 rfl (by assumption) rfl (by omega) rfl rfl | exact opv_loadEA rfl (by assumption) rfl (by omega) rfl rfl | exact opv_loadRX1 rfl rfl (by omega) rfl rfl | exact opv_loadRXA rfl rfl (by omega) rfl rfl rfl | exact opv_loadIX rfl rfl (by omega) | exact opv_loadR1 rfl rfl rfl | exact opv_loadRA rfl rfl rfl rfl) rfl ?_
    refine tM rfl rfl ?_
    refine tri_v (by first | exact opv_indexAddrA rfl rfl (by first | decide | omega) (by first | decide | omega) | exact opv_indexAddrSN rfl rfl (by omega) (by assumption) rfl | exact opv_indexAddrS rfl rfl (by omega) (by omega) (by assumption) rfl | exact opv_indexAddrE rfl (by assumption) (by omega) rfl (by first | decide | omega) (by first | decide | omega) | exact opv_indexAddrRN rfl rfl (by omega) | exact opv_indexAddrR rfl rfl (by omega) (by omega) | exact opv_indexAddrRA rfl (by omega) rfl (by first | decide | omega) (by first | decide | omega)) rfl ?_
    refine tri_v (by first | exact opv_load1 rfl rfl rfl | exact opv_loadA rfl rfl rfl | exact opv_loadE1 rfl (by assumption) rfl (by omega) rfl rfl | exact opv_loadEA rfl (by assumption) rfl (by omega) rfl rfl | exact opv_loadRX1 rfl rfl (by omega) rfl rfl | exact opv_loadRXA rfl rfl (by omega) rfl rfl rfl | exact opv_loadIX rfl rfl (by omega) | exact opv_loadR1 rfl rfl rfl | exact opv_loadRA rfl rfl rfl rfl) rfl ?_
    refine tri_g opg_alloc rfl ?_
    rintro _ _ _ ⟨b14, rfl, rfl, rfl⟩
    refine tri_g (opg_store rfl rfl rfl rfl rfl rfl) rfl ?_
    rintro _ _ _ ⟨rfl, rfl⟩
    refine tN (tT (tS (tS (tR (tA rfl rfl (tN (tT ?_)))))))
    refine tri_block ?_
    refine tri_rounds 5 ?_
    refine tri_round ?_
    refine tS (tS (tR (tM rfl rfl ?_)))
    refine tri_v (opv_lss rfl rfl) rfl ?_
    refine tN (tT ?_)
    refine tri_cond_is rfl ((by decide)) ?_
    refine tri_skip (tT (tS (tri_block (tR (tM rfl rfl (tM rfl rfl (tM rfl rfl ?_)))))))
    refine tri_v (by first | exact opv_fieldAddr rfl rfl | exact opv_fieldAddrE rfl (by assumption) (by omega) rfl | exact opv_fieldAddrR rfl (by omega) rfl) rfl ?_
    refine tri_v (by first | exact opv_indexAddrA rfl rfl (by first | decide | omega) (by first | decide | omega) | exact opv_indexAddrSN rfl rfl (by omega) (by assumption) rfl | exact opv_indexAddrS rfl rfl (by omega) (by omega) (by assumption) rfl | exact opv_indexAddrE rfl (by assumption) (by omega) rfl (by first | decide | omega) (by first | decide | omega) | exact opv_indexAddrRN rfl rfl (by omega) | exact opv_indexAddrR rfl rfl (by omega) (by omega) | exact opv_indexAddrRA rfl (by omega) rfl (by first | decide | omega) (by first | decide | omega)) rfl ?_
    refine tri_v (by first | exact opv_load1 rfl rfl rfl | exact opv_loadA rfl rfl rfl | exact opv_loadE1 rfl (by assumption) rfl (by omega) rfl rfl | exact opv_loadEA rfl (by assumption) rfl (by omega) rfl rfl | exact opv_loadRX1 rfl rfl (by omega) rfl rfl | exact opv_loadRXA rfl rfl (by omega) rfl rfl rfl | exact opv_loadIX rfl rfl (by omega) | exact opv_loadR1 rfl rfl rfl | exact opv_loadRA rfl rfl rfl rfl) rfl ?_
    refine tri_v (by first | exact opv_indexAddrA rfl rfl (by first | decide | omega) (by first | decide | omega) | exact opv_indexAddrSN rfl rfl (by omega) (by assumption) rfl | exact opv_indexAddrS rfl rfl (by omega) (by omega) (by assumption) rfl | exact opv_indexAddrE rfl (by assumption) (by omega) rfl (by first | decide | omega) (by first | decide | omega) | exact opv_indexAddrRN rfl rfl (by omega) | exact opv_indexAddrR rfl rfl (by omega) (by omega) | exact opv_indexAddrRA rfl (by omega) rfl (by first | decide | omega) (by first | decide | omega)) rfl ?_
    refine tri_v (by first | exact opv_load1 rfl rfl rfl | exact opv_loadA rfl rfl rfl | exact opv_loadE1 rfl (by assumption) rfl (by omega) rfl rfl | exact opv_loadEA rfl (by assumption) rfl (by omega) rfl rfl | exact opv_loadRX1 rfl rfl (by omega) rfl rfl | exact opv_loadRXA rfl rfl (by omega) rfl rfl rfl | exact opv_loadIX rfl rfl (by omega) | exact opv_loadR1 rfl rfl rfl | exact opv_loadRA rfl rfl rfl rfl) rfl ?_
    refine tri_v (by first | exact opv_fieldAddr rfl rfl | exact opv_fieldAddrE rfl (by assumption) (by omega) rfl | exact opv_fieldAddrR rfl (by omega) rfl) rfl ?_
    refine tri_v (by first | exact opv_indexAddrA rfl rfl (by first | decide | omega) (by first | decide | omega) | exact opv_indexAddrSN rfl rfl (by omega) (by assumption) rfl | exact opv_indexAddrS rfl rfl (by omega) (by omega) (by assumption) rfl | exact opv_indexAddrE rfl (by assumption) (by omega) rfl (by first | decide | omega) (by first | decide | omega) | exact opv_indexAddrRN rfl rfl (by omega) | exact opv_indexAddrR rfl rfl (by omega) (by omega) | exact opv_indexAddrRA rfl (by omega) rfl (by first | decide | omega) (by first | decide | omega)) rfl ?_
    refine tri_g (opg_store rfl rfl rfl rfl rfl rfl) rfl ?_
    rintro _ _ _ ⟨rfl, rfl⟩
    refine tN ?_
    refine tri_inBlock ?_
    refine tT (tR (tM rfl rfl ?_))
    refine tri_v (by first | exact opv_add rfl rfl (w64 (by omega) (by omega))) rfl ?_
    refine tA rfl rfl (tN (tT ?_))
    refine tri_round ?_
    refine tS (tS (tR (tM rfl rfl ?_)))
    refine tri_v (opv_lss rfl rfl) rfl ?_
    refine tN (tT ?_)
    refine tri_cond_is rfl ((by decide)) ?_
    refine tri_skip (tT (tS (tri_block (tR (tM rfl rfl (tM rfl rfl (tM rfl rfl ?_)))))))
    refine tri_v (by first | exact opv_fieldAddr rfl rfl | exact opv_fieldAddrE rfl (by assumption) (by omega) rfl | exact opv_fieldAddrR rfl (by omega) rfl) rfl ?_
    refine tri_v (by first | exact opv_indexAddrA rfl rfl (by first | decide | omega) (by first | decide | omega) | exact opv_indexAddrSN rfl rfl (by omega) (by assumption) rfl | exact opv_indexAddrS rfl rfl (by omega) (by omega) (by assumption) rfl | exact opv_indexAddrE rfl (by assumption) (by omega) rfl (by first | decide | omega) (by first | decide | omega) | exact opv_indexAddrRN rfl rfl (by omega) | exact opv_indexAddrR rfl rfl (by omega) (by omega) | exact opv_indexAddrRA rfl (by omega) rfl (by first | decide | omega) (by first | decide | omega)) rfl ?_
    refine tri_v (by first | exact opv_load1 rfl rfl rfl | exact opv_loadA rfl rfl rfl | exact opv_loadE1 rfl (by assumption) rfl (by omega) rfl rfl | exact opv_loadEA rfl (by assumption) rfl (by omega) rfl rfl | exact opv_loadRX1 rfl rfl (by omega) rfl rfl | exact opv_loadRXA rfl rfl (by omega) rfl rfl rfl | exact opv_loadIX rfl rfl (by omega) | exact opv_loadR1 rfl rfl rfl | exact opv_loadRA rfl rfl rfl rfl) rfl ?_
    refine tri_v (by first | exact opv_indexAddrA rfl rfl (by first | decide | omega) (by first | decide | omega) | exact opv_indexAddrSN rfl rfl (by omega) (by assumption) rfl | exact opv_indexAddrS rfl rfl (by omega) (by omega) (by assumption) rfl | exact opv_indexAddrE rfl (by assumption) (by omega) rfl (by first | decide | omega) (by first | decide | omega) | exact opv_indexAddrRN rfl rfl (by omega) | exact opv_indexAddrR rfl rfl (by omega) (by omega) | exact opv_indexAddrRA rfl (by omega) rfl (by first | decide | omega) (by first | decide | omega)) rfl ?_
    refine tri_v (by first | exact opv_load1 rfl rfl rfl | exact opv_loadA rfl rfl rfl | exact opv_loadE1 rfl (by assumption) rfl (by omega) rfl rfl | exact opv_loadEA rfl (by assumption) rfl (by omega) rfl rfl | exact opv_loadRX1 rfl rfl (by omega) rfl rfl | exact opv_loadRXA rfl rfl (by omega) rfl rfl rfl | exact opv_loadIX rfl rfl (by omega) | exact opv_loadR1 rfl rfl rfl | exact opv_loadRA rfl rfl rfl rfl) rfl ?_
    refine tri_v (by first | exact opv_fieldAddr rfl rfl | exact opv_fieldAddrE rfl (by assumption) (by omega) rfl | exact opv_fieldAddrR rfl (by omega) rfl) rfl ?_
    refine tri_v (by first | exact opv_indexAddrA rfl rfl (by first | decide | omega) (by first | decide | omega) | exact opv_indexAddrSN rfl rfl (by omega) (by assumption) rfl | exact opv_indexAddrS rfl rfl (by omega) (by omega) (by assumption) rfl | exact opv_indexAddrE rfl (by assumption) (by omega) rfl (by first | decide | omega) (by first | decide | omega) | exact opv_indexAddrRN rfl rfl (by omega) | exact opv_indexAddrR rfl rfl (by omega) (by omega) | exact opv_indexAddrRA rfl (by omega) rfl (by first | decide | omega) (by first | decide | omega)) rfl ?_
    refine tri_g (opg_store rfl rfl rfl rfl rfl rfl) rfl ?_
    rintro _ _ _ ⟨rfl, rfl⟩
    refine tN ?_
    refine tri_inBlock ?_
    refine tT (tR (tM rfl rfl ?_))
    refine tri_v (by first | exact opv_add rfl rfl (w64 (by omega) (by omega))) rfl ?_
    refine tA rfl rfl (tN (tT ?_))
    refine tri_round ?_
    refine tS (tS (tR (tM rfl rfl ?_)))
    refine tri_v (opv_lss rfl rfl) rfl ?_
    refine tN (tT ?_)
    refine tri_cond_is rfl ((by decide)) ?_
    refine tri_skip (tT (tS (tri_block (tR (tM rfl rfl (tM rfl rfl (tM rfl rfl ?_)))))))
    refine tri_v (by first | exact opv_fieldAddr rfl rfl | exact opv_fieldAddrE rfl (by assumption) (by omega) rfl | exact opv_fieldAddrR rfl (by omega) rfl) rfl ?_
    refine tri_v (by first | exact opv_indexAddrA rfl rfl (by first | decide | omega) (by first | decide | omega) | exact opv_indexAddrSN rfl rfl (by omega) (by assumption) rfl | exact opv_indexAddrS rfl rfl (by omega) (by omega) (by assumption) rfl | exact opv_indexAddrE rfl (by assumption) (by omega) rfl (by first | decide | omega) (by first | decide | omega) | exact opv_indexAddrRN rfl rfl (by omega) | exact opv_indexAddrR rfl rfl (by omega) (by omega) | exact opv_indexAddrRA rfl (by omega) rfl (by first | decide | omega) (by first | decide | omega)) rfl ?_
    refine tri_v (by first | exact opv_load1 rfl rfl rfl | exact opv_loadA rfl rfl rfl | exact opv_loadE1 rfl (by assumption) rfl (by omega) rfl rfl | exact opv_loadEA rfl (by assumption) rfl (by omega) rfl rfl | exact opv_loadRX1 rfl rfl (by omega) rfl rfl | exact opv_loadRXA rfl rfl (by omega) rfl rfl rfl | exact opv_loadIX rfl rfl (by omega) | exact opv_loadR1 rfl rfl rfl | exact opv_loadRA rfl rfl rfl rfl) rfl ?_
    refine tri_v (by first | exact opv_indexAddrA rfl rfl (by first | decide | omega) (by first | decide | omega) | exact opv_indexAddrSN rfl rfl (by omega) (by assumption) rfl | exact opv_indexAddrS rfl rfl (by omega) (by omega) (by assumption) rfl | exact opv_indexAddrE rfl (by assumption) (by omega) rfl (by first | decide | omega) (by first | decide | omega) | exact opv_indexAddrRN rfl rfl (by omega) | exact opv_indexAddrR rfl rfl (by omega) (by omega) | exact opv_indexAddrRA rfl (by omega) rfl (by first | decide | omega) (by first | decide | omega)) rfl ?_
    refine tri_v (by first | exact opv_load1 rfl rfl rfl | exact opv_loadA rfl rfl rfl | exact opv_loadE1 rfl (by assumption) rfl (by omega) rfl rfl | exact opv_loadEA rfl (by assumption) rfl (by omega) rfl rfl | exact opv_loadRX1 rfl rfl (by omega) rfl rfl | exact opv_loadRXA rfl rfl (by omega) rfl rfl rfl | exact opv_loadIX rfl rfl (by omega) | exact opv_loadR1 rfl rfl rfl | exact opv_loadRA rfl rfl rfl rfl) rfl ?_
    refine tri_v (by first | exact opv_fieldAddr rfl rfl | exact opv_fieldAddrE rfl (by assumption) (by omega) rfl | exact opv_fieldAddrR rfl (by omega) rfl) rfl ?_
    refine tri_v (by first | exact opv_indexAddrA rfl rfl (by first | decide | omega) (by first | decide | omega) | exact opv_indexAddrSN rfl rfl (by omega) (by assumption) rfl | exact opv_indexAddrS rfl rfl (by omega) (by omega) (by assumption) rfl | exact opv_indexAddrE rfl (by assumption) (by omega) rfl (by first | decide | omega) (by first | decide | omega) | exact opv_indexAddrRN rfl rfl (by omega) | exact opv_indexAddrR rfl rfl (by omega) (by omega) | exact opv_indexAddrRA rfl (by omega) rfl (by first | decide | omega) (by first | decide | omega)) rfl ?_
    refine tri_g (opg_store rfl rfl rfl rfl rfl rfl) rfl ?_
    rintro _ _ _ ⟨rfl, rfl⟩
    refine tN ?_
    refine tri_inBlock ?_
    refine tT (tR (tM rfl rfl ?_))
    refine tri_v (by first | exact opv_add rfl rfl (w64 (by omega) (by omega))) rfl ?_
    refine tA rfl rfl (tN (tT ?_))
    refine tri_round ?_
    refine tS (tS (tR (tM rfl rfl ?_)))
    refine tri_v (opv_lss rfl rfl) rfl ?_
    refine tN (tT ?_)
    refine tri_cond_is rfl ((by decide)) ?_
    refine tri_skip (tT (tS (tri_block (tR (tM rfl rfl (tM rfl rfl (tM rfl rfl ?_)))))))
    refine tri_v (by first | exact opv_fieldAddr rfl rfl | exact opv_fieldAddrE rfl (by assumption) (by omega) rfl | exact opv_fieldAddrR rfl (by omega) rfl) rfl ?_
    refine tri_v (by first | exact opv_indexAddrA rfl rfl (by first | decide | omega) (by first | decide | omega) | exact opv_indexAddrSN rfl rfl (by omega) (by assumption) rfl | exact opv_indexAddrS rfl rfl (by omega) (by omega) (by assumption) rfl | exact opv_indexAddrE rfl (by assumption) (by omega) rfl (by first | decide | omega) (by first | decide | omega) | exact opv_indexAddrRN rfl rfl (by omega) | exact opv_indexAddrR rfl rfl (by omega) (by omega) | exact opv_indexAddrRA rfl (by omega) rfl (by first | decide | omega) (by first | decide | omega)) rfl ?_
    refine tri_v (by first | exact opv_load1 rfl rfl rfl | exact opv_loadA rfl rfl rfl | exact opv_loadE1 rfl (by assumption) rfl (by omega) rfl rfl | exact opv_loadEA rfl (by assumption) rfl (by omega) rfl rfl | exact opv_loadRX1 rfl rfl (by omega) rfl rfl | exact opv_loadRXA rfl rfl (by omega) rfl rfl rfl | exact opv_loadIX rfl rfl (by omega) | exact opv_loadR1 rfl rfl rfl | exact opv_loadRA rfl rfl rfl rfl) rfl ?_
    refine tri_v (by first | exact opv_indexAddrA rfl rfl (by first | decide | omega) (by first | decide | omega) | exact opv_indexAddrSN rfl rfl (by omega) (by assumption) rfl | exact opv_indexAddrS rfl rfl (by omega) (by omega) (by assumption) rfl | exact opv_indexAddrE rfl (by assumption) (by omega) rfl (by first | decide | omega) (by first | decide | omega) | exact opv_indexAddrRN rfl rfl (by omega) | exact opv_indexAddrR rfl rfl (by omega) (by omega) | exact opv_indexAddrRA rfl (by omega) rfl (by first | decide | omega) (by first | decide | omega)) rfl ?_
    refine tri_v (by first | exact opv_load1 rfl rfl rfl | exact opv_loadA rfl rfl rfl | exact opv_loadE1 rfl (by assumption) rfl (by omega) rfl rfl | exact opv_loadEA rfl (by assumption) rfl (by omega) rfl rfl | exact opv_loadRX1 rfl rfl (by omega) rfl rfl | exact opv_loadRXA rfl rfl (by omega) rfl rfl rfl | exact opv_loadIX rfl rfl (by omega) | exact opv_loadR1 rfl rfl rfl | exact opv_loadRA rfl rfl rfl rfl) rfl ?_
    refine tri_v (by first | exact opv_fieldAddr rfl rfl | exact opv_fieldAddrE rfl (by assumption) (by omega) rfl | exact opv_fieldAddrR rfl (by omega) rfl) rfl ?_
    refine tri_v (by first | exact opv_indexAddrA rfl rfl (by first | decide | omega) (by first | decide | omega) | exact opv_indexAddrSN rfl rfl (by omega) (by assumption) rfl | exact opv_indexAddrS rfl rfl (by omega) (by omega) (by assumption) rfl | exact opv_indexAddrE rfl (by assumption) (by omega) rfl (by first | decide | omega) (by first | decide | omega) | exact opv_indexAddrRN rfl rfl (by omega) | exact opv_indexAddrR rfl rfl (by omega) (by omega) | exact opv_indexAddrRA rfl (by omega) rfl (by first | decide | omega) (by first | decide | omega)) rfl ?_
    refine tri_g (opg_store rfl rfl rfl rfl rfl rfl) rfl ?_
    rintro _ _ _ ⟨rfl, rfl⟩
    refine tN ?_
    refine tri_inBlock ?_
    refine tT (tR (tM rfl rfl ?_))
    refine tri_v (by first | exact opv_add rfl rfl (w64 (by omega) (by omega))) rfl ?_
    refine tA rfl rfl (tN (tT ?_))
    refine tri_round ?_
    refine tS (tS (tR (tM rfl rfl ?_)))
    refine tri_v (opv_lss rfl rfl) rfl ?_
    refine tN (tT ?_)
    refine tri_cond_not rfl ((by decide)) ?_
    refine tri_exit ?_
    refine tri_then_exit ?_
    refine tri_then_exit ?_
    refine tri_inBlock_hit rfl ?_
    refine tT (tS (tR (tM rfl rfl (tM rfl rfl ?_))))
    refine tri_v (by first | exact opv_fieldAddr rfl rfl | exact opv_fieldAddrE rfl (by assumption) (by omega) rfl | exact opv_fieldAddrR rfl (by omega) rfl) rfl ?_
    refine tri_v (by first | exact opv_load1 rfl rfl rfl | exact opv_loadA rfl rfl rfl | exact opv_loadE1 rfl (by assumption) rfl (by omega) rfl rfl | exact opv_loadEA rfl (by assumption) rfl (by omega) rfl rfl | exact opv_loadRX1 rfl rfl (by omega) rfl rfl | exact opv_loadRXA rfl rfl (by omega) rfl rfl rfl | exact opv_loadIX rfl rfl (by omega) | exact opv_loadR1 rfl rfl rfl | exact opv_loadRA rfl rfl rfl rfl) rfl ?_
    refine tri_v (opv_len rfl) rfl ?_
    refine tri_v (by first | exact opv_indexAddrA rfl rfl (by first | decide | omega) (by first | decide | omega) | exact opv_indexAddrSN rfl rfl (by omega) (by assumption) rfl | exact opv_indexAddrS rfl rfl (by omega) (by omega) (by assumption) rfl | exact opv_indexAddrE rfl (by assumption) (by omega) rfl (by first | decide | omega) (by first | decide | omega) | exact opv_indexAddrRN rfl rfl (by omega) | exact opv_indexAddrR rfl rfl (by omega) (by omega) | exact opv_indexAddrRA rfl (by omega) rfl (by first | decide | omega) (by first | decide | omega)) rfl ?_
    refine tri_g (opg_storeRX ((out.length : Nat) : Int) rfl rfl rfl (by omega) htl.symm rfl rfl rfl rfl) rfl ?_
    rintro _ _ _ ⟨rfl, rfl⟩
    refine tN (tT (tR ?_))
    refine tri_v (by first | exact opv_fieldAddr rfl rfl | exact opv_fieldAddrE rfl (by assumption) (by omega) rfl | exact opv_fieldAddrR rfl (by omega) rfl) rfl ?_
    refine tri_v (by first | exact opv_load1 rfl rfl rfl | exact opv_loadA rfl rfl rfl | exact opv_loadE1 rfl (by assumption) rfl (by omega) rfl rfl | exact opv_loadEA rfl (by assumption) rfl (by omega) rfl rfl | exact opv_loadRX1 rfl rfl (by omega) rfl rfl | exact opv_loadRXA rfl rfl (by omega) rfl rfl rfl | exact opv_loadIX rfl rfl (by omega) | exact opv_loadR1 rfl rfl rfl | exact opv_loadRA rfl rfl rfl rfl) rfl ?_
    refine tri_v (by first | exact opv_load1 rfl rfl rfl | exact opv_loadA rfl rfl rfl | exact opv_loadE1 rfl (by assumption) rfl (by omega) rfl rfl | exact opv_loadEA rfl (by assumption) rfl (by omega) rfl rfl | exact opv_loadRX1 rfl rfl (by omega) rfl rfl | exact opv_loadRXA rfl rfl (by omega) rfl rfl rfl | exact opv_loadIX rfl rfl (by omega) | exact opv_loadR1 rfl rfl rfl | exact opv_loadRA rfl rfl rfl rfl) rfl ?_
    refine tri_g (opg_buildSlice rfl rfl rfl rfl) rfl ?_
    rintro _ _ _ ⟨b133, rfl, rfl, rfl⟩
    refine tri_g (opg_appendB rfl rfl rfl rfl (by omega) rfl) rfl ?_
    rintro _ _ _ ⟨a3, c3, rfl, rfl, rfl⟩
    refine tri_v (by first | exact opv_fieldAddr rfl rfl | exact opv_fieldAddrE rfl (by assumption) (by omega) rfl | exact opv_fieldAddrR rfl (by omega) rfl) rfl ?_
    refine tri_g (opg_store rfl rfl rfl rfl rfl rfl) rfl ?_
    rintro _ _ _ ⟨rfl, rfl⟩
    refine tN ?_
    refine tri_inBlock ?_
    refine tT (tR (tM rfl rfl ?_))
    refine tri_v (by first | exact opv_add rfl rfl (w64 (by omega) (by omega))) rfl ?_
    refine tA rfl rfl (tN (tT ?_))
    refine tri_drop ?_
    refine tri_drop ?_
    refine tri_rowEq (len' := (out ++ [R6.mapKids to (ns.getD i default)]).length) (cells' := encs (out ++ [R6.mapKids to (ns.getD i default)])) (by simp) (by rw [encs_append]; rfl) ?_
    have hk := hK2 (i + 1, to.set i (out.length : Nat), out ++ [R6.mapKids to (ns.getD i default)], a3, c3) ⟨by simp only; omega, hnx⟩ (by simp only; omega)
    simp only [List.length_append] at hk ⊢
    refine tri_sub ?_ hk
    exact ⟨rfl, rfl, rfl, rfl, rfl, rfl, rfl, trivial⟩
  ·obtain rfl : i = ns.length := by omega
   rw [← hall] at hst
   have hR1 : R.1 = to := by rw [hst]
   have hR2 : R.2 = out := by rw [hst]
   rw [hR1, hR2] at hlive
   refine tri_freezeRowC rfl fun I2 hI2 hso => ?_
   have hsr2 := hsr.mono hI2
   refine tri_exit ?_
   refine tri_then_exit ?_
   refine tri_then_exit ?_
   refine tri_inBlock_hit rfl ?_
   refine tT (tS (tR (tA rfl rfl (tN (tT (tS (tS ?_)))))))
   refine tR (tA rfl rfl (tN (tT (tri_block ?_))))
   refine tri_nilRow (E := 3) (sz := 1) ?_
   refine tri_sub (F' := [(1, .slice ar roots.length capr), (4, pt b4 0), (11, .slice a11 ns.length ns.length), (12, pt b12 0), (16, .slice none 0 0), (17, .int .i64 (0 : Nat))]) ⟨rfl, rfl, rfl, rfl, rfl, rfl, trivial⟩ ?_
   refine loop_ind (G := Nat × Option Addr × Nat) (fun g => roots.length - g.1) (fun g => g.1 ≤ roots.length) (fun g => [(1, .slice ar roots.length capr), (4, pt b4 0), (11, .slice a11 ns.length ns.length), (12, pt b12 0), (16, .slice g.2.1 ((roots.take g.1).map fun r => to.getD r.toNat default).length g.2.2), (17, .int .i64 (g.1 : Nat))])
    (fun g => Row g.2.1 g.2.2 ((roots.take g.1).map fun r => to.getD r.toNat default).length 3 1 (encs ((roots.take g.1).map fun r => to.getD r.toNat default)) :: Box b12 [.slice a1 out.length c1, .int .i64 room] 25 :: Row a11 ns.length ns.length 3 1 (encs to) :: Row a7 ns.length ns.length 4 1 (encs kp) :: Box b4 [.slice none 0 0, .int .i64 0] 25 :: Box b2 [.slice a ns.length cap, .int .i64 room] 25 :: A) (fun _ => I2) ?_ (0, none, 0) (by simp)
   rintro ⟨q, a5, c5⟩ hq K3 hK3
   simp only at hq hK3 ⊢
   have hl1 : ((roots.take q).map fun r => to.getD r.toNat default).length = q := by rw [List.length_map, List.length_take]; omega
   skip
   refine tS (tS (tR (tM rfl rfl (tM rfl rfl ?_))))
   refine tri_v (opv_len rfl) rfl ?_
   refine tri_v (opv_lss rfl rfl) rfl ?_
   refine tN (tT ?_)
   refine tri_cond_dec rfl (fun h3 => ?_) (fun h3 => ?_)
   ·have hql : q < roots.length := by omega
    have hrb := hin q hql
    have hrb1 := hrb.1
    have hrb2 := hrb.2
    refine tri_skip (tT (tS (tri_block (tR (tM rfl rfl (tM rfl rfl (tM rfl rfl ?_)))))))
    refine tM rfl rfl ?_
    refine tri_v (by first | exact opv_indexAddrA rfl rfl (by first | decide | omega) (by first | decide | omega) | exact opv_indexAddrSN rfl rfl (by omega) (by assumption) rfl | exact opv_indexAddrS rfl rfl (by omega) (by omega) (by assumption) rfl | exact opv_indexAddrE rfl (by assumption) (by omega) rfl (by first | decide | omega) (by first | decide | omega) | exact opv_indexAddrRN rfl rfl (by omega) | exact opv_indexAddrR rfl rfl (by omega) (by omega) | exact opv_indexAddrRA rfl (by omega) rfl (by first | decide | omega) (by first | decide | omega)) rfl ?_
    refine tri_v (by first | exact opv_load1 rfl rfl rfl | exact opv_loadA rfl rfl rfl | exact opv_loadE1 rfl (by assumption) rfl (by omega) rfl rfl | exact opv_loadEA rfl (by assumption) rfl (by omega) rfl rfl | exact opv_loadRX1 rfl rfl (by omega) rfl rfl | exact opv_loadRXA rfl rfl (by omega) rfl rfl rfl | exact opv_loadIX rfl rfl (by omega) | exact opv_loadR1 rfl rfl rfl | exact opv_loadRA rfl rfl rfl rfl) rfl ?_
    refine tri_v (by first | exact opv_indexAddrA rfl rfl (by first | decide | omega) (by first | decide | omega) | exact opv_indexAddrSN rfl rfl (by omega) (by assumption) rfl | exact opv_indexAddrS rfl rfl (by omega) (by omega) (by assumption) rfl | exact opv_indexAddrE rfl (by assumption) (by omega) rfl (by first | decide | omega) (by first | decide | omega) | exact opv_indexAddrRN rfl rfl (by omega) | exact opv_indexAddrR rfl rfl (by omega) (by omega) | exact opv_indexAddrRA rfl (by omega) rfl (by first | decide | omega) (by first | decide | omega)) rfl ?_
    refine tri_v (by first | exact opv_load1 rfl rfl rfl | exact opv_loadA rfl rfl rfl | exact opv_loadE1 rfl (by assumption) rfl (by omega) rfl rfl | exact opv_loadEA rfl (by assumption) rfl (by omega) rfl rfl | exact opv_loadRX1 rfl rfl (by omega) rfl rfl | exact opv_loadRXA rfl rfl (by omega) rfl rfl rfl | exact opv_loadIX rfl rfl (by omega) | exact opv_loadR1 rfl rfl rfl | exact opv_loadRA rfl rfl rfl rfl) rfl ?_
    refine tri_g (opg_buildSlice rfl rfl rfl rfl) rfl ?_
    rintro _ _ _ ⟨b150, rfl, rfl, rfl⟩
    refine tri_g (opg_appendB rfl rfl rfl rfl (by omega) rfl) rfl ?_
    rintro _ _ _ ⟨a6, c6, rfl, rfl, rfl⟩
    refine tA rfl rfl (tN ?_)
    refine tri_inBlock ?_
    refine tT (tR (tM rfl rfl ?_))
    refine tri_v (by first | exact opv_add rfl rfl (w64 (by omega) (by omega))) rfl ?_
    refine tA rfl rfl (tN (tT ?_))
    have e2 : (roots.take (q + 1)).map (fun r => to.getD r.toNat default) = (roots.take q).map (fun r => to.getD r.toNat default) ++ [to.getD (roots.getD q default).toNat default] := by
     rw [List.take_succ_eq_append_getElem hql, List.map_append, show roots.getD q default = roots[q] by simp [hql]]; rfl
    refine tri_drop ?_
    refine tri_rowEq (len' := ((roots.take (q + 1)).map fun r => to.getD r.toNat default).length) (cells' := encs ((roots.take (q + 1)).map fun r => to.getD r.toNat default)) (by rw [e2]; simp) (by rw [e2, encs_append]; rfl) ?_
    refine tri_sub ?_ (hK3 (q + 1, a6, c6) (by simp only; omega) (by simp only; omega))
    exact ⟨rfl, rfl, rfl, rfl, by simp only [e2, List.length_append]; rfl, rfl, trivial⟩
   ·obtain rfl : q = roots.length := by omega
    rw [List.take_length]
    refine tri_freezeRow (α := Int) rfl fun I3 hI3 hsp => ?_
    refine tri_exit ?_
    refine tri_then_exit ?_
    refine tri_then_exit ?_
    refine tri_inBlock_hit rfl ?_
    refine tT (tS (tR ?_))
    refine tri_v (by first | exact opv_load1 rfl rfl rfl | exact opv_loadA rfl rfl rfl | exact opv_loadE1 rfl (by assumption) rfl (by omega) rfl rfl | exact opv_loadEA rfl (by assumption) rfl (by omega) rfl rfl | exact opv_loadRX1 rfl rfl (by omega) rfl rfl | exact opv_loadRXA rfl rfl (by omega) rfl rfl rfl | exact opv_loadIX rfl rfl (by omega) | exact opv_loadR1 rfl rfl rfl | exact opv_loadRA rfl rfl rfl rfl) rfl ?_
    refine tM rfl rfl ?_
    refine tri_g (opg_store rfl rfl rfl rfl rfl rfl) rfl ?_
    rintro _ _ _ ⟨rfl, rfl⟩
    refine tA rfl rfl (tA rfl rfl (tN (tT (tri_ret ?_))))
    refine tri_end A Suf.h rfl (.cons (rv_cellA rfl rfl rfl) (.cons (rv_tmp rfl) (.cons (rv_tmp rfl) .nil))) ?_
    rw [hlive]
    exact ⟨a1, c1, a5, c5, rfl, hso.mono hI3, hsp, rfl, fun _ h => hI3 (hI2 h)⟩
end Go.GL

set_option linter.unusedVariables false
namespace Go.GL.Rd
open Go.Proofs
attribute [local irreducible] wpListIn Code.wpIn Exit.then Exit.inBlock Ends Tri OpV OpG FnC epf XN RoundC Go.GL.Ends
variable {A : List Asrt} {I : List Chunk}
/-- The maps of what is kept. -/
def KeepS (ns : List Node) (roots : List Int) (b9 b42 : Nat) (T : TypeId) (i : Nat) (L : List Asrt) : Prop := ∃ es keep, KeepIx es keep ∧ keep.length = ns.length ∧ R6.kept ns roots = R6.keepDown ns (i - 2) keep ∧ L = [Box b9 [.map (some b42)] T, MapA Try.prog 3 b42 es]
theorem right_lv {ns : List Node} {room : Int} (h : R6.right ns room) {i : Nat} (hi : i < ns.length) : (ns.getD i default).lv = 0 ↔ i < 2 := by
 by_cases h2 : 2 ≤ i
 ·have := (h.2 i hi h2).2.2.2.2.1
  omega
 ·rcases (by omega : i = 0 ∨ i = 1) with rfl | rfl
  ·rw [h.1.2.2.2.2.1]; exact ⟨fun _ => by omega, fun _ => rfl⟩
  ·rw [h.1.2.2.2.2.2]; exact ⟨fun _ => by omega, fun _ => rfl⟩
set_option maxHeartbeats 4000000 in
set_option maxRecDepth 100000 in
theorem node_live {ns : List Node} {roots : List Int} {a ar : Option Addr} {cap capr : Nat} {room : Int} (hs : StA I a cap ns) (hn : ns.length ≤ 1000000) (hsr : SlAt I ar roots) (hrl : roots.length ≤ 1000000) :
  FnC Try.prog 23 [storeV a ns.length cap room, .slice ar roots.length capr].toArray A I (LiveR (R6.live ns room roots) room A I) := by
 skip
 skip
 refine fn_enter2 Try.func23 rfl Try.ntmps23 rfl fun w0 => ?_
 refine tri_seq ?_
 refine tri_region ?_
 first | refine tri_g (opg_box_agg rfl) rfl ?_ | refine tri_g (opg_box1 rfl rfl) rfl ?_
 rintro _ _ _ ⟨b2, rfl, rfl, rfl⟩
 refine tri_g opg_alloc rfl ?_
 rintro _ _ _ ⟨b4, rfl, rfl, rfl⟩
 refine tri_v (opv_assign rfl) rfl ?_
 refine tri_v (opv_assign rfl) rfl ?_
 refine tri_nil ?_
 refine tri_then ?_
 refine tri_seq ?_
 refine tri_region ?_
 refine tri_v (by first | exact opv_load1 rfl rfl rfl | exact opv_loadA rfl rfl rfl | exact opv_loadE1 rfl (by assumption) rfl (by omega) rfl rfl | exact opv_loadEA rfl (by assumption) rfl (by omega) rfl rfl | exact opv_loadRX1 rfl rfl (by omega) rfl rfl | exact opv_loadRXA rfl rfl (by omega) rfl rfl rfl | exact opv_loadIX rfl rfl (by omega) | exact opv_loadR1 rfl rfl rfl | exact opv_loadRA rfl rfl rfl rfl) rfl ?_
 refine tri_g (opg_call (xs := [_]) rfl (node_of hs (by omega))) rfl ?_
 rintro v A1 I1 hR
 rcases hR with ⟨hrt, bx, mb, a1, c1, es, rfl, rfl, hix, rfl⟩ | ⟨hrt, rfl, rfl, rfl⟩
 ·have hn2 : 2 ≤ ns.length := hrt.1.2.2.1
  have hkid := fun i hi => hrt.kid (i := i) hi
  have hlv := fun i hi => right_lv hrt (i := i) hi
  refine tri_v (opv_move rfl) rfl ?_
  refine tri_v (opv_extract rfl rfl) rfl ?_
  refine tri_v (opv_extract rfl rfl) rfl ?_
  refine tri_v (opv_assign rfl) rfl ?_
  refine tri_v (opv_assign rfl) rfl ?_
  refine tri_nil ?_
  refine tri_then ?_
  refine tri_seq ?_
  refine tri_seq ?_
  refine tri_region ?_
  refine tri_v (opv_move rfl) rfl ?_
  refine tri_v (by first | exact opv_notD rfl | exact opv_not rfl) rfl ?_
  refine tri_v (opv_move rfl) rfl ?_
  skip
  refine tri_guard_run rfl rfl rfl ?_
  refine tri_v (opv_move rfl) rfl ?_
  refine tri_guard_run rfl rfl rfl ?_
  refine tri_v (opv_makeFunc (fs := []) (cs := [_]) (vf := []) (vc := [_]) rfl rfl) rfl ?_
  refine tri_guard_run rfl rfl rfl ?_
  refine tri_g (opg_call (xs := [_, _]) rfl (slices_containsFunc (p := fun n => decide (n < 0 ∨ (ns.length : Int) ≤ n)) (ca := [pt b2 0]) (fun x _ => live_clo) hsr (by omega))) rfl ?_
  rintro _ _ _ ⟨rfl, rfl, rfl⟩
  refine tri_v (by first | exact opv_pick_t rfl rfl | exact opv_pick_f rfl rfl | exact opv_pick_bool rfl rfl rfl | exact opv_pick rfl rfl rfl) rfl ?_
  refine tri_nil ?_
  refine tri_then ?_
  refine tri_cond_dec rfl (fun h0 => ?_) (fun h0 => ?_)
  ·refine tri_seq ?_
   refine tri_region ?_
   refine tri_v (by first | exact opv_load1 rfl rfl rfl | exact opv_loadA rfl rfl rfl | exact opv_loadE1 rfl (by assumption) rfl (by omega) rfl rfl | exact opv_loadEA rfl (by assumption) rfl (by omega) rfl rfl | exact opv_loadRX1 rfl rfl (by omega) rfl rfl | exact opv_loadRXA rfl rfl (by omega) rfl rfl rfl | exact opv_loadIX rfl rfl (by omega) | exact opv_loadR1 rfl rfl rfl | exact opv_loadRA rfl rfl rfl rfl) rfl ?_
   refine tri_g (opg_store rfl rfl rfl rfl rfl rfl) rfl ?_
   rintro _ _ _ ⟨rfl, rfl⟩
   refine tri_v (opv_assign rfl) rfl ?_
   refine tri_v (opv_assign rfl) rfl ?_
   refine tri_nil ?_
   refine tri_then ?_
   refine tri_ret ?_
   refine tri_then_ret ?_
   refine tri_end A Suf.h rfl (.cons (rv_cellA rfl rfl rfl) (.cons (rv_tmp rfl) (.cons (rv_tmp rfl) .nil))) ?_
   obtain ⟨i, hi, hp⟩ := idx_any.1 h0
   have hp := of_decide_eq_true hp
   rw [R6.live_bad (fun h => by have := h.2 i hi; unfold R6.inS at this; omega)]
   exact ⟨a, cap, none, 0, rfl, hs, SlAt.nil, rfl, fun _ h => h⟩
  have hin : ∀ i, i < roots.length → R6.inS ns (roots.getD i default) := fun i hi => by
   apply Decidable.byContradiction
   intro hx
   refine h0 (idx_any.2 ⟨i, hi, decide_eq_true ?_⟩)
   unfold R6.inS at hx
   omega
  have hlive : R6.live ns room roots = ((R6.liveAll ns (R6.kept ns roots)).2, roots.map fun r => (R6.liveAll ns (R6.kept ns roots)).1.getD r.toNat default, 0) := if_pos ⟨hrt, hin⟩
  refine tri_skip ?_
  refine tri_then ?_
  refine tri_seq ?_
  refine tri_region ?_
  refine tri_g opg_makeMap rfl ?_
  rintro _ _ _ ⟨b42, rfl, rfl, rfl⟩
  refine tri_v (by first | exact opv_buildS rfl rfl | exact opv_buildA rfl rfl) rfl ?_
  refine tri_g (opg_insert (P := Try.prog) (ks := [0]) rfl rfl rfl (keyI 0) keyIAt rfl) rfl ?_
  rintro _ _ _ ⟨rfl, rfl⟩
  refine tri_v (by first | exact opv_buildS rfl rfl | exact opv_buildA rfl rfl) rfl ?_
  refine tri_g (opg_insert (P := Try.prog) (ks := [1]) rfl rfl rfl (keyI 1) keyIAt rfl) rfl ?_
  rintro _ _ _ ⟨rfl, rfl⟩
  refine tri_v (opv_move rfl) rfl ?_
  refine tri_g opg_alloc rfl ?_
  rintro _ _ _ ⟨b9, rfl, rfl, rfl⟩
  refine tri_g (opg_store rfl rfl rfl rfl rfl rfl) rfl ?_
  rintro _ _ _ ⟨rfl, rfl⟩
  refine tri_nil ?_
  refine tri_then ?_
  refine tri_seq ?_
  refine tri_seq ?_
  refine tri_region ?_
  refine tri_v (opv_move rfl) rfl ?_
  refine tri_v (opv_len rfl) rfl ?_
  refine tri_v (opv_move rfl) rfl ?_
  refine tri_nil ?_
  refine tri_then ?_
  refine tri_cut (fun F' A' J => ∃ es2 : KVs, F' = [(1, .slice ar roots.length capr), (2, pt b2 0), (4, pt b4 0), (7, pt bx 0), (9, pt b9 0)] ∧ A' = Box b9 [.map (some b42)] 68 :: MapA Try.prog 3 b42 es2 :: IxA bx mb a1 c1 ns room es (Box b4 [.slice none 0 0, .int .i64 0] 25 :: Box b2 [.slice a ns.length cap, .int .i64 room] 25 :: A) ∧ I = J ∧ KeepIx es2 (R6.keepRoots ns.length roots)) ?_ ?_
  ·refine tri_block ?_
   refine tri_sub (F' := [(1, .slice ar roots.length capr), (2, pt b2 0), (4, pt b4 0), (7, pt bx 0), (9, pt b9 0), (46, .slice ar roots.length capr), (47, .int .i64 (roots.length : Nat)), (48, .int .i64 (0 : Nat))]) ⟨rfl, rfl, rfl, rfl, rfl, rfl, rfl, rfl, trivial⟩ ?_
   refine loop_ind (G := Nat × List Bool × KVs) (fun g => roots.length - g.1) (fun g => g.1 ≤ roots.length ∧ g.2.1.length = ns.length ∧ g.2.1 = (roots.take g.1).foldl (fun keep r => keep.set r.toNat true) (((List.replicate ns.length false).set 0 true).set 1 true) ∧ KeepIx g.2.2 g.2.1) (fun g => [(1, .slice ar roots.length capr), (2, pt b2 0), (4, pt b4 0), (7, pt bx 0), (9, pt b9 0), (46, .slice ar roots.length capr), (47, .int .i64 (roots.length : Nat)), (48, .int .i64 (g.1 : Nat))])
    (fun g => Box b9 [.map (some b42)] 68 :: MapA Try.prog 3 b42 g.2.2 :: IxA bx mb a1 c1 ns room es (Box b4 [.slice none 0 0, .int .i64 0] 25 :: Box b2 [.slice a ns.length cap, .int .i64 room] 25 :: A)) (fun _ => I) ?_ (0, ((List.replicate ns.length false).set 0 true).set 1 true, mset (mset [] [0] (.agg #[])) [1] (.agg #[])) ⟨by simp, by simp, rfl, KeepIx.start hn2⟩
   rintro ⟨i, keep, es2⟩ ⟨hi, hkl, hke, hkx⟩ K hK
   simp only at hi hkl hke hkx hK ⊢
   skip
   refine tri_seq ?_
   refine tri_region ?_
   refine tri_v (opv_lss rfl rfl) rfl ?_
   refine tri_nil ?_
   refine tri_then ?_
   refine tri_seq ?_
   refine tri_cond_dec rfl (fun h => ?_) (fun h => ?_)
   ·have hlt : i < roots.length := by omega
    have hri := hin i hlt
    refine tri_skip ?_
    refine tri_then ?_
    refine tri_seq ?_
    refine tri_block ?_
    refine tri_seq ?_
    refine tri_region ?_
    refine tri_v (by first | exact opv_indexAddrA rfl rfl (by first | decide | omega) (by first | decide | omega) | exact opv_indexAddrSN rfl rfl (by omega) (by assumption) rfl | exact opv_indexAddrS rfl rfl (by omega) (by omega) (by assumption) rfl | exact opv_indexAddrE rfl (by assumption) (by omega) rfl (by first | decide | omega) (by first | decide | omega) | exact opv_indexAddrRN rfl rfl (by omega) | exact opv_indexAddrR rfl rfl (by omega) (by omega) | exact opv_indexAddrRA rfl (by omega) rfl (by first | decide | omega) (by first | decide | omega)) rfl ?_
    refine tri_v (by first | exact opv_load1 rfl rfl rfl | exact opv_loadA rfl rfl rfl | exact opv_loadE1 rfl (by assumption) rfl (by omega) rfl rfl | exact opv_loadEA rfl (by assumption) rfl (by omega) rfl rfl | exact opv_loadRX1 rfl rfl (by omega) rfl rfl | exact opv_loadRXA rfl rfl (by omega) rfl rfl rfl | exact opv_loadIX rfl rfl (by omega) | exact opv_loadR1 rfl rfl rfl | exact opv_loadRA rfl rfl rfl rfl) rfl ?_
    refine tri_v (opv_assign rfl) rfl ?_
    refine tri_nil ?_
    refine tri_then ?_
    refine tri_region ?_
    refine tri_v (by first | exact opv_load1 rfl rfl rfl | exact opv_loadA rfl rfl rfl | exact opv_loadE1 rfl (by assumption) rfl (by omega) rfl rfl | exact opv_loadEA rfl (by assumption) rfl (by omega) rfl rfl | exact opv_loadRX1 rfl rfl (by omega) rfl rfl | exact opv_loadRXA rfl rfl (by omega) rfl rfl rfl | exact opv_loadIX rfl rfl (by omega) | exact opv_loadR1 rfl rfl rfl | exact opv_loadRA rfl rfl rfl rfl) rfl ?_
    refine tri_v (opv_move rfl) rfl ?_
    refine tri_v (by first | exact opv_buildS rfl rfl | exact opv_buildA rfl rfl) rfl ?_
    refine tri_g (opg_mapUpdate (P := Try.prog) (ks := [roots.getD i default]) rfl rfl rfl (keyI _) keyIAt rfl) rfl ?_
    rintro _ _ _ ⟨rfl, rfl⟩
    refine tri_nil ?_
    refine tri_inBlock ?_
    refine tri_then ?_
    refine tri_region ?_
    refine tri_v (by first | exact opv_add rfl rfl (w64 (by omega) (by omega))) rfl ?_
    refine tri_v (opv_move rfl) rfl ?_
    refine tri_nil ?_
    refine tri_then ?_
    refine tri_sub ?_ (hK (i + 1, keep.set (roots.getD i default).toNat true, mset es2 [roots.getD i default] (.agg #[])) ⟨by simp only; omega, by simp only [List.length_set]; exact hkl, ?_, hkx.set ⟨hri.1, by rw [hkl]; exact hri.2⟩⟩ (by simp only; omega))
    ·exact ⟨rfl, rfl, rfl, rfl, rfl, rfl, rfl, rfl, trivial⟩
    ·simp only
     rw [List.take_succ_eq_append_getElem hlt, List.foldl_append, ← hke, show roots.getD i default = roots[i] by simp [hlt]]
     rfl
   ·obtain rfl : i = roots.length := by omega
    rw [List.take_length] at hke
    rw [show keep = R6.keepRoots ns.length roots from hke] at hkx
    refine tri_exit ?_
    refine tri_then_exit ?_
    refine tri_then_exit ?_
    refine tri_inBlock_hit rfl ?_
    exact tri_cutEnd _ ⟨es2, rfl, rfl, rfl, hkx⟩ ⟨rfl, rfl, rfl, rfl, rfl, trivial⟩
  rintro _ _ _ ⟨es2, rfl, rfl, rfl, hkx⟩
  skip
  refine tri_then ?_
  refine tri_seq ?_
  refine tri_seq ?_
  refine tri_region ?_
  refine tri_v (opv_move rfl) rfl ?_
  refine tri_v (opv_nilCheck rfl) rfl ?_
  refine tri_v (by first | exact opv_fieldAddr rfl rfl | exact opv_fieldAddrE rfl (by assumption) (by omega) rfl | exact opv_fieldAddrR rfl (by omega) rfl) rfl ?_
  refine tri_v (by first | exact opv_fieldAddr rfl rfl | exact opv_fieldAddrE rfl (by assumption) (by omega) rfl | exact opv_fieldAddrR rfl (by omega) rfl) rfl ?_
  refine tri_v (by first | exact opv_load1 rfl rfl rfl | exact opv_loadA rfl rfl rfl | exact opv_loadE1 rfl (by assumption) rfl (by omega) rfl rfl | exact opv_loadEA rfl (by assumption) rfl (by omega) rfl rfl | exact opv_loadRX1 rfl rfl (by omega) rfl rfl | exact opv_loadRXA rfl rfl (by omega) rfl rfl rfl | exact opv_loadIX rfl rfl (by omega) | exact opv_loadR1 rfl rfl rfl | exact opv_loadRA rfl rfl rfl rfl) rfl ?_
  refine tri_g (opg_call (xs := [_]) rfl (slices_backward)) rfl ?_
  rintro _ _ _ ⟨b1, rfl, rfl, rfl⟩
  refine tri_nil ?_
  refine tri_then ?_
  refine tri_block ?_
  skip
  refine tri_perm (A := ?a1_0 :: ?a1_1 :: ?a1_2 :: ?a1_3 :: ?a1_4 :: ?a1_5 :: ?a1_6 :: ?a1_7 :: ?T1) (B := ?a1_0 :: ?a1_4 :: ?a1_1 :: ?a1_2 :: ?a1_3 :: ?a1_5 :: ?a1_6 :: ?a1_7 :: ?T1) (by exact permL [0, 4, 1, 2, 3, 5, 6, 7] [?a1_0, ?a1_1, ?a1_2, ?a1_3, ?a1_4, ?a1_5, ?a1_6, ?a1_7] ?T1 (by decide) rfl) ?_
  refine tri_range (f := 42) (fun j A' I' => j = none ∧ ∃ L' : List Asrt, KeepS ns roots b9 b42 68 0 L' ∧ A' = Box b1 [.slice a1 ns.length c1] 23 :: Row a1 c1 ns.length 49 6 (encs ns) :: (L' ++ Box bx [.slice a1 ns.length c1, .int .i64 room, .map (some mb)] 74 :: MapA Try.prog 26 mb es :: Box b4 [.slice none 0 0, .int .i64 0] 25 :: Box b2 [.slice a ns.length cap, .int .i64 room] 25 :: A) ∧ I = I') rfl (fun l b fnn tm df hfr => ?_) (fun j A' I' h => .inl h.1) (fun l b lp A' I' h => ?_) (fun l b lp id A' I' h => by cases h.1)
  ·refine slices_backward1 (L0 := [Box b9 [.map (some b42)] 68, MapA Try.prog 3 b42 es2]) hn rfl ?_ ⟨es2, _, hkx, R6.keepRoots_len _ _, rfl, rfl⟩
   rintro i _ M hi ⟨es3, keep, hkx, hkl, hke, rfl⟩
   have hq := hkx.ix i (by omega)
   have hv := hkx.get [(i : Int)]
   have hlvi := hlv i hi
   obtain ⟨⟨p0, q0, r0⟩, ⟨p1, q1, r1⟩, ⟨p2, q2, r2⟩, ⟨p3, q3, r3⟩⟩ := hkid i hi
   refine round_enter (ps := [62, 63]) (F := [(9, pt b9 0)]) (fun F' A' I' => ∃ b13, F' = [(9, pt b9 0), (12, .int .i64 (i : Nat)), (13, pt b13 0)] ∧ A' = Box b13 [.int .i64 (ns.getD i default).lv, .int .i64 (ns.getD i default).k0, .int .i64 (ns.getD i default).k1, .int .i64 (ns.getD i default).k2, .int .i64 (ns.getD i default).k3, .int .i64 (ns.getD i default).pop] 49 :: Box b9 [.map (some b42)] 68 :: MapA Try.prog 3 b42 es3 :: M ∧ I = I') rfl rfl rfl (hfr.sub ⟨rfl, trivial⟩) (fun w1 => ?_) ?_
   ·skip
    refine tri_seq ?_
    refine tri_region ?_
    refine tri_v (opv_assign rfl) rfl ?_
    refine tri_nil ?_
    refine tri_then ?_
    refine tri_region ?_
    refine tri_g opg_alloc rfl ?_
    rintro _ _ _ ⟨b13, rfl, rfl, rfl⟩
    refine tri_g (opg_store rfl rfl rfl rfl rfl rfl) rfl ?_
    rintro _ _ _ ⟨rfl, rfl⟩
    refine tri_nil ?_
    refine tri_perm (A := ?a2_0 :: ?a2_1 :: ?T2) (B := ?a2_1 :: ?a2_0 :: ?T2) (by exact permL [1, 0] [?a2_0, ?a2_1] ?T2 (by decide) rfl) ?_
    exact tri_cutEnd _ ⟨_, rfl, b13, rfl, rfl, rfl⟩ ⟨rfl, rfl, rfl, trivial⟩
   ·rintro w1 _ _ _ ⟨b13, rfl, rfl, rfl⟩
    skip
    refine tri_block ?_
    refine tri_seq ?_
    refine tri_seq ?_
    refine tri_region ?_
    refine tri_v (by first | exact opv_load1 rfl rfl rfl | exact opv_loadA rfl rfl rfl | exact opv_loadE1 rfl (by assumption) rfl (by omega) rfl rfl | exact opv_loadEA rfl (by assumption) rfl (by omega) rfl rfl | exact opv_loadRX1 rfl rfl (by omega) rfl rfl | exact opv_loadRXA rfl rfl (by omega) rfl rfl rfl | exact opv_loadIX rfl rfl (by omega) | exact opv_loadR1 rfl rfl rfl | exact opv_loadRA rfl rfl rfl rfl) rfl ?_
    refine tri_v (opv_move rfl) rfl ?_
    refine tri_v (opv_lookup2 (P := Try.prog) (ks := [(i : Int)]) zeroE rfl rfl (keyI _) keyIAt rfl) rfl ?_
    rw [hq, hv]
    refine tri_v (opv_move rfl) rfl ?_
    refine tri_v (opv_extract rfl rfl) rfl ?_
    refine tri_v (opv_extract rfl rfl) rfl ?_
    refine tri_g opg_alloc rfl ?_
    rintro _ _ _ ⟨b14, rfl, rfl, rfl⟩
    refine tri_g (opg_store rfl rfl rfl rfl rfl rfl) rfl ?_
    rintro _ _ _ ⟨rfl, rfl⟩
    refine tri_v (opv_assign rfl) rfl ?_
    refine tri_nil ?_
    refine tri_then ?_
    refine tri_seq ?_
    refine tri_region ?_
    refine tri_v (opv_move rfl) rfl ?_
    refine tri_v (by first | exact opv_notD rfl | exact opv_not rfl) rfl ?_
    refine tri_v (opv_move rfl) rfl ?_
    refine tri_bool 72 rfl (fun hb => ?_) (fun hb => ?_)
    ·have hb' : keep.getD i default = false := by simpa using hb
     refine tri_guard_skip rfl rfl rfl rfl ?_
     refine tri_guard_skip rfl rfl rfl rfl ?_
     refine tri_guard_skip rfl rfl rfl rfl ?_
     refine tri_v (by first | exact opv_pick_t rfl rfl | exact opv_pick_f rfl rfl | exact opv_pick_bool rfl rfl rfl | exact opv_pick rfl rfl rfl) rfl ?_
     refine tri_nil ?_
     refine tri_then ?_
     refine tri_cond_true rfl ?_
     refine tri_exit ?_
     refine tri_then_exit ?_
     refine tri_inBlock_hit rfl ?_
     refine tri_drop ?_
     refine tri_perm (A := ?a3_0 :: ?a3_1 :: ?T3) (B := ?a3_1 :: ?a3_0 :: ?T3) (by exact permL [1, 0] [?a3_0, ?a3_1] ?T3 (by decide) rfl) ?_
     refine tri_drop ?_
     refine round_normal ⟨rfl, _, ⟨es3, keep, hkx, hkl, ?_, rfl⟩, rfl, rfl⟩
     rw [hke]
     by_cases hi2 : 2 ≤ i
     ·rw [show i + 1 - 2 = (i - 2) + 1 by omega, R6.keepDown_succ, show i - 2 + 2 = i by omega, if_neg (by rw [hb']; decide)]
     ·rw [show i + 1 - 2 = 0 by omega, show i - 2 = 0 by omega]
    ·have hb' : keep.getD i default = true := by simpa using hb
     refine tri_guard_run rfl rfl rfl ?_
     refine tri_v (by first | exact opv_fieldAddr rfl rfl | exact opv_fieldAddrE rfl (by assumption) (by omega) rfl | exact opv_fieldAddrR rfl (by omega) rfl) rfl ?_
     refine tri_guard_run rfl rfl rfl ?_
     refine tri_v (by first | exact opv_load1 rfl rfl rfl | exact opv_loadA rfl rfl rfl | exact opv_loadE1 rfl (by assumption) rfl (by omega) rfl rfl | exact opv_loadEA rfl (by assumption) rfl (by omega) rfl rfl | exact opv_loadRX1 rfl rfl (by omega) rfl rfl | exact opv_loadRXA rfl rfl (by omega) rfl rfl rfl | exact opv_loadIX rfl rfl (by omega) | exact opv_loadR1 rfl rfl rfl | exact opv_loadRA rfl rfl rfl rfl) rfl ?_
     refine tri_guard_run rfl rfl rfl ?_
     refine tri_v (by first | exact opv_eql rfl rfl | exact opv_eqlI rfl rfl rfl rfl rfl rfl | exact opv_eqlB rfl rfl | exact opv_eqlNil rfl rfl) rfl ?_
     refine tri_v (by first | exact opv_pick_t rfl rfl | exact opv_pick_f rfl rfl | exact opv_pick_bool rfl rfl rfl | exact opv_pick rfl rfl rfl) rfl ?_
     refine tri_nil ?_
     refine tri_then ?_
     refine tri_cond_dec rfl (fun h4 => ?_) (fun h4 => ?_)
     ·have hi2 := hlvi.1 h4
      refine tri_exit ?_
      refine tri_then_exit ?_
      refine tri_inBlock_hit rfl ?_
      refine tri_drop ?_
      refine tri_perm (A := ?a4_0 :: ?a4_1 :: ?T4) (B := ?a4_1 :: ?a4_0 :: ?T4) (by exact permL [1, 0] [?a4_0, ?a4_1] ?T4 (by decide) rfl) ?_
      refine tri_drop ?_
      refine round_normal ⟨rfl, _, ⟨es3, keep, hkx, hkl, ?_, rfl⟩, rfl, rfl⟩
      rw [hke, show i + 1 - 2 = 0 by omega, show i - 2 = 0 by omega]
     ·have hi2 : 2 ≤ i := by
       apply Decidable.byContradiction
       intro hx
       exact h4 (hlvi.2 (by omega))
      have r0 := r0 hi2
      have r1 := r1 hi2
      have r2 := r2 hi2
      have r3 := r3 hi2
      refine tri_skip ?_
      refine tri_then ?_
      refine tri_seq ?_
      refine tri_region ?_
      refine tri_v (by first | exact opv_fieldAddr rfl rfl | exact opv_fieldAddrE rfl (by assumption) (by omega) rfl | exact opv_fieldAddrR rfl (by omega) rfl) rfl ?_
      refine tri_v (by first | exact opv_load1 rfl rfl rfl | exact opv_loadA rfl rfl rfl | exact opv_loadE1 rfl (by assumption) rfl (by omega) rfl rfl | exact opv_loadEA rfl (by assumption) rfl (by omega) rfl rfl | exact opv_loadRX1 rfl rfl (by omega) rfl rfl | exact opv_loadRXA rfl rfl (by omega) rfl rfl rfl | exact opv_loadIX rfl rfl (by omega) | exact opv_loadR1 rfl rfl rfl | exact opv_loadRA rfl rfl rfl rfl) rfl ?_
      refine tri_v (opv_move rfl) rfl ?_
      refine tri_nil ?_
      refine tri_then ?_
      refine tri_block ?_
      refine tri_rounds 5 ?_
      refine tri_round ?_
      refine tri_seq ?_
      refine tri_region ?_
      refine tri_v (opv_lss rfl rfl) rfl ?_
      refine tri_nil ?_
      refine tri_then ?_
      refine tri_seq ?_
      refine tri_cond_is rfl ((by decide)) ?_
      refine tri_skip ?_
      refine tri_then ?_
      refine tri_seq ?_
      refine tri_block ?_
      refine tri_seq ?_
      refine tri_region ?_
      refine tri_v (by first | exact opv_index rfl rfl (by first | decide | omega) (by first | decide | omega) rfl rfl) rfl ?_
      refine tri_v (opv_assign rfl) rfl ?_
      refine tri_nil ?_
      refine tri_then ?_
      refine tri_region ?_
      refine tri_v (by first | exact opv_load1 rfl rfl rfl | exact opv_loadA rfl rfl rfl | exact opv_loadE1 rfl (by assumption) rfl (by omega) rfl rfl | exact opv_loadEA rfl (by assumption) rfl (by omega) rfl rfl | exact opv_loadRX1 rfl rfl (by omega) rfl rfl | exact opv_loadRXA rfl rfl (by omega) rfl rfl rfl | exact opv_loadIX rfl rfl (by omega) | exact opv_loadR1 rfl rfl rfl | exact opv_loadRA rfl rfl rfl rfl) rfl ?_
      refine tri_v (opv_move rfl) rfl ?_
      refine tri_v (by first | exact opv_buildS rfl rfl | exact opv_buildA rfl rfl) rfl ?_
      refine tri_g (opg_mapUpdate (P := Try.prog) (ks := [(ns.getD i default).k0]) rfl rfl rfl (keyI _) keyIAt rfl) rfl ?_
      rintro _ _ _ ⟨rfl, rfl⟩
      refine tri_nil ?_
      refine tri_inBlock ?_
      refine tri_then ?_
      refine tri_region ?_
      refine tri_v (by first | exact opv_add rfl rfl (w64 (by omega) (by omega))) rfl ?_
      refine tri_v (opv_move rfl) rfl ?_
      refine tri_nil ?_
      refine tri_then ?_
      refine tri_round ?_
      refine tri_seq ?_
      refine tri_region ?_
      refine tri_v (opv_lss rfl rfl) rfl ?_
      refine tri_nil ?_
      refine tri_then ?_
      refine tri_seq ?_
      refine tri_cond_is rfl ((by decide)) ?_
      refine tri_skip ?_
      refine tri_then ?_
      refine tri_seq ?_
      refine tri_block ?_
      refine tri_seq ?_
      refine tri_region ?_
      refine tri_v (by first | exact opv_index rfl rfl (by first | decide | omega) (by first | decide | omega) rfl rfl) rfl ?_
      refine tri_v (opv_assign rfl) rfl ?_
      refine tri_nil ?_
      refine tri_then ?_
      refine tri_region ?_
      refine tri_v (by first | exact opv_load1 rfl rfl rfl | exact opv_loadA rfl rfl rfl | exact opv_loadE1 rfl (by assumption) rfl (by omega) rfl rfl | exact opv_loadEA rfl (by assumption) rfl (by omega) rfl rfl | exact opv_loadRX1 rfl rfl (by omega) rfl rfl | exact opv_loadRXA rfl rfl (by omega) rfl rfl rfl | exact opv_loadIX rfl rfl (by omega) | exact opv_loadR1 rfl rfl rfl | exact opv_loadRA rfl rfl rfl rfl) rfl ?_
      refine tri_v (opv_move rfl) rfl ?_
      refine tri_v (by first | exact opv_buildS rfl rfl | exact opv_buildA rfl rfl) rfl ?_
      refine tri_g (opg_mapUpdate (P := Try.prog) (ks := [(ns.getD i default).k1]) rfl rfl rfl (keyI _) keyIAt rfl) rfl ?_
      rintro _ _ _ ⟨rfl, rfl⟩
      refine tri_nil ?_
      refine tri_inBlock ?_
      refine tri_then ?_
      refine tri_region ?_
      refine tri_v (by first | exact opv_add rfl rfl (w64 (by omega) (by omega))) rfl ?_
      refine tri_v (opv_move rfl) rfl ?_
      refine tri_nil ?_
      refine tri_then ?_
      refine tri_round ?_
      refine tri_seq ?_
      refine tri_region ?_
      refine tri_v (opv_lss rfl rfl) rfl ?_
      refine tri_nil ?_
      refine tri_then ?_
      refine tri_seq ?_
      refine tri_cond_is rfl ((by decide)) ?_
      refine tri_skip ?_
      refine tri_then ?_
      refine tri_seq ?_
      refine tri_block ?_
      refine tri_seq ?_
      refine tri_region ?_
      refine tri_v (by first | exact opv_index rfl rfl (by first | decide | omega) (by first | decide | omega) rfl rfl) rfl ?_
      refine tri_v (opv_assign rfl) rfl ?_
      refine tri_nil ?_
      refine tri_then ?_
      refine tri_region ?_
      refine tri_v (by first | exact opv_load1 rfl rfl rfl | exact opv_loadA rfl rfl rfl | exact opv_loadE1 rfl (by assumption) rfl (by omega) rfl rfl | exact opv_loadEA rfl (by assumption) rfl (by omega) rfl rfl | exact opv_loadRX1 rfl rfl (by omega) rfl rfl | exact opv_loadRXA rfl rfl (by omega) rfl rfl rfl | exact opv_loadIX rfl rfl (by omega) | exact opv_loadR1 rfl rfl rfl | exact opv_loadRA rfl rfl rfl rfl) rfl ?_
      refine tri_v (opv_move rfl) rfl ?_
      refine tri_v (by first | exact opv_buildS rfl rfl | exact opv_buildA rfl rfl) rfl ?_
      refine tri_g (opg_mapUpdate (P := Try.prog) (ks := [(ns.getD i default).k2]) rfl rfl rfl (keyI _) keyIAt rfl) rfl ?_
      rintro _ _ _ ⟨rfl, rfl⟩
      refine tri_nil ?_
      refine tri_inBlock ?_
      refine tri_then ?_
      refine tri_region ?_
      refine tri_v (by first | exact opv_add rfl rfl (w64 (by omega) (by omega))) rfl ?_
      refine tri_v (opv_move rfl) rfl ?_
      refine tri_nil ?_
      refine tri_then ?_
      refine tri_round ?_
      refine tri_seq ?_
      refine tri_region ?_
      refine tri_v (opv_lss rfl rfl) rfl ?_
      refine tri_nil ?_
      refine tri_then ?_
      refine tri_seq ?_
      refine tri_cond_is rfl ((by decide)) ?_
      refine tri_skip ?_
      refine tri_then ?_
      refine tri_seq ?_
      refine tri_block ?_
      refine tri_seq ?_
      refine tri_region ?_
      refine tri_v (by first | exact opv_index rfl rfl (by first | decide | omega) (by first | decide | omega) rfl rfl) rfl ?_
      refine tri_v (opv_assign rfl) rfl ?_
      refine tri_nil ?_
      refine tri_then ?_
      refine tri_region ?_
      refine tri_v (by first | exact opv_load1 rfl rfl rfl | exact opv_loadA rfl rfl rfl | exact opv_loadE1 rfl (by assumption) rfl (by omega) rfl rfl | exact opv_loadEA rfl (by assumption) rfl (by omega) rfl rfl | exact opv_loadRX1 rfl rfl (by omega) rfl rfl | exact opv_loadRXA rfl rfl (by omega) rfl rfl rfl | exact opv_loadIX rfl rfl (by omega) | exact opv_loadR1 rfl rfl rfl | exact opv_loadRA rfl rfl rfl rfl) rfl ?_
      refine tri_v (opv_move rfl) rfl ?_
      refine tri_v (by first | exact opv_buildS rfl rfl | exact opv_buildA rfl rfl) rfl ?_
      refine tri_g (opg_mapUpdate (P := Try.prog) (ks := [(ns.getD i default).k3]) rfl rfl rfl (keyI _) keyIAt rfl) rfl ?_
      rintro _ _ _ ⟨rfl, rfl⟩
      refine tri_nil ?_
      refine tri_inBlock ?_
      refine tri_then ?_
      refine tri_region ?_
      refine tri_v (by first | exact opv_add rfl rfl (w64 (by omega) (by omega))) rfl ?_
      refine tri_v (opv_move rfl) rfl ?_
      refine tri_nil ?_
      refine tri_then ?_
      refine tri_round ?_
      refine tri_seq ?_
      refine tri_region ?_
      refine tri_v (opv_lss rfl rfl) rfl ?_
      refine tri_nil ?_
      refine tri_then ?_
      refine tri_seq ?_
      refine tri_cond_not rfl ((by decide)) ?_
      refine tri_exit ?_
      refine tri_then_exit ?_
      refine tri_then_exit ?_
      refine tri_inBlock_hit rfl ?_
      refine tri_inBlock ?_
      refine tri_drop ?_
      refine tri_perm (A := ?a5_0 :: ?a5_1 :: ?T5) (B := ?a5_1 :: ?a5_0 :: ?T5) (by exact permL [1, 0] [?a5_0, ?a5_1] ?T5 (by decide) rfl) ?_
      refine tri_drop ?_
      have x1 := hkx.set (q := (ns.getD i default).k0) ⟨p0, by omega⟩
      have y1 : (keep.set (ns.getD i default).k0.toNat true).length = ns.length := by rw [List.length_set]; exact hkl
      have x2 := x1.set (q := (ns.getD i default).k1) ⟨p1, by omega⟩
      have y2 : ((keep.set (ns.getD i default).k0.toNat true).set (ns.getD i default).k1.toNat true).length = ns.length := by rw [List.length_set]; exact y1
      have x3 := x2.set (q := (ns.getD i default).k2) ⟨p2, by omega⟩
      have y3 : (((keep.set (ns.getD i default).k0.toNat true).set (ns.getD i default).k1.toNat true).set (ns.getD i default).k2.toNat true).length = ns.length := by rw [List.length_set]; exact y2
      have x4 := x3.set (q := (ns.getD i default).k3) ⟨p3, by omega⟩
      refine round_normal ⟨rfl, _, ⟨_, R6.keepKids keep (ns.getD i default), x4, by rw [R6.keepKids_len, hkl], ?_, rfl⟩, rfl, rfl⟩
      rw [hke, show i + 1 - 2 = (i - 2) + 1 by omega, R6.keepDown_succ, show i - 2 + 2 = i by omega, if_pos hb']
  ·obtain ⟨_, L', ⟨es3, keep, hkx, hkl, hke, rfl⟩, rfl, rfl⟩ := h
   rw [show R6.keepDown ns (0 - 2) keep = keep from rfl] at hke
   have hall : R6.liveAll ns (R6.kept ns roots) = (List.range ns.length).foldl (R6.liveStep ns (R6.kept ns roots)) (List.replicate ns.length 0, []) := rfl
   generalize R6.kept ns roots = kp at *
   subst hke
   generalize hR : R6.liveAll ns kp = R at *
   skip
   refine tri_perm (A := ?a6_0 :: ?a6_1 :: ?a6_2 :: ?a6_3 :: ?a6_4 :: ?a6_5 :: ?a6_6 :: ?a6_7 :: ?a6_8 :: ?a6_9 :: ?T6) (B := ?a6_1 :: ?a6_0 :: ?a6_2 :: ?a6_3 :: ?a6_4 :: ?a6_5 :: ?a6_6 :: ?a6_7 :: ?a6_8 :: ?a6_9 :: ?T6) (by exact permL [1, 0, 2, 3, 4, 5, 6, 7, 8, 9] [?a6_0, ?a6_1, ?a6_2, ?a6_3, ?a6_4, ?a6_5, ?a6_6, ?a6_7, ?a6_8, ?a6_9] ?T6 (by decide) rfl) ?_
   refine tri_inBlock ?_
   refine tri_then ?_
   refine tri_seq ?_
   refine tri_region ?_
   refine tri_v (opv_move rfl) rfl ?_
   refine tri_v (opv_nilCheck rfl) rfl ?_
   refine tri_v (by first | exact opv_fieldAddr rfl rfl | exact opv_fieldAddrE rfl (by assumption) (by omega) rfl | exact opv_fieldAddrR rfl (by omega) rfl) rfl ?_
   refine tri_v (by first | exact opv_fieldAddr rfl rfl | exact opv_fieldAddrE rfl (by assumption) (by omega) rfl | exact opv_fieldAddrR rfl (by omega) rfl) rfl ?_
   refine tri_v (by first | exact opv_load1 rfl rfl rfl | exact opv_loadA rfl rfl rfl | exact opv_loadE1 rfl (by assumption) rfl (by omega) rfl rfl | exact opv_loadEA rfl (by assumption) rfl (by omega) rfl rfl | exact opv_loadRX1 rfl rfl (by omega) rfl rfl | exact opv_loadRXA rfl rfl (by omega) rfl rfl rfl | exact opv_loadIX rfl rfl (by omega) | exact opv_loadR1 rfl rfl rfl | exact opv_loadRA rfl rfl rfl rfl) rfl ?_
   refine tri_v (opv_len rfl) rfl ?_
   refine tri_g (opg_makeSlice rfl rfl rfl (by omega) (by omega) (by omega)) rfl ?_
   rintro _ _ _ ⟨a18, ha18, rfl, rfl, rfl⟩
   rw [show ((ns.length : Nat) : Int).toNat = ns.length from rfl]
   refine tri_rowEq (len' := ns.length) (cells' := encs (List.replicate ns.length (0 : Int))) rfl (encs_rep rfl _) ?_
   refine tri_v (opv_assign rfl) rfl ?_
   refine tri_nil ?_
   refine tri_then ?_
   refine tri_seq ?_
   refine tri_region ?_
   refine tri_v (by first | exact opv_fieldAddr rfl rfl | exact opv_fieldAddrE rfl (by assumption) (by omega) rfl | exact opv_fieldAddrR rfl (by omega) rfl) rfl ?_
   refine tri_v (by first | exact opv_load1 rfl rfl rfl | exact opv_loadA rfl rfl rfl | exact opv_loadE1 rfl (by assumption) rfl (by omega) rfl rfl | exact opv_loadEA rfl (by assumption) rfl (by omega) rfl rfl | exact opv_loadRX1 rfl rfl (by omega) rfl rfl | exact opv_loadRXA rfl rfl (by omega) rfl rfl rfl | exact opv_loadIX rfl rfl (by omega) | exact opv_loadR1 rfl rfl rfl | exact opv_loadRA rfl rfl rfl rfl) rfl ?_
   refine tri_v (by first | exact opv_buildS rfl rfl | exact opv_buildA rfl rfl) rfl ?_
   refine tri_g opg_alloc rfl ?_
   rintro _ _ _ ⟨b19, rfl, rfl, rfl⟩
   refine tri_g (opg_store rfl rfl rfl rfl rfl rfl) rfl ?_
   rintro _ _ _ ⟨rfl, rfl⟩
   refine tri_nil ?_
   refine tri_then ?_
   refine tri_seq ?_
   refine tri_seq ?_
   refine tri_region ?_
   refine tri_v (opv_move rfl) rfl ?_
   refine tri_v (opv_nilCheck rfl) rfl ?_
   refine tri_v (by first | exact opv_fieldAddr rfl rfl | exact opv_fieldAddrE rfl (by assumption) (by omega) rfl | exact opv_fieldAddrR rfl (by omega) rfl) rfl ?_
   refine tri_v (by first | exact opv_fieldAddr rfl rfl | exact opv_fieldAddrE rfl (by assumption) (by omega) rfl | exact opv_fieldAddrR rfl (by omega) rfl) rfl ?_
   refine tri_v (by first | exact opv_load1 rfl rfl rfl | exact opv_loadA rfl rfl rfl | exact opv_loadE1 rfl (by assumption) rfl (by omega) rfl rfl | exact opv_loadEA rfl (by assumption) rfl (by omega) rfl rfl | exact opv_loadRX1 rfl rfl (by omega) rfl rfl | exact opv_loadRXA rfl rfl (by omega) rfl rfl rfl | exact opv_loadIX rfl rfl (by omega) | exact opv_loadR1 rfl rfl rfl | exact opv_loadRA rfl rfl rfl rfl) rfl ?_
   refine tri_v (opv_len rfl) rfl ?_
   refine tri_v (opv_move rfl) rfl ?_
   refine tri_nil ?_
   refine tri_then ?_
   refine tri_block ?_
   refine tri_nilRow (E := 49) (sz := 6) ?_
   refine tri_sub (F' := [(1, .slice ar roots.length capr), (2, pt b2 0), (4, pt b4 0), (9, pt b9 0), (18, .slice a18 ns.length ns.length), (19, pt b19 0), (100, .slice a1 ns.length c1), (101, .int .i64 (ns.length : Nat)), (102, .int .i64 (0 : Nat))]) ⟨rfl, rfl, rfl, rfl, rfl, rfl, rfl, rfl, rfl, trivial⟩ ?_
   refine loop_ind (G := Nat × List Int × List Node × Option Addr × Nat) (fun g => ns.length - g.1) (fun g => g.1 ≤ ns.length ∧ (List.range g.1).foldl (R6.liveStep ns kp) (List.replicate ns.length 0, []) = (g.2.1, g.2.2.1)) (fun g => [(1, .slice ar roots.length capr), (2, pt b2 0), (4, pt b4 0), (9, pt b9 0), (18, .slice a18 ns.length ns.length), (19, pt b19 0), (100, .slice a1 ns.length c1), (101, .int .i64 (ns.length : Nat)), (102, .int .i64 (g.1 : Nat))])
    (fun g => Row g.2.2.2.1 g.2.2.2.2 g.2.2.1.length 49 6 (encs g.2.2.1) :: Box b19 [.slice g.2.2.2.1 g.2.2.1.length g.2.2.2.2, .int .i64 room] 25 :: Row a18 ns.length ns.length 3 1 (encs g.2.1) :: Pt b (.deferred (some [])) :: Pt l (.loop lp) :: Box b1 [.slice a1 ns.length c1] 23 :: Row a1 c1 ns.length 49 6 (encs ns) :: Box b9 [.map (some b42)] 68 :: MapA Try.prog 3 b42 es3 :: Box bx [.slice a1 ns.length c1, .int .i64 room, .map (some mb)] 74 :: MapA Try.prog 26 mb es :: Box b4 [.slice none 0 0, .int .i64 0] 25 :: Box b2 [.slice a ns.length cap, .int .i64 room] 25 :: A) (fun _ => I) ?_ (0, List.replicate ns.length 0, [], none, 0) ⟨by simp, rfl⟩
   rintro ⟨i, to, out, a21, c21⟩ ⟨hi, hst⟩ K2 hK2
   simp only at hi hst hK2 ⊢
   have hlen := R6.liveStep_len (ns := ns) (keep := kp) i
   rw [hst] at hlen
   obtain ⟨htl, hol⟩ := hlen
   simp only at htl hol
   skip
   refine tri_seq ?_
   refine tri_region ?_
   refine tri_v (opv_lss rfl rfl) rfl ?_
   refine tri_nil ?_
   refine tri_then ?_
   refine tri_seq ?_
   refine tri_cond_dec rfl (fun h2 => ?_) (fun h2 => ?_)
   ·have hil : i < ns.length := by omega
    obtain ⟨⟨p0, q0, r0⟩, ⟨p1, q1, r1⟩, ⟨p2, q2, r2⟩, ⟨p3, q3, r3⟩⟩ := hkid i hil
    have hnx : (List.range (i + 1)).foldl (R6.liveStep ns kp) (List.replicate ns.length 0, []) = R6.liveStep ns kp (to, out) i := by
     rw [List.range_succ, List.foldl_append, hst]; rfl
    have hq := hkx.ix i (by omega)
    have hv := hkx.get [(i : Int)]
    refine tri_skip ?_
    refine tri_then ?_
    refine tri_seq ?_
    refine tri_block ?_
    refine tri_seq ?_
    refine tri_region ?_
    refine tri_v (opv_move rfl) rfl ?_
    refine tri_v (by first | exact opv_indexAddrA rfl rfl (by first | decide | omega) (by first | decide | omega) | exact opv_indexAddrSN rfl rfl (by omega) (by assumption) rfl | exact opv_indexAddrS rfl rfl (by omega) (by omega) (by assumption) rfl | exact opv_indexAddrE rfl (by assumption) (by omega) rfl (by first | decide | omega) (by first | decide | omega) | exact opv_indexAddrRN rfl rfl (by omega) | exact opv_indexAddrR rfl rfl (by omega) (by omega) | exact opv_indexAddrRA rfl (by omega) rfl (by first | decide | omega) (by first | decide | omega)) rfl ?_
    refine tri_v (by first | exact opv_load1 rfl rfl rfl | exact opv_loadA rfl rfl rfl | exact opv_loadE1 rfl (by assumption) rfl (by omega) rfl rfl | exact opv_loadEA rfl (by assumption) rfl (by omega) rfl rfl | exact opv_loadRX1 rfl rfl (by omega) rfl rfl | exact opv_loadRXA rfl rfl (by omega) rfl rfl rfl | exact opv_loadIX rfl rfl (by omega) | exact opv_loadR1 rfl rfl rfl | exact opv_loadRA rfl rfl rfl rfl) rfl ?_
    refine tri_g opg_alloc rfl ?_
    rintro _ _ _ ⟨b21, rfl, rfl, rfl⟩
    refine tri_v (opv_assign rfl) rfl ?_
    refine tri_g (opg_store rfl rfl rfl rfl rfl rfl) rfl ?_
    rintro _ _ _ ⟨rfl, rfl⟩
    refine tri_nil ?_
    refine tri_then ?_
    refine tri_seq ?_
    refine tri_seq ?_
    refine tri_region ?_
    refine tri_v (by first | exact opv_load1 rfl rfl rfl | exact opv_loadA rfl rfl rfl | exact opv_loadE1 rfl (by assumption) rfl (by omega) rfl rfl | exact opv_loadEA rfl (by assumption) rfl (by omega) rfl rfl | exact opv_loadRX1 rfl rfl (by omega) rfl rfl | exact opv_loadRXA rfl rfl (by omega) rfl rfl rfl | exact opv_loadIX rfl rfl (by omega) | exact opv_loadR1 rfl rfl rfl | exact opv_loadRA rfl rfl rfl rfl) rfl ?_
    refine tri_v (opv_move rfl) rfl ?_
    refine tri_v (opv_lookup2 (P := Try.prog) (ks := [(i : Int)]) zeroE rfl rfl (keyI _) keyIAt rfl) rfl ?_
    rw [hq, hv]
    refine tri_v (opv_move rfl) rfl ?_
    refine tri_v (opv_extract rfl rfl) rfl ?_
    refine tri_v (opv_extract rfl rfl) rfl ?_
    refine tri_g opg_alloc rfl ?_
    rintro _ _ _ ⟨b22, rfl, rfl, rfl⟩
    refine tri_g (opg_store rfl rfl rfl rfl rfl rfl) rfl ?_
    rintro _ _ _ ⟨rfl, rfl⟩
    refine tri_v (opv_assign rfl) rfl ?_
    refine tri_nil ?_
    refine tri_then ?_
    refine tri_seq ?_
    refine tri_region ?_
    refine tri_v (opv_move rfl) rfl ?_
    refine tri_v (by first | exact opv_notD rfl | exact opv_not rfl) rfl ?_
    refine tri_nil ?_
    refine tri_then ?_
    refine tri_cond rfl (fun hb => ?_) (fun hb => ?_)
    ·have hb' : kp.getD i default = false := by simpa using hb
     rw [show R6.liveStep ns kp (to, out) i = (to, out) from if_neg (by rw [hb']; decide)] at hnx
     refine tri_exit ?_
     refine tri_then_exit ?_
     refine tri_inBlock_hit rfl ?_
     refine tri_then ?_
     refine tri_region ?_
     refine tri_v (by first | exact opv_add rfl rfl (w64 (by omega) (by omega))) rfl ?_
     refine tri_v (opv_move rfl) rfl ?_
     refine tri_nil ?_
     refine tri_then ?_
     refine tri_drop (tri_drop ?_)
     refine tri_sub ?_ (hK2 (i + 1, to, out, a21, c21) ⟨by simp only; omega, hnx⟩ (by simp only; omega))
     exact ⟨rfl, rfl, rfl, rfl, rfl, rfl, rfl, rfl, rfl, trivial⟩
    ·have hb' : kp.getD i default = true := by simpa using hb
     rw [show R6.liveStep ns kp (to, out) i = (to.set i (out.length : Nat), out ++ [R6.mapKids to (ns.getD i default)]) from if_pos hb'] at hnx
     refine tri_skip ?_
     refine tri_then ?_
     refine tri_seq ?_
     refine tri_seq ?_
     refine tri_region ?_
     refine tri_v (by first | exact opv_fieldAddr rfl rfl | exact opv_fieldAddrE rfl (by assumption) (by omega) rfl | exact opv_fieldAddrR rfl (by omega) rfl) rfl ?_
     refine tri_v (by first | exact opv_load1 rfl rfl rfl | exact opv_loadA rfl rfl rfl | exact opv_loadE1 rfl (by assumption) rfl (by omega) rfl rfl | exact opv_loadEA rfl (by assumption) rfl (by omega) rfl rfl | exact opv_loadRX1 rfl rfl (by omega) rfl rfl | exact opv_loadRXA rfl rfl (by omega) rfl rfl rfl | exact opv_loadIX rfl rfl (by omega) | exact opv_loadR1 rfl rfl rfl | exact opv_loadRA rfl rfl rfl rfl) rfl ?_
     refine tri_v (opv_move rfl) rfl ?_
     refine tri_nil ?_
     refine tri_then ?_
     refine tri_block ?_
     refine tri_rounds 5 ?_
     refine tri_round ?_
     refine tri_seq ?_
     refine tri_region ?_
     refine tri_v (opv_lss rfl rfl) rfl ?_
     refine tri_nil ?_
     refine tri_then ?_
     refine tri_seq ?_
     refine tri_cond_is rfl ((by decide)) ?_
     refine tri_skip ?_
     refine tri_then ?_
     refine tri_seq ?_
     refine tri_block ?_
     refine tri_seq ?_
     refine tri_region ?_
     refine tri_v (opv_move rfl) rfl ?_
     refine tri_v (by first | exact opv_index rfl rfl (by first | decide | omega) (by first | decide | omega) rfl rfl) rfl ?_
     refine tri_v (opv_assign rfl) rfl ?_
     refine tri_v (opv_assign rfl) rfl ?_
     refine tri_nil ?_
     refine tri_then ?_
     refine tri_region ?_
     refine tri_v (opv_move rfl) rfl ?_
     refine tri_v (opv_move rfl) rfl ?_
     refine tri_v (opv_move rfl) rfl ?_
     refine tri_v (by first | exact opv_indexAddrA rfl rfl (by first | decide | omega) (by first | decide | omega) | exact opv_indexAddrSN rfl rfl (by omega) (by assumption) rfl | exact opv_indexAddrS rfl rfl (by omega) (by omega) (by assumption) rfl | exact opv_indexAddrE rfl (by assumption) (by omega) rfl (by first | decide | omega) (by first | decide | omega) | exact opv_indexAddrRN rfl rfl (by omega) | exact opv_indexAddrR rfl rfl (by omega) (by omega) | exact opv_indexAddrRA rfl (by omega) rfl (by first | decide | omega) (by first | decide | omega)) rfl ?_
     refine tri_v (by first | exact opv_load1 rfl rfl rfl | exact opv_loadA rfl rfl rfl | exact opv_loadE1 rfl (by assumption) rfl (by omega) rfl rfl | exact opv_loadEA rfl (by assumption) rfl (by omega) rfl rfl | exact opv_loadRX1 rfl rfl (by omega) rfl rfl | exact opv_loadRXA rfl rfl (by omega) rfl rfl rfl | exact opv_loadIX rfl rfl (by omega) | exact opv_loadR1 rfl rfl rfl | exact opv_loadRA rfl rfl rfl rfl) rfl ?_
     refine tri_v (by first | exact opv_fieldAddr rfl rfl | exact opv_fieldAddrE rfl (by assumption) (by omega) rfl | exact opv_fieldAddrR rfl (by omega) rfl) rfl ?_
     refine tri_v (by first | exact opv_indexAddrA rfl rfl (by first | decide | omega) (by first | decide | omega) | exact opv_indexAddrSN rfl rfl (by omega) (by assumption) rfl | exact opv_indexAddrS rfl rfl (by omega) (by omega) (by assumption) rfl | exact opv_indexAddrE rfl (by assumption) (by omega) rfl (by first | decide | omega) (by first | decide | omega) | exact opv_indexAddrRN rfl rfl (by omega) | exact opv_indexAddrR rfl rfl (by omega) (by omega) | exact opv_indexAddrRA rfl (by omega) rfl (by first | decide | omega) (by first | decide | omega)) rfl ?_
     refine tri_g (opg_store rfl rfl rfl rfl rfl rfl) rfl ?_
     rintro _ _ _ ⟨rfl, rfl⟩
     refine tri_nil ?_
     refine tri_inBlock ?_
     refine tri_then ?_
     refine tri_region ?_
     refine tri_v (by first | exact opv_add rfl rfl (w64 (by omega) (by omega))) rfl ?_
     refine tri_v (opv_move rfl) rfl ?_
     refine tri_nil ?_
     refine tri_then ?_
     refine tri_round ?_
     refine tri_seq ?_
     refine tri_region ?_
     refine tri_v (opv_lss rfl rfl) rfl ?_
     refine tri_nil ?_
     refine tri_then ?_
     refine tri_seq ?_
     refine tri_cond_is rfl ((by decide)) ?_
     refine tri_skip ?_
     refine tri_then ?_
     refine tri_seq ?_
     refine tri_block ?_
     refine tri_seq ?_
     refine tri_region ?_
     refine tri_v (opv_move rfl) rfl ?_
     refine tri_v (by first | exact opv_index rfl rfl (by first | decide | omega) (by first | decide | omega) rfl rfl) rfl ?_
     refine tri_v (opv_assign rfl) rfl ?_
     refine tri_v (opv_assign rfl) rfl ?_
     refine tri_nil ?_
     refine tri_then ?_
     refine tri_region ?_
     refine tri_v (opv_move rfl) rfl ?_
     refine tri_v (opv_move rfl) rfl ?_
     refine tri_v (opv_move rfl) rfl ?_
     refine tri_v (by first | exact opv_indexAddrA rfl rfl (by first | decide | omega) (by first | decide | omega) | exact opv_indexAddrSN rfl rfl (by omega) (by assumption) rfl | exact opv_indexAddrS rfl rfl (by omega) (by omega) (by assumption) rfl | exact opv_indexAddrE rfl (by assumption) (by omega) rfl (by first | decide | omega) (by first | decide | omega) | exact opv_indexAddrRN rfl rfl (by omega) | exact opv_indexAddrR rfl rfl (by omega) (by omega) | exact opv_indexAddrRA rfl (by omega) rfl (by first | decide | omega) (by first | decide | omega)) rfl ?_
     refine tri_v (by first | exact opv_load1 rfl rfl rfl | exact opv_loadA rfl rfl rfl | exact opv_loadE1 rfl (by assumption) rfl (by omega) rfl rfl | exact opv_loadEA rfl (by assumption) rfl (by omega) rfl rfl | exact opv_loadRX1 rfl rfl (by omega) rfl rfl | exact opv_loadRXA rfl rfl (by omega) rfl rfl rfl | exact opv_loadIX rfl rfl (by omega) | exact opv_loadR1 rfl rfl rfl | exact opv_loadRA rfl rfl rfl rfl) rfl ?_
     refine tri_v (by first | exact opv_fieldAddr rfl rfl | exact opv_fieldAddrE rfl (by assumption) (by omega) rfl | exact opv_fieldAddrR rfl (by omega) rfl) rfl ?_
     refine tri_v (by first | exact opv_indexAddrA rfl rfl (by first | decide | omega) (by first | decide | omega) | exact opv_indexAddrSN rfl rfl (by omega) (by assumption) rfl | exact opv_indexAddrS rfl rfl (by omega) (by omega) (by assumption) rfl | exact opv_indexAddrE rfl (by assumption) (by omega) rfl (by first | decide | omega) (by first | decide | omega) | exact opv_indexAddrRN rfl rfl (by omega) | exact opv_indexAddrR rfl rfl (by omega) (by omega) | exact opv_indexAddrRA rfl (by omega) rfl (by first | decide | omega) (by first | decide | omega)) rfl ?_
     refine tri_g (opg_store rfl rfl rfl rfl rfl rfl) rfl ?_
     rintro _ _ _ ⟨rfl, rfl⟩
     refine tri_nil ?_
     refine tri_inBlock ?_
     refine tri_then ?_
     refine tri_region ?_
     refine tri_v (by first | exact opv_add rfl rfl (w64 (by omega) (by omega))) rfl ?_
     refine tri_v (opv_move rfl) rfl ?_
     refine tri_nil ?_
     refine tri_then ?_
     refine tri_round ?_
     refine tri_seq ?_
     refine tri_region ?_
     refine tri_v (opv_lss rfl rfl) rfl ?_
     refine tri_nil ?_
     refine tri_then ?_
     refine tri_seq ?_
     refine tri_cond_is rfl ((by decide)) ?_
     refine tri_skip ?_
     refine tri_then ?_
     refine tri_seq ?_
     refine tri_block ?_
     refine tri_seq ?_
     refine tri_region ?_
     refine tri_v (opv_move rfl) rfl ?_
     refine tri_v (by first | exact opv_index rfl rfl (by first | decide | omega) (by first | decide | omega) rfl rfl) rfl ?_
     refine tri_v (opv_assign rfl) rfl ?_
     refine tri_v (opv_assign rfl) rfl ?_
     refine tri_nil ?_
     refine tri_then ?_
     refine tri_region ?_
     refine tri_v (opv_move rfl) rfl ?_
     refine tri_v (opv_move rfl) rfl ?_
     refine tri_v (opv_move rfl) rfl ?_
     refine tri_v (by first | exact opv_indexAddrA rfl rfl (by first | decide | omega) (by first | decide | omega) | exact opv_indexAddrSN rfl rfl (by omega) (by assumption) rfl | exact opv_indexAddrS rfl rfl (by omega) (by omega) (by assumption) rfl | exact opv_indexAddrE rfl (by assumption) (by omega) rfl (by first | decide | omega) (by first | decide | omega) | exact opv_indexAddrRN rfl rfl (by omega) | exact opv_indexAddrR rfl rfl (by omega) (by omega) | exact opv_indexAddrRA rfl (by omega) rfl (by first | decide | omega) (by first | decide | omega)) rfl ?_
     refine tri_v (by first | exact opv_load1 rfl rfl rfl | exact opv_loadA rfl rfl rfl | exact opv_loadE1 rfl (by assumption) rfl (by omega) rfl rfl | exact opv_loadEA rfl (by assumption) rfl (by omega) rfl rfl | exact opv_loadRX1 rfl rfl (by omega) rfl rfl | exact opv_loadRXA rfl rfl (by omega) rfl rfl rfl | exact opv_loadIX rfl rfl (by omega) | exact opv_loadR1 rfl rfl rfl | exact opv_loadRA rfl rfl rfl rfl) rfl ?_
     refine tri_v (by first | exact opv_fieldAddr rfl rfl | exact opv_fieldAddrE rfl (by assumption) (by omega) rfl | exact opv_fieldAddrR rfl (by omega) rfl) rfl ?_
     refine tri_v (by first | exact opv_indexAddrA rfl rfl (by first | decide | omega) (by first | decide | omega) | exact opv_indexAddrSN rfl rfl (by omega) (by assumption) rfl | exact opv_indexAddrS rfl rfl (by omega) (by omega) (by assumption) rfl | exact opv_indexAddrE rfl (by assumption) (by omega) rfl (by first | decide | omega) (by first | decide | omega) | exact opv_indexAddrRN rfl rfl (by omega) | exact opv_indexAddrR rfl rfl (by omega) (by omega) | exact opv_indexAddrRA rfl (by omega) rfl (by first | decide | omega) (by first | decide | omega)) rfl ?_
     refine tri_g (opg_store rfl rfl rfl rfl rfl rfl) rfl ?_
     rintro _ _ _ ⟨rfl, rfl⟩
     refine tri_nil ?_
     refine tri_inBlock ?_
     refine tri_then ?_
     refine tri_region ?_
     refine tri_v (by first | exact opv_add rfl rfl (w64 (by omega) (by omega))) rfl ?_
     refine tri_v (opv_move rfl) rfl ?_
     refine tri_nil ?_
     refine tri_then ?_
     refine tri_round ?_
     refine tri_seq ?_
     refine tri_region ?_
     refine tri_v (opv_lss rfl rfl) rfl ?_
     refine tri_nil ?_
     refine tri_then ?_
     refine tri_seq ?_
     refine tri_cond_is rfl ((by decide)) ?_
     refine tri_skip ?_
     refine tri_then ?_
     refine tri_seq ?_
     refine tri_block ?_
     refine tri_seq ?_
     refine tri_region ?_
     refine tri_v (opv_move rfl) rfl ?_
     refine tri_v (by first | exact opv_index rfl rfl (by first | decide | omega) (by first | decide | omega) rfl rfl) rfl ?_
     refine tri_v (opv_assign rfl) rfl ?_
     refine tri_v (opv_assign rfl) rfl ?_
     refine tri_nil ?_
     refine tri_then ?_
     refine tri_region ?_
     refine tri_v (opv_move rfl) rfl ?_
     refine tri_v (opv_move rfl) rfl ?_
     refine tri_v (opv_move rfl) rfl ?_
     refine tri_v (by first | exact opv_indexAddrA rfl rfl (by first | decide | omega) (by first | decide | omega) | exact opv_indexAddrSN rfl rfl (by omega) (by assumption) rfl | exact opv_indexAddrS rfl rfl (by omega) (by omega) (by assumption) rfl | exact opv_indexAddrE rfl (by assumption) (by omega) rfl (by first | decide | omega) (by first | decide | omega) | exact opv_indexAddrRN rfl rfl (by omega) | exact opv_indexAddrR rfl rfl (by omega) (by omega) | exact opv_indexAddrRA rfl (by omega) rfl (by first | decide | omega) (by first | decide | omega)) rfl ?_
     refine tri_v (by first | exact opv_load1 rfl rfl rfl | exact opv_loadA rfl rfl rfl | exact opv_loadE1 rfl (by assumption) rfl (by omega) rfl rfl | exact opv_loadEA rfl (by assumption) rfl (by omega) rfl rfl | exact opv_loadRX1 rfl rfl (by omega) rfl rfl | exact opv_loadRXA rfl rfl (by omega) rfl rfl rfl | exact opv_loadIX rfl rfl (by omega) | exact opv_loadR1 rfl rfl rfl | exact opv_loadRA rfl rfl rfl rfl) rfl ?_
     refine tri_v (by first | exact opv_fieldAddr rfl rfl | exact opv_fieldAddrE rfl (by assumption) (by omega) rfl | exact opv_fieldAddrR rfl (by omega) rfl) rfl ?_
     refine tri_v (by first | exact opv_indexAddrA rfl rfl (by first | decide | omega) (by first | decide | omega) | exact opv_indexAddrSN rfl rfl (by omega) (by assumption) rfl | exact opv_indexAddrS rfl rfl (by omega) (by omega) (by assumption) rfl | exact opv_indexAddrE rfl (by assumption) (by omega) rfl (by first | decide | omega) (by first | decide | omega) | exact opv_indexAddrRN rfl rfl (by omega) | exact opv_indexAddrR rfl rfl (by omega) (by omega) | exact opv_indexAddrRA rfl (by omega) rfl (by first | decide | omega) (by first | decide | omega)) rfl ?_
     refine tri_g (opg_store rfl rfl rfl rfl rfl rfl) rfl ?_
     rintro _ _ _ ⟨rfl, rfl⟩
     refine tri_nil ?_
     refine tri_inBlock ?_
     refine tri_then ?_
     refine tri_region ?_
     refine tri_v (by first | exact opv_add rfl rfl (w64 (by omega) (by omega))) rfl ?_
     refine tri_v (opv_move rfl) rfl ?_
     refine tri_nil ?_
     refine tri_then ?_
     refine tri_round ?_
     refine tri_seq ?_
     refine tri_region ?_
     refine tri_v (opv_lss rfl rfl) rfl ?_
     refine tri_nil ?_
     refine tri_then ?_
     refine tri_seq ?_
     refine tri_cond_not rfl ((by decide)) ?_
     refine tri_exit ?_
     refine tri_then_exit ?_
     refine tri_then_exit ?_
     refine tri_inBlock_hit rfl ?_
     refine tri_then ?_
     refine tri_seq ?_
     refine tri_region ?_
     refine tri_v (opv_move rfl) rfl ?_
     refine tri_v (opv_move rfl) rfl ?_
     refine tri_v (by first | exact opv_fieldAddr rfl rfl | exact opv_fieldAddrE rfl (by assumption) (by omega) rfl | exact opv_fieldAddrR rfl (by omega) rfl) rfl ?_
     refine tri_v (by first | exact opv_load1 rfl rfl rfl | exact opv_loadA rfl rfl rfl | exact opv_loadE1 rfl (by assumption) rfl (by omega) rfl rfl | exact opv_loadEA rfl (by assumption) rfl (by omega) rfl rfl | exact opv_loadRX1 rfl rfl (by omega) rfl rfl | exact opv_loadRXA rfl rfl (by omega) rfl rfl rfl | exact opv_loadIX rfl rfl (by omega) | exact opv_loadR1 rfl rfl rfl | exact opv_loadRA rfl rfl rfl rfl) rfl ?_
     refine tri_v (opv_len rfl) rfl ?_
     refine tri_v (by first | exact opv_indexAddrA rfl rfl (by first | decide | omega) (by first | decide | omega) | exact opv_indexAddrSN rfl rfl (by omega) (by assumption) rfl | exact opv_indexAddrS rfl rfl (by omega) (by omega) (by assumption) rfl | exact opv_indexAddrE rfl (by assumption) (by omega) rfl (by first | decide | omega) (by first | decide | omega) | exact opv_indexAddrRN rfl rfl (by omega) | exact opv_indexAddrR rfl rfl (by omega) (by omega) | exact opv_indexAddrRA rfl (by omega) rfl (by first | decide | omega) (by first | decide | omega)) rfl ?_
     refine tri_g (opg_storeRX ((out.length : Nat) : Int) rfl rfl rfl (by omega) htl.symm rfl rfl rfl rfl) rfl ?_
     rintro _ _ _ ⟨rfl, rfl⟩
     refine tri_nil ?_
     refine tri_then ?_
     refine tri_region ?_
     refine tri_v (by first | exact opv_fieldAddr rfl rfl | exact opv_fieldAddrE rfl (by assumption) (by omega) rfl | exact opv_fieldAddrR rfl (by omega) rfl) rfl ?_
     refine tri_v (by first | exact opv_load1 rfl rfl rfl | exact opv_loadA rfl rfl rfl | exact opv_loadE1 rfl (by assumption) rfl (by omega) rfl rfl | exact opv_loadEA rfl (by assumption) rfl (by omega) rfl rfl | exact opv_loadRX1 rfl rfl (by omega) rfl rfl | exact opv_loadRXA rfl rfl (by omega) rfl rfl rfl | exact opv_loadIX rfl rfl (by omega) | exact opv_loadR1 rfl rfl rfl | exact opv_loadRA rfl rfl rfl rfl) rfl ?_
     refine tri_v (by first | exact opv_load1 rfl rfl rfl | exact opv_loadA rfl rfl rfl | exact opv_loadE1 rfl (by assumption) rfl (by omega) rfl rfl | exact opv_loadEA rfl (by assumption) rfl (by omega) rfl rfl | exact opv_loadRX1 rfl rfl (by omega) rfl rfl | exact opv_loadRXA rfl rfl (by omega) rfl rfl rfl | exact opv_loadIX rfl rfl (by omega) | exact opv_loadR1 rfl rfl rfl | exact opv_loadRA rfl rfl rfl rfl) rfl ?_
     refine tri_g (opg_buildSlice rfl rfl rfl rfl) rfl ?_
     rintro _ _ _ ⟨b138, rfl, rfl, rfl⟩
     refine tri_g (opg_appendB rfl rfl rfl rfl (by omega) rfl) rfl ?_
     rintro _ _ _ ⟨a3, c3, rfl, rfl, rfl⟩
     refine tri_v (by first | exact opv_fieldAddr rfl rfl | exact opv_fieldAddrE rfl (by assumption) (by omega) rfl | exact opv_fieldAddrR rfl (by omega) rfl) rfl ?_
     refine tri_g (opg_store rfl rfl rfl rfl rfl rfl) rfl ?_
     rintro _ _ _ ⟨rfl, rfl⟩
     refine tri_nil ?_
     refine tri_inBlock ?_
     refine tri_then ?_
     refine tri_region ?_
     refine tri_v (by first | exact opv_add rfl rfl (w64 (by omega) (by omega))) rfl ?_
     refine tri_v (opv_move rfl) rfl ?_
     refine tri_nil ?_
     refine tri_then ?_
     refine tri_drop (tri_drop (tri_drop ?_))
     refine tri_rowEq (len' := (out ++ [R6.mapKids to (ns.getD i default)]).length) (cells' := encs (out ++ [R6.mapKids to (ns.getD i default)])) (by simp) (by rw [encs_append]; rfl) ?_
     have hk := hK2 (i + 1, to.set i (out.length : Nat), out ++ [R6.mapKids to (ns.getD i default)], a3, c3) ⟨by simp only; omega, hnx⟩ (by simp only; omega)
     simp only [List.length_append] at hk ⊢
     refine tri_sub ?_ hk
     exact ⟨rfl, rfl, rfl, rfl, rfl, rfl, rfl, rfl, rfl, trivial⟩
   ·obtain rfl : i = ns.length := by omega
    rw [← hall] at hst
    have hR1 : R.1 = to := by rw [hst]
    have hR2 : R.2 = out := by rw [hst]
    rw [hR1, hR2] at hlive
    refine tri_freezeRowC rfl fun I2 hI2 hso => ?_
    have hsr2 := hsr.mono hI2
    refine tri_exit ?_
    refine tri_then_exit ?_
    refine tri_then_exit ?_
    refine tri_inBlock_hit rfl ?_
    refine tri_then ?_
    refine tri_seq ?_
    refine tri_region ?_
    refine tri_v (opv_assign rfl) rfl ?_
    refine tri_nil ?_
    refine tri_then ?_
    refine tri_seq ?_
    refine tri_seq ?_
    refine tri_region ?_
    refine tri_v (opv_move rfl) rfl ?_
    refine tri_v (opv_len rfl) rfl ?_
    refine tri_v (opv_move rfl) rfl ?_
    refine tri_nil ?_
    refine tri_then ?_
    refine tri_block ?_
    refine tri_nilRow (E := 3) (sz := 1) ?_
    refine tri_sub (F' := [(1, .slice ar roots.length capr), (4, pt b4 0), (18, .slice a18 ns.length ns.length), (19, pt b19 0), (26, .slice none 0 0), (142, .slice ar roots.length capr), (143, .int .i64 (roots.length : Nat)), (144, .int .i64 (0 : Nat))]) ⟨rfl, rfl, rfl, rfl, rfl, rfl, rfl, rfl, trivial⟩ ?_
    refine loop_ind (G := Nat × Option Addr × Nat) (fun g => roots.length - g.1) (fun g => g.1 ≤ roots.length) (fun g => [(1, .slice ar roots.length capr), (4, pt b4 0), (18, .slice a18 ns.length ns.length), (19, pt b19 0), (26, .slice g.2.1 ((roots.take g.1).map fun r => to.getD r.toNat default).length g.2.2), (142, .slice ar roots.length capr), (143, .int .i64 (roots.length : Nat)), (144, .int .i64 (g.1 : Nat))])
     (fun g => Row g.2.1 g.2.2 ((roots.take g.1).map fun r => to.getD r.toNat default).length 3 1 (encs ((roots.take g.1).map fun r => to.getD r.toNat default)) :: Box b19 [.slice a21 out.length c21, .int .i64 room] 25 :: Row a18 ns.length ns.length 3 1 (encs to) :: Pt b (.deferred (some [])) :: Pt l (.loop lp) :: Box b1 [.slice a1 ns.length c1] 23 :: Row a1 c1 ns.length 49 6 (encs ns) :: Box b9 [.map (some b42)] 68 :: MapA Try.prog 3 b42 es3 :: Box bx [.slice a1 ns.length c1, .int .i64 room, .map (some mb)] 74 :: MapA Try.prog 26 mb es :: Box b4 [.slice none 0 0, .int .i64 0] 25 :: Box b2 [.slice a ns.length cap, .int .i64 room] 25 :: A) (fun _ => I2) ?_ (0, none, 0) (by simp)
    rintro ⟨q, a5, c5⟩ hq K3 hK3
    simp only at hq hK3 ⊢
    have hl1 : ((roots.take q).map fun r => to.getD r.toNat default).length = q := by rw [List.length_map, List.length_take]; omega
    skip
    refine tri_seq ?_
    refine tri_region ?_
    refine tri_v (opv_lss rfl rfl) rfl ?_
    refine tri_nil ?_
    refine tri_then ?_
    refine tri_seq ?_
    refine tri_cond_dec rfl (fun h3 => ?_) (fun h3 => ?_)
    ·have hql : q < roots.length := by omega
     have hrb := hin q hql
     have hrb1 := hrb.1
     have hrb2 := hrb.2
     refine tri_skip ?_
     refine tri_then ?_
     refine tri_seq ?_
     refine tri_block ?_
     refine tri_seq ?_
     refine tri_region ?_
     refine tri_v (by first | exact opv_indexAddrA rfl rfl (by first | decide | omega) (by first | decide | omega) | exact opv_indexAddrSN rfl rfl (by omega) (by assumption) rfl | exact opv_indexAddrS rfl rfl (by omega) (by omega) (by assumption) rfl | exact opv_indexAddrE rfl (by assumption) (by omega) rfl (by first | decide | omega) (by first | decide | omega) | exact opv_indexAddrRN rfl rfl (by omega) | exact opv_indexAddrR rfl rfl (by omega) (by omega) | exact opv_indexAddrRA rfl (by omega) rfl (by first | decide | omega) (by first | decide | omega)) rfl ?_
     refine tri_v (by first | exact opv_load1 rfl rfl rfl | exact opv_loadA rfl rfl rfl | exact opv_loadE1 rfl (by assumption) rfl (by omega) rfl rfl | exact opv_loadEA rfl (by assumption) rfl (by omega) rfl rfl | exact opv_loadRX1 rfl rfl (by omega) rfl rfl | exact opv_loadRXA rfl rfl (by omega) rfl rfl rfl | exact opv_loadIX rfl rfl (by omega) | exact opv_loadR1 rfl rfl rfl | exact opv_loadRA rfl rfl rfl rfl) rfl ?_
     refine tri_v (opv_assign rfl) rfl ?_
     refine tri_nil ?_
     refine tri_then ?_
     refine tri_region ?_
     refine tri_v (opv_move rfl) rfl ?_
     refine tri_v (opv_move rfl) rfl ?_
     refine tri_v (opv_move rfl) rfl ?_
     refine tri_v (by first | exact opv_indexAddrA rfl rfl (by first | decide | omega) (by first | decide | omega) | exact opv_indexAddrSN rfl rfl (by omega) (by assumption) rfl | exact opv_indexAddrS rfl rfl (by omega) (by omega) (by assumption) rfl | exact opv_indexAddrE rfl (by assumption) (by omega) rfl (by first | decide | omega) (by first | decide | omega) | exact opv_indexAddrRN rfl rfl (by omega) | exact opv_indexAddrR rfl rfl (by omega) (by omega) | exact opv_indexAddrRA rfl (by omega) rfl (by first | decide | omega) (by first | decide | omega)) rfl ?_
     refine tri_v (by first | exact opv_load1 rfl rfl rfl | exact opv_loadA rfl rfl rfl | exact opv_loadE1 rfl (by assumption) rfl (by omega) rfl rfl | exact opv_loadEA rfl (by assumption) rfl (by omega) rfl rfl | exact opv_loadRX1 rfl rfl (by omega) rfl rfl | exact opv_loadRXA rfl rfl (by omega) rfl rfl rfl | exact opv_loadIX rfl rfl (by omega) | exact opv_loadR1 rfl rfl rfl | exact opv_loadRA rfl rfl rfl rfl) rfl ?_
     refine tri_g (opg_buildSlice rfl rfl rfl rfl) rfl ?_
     rintro _ _ _ ⟨b153, rfl, rfl, rfl⟩
     refine tri_g (opg_appendB rfl rfl rfl rfl (by omega) rfl) rfl ?_
     rintro _ _ _ ⟨a6, c6, rfl, rfl, rfl⟩
     refine tri_v (opv_assign rfl) rfl ?_
     refine tri_nil ?_
     refine tri_inBlock ?_
     refine tri_then ?_
     refine tri_region ?_
     refine tri_v (by first | exact opv_add rfl rfl (w64 (by omega) (by omega))) rfl ?_
     refine tri_v (opv_move rfl) rfl ?_
     refine tri_nil ?_
     refine tri_then ?_
     have e2 : (roots.take (q + 1)).map (fun r => to.getD r.toNat default) = (roots.take q).map (fun r => to.getD r.toNat default) ++ [to.getD (roots.getD q default).toNat default] := by
      rw [List.take_succ_eq_append_getElem hql, List.map_append, show roots.getD q default = roots[q] by simp [hql]]; rfl
     refine tri_drop ?_
     refine tri_rowEq (len' := ((roots.take (q + 1)).map fun r => to.getD r.toNat default).length) (cells' := encs ((roots.take (q + 1)).map fun r => to.getD r.toNat default)) (by rw [e2]; simp) (by rw [e2, encs_append]; rfl) ?_
     refine tri_sub ?_ (hK3 (q + 1, a6, c6) (by simp only; omega) (by simp only; omega))
     exact ⟨rfl, rfl, rfl, rfl, by simp only [e2, List.length_append]; rfl, rfl, rfl, rfl, trivial⟩
    ·obtain rfl : q = roots.length := by omega
     rw [List.take_length]
     refine tri_freezeRow (α := Int) rfl fun I3 hI3 hsp => ?_
     refine tri_exit ?_
     refine tri_then_exit ?_
     refine tri_then_exit ?_
     refine tri_inBlock_hit rfl ?_
     refine tri_then ?_
     refine tri_seq ?_
     refine tri_region ?_
     refine tri_v (by first | exact opv_load1 rfl rfl rfl | exact opv_loadA rfl rfl rfl | exact opv_loadE1 rfl (by assumption) rfl (by omega) rfl rfl | exact opv_loadEA rfl (by assumption) rfl (by omega) rfl rfl | exact opv_loadRX1 rfl rfl (by omega) rfl rfl | exact opv_loadRXA rfl rfl (by omega) rfl rfl rfl | exact opv_loadIX rfl rfl (by omega) | exact opv_loadR1 rfl rfl rfl | exact opv_loadRA rfl rfl rfl rfl) rfl ?_
     refine tri_v (opv_move rfl) rfl ?_
     refine tri_g (opg_store rfl rfl rfl rfl rfl rfl) rfl ?_
     rintro _ _ _ ⟨rfl, rfl⟩
     refine tri_v (opv_assign rfl) rfl ?_
     refine tri_v (opv_assign rfl) rfl ?_
     refine tri_nil ?_
     refine tri_then ?_
     refine tri_ret ?_
     refine tri_perm (A := ?a7_0 :: ?a7_1 :: ?a7_2 :: ?T7) (B := ?a7_2 :: ?a7_0 :: ?a7_1 :: ?T7) (by exact permL [2, 0, 1] [?a7_0, ?a7_1, ?a7_2] ?T7 (by decide) rfl) ?_
     refine tri_endM A ⟨[_, _, _, _, _, _, _, _, _, _, _], rfl⟩ rfl (.cons (rv_cellA rfl rfl rfl) (.cons (rv_tmp rfl) (.cons (rv_tmp rfl) .nil))) ?_
     rw [hlive]
     exact ⟨a21, c21, a5, c5, rfl, hso.mono hI3, hsp, rfl, fun _ h => hI3 (hI2 h)⟩
 ·refine tri_v (opv_move rfl) rfl ?_
  refine tri_v (opv_extract rfl rfl) rfl ?_
  refine tri_v (opv_extract rfl rfl) rfl ?_
  refine tri_v (opv_assign rfl) rfl ?_
  refine tri_v (opv_assign rfl) rfl ?_
  refine tri_nil ?_
  refine tri_then ?_
  refine tri_seq ?_
  refine tri_seq ?_
  refine tri_region ?_
  refine tri_v (opv_move rfl) rfl ?_
  refine tri_v (by first | exact opv_notD rfl | exact opv_not rfl) rfl ?_
  refine tri_v (opv_move rfl) rfl ?_
  skip
  refine tri_guard_skip rfl rfl rfl rfl ?_
  refine tri_guard_skip rfl rfl rfl rfl ?_
  refine tri_guard_skip rfl rfl rfl rfl ?_
  refine tri_v (by first | exact opv_pick_t rfl rfl | exact opv_pick_f rfl rfl | exact opv_pick_bool rfl rfl rfl | exact opv_pick rfl rfl rfl) rfl ?_
  refine tri_nil ?_
  refine tri_then ?_
  refine tri_cond_true rfl ?_
  refine tri_seq ?_
  refine tri_region ?_
  refine tri_v (by first | exact opv_load1 rfl rfl rfl | exact opv_loadA rfl rfl rfl | exact opv_loadE1 rfl (by assumption) rfl (by omega) rfl rfl | exact opv_loadEA rfl (by assumption) rfl (by omega) rfl rfl | exact opv_loadRX1 rfl rfl (by omega) rfl rfl | exact opv_loadRXA rfl rfl (by omega) rfl rfl rfl | exact opv_loadIX rfl rfl (by omega) | exact opv_loadR1 rfl rfl rfl | exact opv_loadRA rfl rfl rfl rfl) rfl ?_
  refine tri_g (opg_store rfl rfl rfl rfl rfl rfl) rfl ?_
  rintro _ _ _ ⟨rfl, rfl⟩
  refine tri_v (opv_assign rfl) rfl ?_
  refine tri_v (opv_assign rfl) rfl ?_
  refine tri_nil ?_
  refine tri_then ?_
  refine tri_ret ?_
  refine tri_then_ret ?_
  refine tri_end A Suf.h rfl (.cons (rv_cellA rfl rfl rfl) (.cons (rv_tmp rfl) (.cons (rv_tmp rfl) .nil))) ?_
  rw [R6.live_bad (fun h => hrt h.1)]
  exact ⟨a, cap, none, 0, rfl, hs, SlAt.nil, rfl, fun _ h => h⟩
end Go.GL.Rd

namespace Go.GL
namespace RL
abbrev St6 := List Node × Int × Int
def aw61 : St6 := R6.intern [R6.n0, R6.n1] 9 0 1 0 0
def aw62 : St6 := R6.intern aw61.1 9 0 1 0 0
def aw63 : St6 := R6.intern aw61.1 9 0 1 0 2
def aw64 : St6 := R6.emptyT aw61.1 9 3
def aw65 : List Node × List Int × Int := R6.live aw64.1 9 [aw61.2.1]
def aw66 : St6 := R6.emptyT [R6.n0, R6.n1] 4 5
theorem aw6_ok : (aw61.1.length = 3 ∧ aw61.2.1 = 2 ∧ aw61.2.2 = 0 ∧ aw61.1.getD 2 default = ⟨1, 0, 1, 0, 0, 1⟩) ∧ (aw62.1.length = 3 ∧ aw62.2.1 = 2 ∧ aw62.2.2 = 0) ∧ aw63.2.2 = 1
  ∧ (aw64.1.length = 6 ∧ aw64.2.1 = 5 ∧ aw64.2.2 = 0 ∧ (aw64.1.getD 5 default).lv = 3 ∧ R6.right aw64.1 9) ∧ (aw65.2.1.length = 1 ∧ aw65.1.length = 3 ∧ aw65.2.1.getD 0 default = 2 ∧ aw65.2.2 = 0) ∧ aw66.2.2 = 40 ∧ ¬ R6.right [] 0 := by
 refine ⟨by decide +kernel, by decide +kernel, by decide +kernel, by decide +kernel, by decide +kernel, by decide +kernel, by decide +kernel⟩
end RL
end Go.GL

set_option linter.unusedVariables false
namespace Go.GL
open Go.Proofs
attribute [local irreducible] wpList Code.wp Exit.then Exit.inBlock Ends Tri TriH OpV OpG FnC epf wpAnyH
variable {A : List Asrt} {I : List Chunk}
theorem node_newR {room : Int} {p : List Node × Int} (h : R6.new room = p) : FnC Try.prog 12 [.int .i64 room].toArray A I (fun v A' I' => ∃ a' cap', v = storeV a' p.1.length cap' p.2 ∧ StA I' a' cap' p.1 ∧ A = A' ∧ I ⊆ I') := by
 subst h
 exact node_new
theorem node_internR {ns : List Node} {a : Option Addr} {cap : Nat} {room q0 q1 q2 q3 : Int} {p : List Node × Int × Int} (hs : StA I a cap ns) (hn : ns.length ≤ 1000000000) (h : R6.intern ns room q0 q1 q2 q3 = p) :
  FnC Try.prog 18 [storeV a ns.length cap room, int4V q0 q1 q2 q3].toArray A I (StoreR p room A I) := by
 subst h
 exact node_intern hs hn
theorem node_emptyR {ns : List Node} {a : Option Addr} {cap : Nat} {room lv : Int} {p : List Node × Int × Int} (hs : StA I a cap ns) (hn : ns.length ≤ 1000000000) (h : R6.emptyT ns room lv = p) :
  FnC Try.prog 21 [storeV a ns.length cap room, .int .i64 lv].toArray A I (StoreR p room A I) := by
 subst h
 exact node_empty hs hn
theorem node_liveR {ns : List Node} {roots : List Int} {a ar : Option Addr} {cap capr : Nat} {room : Int} {p : List Node × List Int × Int} (hs : StA I a cap ns) (hn : ns.length ≤ 1000000) (hsr : SlAt I ar roots) (hrl : roots.length ≤ 1000000) (h : R6.live ns room roots = p) :
  FnC Try.prog 23 [storeV a ns.length cap room, .slice ar roots.length capr].toArray A I (LiveR p room A I) := by
 subst h
 exact Rd.node_live hs hn hsr hrl
set_option maxHeartbeats 2000000 in
set_option maxRecDepth 100000 in
theorem law06_awake : FnC Try.prog 10 #[] A I (fun v A' I' => v = .bool true ∧ A = A' ∧ I ⊆ I') := by
 obtain ⟨⟨a1, a2, a3, a4⟩, ⟨b1, b2, b3⟩, c1, ⟨d1, d2, d3, d4, d5⟩, ⟨e1, e2, e3, e4⟩, f1, g1⟩ := RL.aw6_ok
 have eN : R6.new 9 = ([R6.n0, R6.n1], 9) := by decide
 have eN4 : R6.new 4 = ([R6.n0, R6.n1], 4) := by decide
 obtain ⟨r1, h1⟩ : ∃ r, RL.aw61 = r := ⟨_, rfl⟩
 obtain ⟨r2, h2⟩ : ∃ r, RL.aw62 = r := ⟨_, rfl⟩
 obtain ⟨r3, h3⟩ : ∃ r, RL.aw63 = r := ⟨_, rfl⟩
 obtain ⟨r4, h4⟩ : ∃ r, RL.aw64 = r := ⟨_, rfl⟩
 obtain ⟨r5, h5⟩ : ∃ r, RL.aw65 = r := ⟨_, rfl⟩
 obtain ⟨r6, h6⟩ : ∃ r, RL.aw66 = r := ⟨_, rfl⟩
 have m1 : R6.intern [R6.n0, R6.n1] 9 0 1 0 0 = r1 := h1
 have m2 : R6.intern r1.1 9 0 1 0 0 = r2 := by rw [← h1]; exact h2
 have m3 : R6.intern r1.1 9 0 1 0 2 = r3 := by rw [← h1]; exact h3
 have m4 : R6.emptyT r1.1 9 3 = r4 := by rw [← h1]; exact h4
 have m5 : R6.live r4.1 9 [r1.2.1] = r5 := by rw [← h1, ← h4]; exact h5
 have m6 : R6.emptyT [R6.n0, R6.n1] 4 5 = r6 := h6
 rw [h1] at a1 a2 a3 a4
 rw [h2] at b1 b2 b3
 rw [h3] at c1
 rw [h4] at d1 d2 d3 d4 d5
 rw [h5] at e1 e2 e3 e4
 rw [h6] at f1
 clear h1 h2 h3 h4 h5 h6
 skip
 refine fn_enter0 Try.func10 rfl Try.ntmps10 rfl fun w0 => ?_
 refine tS (tR (tA rfl rfl (tN (tT (tS (tR ?_))))))
 refine tri_g (opg_call (xs := [_]) rfl (node_newR eN)) rfl ?_
 rintro _ _ I0 ⟨x0, y0, rfl, hs0, rfl, hI0⟩
 refine tri_v (by first | exact opv_buildS rfl rfl | exact opv_buildA rfl rfl) rfl ?_
 refine tri_g (opg_call (xs := [_, _]) rfl (node_internR hs0 (by decide) m1)) rfl ?_
 rintro _ _ I1 ⟨x1, y1, rfl, hs1, rfl, hI1⟩
 refine tM rfl rfl ?_
 refine tri_v (opv_extract rfl rfl) rfl ?_
 refine tri_v (opv_extract rfl rfl) rfl ?_
 refine tri_v (opv_extract rfl rfl) rfl ?_
 refine tri_g opg_alloc rfl ?_
 rintro _ _ _ ⟨b1, rfl, rfl, rfl⟩
 refine tri_g (opg_store rfl rfl rfl rfl rfl rfl) rfl ?_
 rintro _ _ _ ⟨rfl, rfl⟩
 refine tA rfl rfl (tA rfl rfl (tN (tT (tS (tR ?_)))))
 refine tri_v (by first | exact opv_load1 rfl rfl rfl | exact opv_loadA rfl rfl rfl | exact opv_loadE1 rfl (by assumption) rfl (by omega) rfl rfl | exact opv_loadEA rfl (by assumption) rfl (by omega) rfl rfl | exact opv_loadRX1 rfl rfl (by omega) rfl rfl | exact opv_loadRXA rfl rfl (by omega) rfl rfl rfl | exact opv_loadIX rfl rfl (by omega) | exact opv_loadR1 rfl rfl rfl | exact opv_loadRA rfl rfl rfl rfl) rfl ?_
 refine tri_v (by first | exact opv_buildS rfl rfl | exact opv_buildA rfl rfl) rfl ?_
 refine tri_g (opg_call (xs := [_, _]) rfl (node_internR hs1 (by omega) m2)) rfl ?_
 rintro _ _ I2 ⟨x2, y2, rfl, hs2, rfl, hI2⟩
 refine tM rfl rfl ?_
 refine tri_v (opv_extract rfl rfl) rfl ?_
 refine tri_v (opv_extract rfl rfl) rfl ?_
 refine tri_v (opv_extract rfl rfl) rfl ?_
 refine tri_g opg_alloc rfl ?_
 rintro _ _ _ ⟨b4, rfl, rfl, rfl⟩
 refine tri_g (opg_store rfl rfl rfl rfl rfl rfl) rfl ?_
 rintro _ _ _ ⟨rfl, rfl⟩
 refine tA rfl rfl (tA rfl rfl (tN (tT (tS (tR ?_)))))
 refine tri_v (by first | exact opv_load1 rfl rfl rfl | exact opv_loadA rfl rfl rfl | exact opv_loadE1 rfl (by assumption) rfl (by omega) rfl rfl | exact opv_loadEA rfl (by assumption) rfl (by omega) rfl rfl | exact opv_loadRX1 rfl rfl (by omega) rfl rfl | exact opv_loadRXA rfl rfl (by omega) rfl rfl rfl | exact opv_loadIX rfl rfl (by omega) | exact opv_loadR1 rfl rfl rfl | exact opv_loadRA rfl rfl rfl rfl) rfl ?_
 refine tri_v (by first | exact opv_buildS rfl rfl | exact opv_buildA rfl rfl) rfl ?_
 refine tri_g (opg_call (xs := [_, _]) rfl (node_internR (hs1.mono hI2) (by omega) m3)) rfl ?_
 rintro _ _ I3 ⟨x3, y3, rfl, hs3, rfl, hI3⟩
 refine tM rfl rfl ?_
 refine tri_v (opv_extract rfl rfl) rfl ?_
 refine tri_v (opv_extract rfl rfl) rfl ?_
 refine tri_v (opv_extract rfl rfl) rfl ?_
 refine tri_g opg_alloc rfl ?_
 rintro _ _ _ ⟨b7, rfl, rfl, rfl⟩
 refine tri_g (opg_store rfl rfl rfl rfl rfl rfl) rfl ?_
 rintro _ _ _ ⟨rfl, rfl⟩
 refine tA rfl rfl (tA rfl rfl (tN (tT (tS (tR ?_)))))
 refine tri_v (by first | exact opv_load1 rfl rfl rfl | exact opv_loadA rfl rfl rfl | exact opv_loadE1 rfl (by assumption) rfl (by omega) rfl rfl | exact opv_loadEA rfl (by assumption) rfl (by omega) rfl rfl | exact opv_loadRX1 rfl rfl (by omega) rfl rfl | exact opv_loadRXA rfl rfl (by omega) rfl rfl rfl | exact opv_loadIX rfl rfl (by omega) | exact opv_loadR1 rfl rfl rfl | exact opv_loadRA rfl rfl rfl rfl) rfl ?_
 refine tri_g (opg_call (xs := [_, _]) rfl (node_emptyR ((hs1.mono hI2).mono hI3) (by omega) m4)) rfl ?_
 rintro _ _ I4 ⟨x4, y4, rfl, hs4, rfl, hI4⟩
 refine tM rfl rfl ?_
 refine tri_v (opv_extract rfl rfl) rfl ?_
 refine tri_v (opv_extract rfl rfl) rfl ?_
 refine tri_v (opv_extract rfl rfl) rfl ?_
 refine tri_g opg_alloc rfl ?_
 rintro _ _ _ ⟨b10, rfl, rfl, rfl⟩
 refine tri_g (opg_store rfl rfl rfl rfl rfl rfl) rfl ?_
 rintro _ _ _ ⟨rfl, rfl⟩
 refine tA rfl rfl (tA rfl rfl (tN (tT (tS (tR ?_)))))
 refine tri_v (by first | exact opv_load1 rfl rfl rfl | exact opv_loadA rfl rfl rfl | exact opv_loadE1 rfl (by assumption) rfl (by omega) rfl rfl | exact opv_loadEA rfl (by assumption) rfl (by omega) rfl rfl | exact opv_loadRX1 rfl rfl (by omega) rfl rfl | exact opv_loadRXA rfl rfl (by omega) rfl rfl rfl | exact opv_loadIX rfl rfl (by omega) | exact opv_loadR1 rfl rfl rfl | exact opv_loadRA rfl rfl rfl rfl) rfl ?_
 refine tM rfl rfl ?_
 refine tri_g (opg_buildSlice rfl rfl rfl rfl) rfl ?_
 rintro _ _ _ ⟨b49, rfl, rfl, rfl⟩
 refine tri_freezeBoxS [r1.2.1] rfl fun I5 hI5 hsr => ?_
 refine tri_g (opg_call (xs := [_, _]) rfl (node_liveR (hs4.mono hI5) (by omega) hsr (by simp) m5)) rfl ?_
 rintro _ _ I6 ⟨x6, y6, x7, y7, rfl, hs6, hs7, rfl, hI6⟩
 refine tM rfl rfl ?_
 refine tri_v (opv_extract rfl rfl) rfl ?_
 refine tri_v (opv_extract rfl rfl) rfl ?_
 refine tri_v (opv_extract rfl rfl) rfl ?_
 refine tri_g opg_alloc rfl ?_
 rintro _ _ _ ⟨b13, rfl, rfl, rfl⟩
 refine tri_g (opg_store rfl rfl rfl rfl rfl rfl) rfl ?_
 rintro _ _ _ ⟨rfl, rfl⟩
 refine tA rfl rfl (tA rfl rfl (tN (tT (tS (tR ?_)))))
 refine tri_g (opg_call (xs := [_]) rfl (node_newR eN4)) rfl ?_
 rintro _ _ I7 ⟨x8, y8, rfl, hs8, rfl, hI7⟩
 skip
 refine tri_g (opg_call (xs := [_, _]) rfl (node_emptyR hs8 (by decide) m6)) rfl ?_
 rintro _ _ I8 ⟨x9, y9, rfl, hs9, rfl, hI8⟩
 have s1 : SlAt I8 x1 r1.1 := ((((((hs1.mono hI2).mono hI3).mono hI4).mono hI5).mono hI6).mono hI7 |>.mono hI8).sl
 have s4 : StA I8 x4 y4 r4.1 := ((((hs4.mono hI5).mono hI6).mono hI7).mono hI8)
 have s4l := s4.sl
 have s7 : SlAt I8 x7 r5.2.1 := (hs7.mono hI7).mono hI8
 have eR : decide (R6.right r4.1 9) = true := decide_eq_true d5
 refine tM rfl rfl ?_
 refine tri_v (opv_extract rfl rfl) rfl ?_
 refine tri_v (opv_extract rfl rfl) rfl ?_
 refine tri_v (opv_extract rfl rfl) rfl ?_
 refine tri_g opg_alloc rfl ?_
 rintro _ _ _ ⟨b16, rfl, rfl, rfl⟩
 refine tri_g (opg_store rfl rfl rfl rfl rfl rfl) rfl ?_
 rintro _ _ _ ⟨rfl, rfl⟩
 refine tA rfl rfl (tA rfl rfl (tN (tT (tS (tS (tR ?_))))))
 refine tri_v (by first | exact opv_fieldAddr rfl rfl | exact opv_fieldAddrE rfl (by assumption) (by omega) rfl | exact opv_fieldAddrR rfl (by omega) rfl) rfl ?_
 refine tri_v (by first | exact opv_load1 rfl rfl rfl | exact opv_loadA rfl rfl rfl | exact opv_loadE1 rfl (by assumption) rfl (by omega) rfl rfl | exact opv_loadEA rfl (by assumption) rfl (by omega) rfl rfl | exact opv_loadRX1 rfl rfl (by omega) rfl rfl | exact opv_loadRXA rfl rfl (by omega) rfl rfl rfl | exact opv_loadIX rfl rfl (by omega) | exact opv_loadR1 rfl rfl rfl | exact opv_loadRA rfl rfl rfl rfl) rfl ?_
 refine tri_v (opv_len rfl) rfl ?_
 refine tri_v (by first | exact opv_neq rfl rfl | exact opv_neqI rfl rfl rfl rfl rfl rfl | exact opv_neqB rfl rfl) rfl ?_
 refine tM rfl rfl ?_
 refine tri_false rfl rfl ((by omega)) ?_
 refine tri_guard_run rfl rfl rfl ?_
 refine tri_v (by first | exact opv_fieldAddr rfl rfl | exact opv_fieldAddrE rfl (by assumption) (by omega) rfl | exact opv_fieldAddrR rfl (by omega) rfl) rfl ?_
 refine tri_guard_run rfl rfl rfl ?_
 refine tri_v (by first | exact opv_load1 rfl rfl rfl | exact opv_loadA rfl rfl rfl | exact opv_loadE1 rfl (by assumption) rfl (by omega) rfl rfl | exact opv_loadEA rfl (by assumption) rfl (by omega) rfl rfl | exact opv_loadRX1 rfl rfl (by omega) rfl rfl | exact opv_loadRXA rfl rfl (by omega) rfl rfl rfl | exact opv_loadIX rfl rfl (by omega) | exact opv_loadR1 rfl rfl rfl | exact opv_loadRA rfl rfl rfl rfl) rfl ?_
 refine tri_guard_run rfl rfl rfl ?_
 refine tri_v (opv_len rfl) rfl ?_
 refine tri_guard_run rfl rfl rfl ?_
 refine tri_v (by first | exact opv_neq rfl rfl | exact opv_neqI rfl rfl rfl rfl rfl rfl | exact opv_neqB rfl rfl) rfl ?_
 refine tri_v (by first | exact opv_pick_t rfl rfl | exact opv_pick_f rfl rfl | exact opv_pick_bool rfl rfl rfl | exact opv_pick rfl rfl rfl) rfl ?_
 refine tM rfl rfl ?_
 refine tri_false rfl rfl ((by omega)) ?_
 refine tri_guard_run rfl rfl rfl (tM rfl rfl (tri_guard_run rfl rfl rfl ?_))
 refine tri_v (opv_len rfl) rfl ?_
 refine tri_guard_run rfl rfl rfl ?_
 refine tri_v (by first | exact opv_neq rfl rfl | exact opv_neqI rfl rfl rfl rfl rfl rfl | exact opv_neqB rfl rfl) rfl ?_
 refine tri_v (by first | exact opv_pick_t rfl rfl | exact opv_pick_f rfl rfl | exact opv_pick_bool rfl rfl rfl | exact opv_pick rfl rfl rfl) rfl ?_
 refine tM rfl rfl ?_
 refine tri_false rfl rfl ((by omega)) ?_
 refine tri_guard_run rfl rfl rfl ?_
 refine tri_v (by first | exact opv_fieldAddr rfl rfl | exact opv_fieldAddrE rfl (by assumption) (by omega) rfl | exact opv_fieldAddrR rfl (by omega) rfl) rfl ?_
 refine tri_guard_run rfl rfl rfl ?_
 refine tri_v (by first | exact opv_load1 rfl rfl rfl | exact opv_loadA rfl rfl rfl | exact opv_loadE1 rfl (by assumption) rfl (by omega) rfl rfl | exact opv_loadEA rfl (by assumption) rfl (by omega) rfl rfl | exact opv_loadRX1 rfl rfl (by omega) rfl rfl | exact opv_loadRXA rfl rfl (by omega) rfl rfl rfl | exact opv_loadIX rfl rfl (by omega) | exact opv_loadR1 rfl rfl rfl | exact opv_loadRA rfl rfl rfl rfl) rfl ?_
 refine tri_guard_run rfl rfl rfl ?_
 refine tri_v (opv_len rfl) rfl ?_
 refine tri_guard_run rfl rfl rfl ?_
 refine tri_v (by first | exact opv_neq rfl rfl | exact opv_neqI rfl rfl rfl rfl rfl rfl | exact opv_neqB rfl rfl) rfl ?_
 refine tri_v (by first | exact opv_pick_t rfl rfl | exact opv_pick_f rfl rfl | exact opv_pick_bool rfl rfl rfl | exact opv_pick rfl rfl rfl) rfl ?_
 refine tN (tT ?_)
 refine tri_cond_not rfl ((by omega)) ?_
 refine tri_skip (tT (tS (tR (tM rfl rfl ?_))))
 refine tri_v (by first | exact opv_eql rfl rfl | exact opv_eqlI rfl rfl rfl rfl rfl rfl | exact opv_eqlB rfl rfl | exact opv_eqlNil rfl rfl) rfl ?_
 refine tM rfl rfl ?_
 refine tri_true rfl rfl (a2) ?_
 refine tri_guard_run rfl rfl rfl (tM rfl rfl (tri_guard_run rfl rfl rfl ?_))
 refine tri_v (by first | exact opv_eql rfl rfl | exact opv_eqlI rfl rfl rfl rfl rfl rfl | exact opv_eqlB rfl rfl | exact opv_eqlNil rfl rfl) rfl ?_
 refine tri_v (by first | exact opv_pick_t rfl rfl | exact opv_pick_f rfl rfl | exact opv_pick_bool rfl rfl rfl | exact opv_pick rfl rfl rfl) rfl ?_
 refine tM rfl rfl ?_
 refine tri_true rfl rfl (a3) ?_
 refine tri_guard_run rfl rfl rfl (tM rfl rfl (tri_guard_run rfl rfl rfl ?_))
 refine tri_v (by first | exact opv_eql rfl rfl | exact opv_eqlI rfl rfl rfl rfl rfl rfl | exact opv_eqlB rfl rfl | exact opv_eqlNil rfl rfl) rfl ?_
 refine tri_v (by first | exact opv_pick_t rfl rfl | exact opv_pick_f rfl rfl | exact opv_pick_bool rfl rfl rfl | exact opv_pick rfl rfl rfl) rfl ?_
 refine tM rfl rfl ?_
 refine tri_true rfl rfl (b2) ?_
 refine tri_guard_run rfl rfl rfl (tM rfl rfl (tri_guard_run rfl rfl rfl ?_))
 refine tri_v (by first | exact opv_eql rfl rfl | exact opv_eqlI rfl rfl rfl rfl rfl rfl | exact opv_eqlB rfl rfl | exact opv_eqlNil rfl rfl) rfl ?_
 refine tri_v (by first | exact opv_pick_t rfl rfl | exact opv_pick_f rfl rfl | exact opv_pick_bool rfl rfl rfl | exact opv_pick rfl rfl rfl) rfl ?_
 refine tM rfl rfl ?_
 refine tri_true rfl rfl (b3) ?_
 refine tri_guard_run rfl rfl rfl ?_
 refine tri_v (by first | exact opv_fieldAddr rfl rfl | exact opv_fieldAddrE rfl (by assumption) (by omega) rfl | exact opv_fieldAddrR rfl (by omega) rfl) rfl ?_
 refine tri_guard_run rfl rfl rfl ?_
 refine tri_v (by first | exact opv_load1 rfl rfl rfl | exact opv_loadA rfl rfl rfl | exact opv_loadE1 rfl (by assumption) rfl (by omega) rfl rfl | exact opv_loadEA rfl (by assumption) rfl (by omega) rfl rfl | exact opv_loadRX1 rfl rfl (by omega) rfl rfl | exact opv_loadRXA rfl rfl (by omega) rfl rfl rfl | exact opv_loadIX rfl rfl (by omega) | exact opv_loadR1 rfl rfl rfl | exact opv_loadRA rfl rfl rfl rfl) rfl ?_
 refine tri_guard_run rfl rfl rfl ?_
 refine tri_v (by first | exact opv_indexAddrA rfl rfl (by first | decide | omega) (by first | decide | omega) | exact opv_indexAddrSN rfl rfl (by omega) (by assumption) rfl | exact opv_indexAddrS rfl rfl (by omega) (by omega) (by assumption) rfl | exact opv_indexAddrE rfl (by assumption) (by omega) rfl (by first | decide | omega) (by first | decide | omega) | exact opv_indexAddrRN rfl rfl (by omega) | exact opv_indexAddrR rfl rfl (by omega) (by omega) | exact opv_indexAddrRA rfl (by omega) rfl (by first | decide | omega) (by first | decide | omega)) rfl ?_
 refine tri_guard_run rfl rfl rfl ?_
 refine tri_v (by first | exact opv_load1 rfl rfl rfl | exact opv_loadA rfl rfl rfl | exact opv_loadE1 rfl (by assumption) rfl (by omega) rfl rfl | exact opv_loadEA rfl (by assumption) rfl (by omega) rfl rfl | exact opv_loadRX1 rfl rfl (by omega) rfl rfl | exact opv_loadRXA rfl rfl (by omega) rfl rfl rfl | exact opv_loadIX rfl rfl (by omega) | exact opv_loadR1 rfl rfl rfl | exact opv_loadRA rfl rfl rfl rfl) rfl ?_
 refine tri_guard_run rfl rfl rfl ?_
 refine tri_v (by first | exact opv_buildS rfl rfl | exact opv_buildA rfl rfl) rfl ?_
 refine tri_guard_run rfl rfl rfl ?_
 refine tri_v (by first | exact opv_buildS rfl rfl | exact opv_buildA rfl rfl) rfl ?_
 refine tri_guard_run rfl rfl rfl ?_
 refine tri_v (by first | exact opv_eql rfl rfl | exact opv_eqlI rfl rfl rfl rfl rfl rfl | exact opv_eqlB rfl rfl | exact opv_eqlNil rfl rfl) rfl ?_
 refine tri_v (by first | exact opv_pick_t rfl rfl | exact opv_pick_f rfl rfl | exact opv_pick_bool rfl rfl rfl | exact opv_pick rfl rfl rfl) rfl ?_
 refine tM rfl rfl ?_
 refine tri_true rfl rfl ((Node.ext_iff'.1 a4)) ?_
 refine tri_guard_run rfl rfl rfl (tM rfl rfl (tri_guard_run rfl rfl rfl ?_))
 refine tri_v (by first | exact opv_eql rfl rfl | exact opv_eqlI rfl rfl rfl rfl rfl rfl | exact opv_eqlB rfl rfl | exact opv_eqlNil rfl rfl) rfl ?_
 refine tri_v (by first | exact opv_pick_t rfl rfl | exact opv_pick_f rfl rfl | exact opv_pick_bool rfl rfl rfl | exact opv_pick rfl rfl rfl) rfl ?_
 refine tM rfl rfl ?_
 refine tri_true rfl rfl (c1) ?_
 refine tri_guard_run rfl rfl rfl (tM rfl rfl (tri_guard_run rfl rfl rfl ?_))
 refine tri_v (by first | exact opv_eql rfl rfl | exact opv_eqlI rfl rfl rfl rfl rfl rfl | exact opv_eqlB rfl rfl | exact opv_eqlNil rfl rfl) rfl ?_
 refine tri_v (by first | exact opv_pick_t rfl rfl | exact opv_pick_f rfl rfl | exact opv_pick_bool rfl rfl rfl | exact opv_pick rfl rfl rfl) rfl ?_
 refine tM rfl rfl ?_
 refine tri_true rfl rfl (d2) ?_
 refine tri_guard_run rfl rfl rfl (tM rfl rfl (tri_guard_run rfl rfl rfl ?_))
 refine tri_v (by first | exact opv_eql rfl rfl | exact opv_eqlI rfl rfl rfl rfl rfl rfl | exact opv_eqlB rfl rfl | exact opv_eqlNil rfl rfl) rfl ?_
 refine tri_v (by first | exact opv_pick_t rfl rfl | exact opv_pick_f rfl rfl | exact opv_pick_bool rfl rfl rfl | exact opv_pick rfl rfl rfl) rfl ?_
 refine tM rfl rfl ?_
 refine tri_true rfl rfl (d3) ?_
 refine tri_guard_run rfl rfl rfl ?_
 refine tri_v (by first | exact opv_fieldAddr rfl rfl | exact opv_fieldAddrE rfl (by assumption) (by omega) rfl | exact opv_fieldAddrR rfl (by omega) rfl) rfl ?_
 refine tri_guard_run rfl rfl rfl ?_
 refine tri_v (by first | exact opv_load1 rfl rfl rfl | exact opv_loadA rfl rfl rfl | exact opv_loadE1 rfl (by assumption) rfl (by omega) rfl rfl | exact opv_loadEA rfl (by assumption) rfl (by omega) rfl rfl | exact opv_loadRX1 rfl rfl (by omega) rfl rfl | exact opv_loadRXA rfl rfl (by omega) rfl rfl rfl | exact opv_loadIX rfl rfl (by omega) | exact opv_loadR1 rfl rfl rfl | exact opv_loadRA rfl rfl rfl rfl) rfl ?_
 refine tri_guard_run rfl rfl rfl ?_
 refine tri_v (by first | exact opv_indexAddrA rfl rfl (by first | decide | omega) (by first | decide | omega) | exact opv_indexAddrSN rfl rfl (by omega) (by assumption) rfl | exact opv_indexAddrS rfl rfl (by omega) (by omega) (by assumption) rfl | exact opv_indexAddrE rfl (by assumption) (by omega) rfl (by first | decide | omega) (by first | decide | omega) | exact opv_indexAddrRN rfl rfl (by omega) | exact opv_indexAddrR rfl rfl (by omega) (by omega) | exact opv_indexAddrRA rfl (by omega) rfl (by first | decide | omega) (by first | decide | omega)) rfl ?_
 refine tri_guard_run rfl rfl rfl ?_
 refine tri_v (by first | exact opv_fieldAddr rfl rfl | exact opv_fieldAddrE rfl (by assumption) (by omega) rfl | exact opv_fieldAddrR rfl (by omega) rfl) rfl ?_
 refine tri_guard_run rfl rfl rfl ?_
 refine tri_v (by first | exact opv_load1 rfl rfl rfl | exact opv_loadA rfl rfl rfl | exact opv_loadE1 rfl (by assumption) rfl (by omega) rfl rfl | exact opv_loadEA rfl (by assumption) rfl (by omega) rfl rfl | exact opv_loadRX1 rfl rfl (by omega) rfl rfl | exact opv_loadRXA rfl rfl (by omega) rfl rfl rfl | exact opv_loadIX rfl rfl (by omega) | exact opv_loadR1 rfl rfl rfl | exact opv_loadRA rfl rfl rfl rfl) rfl ?_
 refine tri_guard_run rfl rfl rfl ?_
 refine tri_v (by first | exact opv_eql rfl rfl | exact opv_eqlI rfl rfl rfl rfl rfl rfl | exact opv_eqlB rfl rfl | exact opv_eqlNil rfl rfl) rfl ?_
 refine tri_v (by first | exact opv_pick_t rfl rfl | exact opv_pick_f rfl rfl | exact opv_pick_bool rfl rfl rfl | exact opv_pick rfl rfl rfl) rfl ?_
 refine tM rfl rfl ?_
 refine tri_true rfl rfl (d4) ?_
 refine tri_guard_run rfl rfl rfl (tM rfl rfl (tri_guard_run rfl rfl rfl ?_))
 refine tri_v (by first | exact opv_indexAddrA rfl rfl (by first | decide | omega) (by first | decide | omega) | exact opv_indexAddrSN rfl rfl (by omega) (by assumption) rfl | exact opv_indexAddrS rfl rfl (by omega) (by omega) (by assumption) rfl | exact opv_indexAddrE rfl (by assumption) (by omega) rfl (by first | decide | omega) (by first | decide | omega) | exact opv_indexAddrRN rfl rfl (by omega) | exact opv_indexAddrR rfl rfl (by omega) (by omega) | exact opv_indexAddrRA rfl (by omega) rfl (by first | decide | omega) (by first | decide | omega)) rfl ?_
 refine tri_guard_run rfl rfl rfl ?_
 refine tri_v (by first | exact opv_load1 rfl rfl rfl | exact opv_loadA rfl rfl rfl | exact opv_loadE1 rfl (by assumption) rfl (by omega) rfl rfl | exact opv_loadEA rfl (by assumption) rfl (by omega) rfl rfl | exact opv_loadRX1 rfl rfl (by omega) rfl rfl | exact opv_loadRXA rfl rfl (by omega) rfl rfl rfl | exact opv_loadIX rfl rfl (by omega) | exact opv_loadR1 rfl rfl rfl | exact opv_loadRA rfl rfl rfl rfl) rfl ?_
 refine tri_guard_run rfl rfl rfl ?_
 refine tri_v (by first | exact opv_eql rfl rfl | exact opv_eqlI rfl rfl rfl rfl rfl rfl | exact opv_eqlB rfl rfl | exact opv_eqlNil rfl rfl) rfl ?_
 refine tri_v (by first | exact opv_pick_t rfl rfl | exact opv_pick_f rfl rfl | exact opv_pick_bool rfl rfl rfl | exact opv_pick rfl rfl rfl) rfl ?_
 refine tM rfl rfl ?_
 refine tri_true rfl rfl (e3) ?_
 refine tri_guard_run rfl rfl rfl (tM rfl rfl (tri_guard_run rfl rfl rfl ?_))
 refine tri_v (by first | exact opv_eql rfl rfl | exact opv_eqlI rfl rfl rfl rfl rfl rfl | exact opv_eqlB rfl rfl | exact opv_eqlNil rfl rfl) rfl ?_
 refine tri_v (by first | exact opv_pick_t rfl rfl | exact opv_pick_f rfl rfl | exact opv_pick_bool rfl rfl rfl | exact opv_pick rfl rfl rfl) rfl ?_
 refine tM rfl rfl ?_
 refine tri_true rfl rfl (e4) ?_
 refine tri_guard_run rfl rfl rfl (tM rfl rfl (tri_guard_run rfl rfl rfl ?_))
 refine tri_v (by first | exact opv_eql rfl rfl | exact opv_eqlI rfl rfl rfl rfl rfl rfl | exact opv_eqlB rfl rfl | exact opv_eqlNil rfl rfl) rfl ?_
 refine tri_v (by first | exact opv_pick_t rfl rfl | exact opv_pick_f rfl rfl | exact opv_pick_bool rfl rfl rfl | exact opv_pick rfl rfl rfl) rfl ?_
 refine tM rfl rfl ?_
 refine tri_true rfl rfl (f1) ?_
 refine tri_guard_run rfl rfl rfl ?_
 refine tri_v (by first | exact opv_load1 rfl rfl rfl | exact opv_loadA rfl rfl rfl | exact opv_loadE1 rfl (by assumption) rfl (by omega) rfl rfl | exact opv_loadEA rfl (by assumption) rfl (by omega) rfl rfl | exact opv_loadRX1 rfl rfl (by omega) rfl rfl | exact opv_loadRXA rfl rfl (by omega) rfl rfl rfl | exact opv_loadIX rfl rfl (by omega) | exact opv_loadR1 rfl rfl rfl | exact opv_loadRA rfl rfl rfl rfl) rfl ?_
 refine tri_guard_run rfl rfl rfl ?_
 refine tri_g (opg_call (xs := [_]) rfl (node_right s4 (by omega))) rfl ?_
 rintro _ _ _ ⟨rfl, rfl, rfl⟩
 refine tri_v (by first | exact opv_pick_t rfl rfl | exact opv_pick_f rfl rfl | exact opv_pick_bool rfl rfl rfl | exact opv_pick rfl rfl rfl) rfl ?_
 refine tM rfl rfl ?_
 refine tri_true rfl rfl (d5) ?_
 refine tri_guard_run rfl rfl rfl ?_
 refine tri_v (by first | exact opv_buildS rfl rfl | exact opv_buildA rfl rfl) rfl ?_
 refine tri_guard_run rfl rfl rfl ?_
 refine tri_g (opg_call (xs := [_]) rfl (node_right (ns := []) (room := 0) StA.nil (by decide))) rfl ?_
 rintro _ _ _ ⟨rfl, rfl, rfl⟩
 refine tri_guard_run rfl rfl rfl ?_
 refine tri_v (by first | exact opv_notD rfl | exact opv_not rfl) rfl ?_
 refine tri_v (by first | exact opv_pick_t rfl rfl | exact opv_pick_f rfl rfl | exact opv_pick_bool rfl rfl rfl | exact opv_pick rfl rfl rfl) rfl ?_
 refine tA rfl rfl (tN (tT (tri_ret ?_)))
 refine tri_end A Suf.h rfl (.cons (rv_tmp rfl) .nil) ⟨?_, rfl, fun _ h => hI8 (hI7 (hI6 (hI5 (hI4 (hI3 (hI2 (hI1 (hI0 h))))))))⟩
 exact congrArg Value.bool (decide_eq_true g1)
end Go.GL

set_option linter.unusedVariables false
namespace Go.GL
open Go.Proofs
attribute [local irreducible] wpList Code.wp Exit.then Exit.inBlock Ends Tri TriH OpV OpG FnC epf wpAnyH
variable {A : List Asrt} {I : List Chunk}
set_option maxRecDepth 100000 in
theorem ref03_ints {l m : List Int} {a b : Option Addr} {cap cap2 : Nat} (hs : SlAt I a l) (ht : SlAt I b m) (hn : l.length ≤ 1000000000) :
  FnC Try.prog 25 [.slice a l.length cap, .slice b m.length cap2].toArray A I (fun v A' I' => v = .bool (decide (l = m)) ∧ A = A' ∧ I = I') := by
 refine fn_enter2 Try.func25 rfl Try.ntmps25 rfl fun w0 => ?_
 refine tS (tR (tA rfl rfl (tN (tT (tS (tS (tR ?_)))))))
 refine tM rfl rfl ?_
 refine tri_v (opv_len rfl) rfl ?_
 refine tM rfl rfl ?_
 refine tri_v (opv_len rfl) rfl ?_
 refine tri_v (by first | exact opv_neq rfl rfl | exact opv_neqI rfl rfl rfl rfl rfl rfl | exact opv_neqB rfl rfl) rfl ?_
 refine tN (tT ?_)
 refine tri_cond_dec rfl (fun h1 => ?_) (fun h1 => ?_)
 ·refine tS (tR (tA rfl rfl (tN (tT (tri_ret (tri_then_ret ?_))))))
  refine tri_end A Suf.h rfl (.cons (rv_tmp rfl) .nil) ⟨congrArg Value.bool ?_, rfl, rfl⟩
  exact (decide_eq_false fun h => h1 (by rw [h])).symm
 refine tri_skip (tT (tS (tS (tR (tA rfl rfl (tN (tT ?_)))))))
 refine tri_block ?_
 have hlen : l.length = m.length := by omega
 refine tri_sub (F' := [(0, .slice a l.length cap), (1, .slice b m.length cap2), (5, .int .i64 (0 : Nat))]) ⟨rfl, rfl, rfl, trivial⟩ ?_
 refine loop_ind (G := Nat) (fun i => l.length - i) (fun i => i ≤ l.length ∧ ∀ j, j < i → l.getD j default = m.getD j default) (fun i => [(0, .slice a l.length cap), (1, .slice b m.length cap2), (5, .int .i64 (i : Nat))]) (fun _ => _) (fun _ => _) ?_ 0 ⟨by omega, fun j h => absurd h (by omega)⟩
 rintro i ⟨hi, hok⟩ K hK
 skip
 refine tS (tS (tR (tM rfl rfl (tM rfl rfl ?_))))
 refine tri_v (opv_len rfl) rfl ?_
 refine tri_v (opv_lss rfl rfl) rfl ?_
 refine tN (tT ?_)
 refine tri_cond_dec rfl (fun h => ?_) (fun h => ?_)
 ·refine tri_skip (tT (tS (tri_block (tS ?_))))
  refine tri_draw [0, 1, 2, 3, 4, 5, 6, 7, 8] rfl [] rfl mixed ?_
  refine th_take rfl rfl (by kernel_rfl)  (opv_move rfl) ?_
  refine th_take rfl rfl (by kernel_rfl)  (opv_move rfl) ?_
  refine th_take rfl rfl (by kernel_rfl)  (by first | exact opv_indexAddrA rfl rfl (by first | decide | omega) (by first | decide | omega) | exact opv_indexAddrSN rfl rfl (by omega) (by assumption) rfl | exact opv_indexAddrS rfl rfl (by omega) (by omega) (by assumption) rfl | exact opv_indexAddrE rfl (by assumption) (by omega) rfl (by first | decide | omega) (by first | decide | omega) | exact opv_indexAddrRN rfl rfl (by omega) | exact opv_indexAddrR rfl rfl (by omega) (by omega) | exact opv_indexAddrRA rfl (by omega) rfl (by first | decide | omega) (by first | decide | omega)) ?_
  refine th_take rfl rfl (by kernel_rfl)  (by first | exact opv_load1 rfl rfl rfl | exact opv_loadA rfl rfl rfl | exact opv_loadE1 rfl (by assumption) rfl (by omega) rfl rfl | exact opv_loadEA rfl (by assumption) rfl (by omega) rfl rfl | exact opv_loadRX1 rfl rfl (by omega) rfl rfl | exact opv_loadRXA rfl rfl (by omega) rfl rfl rfl | exact opv_loadIX rfl rfl (by omega) | exact opv_loadR1 rfl rfl rfl | exact opv_loadRA rfl rfl rfl rfl) ?_
  refine th_take rfl rfl (by kernel_rfl)  (opv_move rfl) ?_
  refine th_take rfl rfl (by kernel_rfl)  (opv_move rfl) ?_
  refine th_take rfl rfl (by kernel_rfl)  (by first | exact opv_indexAddrA rfl rfl (by first | decide | omega) (by first | decide | omega) | exact opv_indexAddrSN rfl rfl (by omega) (by assumption) rfl | exact opv_indexAddrS rfl rfl (by omega) (by omega) (by assumption) rfl | exact opv_indexAddrE rfl (by assumption) (by omega) rfl (by first | decide | omega) (by first | decide | omega) | exact opv_indexAddrRN rfl rfl (by omega) | exact opv_indexAddrR rfl rfl (by omega) (by omega) | exact opv_indexAddrRA rfl (by omega) rfl (by first | decide | omega) (by first | decide | omega)) ?_
  refine th_take rfl rfl (by kernel_rfl)  (by first | exact opv_load1 rfl rfl rfl | exact opv_loadA rfl rfl rfl | exact opv_loadE1 rfl (by assumption) rfl (by omega) rfl rfl | exact opv_loadEA rfl (by assumption) rfl (by omega) rfl rfl | exact opv_loadRX1 rfl rfl (by omega) rfl rfl | exact opv_loadRXA rfl rfl (by omega) rfl rfl rfl | exact opv_loadIX rfl rfl (by omega) | exact opv_loadR1 rfl rfl rfl | exact opv_loadRA rfl rfl rfl rfl) ?_
  refine th_take rfl rfl (by kernel_rfl)  (by first | exact opv_neq rfl rfl | exact opv_neqI rfl rfl rfl rfl rfl rfl | exact opv_neqB rfl rfl) ?_
  refine th_done (by kernel_rfl) ?_
  refine tT ?_
  refine tri_cond_dec rfl (fun h1 => ?_) (fun h1 => ?_)
  ·refine tS (tR (tA rfl rfl (tN (tT (tri_ret ?_)))))
   refine tri_inBlock_ret ?_
   refine tri_then_ret (tri_then_ret ?_)
   refine tri_inBlock_ret ?_
   refine tri_then_ret ?_
   refine tri_end A Suf.h rfl (.cons (rv_tmp rfl) .nil) ⟨congrArg Value.bool ?_, rfl, rfl⟩
   exact (decide_eq_false fun h => h1 (by rw [h])).symm
  ·refine tri_skip ?_
   refine tri_inBlock ?_
   refine tT (tR (tM rfl rfl ?_))
   refine tri_v (by first | exact opv_add rfl rfl (w64 (by omega) (by omega))) rfl ?_
   refine tA rfl rfl (tN (tT ?_))
   refine tri_sub ?_ (hK (i + 1) ⟨by omega, fun j hj => ?_⟩ (by omega))
   ·exact ⟨rfl, rfl, rfl, trivial⟩
   ·by_cases e : j = i
    ·subst e
     exact Decidable.not_not.1 h1
    ·exact hok j (by omega)
 ·refine tri_exit ?_
  refine tri_then_exit ?_
  refine tri_then_exit ?_
  refine tri_inBlock_hit rfl ?_
  refine tT (tS (tR (tA rfl rfl (tN (tT (tri_ret ?_))))))
  refine tri_end A Suf.h rfl (.cons (rv_tmp rfl) .nil) ⟨congrArg Value.bool ?_, rfl, rfl⟩
  refine (decide_eq_true (List.ext_getElem hlen fun j h1 h2 => ?_)).symm
  have := hok j (by omega)
  simpa [h1, h2] using this
end Go.GL

set_option linter.unusedVariables false
namespace Go.GL
/-- A store's head. -/
structure Sto where
 a : Option Addr
 len : Nat
 cap : Nat
 room : Int
 deriving Inhabited
instance : Enc Sto := ⟨fun s => [.slice s.a s.len s.cap, .int .i64 s.room], 2, fun _ => rfl, fun _ => rfl⟩
/-- A slice's head. -/
structure Sl where
 a : Option Addr
 len : Nat
 cap : Nat
 deriving Inhabited
instance : Enc Sl := ⟨fun s => [.slice s.a s.len s.cap], 1, fun _ => rfl, fun _ => rfl⟩
/-- Four numbers. -/
structure Four where
 r0 : Int
 r1 : Int
 r2 : Int
 r3 : Int
 deriving DecidableEq, Inhabited
instance : Enc Four := ⟨fun x => [.int .i64 x.r0, .int .i64 x.r1, .int .i64 x.r2, .int .i64 x.r3], 4, fun _ => rfl, fun _ => rfl⟩
instance : Dec Four := ⟨fun xs => ⟨xs.getD 0 0, xs.getD 1 0, xs.getD 2 0, xs.getD 3 0⟩, fun xs h => by
 match xs, h with
 | [a, b, c, d], _ => rfl⟩
theorem four_ok {x : Four} (h : DecOk x) : I64 x.r0 ∧ I64 x.r1 ∧ I64 x.r2 ∧ I64 x.r3 := by
 obtain ⟨zs, h1, h2, rfl⟩ := h
 match zs, h1 with
 | [a, b, c, d], _ => exact ⟨h2 a (by simp), h2 b (by simp), h2 c (by simp), h2 d (by simp)⟩
namespace R6
theorem put_len1 (ns : List Node) (room q0 q1 q2 q3 : Int) : (put ns room q0 q1 q2 q3).1.length ≤ ns.length + 1 := by
 unfold put
 split
 ·split
  ·simp
  ·split
   ·simp
   ·simp
 ·simp
theorem intern_len (ns : List Node) (room q0 q1 q2 q3 : Int) : (intern ns room q0 q1 q2 q3).1.length ≤ ns.length + 1 := by
 unfold intern
 split
 ·exact put_len1 ..
 ·simp
theorem emptyF_len (room : Int) : ∀ (k : Nat) (ns : List Node) (n : Int), (R7.emptyF room k ns n).1.length ≤ ns.length + k
 | 0, ns, n => by simp [R7.emptyF]
 | k + 1, ns, n => by
  unfold R7.emptyF
  split
  ·show ns.length ≤ _; omega
  ·have := emptyF_len room k (put ns room n n n n).1 (put ns room n n n n).2.1
   have := put_len1 ns room n n n n
   omega
theorem emptyT_len (ns : List Node) (room lv : Int) : (emptyT ns room lv).1.length ≤ ns.length + 42 := by
 unfold emptyT told R7.empty
 split
 ·simp
 ·rename_i h
  have := emptyF_len room lv.toNat ns 0
  split
  ·split
   ·simp
   ·omega
  ·simp
end R6
end Go.GL

set_option linter.unusedVariables false
namespace Go.GL
open Go.Proofs
theorem num_int : NumTy Try.prog 3 1 := NumTy.int
theorem num_p4 : NumTy Try.prog 26 4 := NumTy.arr num_int (by decide)
theorem num_5 : NumTy Try.prog 27 5 := NumTy.arr num_int (by decide)
theorem num_p5 : NumTy Try.prog 27 5 := num_5
theorem num_node : NumTy Try.prog 49 6 := NumTy.str (ns := [1, 4, 1]) (by exact ⟨num_int, num_p4, num_int, trivial⟩) (by decide)
theorem laid : laidOutB Try.prog = true := by kernel_rfl
theorem own : ownKnob Try.prog.godebug = none := by kernel_rfl
theorem ints_ok {l : List Int} (h : ∀ y ∈ l, DecOk y) : ∀ i, i < l.length → I64 (l.getD i default) := fun i hi => by
 have hm : l.getD i default ∈ l := by
  rw [List.getD_eq_getElem?_getD, List.getElem?_eq_getElem hi]
  exact List.getElem_mem hi
 obtain ⟨zs, h1, h2, h3⟩ := h _ hm
 rw [h3]
 match zs, h1 with
 | [a], _ => exact h2 a (by simp)
end Go.GL

set_option linter.unusedVariables false
namespace Go.GL
/-! ### Strings -/
abbrev strV (l : List UInt8) : Value := .string ⟨l.toArray⟩
def strs (l : List (List UInt8)) : List Value := l.map strV
section
variable {w0 : World} {n : Nat} {F : Frm} {A : List Asrt} {I : List Chunk} {P : Program} {dst : Option Tmp} {ty t : TypeId} {pos : String} {af : Array Edge} {gd : Option (Nat × Bool)} {x y : Operand} {xt yt : TypeId} {a b : List UInt8}
theorem opv_addS {l : Nat} (hx : ev F x = some (strV a)) (hy : ev F y = some (strV b)) (ha : a.length ≤ l) (hb : b.length ≤ l) (hl : Nat.ble l 1000000 = true) : OpV P w0 n ⟨dst, .binOp .add xt x y yt, ty, pos, af, gd⟩ F A I (strV (a ++ b)) := by
 intro tt w hf hs
 have := Nat.le_of_ble_eq_true hl
 have h := run_string_add_lists (P := P) w a b (by omega) (by omega)
 simp only [execOp, hf.eval hx, hf.eval hy, eqGuard_add, binOp_string_add, Sem.run_bind, Sem.run_pure, Result.andThen_ok, h]
theorem beqS (a b : List UInt8) : (a == b) = decide (a = b) := by rw [Bool.eq_iff_iff]; simp
theorem opv_eqlS (hx : ev F x = some (strV a)) (hy : ev F y = some (strV b)) : OpV P w0 n ⟨dst, .binOp .eql xt x y yt, ty, pos, af, gd⟩ F A I (.bool (decide (a = b))) := by
 intro tt w hf hs
 simp only [execOp, hf.eval hx, hf.eval hy, eqGuard_at_string, binOp_string_eql, Sem.run_bind, Sem.run_pure, Result.andThen_ok, ByteArray.toList_mk, beqS]
theorem opv_neqS (hx : ev F x = some (strV a)) (hy : ev F y = some (strV b)) : OpV P w0 n ⟨dst, .binOp .neq xt x y yt, ty, pos, af, gd⟩ F A I (.bool (decide (a ≠ b))) := by
 intro tt w hf hs
 simp only [execOp, hf.eval hx, hf.eval hy, eqGuard_at_string, binOp_string_neq, Sem.run_bind, Sem.run_pure, Result.andThen_ok, ByteArray.toList_mk, beqS, decide_not, ne_eq]
theorem opv_lenS {s by_ : Nat} {z : List Value} [TyI P t .string s by_ z] (hx : ev F x = some (strV a)) : OpV P w0 n ⟨dst, .call ⟨.builtin .len, #[x], #[t]⟩, ty, pos, af, gd⟩ F A I (.int .i64 a.length) := by
 intro tt w hf hs
 have h := run_len_string (P := P) w t ty ⟨a.toArray⟩ (TyI.und (P := P) (t := t))
 have e : goInt (⟨a.toArray⟩ : ByteArray).size = .int .i64 a.length := by simp [goInt, ByteArray.size_mk']
 rw [e] at h
 simp [execOp, resolve, invoke, builtin, hf.eval hx, h]
theorem opv_sliceS {s by_ : Nat} {z : List Value} {k k' : IntKind} {i j : Int} {lo up : Operand} [TyI P t .string s by_ z] (hx : ev F x = some (strV a)) (hi : ev F lo = some (.int k i)) (hj : ev F up = some (.int k' j)) (h0 : 0 ≤ i) (h1 : i ≤ j) (h2 : j ≤ a.length) :
  OpV P w0 n ⟨dst, .slice t x (some lo) (some up) none, ty, pos, af, gd⟩ F A I (strV ((a.drop i.toNat).take (j.toNat - i.toNat))) := by
 intro tt w hf hs
 have h := run_slice_string (P := P) w t ⟨a.toArray⟩ k k' i j (TyI.und (P := P) (t := t)) h0 h1 (by simpa [ByteArray.size_mk'] using h2)
 rw [ByteArray.extract_mk] at h
 simp [execOp, hf.eval hx, hf.eval hi, hf.eval hj, Instr.sliceAt, run_und (P := P) (t := t), h]
theorem opv_indexS {s by_ : Nat} {z : List Value} {k : IntKind} {i : Int} [TyI P t .string s by_ z] (hx : ev F x = some (strV a)) (hy : ev F y = some (.int k i)) (h0 : 0 ≤ i) (h1 : i < a.length) :
  OpV P w0 n ⟨dst, .index t x y, ty, pos, af, gd⟩ F A I (.int .u8 (a.getD i.toNat default).toNat) := by
 intro tt w hf hs
 have hlt : i.toNat < a.length := by omega
 have hc : 0 ≤ i ∧ i < ((⟨a.toArray⟩ : ByteArray).size : Int) := ⟨h0, by simpa [ByteArray.size_mk'] using h1⟩
 have h := run_index_string (P := P) w t ⟨a.toArray⟩ k i (TyI.und (P := P) (t := t))
 rw [dif_pos hc] at h
 have e : ((⟨a.toArray⟩ : ByteArray)[i.toNat]'(by omega)) = a.getD i.toNat default := by
  rw [List.getD_eq_getElem?_getD, List.getElem?_eq_getElem hlt]
  rfl
 rw [e] at h
 simp only [execOp, hf.eval hx, hf.eval hy, h, Sem.run_bind, Sem.run_pure, Result.andThen_ok]
theorem push_bytes : ∀ (ns : List Int) (s : List UInt8), ns.foldl (fun (r : ByteArray) n => r.push (UInt8.ofNat n.toNat)) ⟨s.toArray⟩ = ⟨(s ++ ns.map fun n => UInt8.ofNat n.toNat).toArray⟩
 | [], s => by simp
 | n :: ns, s => by
  have ih := push_bytes ns (s ++ [UInt8.ofNat n.toNat])
  have e : (⟨s.toArray⟩ : ByteArray).push (UInt8.ofNat n.toNat) = ⟨(s ++ [UInt8.ofNat n.toNat]).toArray⟩ := by
   apply ByteArray.ext
   simp [ByteArray.push]
  rw [List.foldl_cons, e, ih, List.map_cons, List.append_assoc]
  rfl
/-- A row of bytes as a string. -/
theorem opv_bytesS {e : TypeId} {s by_ s' by' s2 by2 : Nat} {z z' z2 : List Value} {b : Nat} {cap : Nat} {cells : List Value} {T : TypeId} {u : List Value → List Asrt} {ns : List Int} [TyI P xt (.slice e) s by_ z] [TyI P e (.int .u8) s' by' z'] [TyI P yt .string s2 by2 z2] [Sel A b cells T u]
  (hx : ev F x = some (.slice (some ⟨b, 0, none⟩) ns.length cap)) (hc : cells = ns.map (Value.int .u8)) : OpV P w0 n ⟨dst, .convert xt yt x, ty, pos, af, gd⟩ F A I (strV (ns.map fun n => UInt8.ofNat n.toNat)) := by
 intro tt w hf hs
 have h := Sel.at (b := b) hs
 have hl : (loadCells ⟨b, 0, none⟩ ns.length).run P w = .ok (ns.map (Value.int .u8)).toArray w := by
  have := run_loadCells_list (P := P) w ⟨b, 0, none⟩ (ns.map (Value.int .u8)) (fun j v hj => by
   rw [add_pt]
   show w.cell? ⟨b, 0 + j, none⟩ = some v
   rw [cell_at h, hc, Nat.zero_add]
   simpa using hj)
  simpa using this
 have h3 := run_bytesToString (P := P) w ⟨b, 0, none⟩ ns.length cap ns hl
 have h4 := push_bytes ns []
 rw [show (⟨([] : List UInt8).toArray⟩ : ByteArray) = ByteArray.empty from rfl] at h4
 rw [h4, List.nil_append] at h3
 simp only [execOp, hf.eval hx, run_convert_bytes_string (P := P) w xt yt e _ _ _ (TyI.und (P := P) (t := xt)) (TyI.und (P := P) (t := e)) (TyI.und (P := P) (t := yt)), h3, Sem.run_bind, Sem.run_pure, Result.andThen_ok]
theorem spl_strs : ∀ (l : List (List UInt8)) (off : Nat) (v : List UInt8), off < l.length → spl (strs l) off [strV v] = some (strs (l.set off v))
 | a :: l, 0, v, _ => by cases l <;> rfl
 | a :: l, k + 1, v, h => by
  have := spl_strs l k v (by simpa using h)
  simp only [strs, List.map_cons, spl, List.set_cons_succ] at this ⊢
  rw [this]
 | [], k, v, h => by simp at h
/-- A string into a block of such. -/
theorem opg_storeSX {l : List (List UInt8)} {d : TypeDesc} {by_ : Nat} {z : List Value} {b off : Nat} {v : List UInt8} {T : TypeId} {u : List Value → List Asrt} [TyI P t d 1 by_ z] [Sel A b (strs l) T u] (hx : ev F x = some (pt b off)) (hy : ev F y = some (strV v)) (hl : off < l.length) :
  OpG P w0 n ⟨dst, .store t x y, ty, pos, af, gd⟩ F A I (fun _ A' I' => A' = u (strs (l.set off v)) ∧ I = I') :=
 opg_store (vs := [strV v]) hx hy rfl rfl rfl (spl_strs l off v hl)
theorem opv_loadSX {l : List (List UInt8)} {d : TypeDesc} {s by_ : Nat} {z : List Value} {b off : Nat} {T : TypeId} {u : List Value → List Asrt} [TyI P t d s by_ z] [Sel A b (strs l) T u] (hx : ev F x = some (pt b off)) (hd : isA d = false) (hl : off < l.length) : OpV P w0 n ⟨dst, .load t x, ty, pos, af, gd⟩ F A I (strV (l.getD off default)) :=
 opv_load1 (gd := gd) hx hd (by simp [strs, hl])
end
end Go.GL

set_option linter.unusedVariables false
namespace Go.GL
/-! ### Stores in which all is right -/
namespace R6
structure Wf (ns : List Node) : Prop where
 len : 2 ≤ ns.length
 z : ns.getD 0 default = n0
 o : ns.getD 1 default = n1
 ok : ∀ i, i < ns.length → 2 ≤ i → fits ns i
theorem right_iff {ns : List Node} {room : Int} : right ns room ↔ (2 ≤ room ∧ room ≤ 100000 ∧ (ns.length : Int) ≤ room) ∧ Wf ns :=
 ⟨fun h => ⟨⟨h.1.1, h.1.2.1, h.1.2.2.2.1⟩, ⟨by have := h.1.2.2.1; omega, h.1.2.2.2.2.1, h.1.2.2.2.2.2, h.2⟩⟩,
  fun ⟨⟨a, b, c⟩, h⟩ => ⟨⟨a, b, by have := h.len; omega, c, h.z, h.o⟩, h.ok⟩⟩
theorem Wf.modTo {ns : List Node} (h : Wf ns) : ModTo ns ns.length := by
 have key : ∀ n, n ≤ ns.length → ModTo ns n := by
  intro n
  induction n with
  | zero => intro _ j hj; omega
  | succ n ih =>
   intro hn
   have hm := ih (by omega)
   by_cases h2 : 2 ≤ n
   ·exact hm.step (h.ok n (by omega) h2)
   ·intro j hj
    rcases (by omega : j = 0 ∨ j = 1) with rfl | rfl
    ·rw [h.z]; decide
    ·rw [h.o]; decide
 exact key _ (Nat.le_refl _)
theorem Wf.mod {ns : List Node} (h : Wf ns) : Mod ns := h.modTo.mod
theorem Wf.lvb {ns : List Node} (h : Wf ns) {n : Int} (hn : inS ns n) : 0 ≤ (nd ns n).lv ∧ (nd ns n).lv ≤ 42 := ⟨(h.mod.nd hn).1, (h.mod.nd hn).2.1⟩
theorem Wf.nd0 {ns : List Node} (h : Wf ns) : nd ns 0 = n0 := h.z
theorem Wf.nd1 {ns : List Node} (h : Wf ns) : nd ns 1 = n1 := h.o
theorem Wf.in0 {ns : List Node} (h : Wf ns) : inS ns 0 := ⟨by omega, by have := h.len; omega⟩
theorem Wf.in1 {ns : List Node} (h : Wf ns) : inS ns 1 := ⟨by omega, by have := h.len; omega⟩
theorem Wf.two {ns : List Node} (h : Wf ns) {n : Int} (hn : inS ns n) (hl : (nd ns n).lv ≠ 0) : 2 ≤ n := by
 rcases Int.lt_or_le n 2 with h2 | h2
 ·exfalso
  have hn0 := hn.1
  rcases (by omega : n = 0 ∨ n = 1) with rfl | rfl
  ·exact hl (by rw [h.nd0]; rfl)
  ·exact hl (by rw [h.nd1]; rfl)
 ·exact h2
theorem Wf.fits {ns : List Node} (h : Wf ns) {n : Int} (hn : inS ns n) (h2 : 2 ≤ n) : fitsX ns n.toNat (nd ns n) := h.ok n.toNat (by have := hn.2; omega) (by omega)
theorem Wf.lv0 {ns : List Node} (h : Wf ns) {n : Int} (hn : inS ns n) (hl : (nd ns n).lv = 0) : n = 0 ∨ n = 1 := by
 rcases Int.lt_or_le n 2 with h2 | h2
 ·have := hn.1; omega
 ·have := (h.fits hn h2).2.2.2.2.1
  omega
theorem Wf.kid {ns : List Node} (h : Wf ns) {n : Int} (hn : inS ns n) (hl : (nd ns n).lv ≠ 0) {q : Int} (hq : q ∈ (nd ns n).kids) : inS ns q ∧ q < n ∧ (nd ns q).lv = (nd ns n).lv - 1 := by
 have h2 := h.two hn hl
 have hn1 := hn.2
 obtain ⟨k0, k1, k2, k3, _⟩ := h.fits hn h2
 have key : kidOk ns n.toNat q (nd ns n).lv := by
  unfold Node.kids at hq
  simp only [List.mem_cons, List.not_mem_nil, or_false] at hq
  rcases hq with rfl | rfl | rfl | rfl
  ·exact k0
  ·exact k1
  ·exact k2
  ·exact k3
 obtain ⟨g1, g2, g3⟩ := key
 exact ⟨⟨g1, by omega⟩, by omega, by omega⟩
theorem Wf.pop {ns : List Node} (h : Wf ns) {n : Int} (hn : inS ns n) (hl : (nd ns n).lv ≠ 0) : (nd ns n).pop = pop4 ns (nd ns n).k0 (nd ns n).k1 (nd ns n).k2 (nd ns n).k3 := (h.fits hn (h.two hn hl)).2.2.2.2.2.2.1
theorem Wf.at_ {ns : List Node} (h : Wf ns) {n : Int} (hn : inS ns n) (hl : (nd ns n).lv ≠ 0) : at_ ns (nd ns n).kids = n := by
 have := (h.fits hn (h.two hn hl)).2.2.2.2.2.2.2
 have := hn.1
 omega
theorem Wf.uniq {ns : List Node} (h : Wf ns) {n m : Int} (hn : inS ns n) (hm : inS ns m) (hl : (nd ns n).lv ≠ 0) (hl2 : (nd ns m).lv ≠ 0) (e : (nd ns n).kids = (nd ns m).kids) : n = m := by
 rw [← h.at_ hn hl, e, h.at_ hm hl2]
/-! #### what is put -/
theorem inS_pre {ns ms : List Node} (h : ns <+: ms) {n : Int} (hn : inS ns n) : inS ms n := ⟨hn.1, by have := h.length_le; have := hn.2; omega⟩
theorem nd_pre {ns ms : List Node} (h : ns <+: ms) {n : Int} (hn : inS ns n) : nd ms n = nd ns n := by
 obtain ⟨t, rfl⟩ := h
 unfold nd
 have : n.toNat < ns.length := by have := hn.1; have := hn.2; omega
 rw [List.getD_eq_getElem?_getD, List.getD_eq_getElem?_getD, List.getElem?_append_left this]
theorem atFrom_found (k : List Int) : ∀ (ns : List Node) (i : Nat), 0 ≤ atFrom k i ns → ∃ j, j < ns.length ∧ atFrom k i ns = ((i + j : Nat) : Int) ∧ (ns.getD j default).kids = k
 | [], i, h => by simp only [atFrom] at h; omega
 | x :: ns, i, h => by
  simp only [atFrom] at h ⊢
  split at h
  ·rename_i hx
   rw [if_pos hx]
   exact ⟨0, by simp, by simp, by simpa using hx⟩
  ·rename_i hx
   rw [if_neg hx]
   obtain ⟨j, h1, h2, h3⟩ := atFrom_found k ns (i + 1) h
   exact ⟨j + 1, by simp only [List.length_cons]; omega, by rw [h2]; omega, by simpa using h3⟩
theorem at_found {ns : List Node} {k : List Int} (h : 0 ≤ R6.at_ ns k) : 2 ≤ R6.at_ ns k ∧ inS ns (R6.at_ ns k) ∧ (nd ns (R6.at_ ns k)).kids = k := by
 unfold R6.at_ at h ⊢
 obtain ⟨j, h1, h2, h3⟩ := atFrom_found k _ 2 h
 rw [List.length_drop] at h1
 rw [h2]
 refine ⟨by omega, ⟨by omega, by omega⟩, ?_⟩
 unfold nd
 have : ((2 + j : Nat) : Int).toNat = 2 + j := by omega
 rw [this]
 simpa [List.getD_eq_getElem?_getD] using h3
theorem at_pre {ns ms : List Node} (h2 : 2 ≤ ns.length) (h : ns <+: ms) {k : List Int} (hk : 0 ≤ R6.at_ ns k) : R6.at_ ms k = R6.at_ ns k := by
 obtain ⟨t, rfl⟩ := h
 unfold R6.at_ at hk ⊢
 rw [List.drop_append_of_le_length h2, atFrom_append, if_pos hk]
theorem pop4_pre {ns ms : List Node} (h : ns <+: ms) {q0 q1 q2 q3 : Int} (h0 : inS ns q0) (h1 : inS ns q1) (h2 : inS ns q2) (h3 : inS ns q3) : pop4 ms q0 q1 q2 q3 = pop4 ns q0 q1 q2 q3 := by
 unfold pop4; rw [nd_pre h h0, nd_pre h h1, nd_pre h h2, nd_pre h h3]
theorem fit4_pre {ns ms : List Node} (h : ns <+: ms) {q0 q1 q2 q3 : Int} (hf : fit4 ns q0 q1 q2 q3) : fit4 ms q0 q1 q2 q3 := by
 obtain ⟨a, ⟨b, b'⟩, ⟨c, c'⟩, ⟨d, d'⟩, e⟩ := hf
 unfold fit4
 rw [nd_pre h a, nd_pre h b, nd_pre h c, nd_pre h d]
 exact ⟨inS_pre h a, ⟨inS_pre h b, b'⟩, ⟨inS_pre h c, c'⟩, ⟨inS_pre h d, d'⟩, e⟩
theorem mk4_pre {ns ms : List Node} (h : ns <+: ms) {q0 q1 q2 q3 : Int} (hf : fit4 ns q0 q1 q2 q3) : mk4 ms q0 q1 q2 q3 = mk4 ns q0 q1 q2 q3 := by
 unfold mk4; rw [pop4_pre h hf.1 hf.2.1.1 hf.2.2.1.1 hf.2.2.2.1.1, nd_pre h hf.1]
theorem Wf.snoc {ns : List Node} (h : Wf ns) {q0 q1 q2 q3 : Int} (hf : fit4 ns q0 q1 q2 q3) (hat : ¬ 0 ≤ R6.at_ ns [q0, q1, q2, q3]) : Wf (ns ++ [mk4 ns q0 q1 q2 q3]) := by
 have hpre : ns <+: ns ++ [mk4 ns q0 q1 q2 q3] := List.prefix_append _ _
 have hl := h.len
 refine ⟨by simp; omega, ?_, ?_, fun i hi hi2 => ?_⟩
 ·have := nd_pre hpre h.in0; exact this.trans h.z
 ·have := nd_pre hpre h.in1; exact this.trans h.o
 ·simp only [List.length_append, List.length_singleton] at hi
  unfold R6.fits fitsX kidOk
  by_cases e : i < ns.length
  ·have hin : inS ns (i : Int) := ⟨by omega, by omega⟩
   have e1 : (ns ++ [mk4 ns q0 q1 q2 q3]).getD i default = ns.getD i default := nd_pre hpre hin
   rw [e1]
   obtain ⟨⟨a0, a1, a2⟩, ⟨b0, b1, b2⟩, ⟨c0, c1, c2⟩, ⟨d0, d1, d2⟩, f1, f2, f3, f4⟩ := h.ok i e hi2
   have i0 : inS ns (ns.getD i default).k0 := ⟨a0, by omega⟩
   have i1 : inS ns (ns.getD i default).k1 := ⟨b0, by omega⟩
   have i2 : inS ns (ns.getD i default).k2 := ⟨c0, by omega⟩
   have i3 : inS ns (ns.getD i default).k3 := ⟨d0, by omega⟩
   rw [nd_pre hpre i0, nd_pre hpre i1, nd_pre hpre i2, nd_pre hpre i3, pop4_pre hpre i0 i1 i2 i3, at_pre hl hpre (by rw [f4]; omega)]
   exact ⟨⟨a0, a1, a2⟩, ⟨b0, b1, b2⟩, ⟨c0, c1, c2⟩, ⟨d0, d1, d2⟩, f1, f2, f3, f4⟩
  ·have ei : i = ns.length := by omega
   subst ei
   have e1 : (ns ++ [mk4 ns q0 q1 q2 q3]).getD ns.length default = mk4 ns q0 q1 q2 q3 := by simp
   rw [e1]
   obtain ⟨a, ⟨b, b'⟩, ⟨c, c'⟩, ⟨d, d'⟩, f⟩ := hf
   have hlv := h.lvb a
   have x0 : (mk4 ns q0 q1 q2 q3).k0 = q0 := rfl
   have x1 : (mk4 ns q0 q1 q2 q3).k1 = q1 := rfl
   have x2 : (mk4 ns q0 q1 q2 q3).k2 = q2 := rfl
   have x3 : (mk4 ns q0 q1 q2 q3).k3 = q3 := rfl
   have x4 : (mk4 ns q0 q1 q2 q3).lv = (nd ns q0).lv + 1 := rfl
   have x5 : (mk4 ns q0 q1 q2 q3).pop = pop4 ns q0 q1 q2 q3 := rfl
   rw [x0, x1, x2, x3, x4, x5, nd_pre hpre a, nd_pre hpre b, nd_pre hpre c, nd_pre hpre d, pop4_pre hpre a b c d]
   refine ⟨⟨a.1, a.2, by omega⟩, ⟨b.1, b.2, by omega⟩, ⟨c.1, c.2, by omega⟩, ⟨d.1, d.2, by omega⟩, by omega, f, rfl, ?_⟩
   have := at_snoc hl [q0, q1, q2, q3] (mk4 ns q0 q1 q2 q3)
   rw [if_neg hat, if_pos (by rfl)] at this
   exact this
/-- What a put comes to, if it has room. -/
structure PutOk (ns : List Node) (q0 q1 q2 q3 : Int) (ms : List Node) (m : Int) : Prop where
 wf : Wf ms
 pre : ns <+: ms
 mem : inS ms m
 nd : nd ms m = mk4 ns q0 q1 q2 q3
 len : ms.length ≤ ns.length + 1
theorem nd_of_found {ns : List Node} (h : Wf ns) {q0 q1 q2 q3 : Int} (hf : fit4 ns q0 q1 q2 q3) {m : Int} (hm : inS ns m) (hl : (R6.nd ns m).lv ≠ 0) (hk : (R6.nd ns m).kids = [q0, q1, q2, q3]) : R6.nd ns m = mk4 ns q0 q1 q2 q3 := by
 have h2 := h.two hm hl
 obtain ⟨⟨_, _, k⟩, _, _, _, f1, f2, f3, f4⟩ := h.fits hm h2
 unfold Node.kids at hk
 simp only [List.cons.injEq, and_true] at hk
 obtain ⟨e0, e1, e2, e3⟩ := hk
 unfold mk4
 rw [e0, e1, e2, e3] at f3
 rw [e0] at k
 generalize R6.nd ns m = x at *
 cases x
 simp_all
theorem put_ok {ns : List Node} (h : Wf ns) {room : Int} {q0 q1 q2 q3 : Int} (hf : fit4 ns q0 q1 q2 q3) (hr : 0 ≤ R6.at_ ns [q0, q1, q2, q3] ∨ (ns.length : Int) < room) : ∃ ms m, put ns room q0 q1 q2 q3 = (ms, m, 0) ∧ PutOk ns q0 q1 q2 q3 ms m := by
 unfold put
 rw [if_pos hf]
 by_cases hat : 0 ≤ R6.at_ ns [q0, q1, q2, q3]
 ·rw [if_pos hat]
  obtain ⟨h2, h3, h4⟩ := at_found hat
  have hl : (R6.nd ns (R6.at_ ns [q0, q1, q2, q3])).lv ≠ 0 := by have := (h.fits h3 h2).2.2.2.2.1; omega
  exact ⟨_, _, rfl, h, List.prefix_refl _, h3, nd_of_found h hf h3 hl h4, by omega⟩
 ·rw [if_neg hat, if_neg (by have := hr.resolve_left hat; omega)]
  refine ⟨_, _, rfl, h.snoc hf hat, List.prefix_append _ _, ⟨by omega, by simp; omega⟩, ?_, by simp⟩
  unfold R6.nd
  simp
/-- What is there already is found. -/
theorem put_again {ns : List Node} (h : Wf ns) {room : Int} {q0 q1 q2 q3 : Int} (hf : fit4 ns q0 q1 q2 q3) {m : Int} (hm : inS ns m) (hl : (R6.nd ns m).lv ≠ 0) (hk : (R6.nd ns m).kids = [q0, q1, q2, q3]) : put ns room q0 q1 q2 q3 = (ns, m, 0) := by
 have := h.at_ hm hl
 rw [hk] at this
 unfold put
 rw [if_pos hf, if_pos (by rw [this]; exact hm.1), this]
theorem PutOk.kids {ns ms : List Node} {q0 q1 q2 q3 m : Int} (h : PutOk ns q0 q1 q2 q3 ms m) : (R6.nd ms m).kids = [q0, q1, q2, q3] := by rw [h.nd]; rfl
theorem PutOk.lv {ns ms : List Node} {q0 q1 q2 q3 m : Int} (h : PutOk ns q0 q1 q2 q3 ms m) : (R6.nd ms m).lv = (R6.nd ns q0).lv + 1 := by rw [h.nd]; rfl
theorem put_wf {ns : List Node} (h : Wf ns) (room q0 q1 q2 q3 : Int) : Wf (put ns room q0 q1 q2 q3).1 ∧ ns <+: (put ns room q0 q1 q2 q3).1 := by
 unfold put
 split
 ·rename_i hf
  split
  ·exact ⟨h, List.prefix_refl _⟩
  ·rename_i hat
   split
   ·exact ⟨h, List.prefix_refl _⟩
   ·exact ⟨h.snoc hf hat, List.prefix_append _ _⟩
 ·exact ⟨h, List.prefix_refl _⟩
theorem put_room {ns : List Node} {room : Int} (hl : (ns.length : Int) ≤ room) (q0 q1 q2 q3 : Int) : ((put ns room q0 q1 q2 q3).1.length : Int) ≤ room := by
 unfold put
 split
 ·split
  ·exact hl
  ·split
   ·exact hl
   ·simp only [List.length_append, List.length_singleton]; omega
 ·exact hl
end R6
end Go.GL

set_option linter.unusedVariables false
namespace Go.GL
namespace R6
/-! ### Cells as zeros and ones -/
def seg (s : List UInt8) (f m : Nat) : List UInt8 := (s.drop f).take (f + m - f)
def bitsUp (m : Nat) (q : Nat → List UInt8) : Nat → List UInt8
 | 0 => []
 | y + 1 => bitsUp m q y ++ seg (q (2 * (y / m))) (y % m * m) m ++ seg (q (2 * (y / m) + 1)) (y % m * m) m
def bitsM (ns : List Node) : Nat → Int → List UInt8
 | 0, n => [UInt8.ofNat (IntKind.u8.wrap (48 + (nd ns n).pop)).toNat]
 | lv + 1, n => bitsUp (2 ^ lv) (fun k => bitsM ns lv ((nd ns n).kids.getD k default)) (2 * 2 ^ lv)
def bitsT (ns : List Node) (n : Int) : List UInt8 := if 4 < (nd ns n).lv then [] else bitsM ns (nd ns n).lv.toNat n
theorem seg_len {s : List UInt8} {f m : Nat} (h : f + m ≤ s.length) : (seg s f m).length = m := by
 unfold seg
 rw [List.length_take, List.length_drop]
 omega
theorem row_le {y m : Nat} (hm : 0 < m) : y % m * m + m ≤ m * m := by
 have h1 : y % m + 1 ≤ m := Nat.mod_lt _ hm
 have := Nat.mul_le_mul_right m h1
 rw [Nat.succ_mul] at this
 exact this
theorem bitsUp_len {m : Nat} (hm : 0 < m) {q : Nat → List UInt8} (hq : ∀ k, k < 4 → (q k).length = m * m) : ∀ y, y ≤ 2 * m → (bitsUp m q y).length = y * (2 * m)
 | 0, _ => by simp [bitsUp]
 | y + 1, h => by
  have ih := bitsUp_len hm hq y (by omega)
  have hd : y / m < 2 := Nat.div_lt_of_lt_mul (by rw [Nat.mul_comm]; omega)
  have hr := row_le (y := y) hm
  show (bitsUp m q y ++ _ ++ _).length = _
  rw [List.length_append, List.length_append, ih, seg_len (by rw [hq _ (by omega)]; exact hr), seg_len (by rw [hq _ (by omega)]; exact hr), Nat.succ_mul y (2 * m)]
  omega
theorem bitsM_len (ns : List Node) : ∀ (lv : Nat) (n : Int), (bitsM ns lv n).length = 2 ^ lv * 2 ^ lv
 | 0, n => rfl
 | lv + 1, n => by
  have hm : 0 < 2 ^ lv := Nat.two_pow_pos lv
  show (bitsUp (2 ^ lv) (fun k => bitsM ns lv ((nd ns n).kids.getD k default)) (2 * 2 ^ lv)).length = _
  rw [bitsUp_len hm (fun k _ => bitsM_len ns lv _) _ (Nat.le_refl _), Nat.pow_succ, Nat.mul_comm (2 ^ lv) 2]
end R6
section
variable {w0 : World} {n : Nat} {F : Frm} {A : List Asrt} {I : List Chunk} {P : Program} {dst : Option Tmp} {ty t : TypeId} {pos : String} {af : Array Edge} {gd : Option (Nat × Bool)} {x y : Operand} {xt yt : TypeId} {a b : Nat}
theorem opv_quoN {z : Nat} (hx : ev F x = some (.int .i64 (a : Int))) (hy : ev F y = some (.int .i64 (b : Int))) (hb : 0 < b) (ha : a ≤ 1000000000) (hz : a / b = z) : OpV P w0 n ⟨dst, .binOp .quo xt x y yt, ty, pos, af, gd⟩ F A I (.int .i64 (z : Int)) := by
 subst hz
 have h1 : ((a : Int)).tdiv (b : Int) = ((a / b : Nat) : Int) := by
  rw [Int.tdiv_eq_ediv_of_nonneg (by omega)]
  exact (Int.natCast_ediv a b).symm
 have h2 : a / b ≤ a := Nat.div_le_self a b
 generalize a / b = z at *
 exact opv_quo hx hy (by omega) (by rw [h1]; exact w64 (by omega) (by omega))
theorem opv_remN {z : Nat} (hx : ev F x = some (.int .i64 (a : Int))) (hy : ev F y = some (.int .i64 (b : Int))) (hb : 0 < b) (hz : a % b = z) : OpV P w0 n ⟨dst, .binOp .rem xt x y yt, ty, pos, af, gd⟩ F A I (.int .i64 (z : Int)) := by
 subst hz
 exact opv_rem hx hy (by omega) (by
  rw [Int.tmod_eq_emod_of_nonneg (by omega)]
  exact (Int.natCast_emod a b).symm)
theorem opv_mulN {z : Nat} (hx : ev F x = some (.int .i64 (a : Int))) (hy : ev F y = some (.int .i64 (b : Int))) (hz : a * b = z) (hb : z ≤ 1000000000) : OpV P w0 n ⟨dst, .binOp .mul xt x y yt, ty, pos, af, gd⟩ F A I (.int .i64 (z : Int)) := by
 subst hz
 have h1 : (a : Int) * (b : Int) = ((a * b : Nat) : Int) := (Int.natCast_mul a b).symm
 generalize a * b = z at *
 exact opv_mul hx hy (by rw [h1]; exact w64 (by omega) (by omega))
end
end Go.GL

set_option linter.unusedVariables false
namespace Go.GL
/-! ### Sets of cells: sorted lists -/
namespace R1
theorem less_irrefl (a : Cell) : ¬ less a a := by unfold less; omega
theorem less_trans {a b c : Cell} (h : less a b) (k : less b c) : less a c := by unfold less at *; omega
theorem less_asymm {a b : Cell} (h : less a b) : ¬ less b a := by unfold less at *; omega
theorem less_total {a b : Cell} (h : a ≠ b) : less a b ∨ less b a := by
 unfold less
 rcases Int.lt_trichotomy a.y b.y with h1 | h1 | h1
 ·exact .inl (.inl h1)
 ·rcases Int.lt_trichotomy a.x b.x with h2 | h2 | h2
  ·exact .inl (.inr ⟨h1, h2⟩)
  ·exact absurd (by cases a; cases b; simp at h1 h2; simp [h1, h2]) h
  ·exact .inr (.inr ⟨h1.symm, h2⟩)
 ·exact .inr (.inl h1)
theorem less_ne {a b : Cell} (h : less a b) : a ≠ b := fun e => less_irrefl a (by rw [← e] at h; exact h)
def Srt (l : List Cell) : Prop := l.Pairwise less
theorem putF_true (c : Cell) : ∀ l : List Cell, putF c true l = l.filter fun a => decide (a ≠ c)
 | [] => rfl
 | a :: l => by
  simp only [putF, Bool.true_eq_false, false_and, if_false]
  rw [putF_true c l]
  by_cases h : a = c
  ·rw [if_neg (by simpa using h), List.filter_cons_of_neg (by simpa using h)]
  ·rw [if_pos h, List.filter_cons_of_pos (by simpa using h)]
theorem filter_gt {c : Cell} {l : List Cell} (h : ∀ d ∈ l, less c d) : (l.filter fun a => decide (a ≠ c)) = l :=
 List.filter_eq_self.2 fun d hd => by simpa using (less_ne (h d hd)).symm
theorem putF_srt (c : Cell) : ∀ (l : List Cell), Srt l → Srt (putF c false l) ∧ ∀ d, d ∈ putF c false l ↔ d = c ∨ d ∈ l
 | [], _ => by
  simp only [putF, Bool.false_eq_true, if_false]
  exact ⟨List.pairwise_singleton _ _, fun d => by simp⟩
 | a :: l, h => by
  obtain ⟨h1, h2⟩ := List.pairwise_cons.1 h
  simp only [putF]
  by_cases hc : a = c ∨ less c a
  ·rw [if_pos ⟨trivial, hc⟩]
   have hgt : ∀ d ∈ l, less c d := fun d hd => by
    rcases hc with rfl | hc
    ·exact h1 d hd
    ·exact less_trans hc (h1 d hd)
   rw [putF_true, filter_gt hgt]
   by_cases he : a = c
   ·rw [if_neg (by simpa using he)]
    subst he
    exact ⟨h, fun d => by simp⟩
   ·rw [if_pos he]
    have hca := hc.resolve_left he
    refine ⟨List.pairwise_cons.2 ⟨fun d hd => ?_, h⟩, fun d => by simp⟩
    rcases List.mem_cons.1 hd with rfl | hd
    ·exact hca
    ·exact hgt d hd
  ·rw [if_neg (by simpa using hc)]
   have hne : a ≠ c := fun e => hc (.inl e)
   have hac : less a c := (less_total hne).resolve_right fun k => hc (.inr k)
   rw [if_pos hne]
   obtain ⟨i1, i2⟩ := putF_srt c l h2
   refine ⟨List.pairwise_cons.2 ⟨fun d hd => ?_, i1⟩, fun d => ?_⟩
   ·rcases (i2 d).1 hd with rfl | hd
    ·exact hac
    ·exact h1 d hd
   ·simp only [List.mem_cons, i2]
    constructor
    ·rintro (h | h | h)
     ·exact .inr (.inl h)
     ·exact .inl h
     ·exact .inr (.inr h)
    ·rintro (h | h | h)
     ·exact .inr (.inl h)
     ·exact .inl h
     ·exact .inr (.inr h)
theorem put_srt {l : List Cell} (h : Srt l) (c : Cell) : Srt (put l c) := (putF_srt c l h).1
theorem mem_put {l : List Cell} (h : Srt l) {c d : Cell} : d ∈ put l c ↔ d = c ∨ d ∈ l := (putF_srt c l h).2 d
theorem foldl_put : ∀ (l acc : List Cell), Srt acc → Srt (l.foldl put acc) ∧ ∀ d, d ∈ l.foldl put acc ↔ d ∈ l ∨ d ∈ acc
 | [], acc, h => ⟨h, fun d => by simp⟩
 | c :: l, acc, h => by
  obtain ⟨i1, i2⟩ := foldl_put l (put acc c) (put_srt h c)
  refine ⟨i1, fun d => ?_⟩
  rw [List.foldl_cons, i2, mem_put h, List.mem_cons]
  constructor
  ·rintro (h | h | h)
   ·exact .inl (.inr h)
   ·exact .inl (.inl h)
   ·exact .inr h
  ·rintro ((h | h) | h)
   ·exact .inr (.inl h)
   ·exact .inl h
   ·exact .inr (.inr h)
theorem puts_srt (l : List Cell) : Srt (puts l) := (foldl_put l [] List.Pairwise.nil).1
theorem mem_puts {l : List Cell} {d : Cell} : d ∈ puts l ↔ d ∈ l := by
 rw [show puts l = l.foldl put [] from rfl, (foldl_put l [] List.Pairwise.nil).2]; simp
theorem srt_ext : ∀ {l m : List Cell}, Srt l → Srt m → (∀ d, d ∈ l ↔ d ∈ m) → l = m
 | [], [], _, _, _ => rfl
 | [], b :: m, _, _, h => absurd ((h b).2 List.mem_cons_self) (by simp)
 | a :: l, [], _, _, h => absurd ((h a).1 List.mem_cons_self) (by simp)
 | a :: l, b :: m, h1, h2, h => by
  obtain ⟨p1, p2⟩ := List.pairwise_cons.1 h1
  obtain ⟨q1, q2⟩ := List.pairwise_cons.1 h2
  have e : a = b := by
   rcases List.mem_cons.1 ((h a).1 List.mem_cons_self) with e | ha
   ·exact e
   ·rcases List.mem_cons.1 ((h b).2 List.mem_cons_self) with e | hb
    ·exact e.symm
    ·exact absurd (q1 a ha) (less_asymm (p1 b hb))
  subst e
  congr 1
  refine srt_ext p2 q2 fun d => ?_
  constructor
  ·intro hd
   rcases List.mem_cons.1 ((h d).1 (List.mem_cons_of_mem _ hd)) with rfl | k
   ·exact absurd (p1 d hd) (less_irrefl d)
   ·exact k
  ·intro hd
   rcases List.mem_cons.1 ((h d).2 (List.mem_cons_of_mem _ hd)) with rfl | k
   ·exact absurd (q1 d hd) (less_irrefl d)
   ·exact k
theorem srt_nodup {l : List Cell} (h : Srt l) : l.Nodup := h.imp fun k => less_ne k
theorem right_of {l : List Cell} (h : Srt l) (hb : ∀ c ∈ l, inB c) (hl : l.length ≤ 2000) : right l := by
 refine ⟨fun i hi => ⟨?_, fun h0 => ?_⟩, hl⟩
 ·have e : g l i = l[i] := by simp [g, hi]
  rw [e]; exact hb _ (List.getElem_mem hi)
 ·have e : g l i = l[i] := by simp [g, hi]
  have hi' : i - 1 < l.length := by omega
  have e' : g l (i - 1) = l[i - 1] := by simp [g, hi']
  rw [e, e']
  exact List.pairwise_iff_getElem.1 h (i - 1) i hi' hi (by omega)
theorem right_inB {l : List Cell} (h : right l) : ∀ c ∈ l, inB c := fun c hc => by
 obtain ⟨i, hi, rfl⟩ := List.getElem_of_mem hc
 have := (h.1 i hi).1
 simpa [g, hi] using this
theorem right_srt {l : List Cell} (h : right l) : Srt l := by
 have step : ∀ i, i + 1 < l.length → less (g l i) (g l (i + 1)) := fun i hi => (h.1 (i + 1) hi).2 (by omega)
 have far : ∀ d i, i + d + 1 < l.length → less (g l i) (g l (i + d + 1)) := by
  intro d
  induction d with
  | zero => intro i hi; exact step i hi
  | succ d ih => intro i hi; exact less_trans (ih i (by omega)) (step (i + d + 1) (by omega))
 refine List.pairwise_iff_getElem.2 fun i j hi hj hij => ?_
 have := far (j - i - 1) i (by omega)
 rw [show i + (j - i - 1) + 1 = j by omega] at this
 simpa [g, hi, hj] using this
theorem of_ok {l : List Cell} (hb : ∀ c ∈ l, inB c) (hl : (puts l).length ≤ 2000) : of l = (puts l, 0) := by
 unfold of
 rw [if_pos, if_neg (by omega)]
 intro i hi
 have e : g l i = l[i] := by simp [g, hi]
 rw [e]; exact hb _ (List.getElem_mem hi)
theorem puts_eq_self {l : List Cell} (h : Srt l) : puts l = l := srt_ext (puts_srt l) h fun d => mem_puts
end R1
end Go.GL

set_option linter.unusedVariables false
namespace Go.GL
/-! ### What a node stands for -/
namespace R7
open R6
theorem p2s (m : Nat) : (2:Int) ^ (m + 1) = 2 ^ m * 2 := Int.pow_succ 2 m
theorem p2pos (m : Nat) : (0:Int) < 2 ^ m := Int.pow_pos (by omega)
def al (ns : List Node) : Nat → Int → Int → Int → Bool
 | 0, n, _, _ => decide (n = 1)
 | lv + 1, n, x, y =>
  if y < 2 ^ lv then (if x < 2 ^ lv then al ns lv (nd ns n).k0 x y else al ns lv (nd ns n).k1 (x - 2 ^ lv) y)
  else (if x < 2 ^ lv then al ns lv (nd ns n).k2 x (y - 2 ^ lv) else al ns lv (nd ns n).k3 (x - 2 ^ lv) (y - 2 ^ lv))
def inQ (lv : Nat) (x y : Int) : Prop := 0 ≤ x ∧ x < 2 ^ lv ∧ 0 ≤ y ∧ y < 2 ^ lv
/-- A node of a level. -/
def IsN (ns : List Node) (lv : Nat) (n : Int) : Prop := inS ns n ∧ (nd ns n).lv = lv
theorem kids4 {ns : List Node} (h : Wf ns) {lv : Nat} {n : Int} (hn : IsN ns (lv + 1) n) : IsN ns lv (nd ns n).k0 ∧ IsN ns lv (nd ns n).k1 ∧ IsN ns lv (nd ns n).k2 ∧ IsN ns lv (nd ns n).k3 := by
 have hl : (nd ns n).lv ≠ 0 := by rw [hn.2]; omega
 have key : ∀ q, q ∈ (nd ns n).kids → IsN ns lv q := fun q hq => by
  obtain ⟨a, _, b⟩ := h.kid hn.1 hl hq
  refine ⟨a, ?_⟩
  rw [b, hn.2]; omega
 exact ⟨key _ (by simp [Node.kids]), key _ (by simp [Node.kids]), key _ (by simp [Node.kids]), key _ (by simp [Node.kids])⟩
theorem IsN.pre {ns ms : List Node} (hp : ns <+: ms) {lv : Nat} {n : Int} (h : IsN ns lv n) : IsN ms lv n := ⟨inS_pre hp h.1, by rw [nd_pre hp h.1]; exact h.2⟩
theorem al_pre {ns ms : List Node} (h : Wf ns) (hp : ns <+: ms) : ∀ (lv : Nat) (n x y : Int), IsN ns lv n → al ms lv n x y = al ns lv n x y
 | 0, n, x, y, _ => rfl
 | lv + 1, n, x, y, hn => by
  obtain ⟨a, b, c, d⟩ := kids4 h hn
  simp only [al]
  rw [nd_pre hp hn.1, al_pre h hp lv _ _ _ a, al_pre h hp lv _ _ _ b, al_pre h hp lv _ _ _ c, al_pre h hp lv _ _ _ d]
theorem isN0 {ns : List Node} (h : Wf ns) {n : Int} (hn : IsN ns 0 n) : n = 0 ∨ n = 1 := h.lv0 hn.1 hn.2
theorem pop4_zero {ns : List Node} {q0 q1 q2 q3 : Int} (h0 : 0 ≤ (nd ns q0).pop) (h1 : 0 ≤ (nd ns q1).pop) (h2 : 0 ≤ (nd ns q2).pop) (h3 : 0 ≤ (nd ns q3).pop) : pop4 ns q0 q1 q2 q3 = 0 ↔ (nd ns q0).pop = 0 ∧ (nd ns q1).pop = 0 ∧ (nd ns q2).pop = 0 ∧ (nd ns q3).pop = 0 := by
 unfold pop4 mn cap62
 generalize (nd ns q0).pop = a at *
 generalize (nd ns q1).pop = b at *
 generalize (nd ns q2).pop = c at *
 generalize (nd ns q3).pop = d at *
 constructor
 ·intro h
  repeat' split at h
  all_goals omega
 ·rintro ⟨rfl, rfl, rfl, rfl⟩; rfl
theorem dead_kids {ns : List Node} (h : Wf ns) {lv : Nat} {n : Int} (hn : IsN ns (lv + 1) n) : (nd ns n).pop = 0 ↔ (nd ns (nd ns n).k0).pop = 0 ∧ (nd ns (nd ns n).k1).pop = 0 ∧ (nd ns (nd ns n).k2).pop = 0 ∧ (nd ns (nd ns n).k3).pop = 0 := by
 obtain ⟨a, b, c, d⟩ := kids4 h hn
 rw [h.pop hn.1 (by rw [hn.2]; omega)]
 exact pop4_zero (h.mod.nd a.1).2.2.1 (h.mod.nd b.1).2.2.1 (h.mod.nd c.1).2.2.1 (h.mod.nd d.1).2.2.1
theorem al_dead {ns : List Node} (h : Wf ns) : ∀ (lv : Nat) (n x y : Int), IsN ns lv n → (nd ns n).pop = 0 → al ns lv n x y = false
 | 0, n, x, y, hn, hp => by
  rcases isN0 h hn with rfl | rfl
  ·rfl
  ·rw [h.nd1] at hp; cases hp
 | lv + 1, n, x, y, hn, hp => by
  obtain ⟨a, b, c, d⟩ := kids4 h hn
  obtain ⟨a', b', c', d'⟩ := (dead_kids h hn).1 hp
  simp only [al]
  rw [al_dead h lv _ _ _ a a', al_dead h lv _ _ _ b b', al_dead h lv _ _ _ c c', al_dead h lv _ _ _ d d']
  simp
theorem inQ_succ {lv : Nat} {x y : Int} (h : inQ (lv + 1) x y) : (y < 2 ^ lv → x < 2 ^ lv → inQ lv x y) ∧ (y < 2 ^ lv → ¬ x < 2 ^ lv → inQ lv (x - 2 ^ lv) y) ∧ (¬ y < 2 ^ lv → x < 2 ^ lv → inQ lv x (y - 2 ^ lv)) ∧ (¬ y < 2 ^ lv → ¬ x < 2 ^ lv → inQ lv (x - 2 ^ lv) (y - 2 ^ lv)) := by
 unfold inQ at *
 rw [p2s] at h
 have := p2pos lv
 omega
/-- Two nodes of a level that stand for the same are one. -/
theorem al_inj {ns : List Node} (h : Wf ns) : ∀ (lv : Nat) (n m : Int), IsN ns lv n → IsN ns lv m → (∀ x y, inQ lv x y → al ns lv n x y = al ns lv m x y) → n = m
 | 0, n, m, hn, hm, he => by
  have := he 0 0 ⟨by omega, by decide, by omega, by decide⟩
  simp only [al] at this
  rcases isN0 h hn with rfl | rfl <;> rcases isN0 h hm with rfl | rfl <;> simp_all
 | lv + 1, n, m, hn, hm, he => by
  obtain ⟨a, b, c, d⟩ := kids4 h hn
  obtain ⟨a', b', c', d'⟩ := kids4 h hm
  have hp := p2pos lv
  have key : ∀ x y, inQ (lv + 1) x y → _ := he
  simp only [al] at key
  have e0 : (nd ns n).k0 = (nd ns m).k0 := al_inj h lv _ _ a a' fun x y hq => by
   unfold inQ at hq
   have := key x y (by unfold inQ; rw [p2s]; omega)
   rwa [if_pos hq.2.2.2, if_pos hq.2.1, if_pos hq.2.2.2, if_pos hq.2.1] at this
  have e1 : (nd ns n).k1 = (nd ns m).k1 := al_inj h lv _ _ b b' fun x y hq => by
   unfold inQ at hq
   have := key (x + 2 ^ lv) y (by unfold inQ; rw [p2s]; omega)
   rwa [if_pos hq.2.2.2, if_neg (by omega), if_pos hq.2.2.2, if_neg (by omega), show x + 2 ^ lv - 2 ^ lv = x by omega] at this
  have e2 : (nd ns n).k2 = (nd ns m).k2 := al_inj h lv _ _ c c' fun x y hq => by
   unfold inQ at hq
   have := key x (y + 2 ^ lv) (by unfold inQ; rw [p2s]; omega)
   rwa [if_neg (by omega), if_pos hq.2.1, if_neg (by omega), if_pos hq.2.1, show y + 2 ^ lv - 2 ^ lv = y by omega] at this
  have e3 : (nd ns n).k3 = (nd ns m).k3 := al_inj h lv _ _ d d' fun x y hq => by
   unfold inQ at hq
   have := key (x + 2 ^ lv) (y + 2 ^ lv) (by unfold inQ; rw [p2s]; omega)
   rwa [if_neg (by omega), if_neg (by omega), if_neg (by omega), if_neg (by omega), show x + 2 ^ lv - 2 ^ lv = x by omega, show y + 2 ^ lv - 2 ^ lv = y by omega] at this
  refine h.uniq hn.1 hm.1 (by rw [hn.2]; omega) (by rw [hm.2]; omega) ?_
  unfold Node.kids
  rw [e0, e1, e2, e3]
theorem dead_uniq {ns : List Node} (h : Wf ns) {lv : Nat} {n m : Int} (hn : IsN ns lv n) (hm : IsN ns lv m) (dn : (nd ns n).pop = 0) (dm : (nd ns m).pop = 0) : n = m :=
 al_inj h lv n m hn hm fun x y _ => by rw [al_dead h lv n x y hn dn, al_dead h lv m x y hm dm]
/-! #### what is flat -/
theorem mem_flat {ns : List Node} (h : Wf ns) : ∀ (lv : Nat) (n : Int) (o c : Cell), IsN ns lv n → (c ∈ flat ns lv n o ↔ inQ lv (c.x - o.x) (c.y - o.y) ∧ al ns lv n (c.x - o.x) (c.y - o.y) = true)
 | lv, n, o, c, hn => by
  by_cases hp : (nd ns n).pop = 0
  ·have e : flat ns lv n o = [] := by unfold flat; rw [if_pos hp]
   rw [e, al_dead h lv n _ _ hn hp]
   simp
  ·match lv, hn with
   | 0, hn =>
    have e : flat ns 0 n o = [o] := by unfold flat; rw [if_neg hp]
    rw [e, List.mem_singleton]
    have n1 : n = 1 := by
     rcases isN0 h hn with rfl | rfl
     ·exact absurd (by rw [h.nd0]; rfl) hp
     ·rfl
    subst n1
    simp only [al, inQ, Int.pow_zero, decide_true, and_true]
    constructor
    ·rintro rfl; omega
    ·intro hq
     cases c; cases o
     simp only [Cell.mk.injEq] at hq ⊢
     omega
   | lv + 1, hn =>
    obtain ⟨a, b, cc, d⟩ := kids4 h hn
    have e : flat ns (lv + 1) n o = flat ns lv (nd ns n).k0 o ++ flat ns lv (nd ns n).k1 ⟨o.x + 2 ^ lv, o.y⟩ ++ flat ns lv (nd ns n).k2 ⟨o.x, o.y + 2 ^ lv⟩ ++ flat ns lv (nd ns n).k3 ⟨o.x + 2 ^ lv, o.y + 2 ^ lv⟩ := by rw [flat]; rw [if_neg hp]
    rw [e, List.mem_append, List.mem_append, List.mem_append, mem_flat h lv _ _ _ a, mem_flat h lv _ _ _ b, mem_flat h lv _ _ _ cc, mem_flat h lv _ _ _ d]
    simp only [al]
    have hpos := p2pos lv
    rw [show c.x - (o.x + 2 ^ lv) = c.x - o.x - 2 ^ lv by omega, show c.y - (o.y + 2 ^ lv) = c.y - o.y - 2 ^ lv by omega]
    generalize c.x - o.x = x
    generalize c.y - o.y = y
    unfold inQ
    rw [p2s]
    have fw : ∀ {p q r s v : Prop}, (p → v) → (q → v) → (r → v) → (s → v) → ((p ∨ q) ∨ r) ∨ s → v := fun h1 h2 h3 h4 h => h.elim (fun h => h.elim (fun h => h.elim h1 h2) h3) h4
    by_cases hy : y < 2 ^ lv
    ·rw [if_pos hy]
     by_cases hx : x < 2 ^ lv
     ·rw [if_pos hx]
      exact ⟨fw (fun ⟨q, k⟩ => ⟨by omega, k⟩) (fun ⟨q, k⟩ => by exfalso; omega) (fun ⟨q, k⟩ => by exfalso; omega) (fun ⟨q, k⟩ => by exfalso; omega), fun ⟨q, k⟩ => .inl (.inl (.inl ⟨by omega, k⟩))⟩
     ·rw [if_neg hx]
      exact ⟨fw (fun ⟨q, k⟩ => by exfalso; omega) (fun ⟨q, k⟩ => ⟨by omega, k⟩) (fun ⟨q, k⟩ => by exfalso; omega) (fun ⟨q, k⟩ => by exfalso; omega), fun ⟨q, k⟩ => .inl (.inl (.inr ⟨by omega, k⟩))⟩
    ·rw [if_neg hy]
     by_cases hx : x < 2 ^ lv
     ·rw [if_pos hx]
      exact ⟨fw (fun ⟨q, k⟩ => by exfalso; omega) (fun ⟨q, k⟩ => by exfalso; omega) (fun ⟨q, k⟩ => ⟨by omega, k⟩) (fun ⟨q, k⟩ => by exfalso; omega), fun ⟨q, k⟩ => .inl (.inr ⟨by omega, k⟩)⟩
     ·rw [if_neg hx]
      exact ⟨fw (fun ⟨q, k⟩ => by exfalso; omega) (fun ⟨q, k⟩ => by exfalso; omega) (fun ⟨q, k⟩ => by exfalso; omega) (fun ⟨q, k⟩ => ⟨by omega, k⟩), fun ⟨q, k⟩ => .inr ⟨by omega, k⟩⟩
end R7
end Go.GL

set_option linter.unusedVariables false
namespace Go.GL
/-! ### What is made of cells -/
namespace R7
open R6
def deadB (ns : List Node) (j : Nat) : Bool := ns.any fun x => decide (x.lv = (j : Int) ∧ x.pop = 0)
/-- Of how many levels there is no node yet in which all is dead. -/
def E (ns : List Node) : Nat → Nat
 | 0 => 0
 | L + 1 => E ns L + if deadB ns (L + 1) = true then 0 else 1
theorem deadB_iff {ns : List Node} {j : Nat} : deadB ns j = true ↔ ∃ n, IsN ns j n ∧ (nd ns n).pop = 0 := by
 unfold deadB
 rw [List.any_eq_true]
 constructor
 ·rintro ⟨x, hx, h⟩
  obtain ⟨i, hi, rfl⟩ := List.getElem_of_mem hx
  have h' := of_decide_eq_true h
  have e : nd ns (i : Int) = ns[i] := by simp [nd, hi]
  exact ⟨i, ⟨⟨by omega, by omega⟩, by rw [e]; exact h'.1⟩, by rw [e]; exact h'.2⟩
 ·rintro ⟨n, ⟨⟨h0, h1⟩, h2⟩, h3⟩
  have hlt : n.toNat < ns.length := by omega
  have e : nd ns n = ns[n.toNat] := by simp [nd, hlt]
  rw [e] at h2 h3
  exact ⟨_, List.getElem_mem hlt, by simp [h2, h3]⟩
theorem deadB_pre {ns ms : List Node} (h : ns <+: ms) {j : Nat} (hd : deadB ns j = true) : deadB ms j = true := by
 obtain ⟨t, rfl⟩ := h
 unfold deadB at *
 rw [List.any_append, hd]; rfl
theorem E_pre {ns ms : List Node} (h : ns <+: ms) : ∀ L, E ms L ≤ E ns L
 | 0 => Nat.le_refl _
 | L + 1 => by
  have := E_pre h L
  simp only [E]
  by_cases hd : deadB ns (L + 1) = true
  ·rw [if_pos hd, if_pos (deadB_pre h hd)]; omega
  ·rw [if_neg hd]; split <;> omega
theorem E_new {ns ms : List Node} (h : ns <+: ms) {j : Nat} (h0 : ¬ deadB ns (j + 1) = true) (h1 : deadB ms (j + 1) = true) : ∀ L, j < L → E ms L + 1 ≤ E ns L
 | 0, hj => absurd hj (by omega)
 | L + 1, hj => by
  simp only [E]
  by_cases e : j = L
  ·subst e
   have := E_pre h j
   rw [if_neg h0, if_pos h1]; omega
  ·have := E_new h h0 h1 L (by omega)
   by_cases hd : deadB ns (L + 1) = true
   ·rw [if_pos hd, if_pos (deadB_pre h hd)]; omega
   ·rw [if_neg hd]; split <;> omega
theorem E_le (ns : List Node) : ∀ L, E ns L ≤ L
 | 0 => Nat.le_refl _
 | L + 1 => by have := E_le ns L; simp only [E]; split <;> omega
theorem E_pos {ns : List Node} {j L : Nat} (hj : j < L) (h0 : ¬ deadB ns (j + 1) = true) : 1 ≤ E ns L := by
 induction L with
 | zero => omega
 | succ L ih =>
  simp only [E]
  by_cases e : j = L
  ·subst e; rw [if_neg h0]; omega
  ·have := ih (by omega); omega
/-- A node of a level is made; it cost so many nodes, and what was dead of the levels to L. -/
structure Mk (ns : List Node) (L cost lv : Nat) (ms : List Node) (m : Int) : Prop where
 wf : Wf ms
 pre : ns <+: ms
 is : IsN ms lv m
 len : ms.length + E ms L ≤ ns.length + E ns L + cost
theorem fit4_of {ns : List Node} {lv : Nat} (hl : lv + 1 ≤ 42) {a b c d : Int} (ha : IsN ns lv a) (hb : IsN ns lv b) (hc : IsN ns lv c) (hd : IsN ns lv d) : fit4 ns a b c d := by
 refine ⟨ha.1, ⟨hb.1, ?_⟩, ⟨hc.1, ?_⟩, ⟨hd.1, ?_⟩, ?_⟩
 ·rw [hb.2, ha.2]
 ·rw [hc.2, ha.2]
 ·rw [hd.2, ha.2]
 ·rw [ha.2]; omega
theorem dead_found {ns : List Node} (h : Wf ns) {j : Nat} {n d : Int} (hn : IsN ns j n) (hp : (nd ns n).pop = 0) (hd : IsN ns (j + 1) d) (hdp : (nd ns d).pop = 0) : R6.at_ ns [n, n, n, n] = d := by
 obtain ⟨a, b, c, e⟩ := kids4 h hd
 obtain ⟨a', b', c', e'⟩ := (dead_kids h hd).1 hdp
 have := h.at_ hd.1 (by rw [hd.2]; omega)
 unfold Node.kids at this
 rwa [dead_uniq h a hn a' hp, dead_uniq h b hn b' hp, dead_uniq h c hn c' hp, dead_uniq h e hn e' hp] at this
theorem emptyF_ok {room : Int} {L : Nat} (hL : L ≤ 42) : ∀ (k : Nat) (ns : List Node) (n : Int) (j : Nat), Wf ns → IsN ns j n → (nd ns n).pop = 0 → j + k ≤ L → ((ns.length + E ns L : Nat) : Int) ≤ room →
  ∃ ms m, emptyF room k ns n = (ms, m, 0) ∧ Mk ns L 0 (j + k) ms m ∧ (nd ms m).pop = 0
 | 0, ns, n, j, h, hn, hp, hj, hr => ⟨ns, n, rfl, ⟨h, List.prefix_refl _, hn, Nat.le_refl _⟩, hp⟩
 | k + 1, ns, n, j, h, hn, hp, hj, hr => by
  have hf := fit4_of (by omega) hn hn hn hn
  have hroom : 0 ≤ R6.at_ ns [n, n, n, n] ∨ (ns.length : Int) < room := by
   by_cases hd : deadB ns (j + 1) = true
   ·obtain ⟨d, hd1, hd2⟩ := deadB_iff.1 hd
    rw [dead_found h hn hp hd1 hd2]; exact .inl hd1.1.1
   ·have := E_pos (L := L) (by omega) hd
    exact .inr (by omega)
  obtain ⟨ms, m, e, ok⟩ := put_ok h hf hroom
  have him : IsN ms (j + 1) m := ⟨ok.mem, by rw [ok.lv, hn.2]; omega⟩
  have hpm : (nd ms m).pop = 0 := by rw [ok.nd]; exact (pop4_zero (by omega) (by omega) (by omega) (by omega)).2 ⟨hp, hp, hp, hp⟩
  have hlen : ms.length + E ms L ≤ ns.length + E ns L := by
   by_cases hd : deadB ns (j + 1) = true
   ·obtain ⟨d, hd1, hd2⟩ := deadB_iff.1 hd
    have hat := dead_found h hn hp hd1 hd2
    have : put ns room n n n n = (ns, d, 0) := put_again h hf hd1.1 (by rw [hd1.2]; omega) (by rw [← hat]; exact (at_found (by rw [hat]; exact hd1.1.1)).2.2)
    rw [this] at e
    cases e
    exact Nat.le_refl _
   ·have := E_new ok.pre hd (deadB_iff.2 ⟨m, him, hpm⟩) L (by omega)
    have := ok.len
    omega
  obtain ⟨ms2, m2, e2, ok2, hp2⟩ := emptyF_ok (room := room) hL k ms m (j + 1) ok.wf him hpm (by omega) (by omega)
  refine ⟨ms2, m2, ?_, ⟨ok2.wf, ok.pre.trans ok2.pre, by rw [show j + (k + 1) = j + 1 + k by omega]; exact ok2.is, by have := ok2.len; omega⟩, hp2⟩
  simp only [emptyF, e]
  rw [if_neg (by omega)]
  exact e2
theorem empty_ok {room : Int} {L : Nat} (hL : L ≤ 42) {ns : List Node} {lv : Nat} (h : Wf ns) (hlv : lv ≤ L) (hr : ((ns.length + E ns L : Nat) : Int) ≤ room) : ∃ ms m, empty ns room lv = (ms, m, 0) ∧ Mk ns L 0 lv ms m ∧ (nd ms m).pop = 0 := by
 have := emptyF_ok (room := room) hL lv ns 0 0 h ⟨h.in0, by rw [h.nd0]; rfl⟩ (by rw [h.nd0]; rfl) (by omega) hr
 unfold empty
 simpa using this
/-! #### the quarters of a list of cells -/
def qx' (h : Int) (c : Cell) : Nat := qx h c
theorem part_sum (h : Int) (l : List Cell) : (part h 0 l).length + (part h 1 l).length + (part h 2 l).length + (part h 3 l).length = l.length := by
 induction l with
 | nil => rfl
 | cons c l ih =>
  unfold part at *
  simp only [List.length_map] at *
  have hk : qx h c = 0 ∨ qx h c = 1 ∨ qx h c = 2 ∨ qx h c = 3 := by unfold qx; split <;> split <;> simp
  rcases hk with e | e | e | e <;> simp only [List.filter_cons, e] <;> simp <;> omega
theorem part_in {lv : Nat} {l : List Cell} (hb : ∀ c ∈ l, inQ (lv + 1) c.x c.y) (k : Nat) : ∀ c ∈ part (2 ^ lv) k l, inQ lv c.x c.y := by
 intro c hc
 obtain ⟨d, hd, rfl⟩ := List.mem_map.1 hc
 have := hb d (List.mem_filter.1 hd).1
 unfold inQ at *
 rw [p2s] at this
 have := p2pos lv
 unfold qc
 simp only
 split <;> split <;> omega
theorem mem_part {lv : Nat} {l : List Cell} (hb : ∀ c ∈ l, inQ (lv + 1) c.x c.y) {x y : Int} (hq : inQ lv x y) :
  ((⟨x, y⟩ : Cell) ∈ part (2 ^ lv) 0 l ↔ (⟨x, y⟩ : Cell) ∈ l) ∧ ((⟨x, y⟩ : Cell) ∈ part (2 ^ lv) 1 l ↔ (⟨x + 2 ^ lv, y⟩ : Cell) ∈ l) ∧ ((⟨x, y⟩ : Cell) ∈ part (2 ^ lv) 2 l ↔ (⟨x, y + 2 ^ lv⟩ : Cell) ∈ l) ∧ ((⟨x, y⟩ : Cell) ∈ part (2 ^ lv) 3 l ↔ (⟨x + 2 ^ lv, y + 2 ^ lv⟩ : Cell) ∈ l) := by
 have hp := p2pos lv
 unfold inQ at hq
 have key : ∀ k (X Y : Int), qx (2 ^ lv) ⟨X, Y⟩ = k → qc (2 ^ lv) ⟨X, Y⟩ = ⟨x, y⟩ → (∀ c ∈ l, qx (2 ^ lv) c = k → qc (2 ^ lv) c = ⟨x, y⟩ → c = ⟨X, Y⟩) → ((⟨x, y⟩ : Cell) ∈ part (2 ^ lv) k l ↔ (⟨X, Y⟩ : Cell) ∈ l) := by
  intro k X Y h1 h2 h3
  unfold part
  rw [List.mem_map]
  constructor
  ·rintro ⟨c, hc, e⟩
   obtain ⟨hc1, hc2⟩ := List.mem_filter.1 hc
   have := h3 c hc1 (by simpa using hc2) e
   rwa [this] at hc1
  ·intro hm
   exact ⟨_, List.mem_filter.2 ⟨hm, by simp [h1]⟩, h2⟩
 refine ⟨key 0 x y ?_ ?_ ?_, key 1 _ _ ?_ ?_ ?_, key 2 _ _ ?_ ?_ ?_, key 3 _ _ ?_ ?_ ?_⟩
 all_goals simp only [qx, qc]
 all_goals first
  | (rintro ⟨cx, cy⟩ hc; have := hb _ hc; unfold inQ at this; simp only [Cell.mk.injEq] at *; intro h1 h2; revert h1 h2; split <;> split <;> intro h1 h2 <;> omega)
  | (split <;> split <;> omega)
  | (simp only [Cell.mk.injEq]; constructor <;> split <;> omega)
end R7
end Go.GL

set_option linter.unusedVariables false
namespace Go.GL
namespace R7
open R6
theorem build_nl (room : Int) (lv : Nat) (ns : List Node) : build room lv ns [] = empty ns room lv := by cases lv <;> rfl
theorem build_sc (room : Int) (lv : Nat) (ns : List Node) {l : List Cell} (h : l ≠ []) {a0 a1 a2 a3 : List Node} {m0 m1 m2 m3 : Int} (h0 : build room lv ns (part (2 ^ lv) 0 l) = (a0, m0, 0)) (h1 : build room lv a0 (part (2 ^ lv) 1 l) = (a1, m1, 0)) (h2 : build room lv a1 (part (2 ^ lv) 2 l) = (a2, m2, 0)) (h3 : build room lv a2 (part (2 ^ lv) 3 l) = (a3, m3, 0)) :
  build room (lv + 1) ns l = R6.put a3 room m0 m1 m2 m3 := by
 cases l with
 | nil => exact absurd rfl h
 | cons c l =>
  simp only [build, h0, h1, h2, h3]
  rfl
theorem al_put {ns ms : List Node} {lv : Nat} {a b c d m : Int} (h : Wf ns) (ha : IsN ns lv a) (hb : IsN ns lv b) (hc : IsN ns lv c) (hd : IsN ns lv d) (ok : PutOk ns a b c d ms m) (x y : Int) :
  al ms (lv + 1) m x y = if y < 2 ^ lv then (if x < 2 ^ lv then al ns lv a x y else al ns lv b (x - 2 ^ lv) y) else (if x < 2 ^ lv then al ns lv c x (y - 2 ^ lv) else al ns lv d (x - 2 ^ lv) (y - 2 ^ lv)) := by
 simp only [al, ok.nd, mk4]
 rw [al_pre h ok.pre _ _ _ _ ha, al_pre h ok.pre _ _ _ _ hb, al_pre h ok.pre _ _ _ _ hc, al_pre h ok.pre _ _ _ _ hd]
theorem build_ok {room : Int} {L : Nat} (hL : L ≤ 42) : ∀ (lv : Nat) (ns : List Node) (l : List Cell), lv ≤ L → Wf ns → (∀ c ∈ l, inQ lv c.x c.y) → ((ns.length + E ns L + l.length * lv : Nat) : Int) ≤ room →
  ∃ ms m, build room lv ns l = (ms, m, 0) ∧ Mk ns L (l.length * lv) lv ms m ∧ ∀ x y, inQ lv x y → al ms lv m x y = decide ((⟨x, y⟩ : Cell) ∈ l)
 | lv, ns, [], hlv, h, hb, hr => by
  obtain ⟨ms, m, e, ok, hp⟩ := empty_ok (room := room) hL h hlv (by simpa using hr)
  refine ⟨ms, m, by rw [build_nl]; exact e, ?_, fun x y _ => ?_⟩
  ·simpa using ok
  ·rw [al_dead ok.wf lv m x y ok.is hp]; simp
 | 0, ns, c :: l, hlv, h, hb, hr => by
  refine ⟨ns, 1, rfl, ⟨h, List.prefix_refl _, ⟨h.in1, by rw [h.nd1]; rfl⟩, by omega⟩, fun x y hq => ?_⟩
  have hc := hb c List.mem_cons_self
  unfold inQ at hq hc
  simp only [Int.pow_zero] at hq hc
  have e : (⟨x, y⟩ : Cell) = c := by cases c; simp only [Cell.mk.injEq] at *; omega
  rw [e]
  simp [al]
 | lv + 1, ns, c :: l, hlv, h, hb, hr => by
  have hne : c :: l ≠ [] := by simp
  generalize hls : c :: l = ls at *
  have hpl := part_sum (2 ^ lv) ls
  have hlpos : 1 ≤ ls.length := by rw [← hls]; simp
  have hpb := part_in hb
  have hmul : (part (2 ^ lv) 0 ls).length * lv + (part (2 ^ lv) 1 ls).length * lv + (part (2 ^ lv) 2 ls).length * lv + (part (2 ^ lv) 3 ls).length * lv = ls.length * lv := by rw [← Nat.add_mul, ← Nat.add_mul, ← Nat.add_mul, hpl]
  have hmul2 : ls.length * (lv + 1) = ls.length * lv + ls.length := Nat.mul_succ _ _
  rw [hmul2] at hr
  obtain ⟨a0, m0, e0, k0, s0⟩ := build_ok (room := room) hL lv ns (part (2 ^ lv) 0 ls) (by omega) h (hpb 0) (by omega)
  have l0 := k0.len
  obtain ⟨a1, m1, e1, k1, s1⟩ := build_ok (room := room) hL lv a0 (part (2 ^ lv) 1 ls) (by omega) k0.wf (hpb 1) (by omega)
  have l1 := k1.len
  obtain ⟨a2, m2, e2, k2, s2⟩ := build_ok (room := room) hL lv a1 (part (2 ^ lv) 2 ls) (by omega) k1.wf (hpb 2) (by omega)
  have l2 := k2.len
  obtain ⟨a3, m3, e3, k3, s3⟩ := build_ok (room := room) hL lv a2 (part (2 ^ lv) 3 ls) (by omega) k2.wf (hpb 3) (by omega)
  have l3 := k3.len
  have i0 : IsN a3 lv m0 := ((k0.is.pre k1.pre).pre k2.pre).pre k3.pre
  have i1 : IsN a3 lv m1 := (k1.is.pre k2.pre).pre k3.pre
  have i2 : IsN a3 lv m2 := k2.is.pre k3.pre
  have i3 : IsN a3 lv m3 := k3.is
  obtain ⟨ms, m, e, ok⟩ := put_ok k3.wf (room := room) (fit4_of (by omega) i0 i1 i2 i3) (.inr (by omega))
  refine ⟨ms, m, by rw [build_sc room lv ns hne e0 e1 e2 e3]; exact e, ⟨ok.wf, ((((k0.pre.trans k1.pre).trans k2.pre).trans k3.pre).trans ok.pre), ⟨ok.mem, by rw [ok.lv, i0.2]; omega⟩, ?_⟩, fun x y hq => ?_⟩
  ·have := E_pre ok.pre L
   have := ok.len
   omega
  ·rw [al_put k3.wf i0 i1 i2 i3 ok]
   obtain ⟨q0, q1, q2, q3⟩ := inQ_succ hq
   by_cases hy : y < 2 ^ lv
   ·rw [if_pos hy]
    by_cases hx : x < 2 ^ lv
    ·rw [if_pos hx, al_pre k2.wf k3.pre _ _ _ _ ((k0.is.pre k1.pre).pre k2.pre), al_pre k1.wf k2.pre _ _ _ _ (k0.is.pre k1.pre), al_pre k0.wf k1.pre _ _ _ _ k0.is, s0 _ _ (q0 hy hx)]
     exact decide_eq_decide.2 (mem_part hb (q0 hy hx)).1
    ·rw [if_neg hx, al_pre k2.wf k3.pre _ _ _ _ (k1.is.pre k2.pre), al_pre k1.wf k2.pre _ _ _ _ k1.is, s1 _ _ (q1 hy hx)]
     have := (mem_part hb (q1 hy hx)).2.1
     rw [show x - 2 ^ lv + 2 ^ lv = x by omega] at this
     exact decide_eq_decide.2 this
   ·rw [if_neg hy]
    by_cases hx : x < 2 ^ lv
    ·rw [if_pos hx, al_pre k2.wf k3.pre _ _ _ _ k2.is, s2 _ _ (q2 hy hx)]
     have := (mem_part hb (q2 hy hx)).2.2.1
     rw [show y - 2 ^ lv + 2 ^ lv = y by omega] at this
     exact decide_eq_decide.2 this
    ·rw [if_neg hx, s3 _ _ (q3 hy hx)]
     have := (mem_part hb (q3 hy hx)).2.2.2
     rw [show y - 2 ^ lv + 2 ^ lv = y by omega, show x - 2 ^ lv + 2 ^ lv = x by omega] at this
     exact decide_eq_decide.2 this
theorem side_succ (lv : Nat) : side ((lv + 1 : Nat) : Int) = 2 ^ lv := by
 unfold side
 have : (((lv + 1 : Nat) : Int) - 1).toNat = lv := by omega
 rw [this]
/-- What 'make' comes to. -/
theorem make_ok {ns : List Node} {room : Int} {l : List Cell} {lv : Nat} {L : Nat} (hL : L ≤ 42) (hlv : lv + 1 ≤ L) (h : R6.right ns room) (hl : R1.right l) (hb : ∀ c ∈ l, inL ((lv + 1 : Nat) : Int) c) (hr : ((ns.length + E ns L + l.length * (lv + 1) : Nat) : Int) ≤ room) :
  ∃ ms m, make ns room l ((lv + 1 : Nat) : Int) = (ms, m, 0) ∧ Mk ns L (l.length * (lv + 1)) (lv + 1) ms m ∧ ∀ c : Cell, inL ((lv + 1 : Nat) : Int) c → al ms (lv + 1) m (c.x + 2 ^ lv) (c.y + 2 ^ lv) = decide (c ∈ l) := by
 have hw := (right_iff.1 h).2
 have hs := side_succ lv
 have hp := p2pos lv
 have hcb : ∀ c ∈ corner (side ((lv + 1 : Nat) : Int)) l, inQ (lv + 1) c.x c.y := fun c hc => by
  obtain ⟨d, hd, rfl⟩ := List.mem_map.1 hc
  have := hb d hd
  unfold inL at this
  rw [hs] at this
  unfold inQ
  rw [p2s, hs]
  simp only
  omega
 obtain ⟨ms, m, e, ok, sem⟩ := build_ok (room := room) hL (lv + 1) ns (corner (side ((lv + 1 : Nat) : Int)) l) hlv hw hcb (by unfold corner; rw [List.length_map]; exact hr)
 have hlen : (corner (side ((lv + 1 : Nat) : Int)) l).length = l.length := by unfold corner; rw [List.length_map]
 rw [hlen] at ok
 refine ⟨ms, m, ?_, ok, fun c hc => ?_⟩
 ·unfold make
  rw [if_pos ⟨h, by omega, by omega, hl⟩, if_pos (fun i hi => ?_)]
  ·have e3 : ((lv + 1 : Nat) : Int).toNat = lv + 1 := by omega
   rw [e3, e]
   simp
  ·have e4 : R1.g l i = l[i] := by simp [R1.g, hi]
   rw [e4]; exact hb _ (List.getElem_mem hi)
 ·unfold inL at hc
  rw [hs] at hc
  rw [sem _ _ (by unfold inQ; rw [p2s]; omega)]
  refine decide_eq_decide.2 ?_
  unfold corner
  rw [List.mem_map, hs]
  constructor
  ·rintro ⟨d, hd, e⟩
   have : d = c := by cases d; cases c; simp only [Cell.mk.injEq] at *; omega
   rwa [this] at hd
  ·intro hc
   exact ⟨c, hc, rfl⟩
/-- What 'of' tells. -/
theorem mem_of {ns : List Node} (h : Wf ns) {lv : Nat} {n : Int} (hn : IsN ns (lv + 1) n) (c : Cell) : c ∈ of ns n ↔ inL ((lv + 1 : Nat) : Int) c ∧ al ns (lv + 1) n (c.x + 2 ^ lv) (c.y + 2 ^ lv) = true := by
 unfold of
 have hs := side_succ lv
 have e3 : ((lv + 1 : Nat) : Int).toNat = lv + 1 := by omega
 rw [hn.2, e3, mem_flat h _ _ _ _ hn, hs]
 simp only
 rw [show c.x - -2 ^ lv = c.x + 2 ^ lv by omega, show c.y - -2 ^ lv = c.y + 2 ^ lv by omega]
 unfold inQ inL
 rw [hs, p2s]
 constructor
 ·rintro ⟨q, k⟩; exact ⟨by omega, k⟩
 ·rintro ⟨q, k⟩; exact ⟨by omega, k⟩
end R7
end Go.GL
