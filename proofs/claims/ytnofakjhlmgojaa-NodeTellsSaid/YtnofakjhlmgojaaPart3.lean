/- Part 3: contracts of the functions that the law reaches: each answers as its model does. No condition beyond those that each theorem states. -/
import Derived.Test.YtnofakjhlmgojaaPart2
import Derived.RangeFuncIn
import Derived.RangeFuncRecord
import Derived.RangeFuncLeaves
import Derived.LoopNIn
/-
 Ranges over functions: the same judgement over the fenced walk, within a round or not, with deferred calls or none.
-/
set_option linter.unusedVariables false
set_option linter.unusedSimpArgs false
namespace Go.GL
/-- The fence that bars nothing; r: the loop whose round it is. -/
def RF (r : Option Nat) : Fence := { Fence.wide with round := r }
/-- Read at an activation that has these deferred calls. -/
def XN (ds : List Deferred) (K : Act → World → Prop) : Act → World → Prop := fun a w => K ⟨a.tmps, ds⟩ w
theorem rf_depth {r : Option Nat} : ¬ ((RF r).depth.isSome = true) := by
 intro h
 cases h
theorem callsIn_rf {r : Option Nat} {n : Nat} {P : Program} {f : FuncId} {args : Array Value} {w : World} {R : Ending → World → Prop} : CallsIn (RF r) n P f args w R ↔ Calls P f args w R :=
 ⟨fun h => callsIn_wide.1 (show CallsIn Fence.wide n P f args w R from h), fun h => show CallsIn Fence.wide n P f args w R from callsIn_wide.2 h⟩
theorem rowsIn_rf {r : Option Nat} {n : Nat} {P : Program} {row : String} {args : Array Value} {w : World} {R : Value → World → Prop} (h : Rows P row args w R) : RowsIn (RF r) n P row args w R :=
 fun c cs _ => let ⟨v, w', hr, s⟩ := h c cs; ⟨v, w', hr, show StepsIn (Machine.fenced P Fence.wide) P _ _ from stepsIn_wide.2 s⟩
theorem no_defer_of_value {P : Program} {ρ : Operand → Value} {o : Oper} {v : Value} {w w' : World} (h : (execOp ρ o).run P w = .ok (.value v) w') : ∀ c, o.op ≠ .defer c := by
 intro c hc
 unfold execOp at h
 rw [hc] at h
 simp only [Sem.run_bind] at h
 cases hr : (resolve ρ c o.type).run P w with
 | ok d w2 => rw [hr] at h; simp at h
 | halt e w2 => rw [hr] at h; simp [Result.andThen] at h
section
variable {w0 : World} {n : Nat} {F : Frm} {A : List Asrt} {I : List Chunk} {P : Program} {Q : Exit → Act → World → Prop} {r : Option Nat} {ds : List Deferred}
theorem opg_in {o : Oper} {G : Value → List Asrt → List Chunk → Prop} (hop : OpG P w0 n o F A I G) {t : Array Value} {w : World} {K : Act → World → Prop} (hf : Fr t n F) (hs : St w0 w A I)
  (hk : ∀ w' v A' I', G v A' I' → St w0 w' A' I' → K (Act.put ⟨t, ds⟩ o.dst v) w') : o.wpIn (RF r) 0 P ⟨t, ds⟩ w K Q := by
 have hput : ∀ v, Act.put ⟨t, ds⟩ o.dst v = ⟨(Act.put ⟨t, []⟩ o.dst v).tmps, ds⟩ := fun v => by cases o.dst <;> rfl
 have hput0 : ∀ v, (Act.put ⟨t, []⟩ o.dst v).defers = [] := fun v => by cases o.dst <;> rfl
 have h := hop t w (fun a w' => a.defers = [] ∧ K ⟨a.tmps, ds⟩ w') (fun _ _ _ => False) hf hs (fun w' v A' I' hG hS => ⟨hput0 v, by rw [← hput]; exact hk w' v A' I' hG hS⟩)
 unfold Oper.wp at h
 have hev : Act.eval ⟨t, ds⟩ = Act.eval ⟨t, []⟩ := rfl
 refine ⟨fun _ _ => trivial, ?_⟩
 by_cases hd : ∃ c, o.op = .defer c
 ·obtain ⟨c, hc⟩ := hd
  exfalso
  unfold execOp at h
  rw [hc] at h
  simp only [Sem.run_bind] at h
  cases hr : (resolve (Act.eval ⟨t, []⟩) c o.type).run P w with
  | ok d w2 =>
   rw [hr] at h
   simp only [Result.andThen_ok, Sem.run_pure, Oper.upon] at h
   have h1 := h.1
   cases hdst : o.dst <;> rw [hdst] at h1 <;> cases h1
  | halt e w2 =>
   rw [hr] at h
   cases e <;> exact h
 ·rw [Oper.semAt_eq _ _ _ (fun c hc => hd ⟨c, hc⟩), hev]
  generalize (execOp (Act.eval ⟨t, []⟩) o).run P w = res at h ⊢
  cases res with
  | halt e w2 => cases e <;> exact h.elim
  | ok nx w2 =>
   cases nx with
   | value v =>
    simp only [Oper.upon, Oper.uponIn] at h ⊢
    rw [hput]; exact h.2
   | skip =>
    simp only [Oper.upon, Oper.uponIn] at h ⊢
    rw [hput]; exact h.2
   | defer d =>
    exfalso
    simp only [Oper.upon] at h
    have h1 := h.1
    cases hdst : o.dst <;> rw [hdst] at h1 <;> cases h1
   | enter f args =>
    simp only [Oper.upon, Oper.uponIn] at h ⊢
    refine ⟨fun hx => absurd hx rf_depth, callsIn_rf.2 (h.mono ?_)⟩
    intro e w3 he
    cases e with
    | returned v => simp only at he ⊢; rw [hput]; exact he.2
    | panicked c => exact he.elim
    | outgrown => obtain ⟨_, _, hx⟩ := he; exact hx.elim
   | row rw_ args =>
    simp only [Oper.upon, Oper.uponIn] at h ⊢
    exact ⟨fun hx => absurd hx rf_depth, rowsIn_rf (h.mono fun v w3 he => by rw [hput]; exact he.2)⟩
   | _ => exact h.elim
namespace Rd
/-! #### code -/
theorem tri_seq {x y : Code} (h : Tri w0 n F A I (XN ds (Code.wpIn (RF r) 0 P x (Exit.then (Code.wpIn (RF r) 0 P y Q) Q)))) : Tri w0 n F A I (XN ds (Code.wpIn (RF r) 0 P (.seq x y) Q)) := fun t w hf hs => wpIn_seq (h t w hf hs)
theorem tri_skip (h : Tri w0 n F A I (XN ds (Q .normal))) : Tri w0 n F A I (XN ds (Code.wpIn (RF r) 0 P .skip Q)) := fun t w hf hs => wpIn_skip (h t w hf hs)
theorem tri_exit {id : Nat} (h : Tri w0 n F A I (XN ds (Q (.exit id)))) : Tri w0 n F A I (XN ds (Code.wpIn (RF r) 0 P (.exit id) Q)) := fun t w hf hs => wpIn_exit (h t w hf hs)
theorem tri_ret (h : Tri w0 n F A I (XN ds (Q .ret))) : Tri w0 n F A I (XN ds (Code.wpIn (RF r) 0 P .ret Q)) := fun t w hf hs => wpIn_ret (h t w hf hs)
theorem tri_block {id : Nat} {c : Code} (h : Tri w0 n F A I (XN ds (Code.wpIn (RF r) 0 P c (Exit.inBlock id Q)))) : Tri w0 n F A I (XN ds (Code.wpIn (RF r) 0 P (.block id c) Q)) := fun t w hf hs => wpIn_block (h t w hf hs)
theorem tri_region {id : Nat} {l : List Oper} (h : Tri w0 n F A I (XN ds (wpListIn (RF r) 0 P l.toArray Q l))) : Tri w0 n F A I (XN ds (Code.wpIn (RF r) 0 P (.region id l.toArray false) Q)) := fun t w hf hs => wpIn_region_lit (h t w hf hs)
theorem tri_nil {ops : Array Oper} (h : Tri w0 n F A I (XN ds (Q .normal))) : Tri w0 n F A I (XN ds (wpListIn (RF r) 0 P ops Q [])) := h
theorem tri_then {K : Act → World → Prop} (h : Tri w0 n F A I (XN ds K)) : Tri w0 n F A I (XN ds (Exit.then K Q .normal)) := h
theorem tri_then_exit {K : Act → World → Prop} {id : Nat} (h : Tri w0 n F A I (XN ds (Q (.exit id)))) : Tri w0 n F A I (XN ds (Exit.then K Q (.exit id))) := h
theorem tri_then_ret {K : Act → World → Prop} (h : Tri w0 n F A I (XN ds (Q .ret))) : Tri w0 n F A I (XN ds (Exit.then K Q .ret)) := h
theorem tri_inBlock {id : Nat} (h : Tri w0 n F A I (XN ds (Q .normal))) : Tri w0 n F A I (XN ds (Exit.inBlock id Q .normal)) := h
theorem tri_inBlock_ret {id : Nat} (h : Tri w0 n F A I (XN ds (Q .ret))) : Tri w0 n F A I (XN ds (Exit.inBlock id Q .ret)) := h
theorem tri_inBlock_hit {id id' : Nat} (he : Nat.beq id' id = true) (h : Tri w0 n F A I (XN ds (Q .normal))) : Tri w0 n F A I (XN ds (Exit.inBlock id Q (.exit id'))) := by
 have : id' = id := Nat.eq_of_beq_eq_true he
 subst this
 intro t w hf hs
 simp only [XN, Exit.inBlock, if_true]
 exact h t w hf hs
theorem tri_inBlock_miss {id id' : Nat} (he : Nat.beq id' id = false) (h : Tri w0 n F A I (XN ds (Q (.exit id')))) : Tri w0 n F A I (XN ds (Exit.inBlock id Q (.exit id'))) := by
 have : id' ≠ id := Nat.ne_of_beq_eq_false he
 intro t w hf hs
 simp only [XN, Exit.inBlock, if_neg this]
 exact h t w hf hs
theorem tri_cond {c : Operand} {x y : Code} {b : Bool} (hc : ev F c = some (.bool b)) (ht : b = true → Tri w0 n F A I (XN ds (Code.wpIn (RF r) 0 P x Q))) (hf : b = false → Tri w0 n F A I (XN ds (Code.wpIn (RF r) 0 P y Q))) : Tri w0 n F A I (XN ds (Code.wpIn (RF r) 0 P (.cond c x y) Q)) :=
 fun t w hfr hs => wpIn_cond_split (hfr.eval hc) (fun h => ht h t w hfr hs) (fun h => hf h t w hfr hs)
theorem tri_cond_true {c : Operand} {x y : Code} (hc : ev F c = some (.bool true)) (ht : Tri w0 n F A I (XN ds (Code.wpIn (RF r) 0 P x Q))) : Tri w0 n F A I (XN ds (Code.wpIn (RF r) 0 P (.cond c x y) Q)) := tri_cond hc (fun _ => ht) (by simp)
theorem tri_cond_false {c : Operand} {x y : Code} (hc : ev F c = some (.bool false)) (hf : Tri w0 n F A I (XN ds (Code.wpIn (RF r) 0 P y Q))) : Tri w0 n F A I (XN ds (Code.wpIn (RF r) 0 P (.cond c x y) Q)) := tri_cond hc (by simp) (fun _ => hf)
theorem tri_cond_dec {c : Operand} {x y : Code} {p : Prop} [Decidable p] (hc : ev F c = some (.bool (decide p))) (ht : p → Tri w0 n F A I (XN ds (Code.wpIn (RF r) 0 P x Q))) (hf : ¬ p → Tri w0 n F A I (XN ds (Code.wpIn (RF r) 0 P y Q))) : Tri w0 n F A I (XN ds (Code.wpIn (RF r) 0 P (.cond c x y) Q)) :=
 tri_cond hc (fun h => ht (of_decide_eq_true h)) (fun h => hf (of_decide_eq_false h))
theorem tri_cond_is {c : Operand} {x y : Code} {p : Prop} [Decidable p] (hc : ev F c = some (.bool (decide p))) (hp : p) (ht : Tri w0 n F A I (XN ds (Code.wpIn (RF r) 0 P x Q))) : Tri w0 n F A I (XN ds (Code.wpIn (RF r) 0 P (.cond c x y) Q)) :=
 tri_cond_dec hc (fun _ => ht) (fun h => absurd hp h)
theorem tri_cond_not {c : Operand} {x y : Code} {p : Prop} [Decidable p] (hc : ev F c = some (.bool (decide p))) (hp : ¬ p) (hf : Tri w0 n F A I (XN ds (Code.wpIn (RF r) 0 P y Q))) : Tri w0 n F A I (XN ds (Code.wpIn (RF r) 0 P (.cond c x y) Q)) :=
 tri_cond_dec hc (fun h => absurd h hp) (fun _ => hf)
theorem tri_rounds {c : Code} (m : Nat) (h : Tri w0 n F A I (XN ds (Code.roundsIn (RF r) 0 P c Q m))) : Tri w0 n F A I (XN ds (Code.wpIn (RF r) 0 P (.loop c) Q)) := fun t w hf hs => wpIn_loop_rounds m (h t w hf hs)
theorem tri_round {c : Code} {m : Nat} (h : Tri w0 n F A I (XN ds (Code.wpIn (RF r) 0 P c (Exit.then (Code.roundsIn (RF r) 0 P c Q m) Q)))) : Tri w0 n F A I (XN ds (Code.roundsIn (RF r) 0 P c Q (m + 1))) := h
theorem loop_ind {G : Type} (μ : G → Nat) (pre : G → Prop) (Fg : G → Frm) (Ag : G → List Asrt) (Ig : G → List Chunk) {c : Code}
  (round : ∀ g, pre g → ∀ K : Act → World → Prop, (∀ g', pre g' → μ g' < μ g → Tri w0 n (Fg g') (Ag g') (Ig g') (XN ds K)) → Tri w0 n (Fg g) (Ag g) (Ig g) (XN ds (Code.wpIn (RF r) 0 P c (Exit.then K Q)))) (g : G) (hg : pre g) :
  Tri w0 n (Fg g) (Ag g) (Ig g) (XN ds (Code.wpIn (RF r) 0 P (.loop c) Q)) := by
 have key : ∀ m g, pre g → μ g < m → Tri w0 n (Fg g) (Ag g) (Ig g) (XN ds (Code.roundsIn (RF r) 0 P c Q m)) := by
  intro m
  induction m with
  | zero => intro g _ h; omega
  | succ m ih => intro g hg hm; exact round g hg _ fun g' hg' hlt => ih g' hg' (by omega)
 exact fun t w hf hs => wpIn_loop_rounds (μ g + 1) (key _ g hg (by omega) t w hf hs)
/-- A cut. -/
def cutQ (ds : List Deferred) (w0 : World) (n : Nat) (C : Frm → List Asrt → List Chunk → Prop) (Q : Exit → Act → World → Prop) : Exit → Act → World → Prop
 | .normal, a, w => ∃ F' A' I', C F' A' I' ∧ Fr a.tmps n F' ∧ a.defers = ds ∧ St w0 w A' I'
 | e, a, w => Q e a w
theorem tri_cut {c : Code} (C : Frm → List Asrt → List Chunk → Prop) (h : Tri w0 n F A I (XN ds (Code.wpIn (RF r) 0 P c (cutQ ds w0 n C Q)))) (k : ∀ F' A' I', C F' A' I' → Tri w0 n F' A' I' (XN ds (Q .normal))) : Tri w0 n F A I (XN ds (Code.wpIn (RF r) 0 P c Q)) := by
 intro t w hf hs
 refine Code.wpIn_mono ?_ (h t w hf hs)
 intro e a w q
 cases e with
 | normal =>
  obtain ⟨F', A', I', hC, hF, hd, hS⟩ := q
  obtain ⟨t', ds'⟩ := a
  simp only at hd hF
  subst hd
  exact k F' A' I' hC t' w hF hS
 | _ => exact q
theorem tri_cutEnd {C : Frm → List Asrt → List Chunk → Prop} (F' : Frm) (hC : C F' A I) (hs : Sub F' F) : Tri w0 n F A I (XN ds (cutQ ds w0 n C Q .normal)) := fun t w hf hst => ⟨F', A, I, hC, hf.sub hs, rfl, hst⟩
theorem tri_cut_exit {C : Frm → List Asrt → List Chunk → Prop} {id : Nat} (h : Tri w0 n F A I (XN ds (Q (.exit id)))) : Tri w0 n F A I (XN ds (cutQ ds w0 n C Q (.exit id))) := h
theorem tri_cut_ret {C : Frm → List Asrt → List Chunk → Prop} (h : Tri w0 n F A I (XN ds (Q .ret))) : Tri w0 n F A I (XN ds (cutQ ds w0 n C Q .ret)) := h
/-! #### operations, in a region of fixed order -/
section
variable {ops : Array Oper} {rest : List Oper} {d : Nat} {dst : Option Tmp} {ty : TypeId} {pos : String} {af : Array Edge} {gd : Option (Nat × Bool)}
theorem put_ds (t : Array Value) (ds : List Deferred) (dst : Option Tmp) (v : Value) : Act.put ⟨t, ds⟩ dst v = ⟨(Act.put ⟨t, []⟩ dst v).tmps, ds⟩ := by cases dst <;> rfl
theorem tri_g {G : Value → List Asrt → List Chunk → Prop} {op : Op} (hop : OpG P w0 n ⟨dst, op, ty, pos, af, none⟩ F A I G) (hn : dOk n ⟨dst, op, ty, pos, af, none⟩ = true)
  (k : ∀ v A' I', G v A' I' → Tri w0 n (putF dst v F) A' I' (XN ds (wpListIn (RF r) 0 P ops Q rest))) : Tri w0 n F A I (XN ds (wpListIn (RF r) 0 P ops Q (⟨dst, op, ty, pos, af, none⟩ :: rest))) := by
 intro t w hf hs
 refine wpListIn_plain rfl fun K hK => ?_
 refine opg_in hop hf hs fun w' v A' I' hG hs' => hK _ _ ?_
 have := k v A' I' hG _ _ (hf.putF (o := ⟨dst, op, ty, pos, af, none⟩) hn v) hs'
 simp only [XN] at this
 rw [put_ds]
 exact this
theorem tri_v {op : Op} {v : Value} (hop : OpV P w0 n ⟨some d, op, ty, pos, af, none⟩ F A I v) (hn : Nat.blt d n = true) (k : Tri w0 n ((d, v) :: F) A I (XN ds (wpListIn (RF r) 0 P ops Q rest))) : Tri w0 n F A I (XN ds (wpListIn (RF r) 0 P ops Q (⟨some d, op, ty, pos, af, none⟩ :: rest))) :=
 tri_g hop.toG hn fun v' A' I' h => by
  obtain ⟨rfl, rfl, rfl⟩ := h
  exact k
/-! ##### guards -/
theorem tri_guard_run {op : Op} {j dj : Nat} {b c : Bool} (hj : (ops[j]?).bind (·.dst) = some dj) (hv : look F dj = some (.bool b)) (hbc : (b == c) = true)
  (k : Tri w0 n F A I (XN ds (wpListIn (RF r) 0 P ops Q (⟨dst, op, ty, pos, af, none⟩ :: rest)))) : Tri w0 n F A I (XN ds (wpListIn (RF r) 0 P ops Q (⟨dst, op, ty, pos, af, some (j, c)⟩ :: rest))) := by
 intro t w hf hs
 have hy := yielded_of (ops := ops) hf hj hv
 have hbc' : b = c := by simpa using hbc
 subst hbc'
 have := k t w hf hs
 simp only [XN] at this ⊢
 unfold wpListIn at this ⊢
 rw [if_pos (by simp [Region.wanted])] at this
 rw [if_pos (by simp [Region.wanted, hy])]
 exact this
theorem tri_guard_skip {op : Op} {j dj : Nat} {b c : Bool} (hj : (ops[j]?).bind (·.dst) = some dj) (hv : look F dj = some (.bool b)) (hbc : (b == c) = false) (hn : dOk n ⟨dst, op, ty, pos, af, none⟩ = true)
  (k : Tri w0 n (putF dst undef F) A I (XN ds (wpListIn (RF r) 0 P ops Q rest))) : Tri w0 n F A I (XN ds (wpListIn (RF r) 0 P ops Q (⟨dst, op, ty, pos, af, some (j, c)⟩ :: rest))) := by
 intro t w hf hs
 have hy := yielded_of (ops := ops) hf hj hv
 simp only [XN]
 unfold wpListIn
 rw [if_neg (by simp [Region.wanted, hy]; simpa using hbc), put_ds]
 exact ⟨fun _ _ => trivial, k _ _ (hf.putF (o := ⟨dst, op, ty, pos, af, none⟩) hn undef) hs⟩
theorem tri_split {op : Op} {j dj : Nat} {c : Bool} {p : Prop} [Decidable p] (hj : (ops[j]?).bind (·.dst) = some dj) (hv : look F dj = some (.bool (decide p)))
  (ht : p → Tri w0 n ((dj, .bool true) :: F) A I (XN ds (wpListIn (RF r) 0 P ops Q (⟨dst, op, ty, pos, af, some (j, c)⟩ :: rest)))) (hf : ¬ p → Tri w0 n ((dj, .bool false) :: F) A I (XN ds (wpListIn (RF r) 0 P ops Q (⟨dst, op, ty, pos, af, some (j, c)⟩ :: rest)))) : Tri w0 n F A I (XN ds (wpListIn (RF r) 0 P ops Q (⟨dst, op, ty, pos, af, some (j, c)⟩ :: rest))) :=
 tri_bool_dec dj hv ht hf
theorem tri_true {op : Op} {j dj : Nat} {c : Bool} {p : Prop} [Decidable p] (hj : (ops[j]?).bind (·.dst) = some dj) (hv : look F dj = some (.bool (decide p))) (hp : p)
  (ht : Tri w0 n ((dj, .bool true) :: F) A I (XN ds (wpListIn (RF r) 0 P ops Q (⟨dst, op, ty, pos, af, some (j, c)⟩ :: rest)))) : Tri w0 n F A I (XN ds (wpListIn (RF r) 0 P ops Q (⟨dst, op, ty, pos, af, some (j, c)⟩ :: rest))) :=
 tri_bool_dec dj hv (fun _ => ht) (fun h => absurd hp h)
theorem tri_false {op : Op} {j dj : Nat} {c : Bool} {p : Prop} [Decidable p] (hj : (ops[j]?).bind (·.dst) = some dj) (hv : look F dj = some (.bool (decide p))) (hp : ¬ p)
  (ht : Tri w0 n ((dj, .bool false) :: F) A I (XN ds (wpListIn (RF r) 0 P ops Q (⟨dst, op, ty, pos, af, some (j, c)⟩ :: rest)))) : Tri w0 n F A I (XN ds (wpListIn (RF r) 0 P ops Q (⟨dst, op, ty, pos, af, some (j, c)⟩ :: rest))) :=
 tri_bool_dec dj hv (fun h => absurd h hp) (fun _ => ht)
/-! ##### a round -/
/-- The slots of a loop's left sides. -/
def putL : List Nat → List Value → Frm → Frm
 | d :: l, v :: vs, F => putL l vs ((d, v) :: F)
 | _, _, F => F
def allLt (n : Nat) : List Nat → Bool | [] => true | d :: l => Nat.blt d n && allLt n l
theorem fr_putL : ∀ (l : List Nat) (vs : List Value) (t : Array Value) (F : Frm), Fr t n F → allLt n l = true → Fr ((l.zip vs).foldl (fun t p => t.setIfInBounds p.1 p.2) t) n (putL l vs F)
 | [], vs, t, F, h, _ => by simpa [putL] using h
 | d :: l, [], t, F, h, _ => by simpa [putL] using h
 | d :: l, v :: vs, t, F, h, hl => by
  simp only [allLt, Bool.and_eq_true] at hl
  simp only [List.zip_cons_cons, List.foldl_cons, putL]
  exact fr_putL l vs _ _ (h.put d (Nat.le_of_ble_eq_true hl.1) v) hl.2
/-- What one round comes to: the record lp lies at l. -/
def RoundC (P : Program) (l : Nat) (lp : Loop) (vs : List Value) (A : List Asrt) (I : List Chunk) (R : Value → List Asrt → List Chunk → Prop) : Prop :=
 ∀ w0 w, St w0 w (Pt l (.loop lp) :: A) I → RoundIn (RF none) 0 P l lp.fn ((lp.params.zip vs.toArray).foldl (fun t (p : Tmp × Value) => t.setIfInBounds p.1 p.2) lp.tmps) lp.assign lp.body w fun e w' => ∃ v A' I', e = .returned v ∧ R v A' I' ∧ St w0 w' A' I'
/-- The end of a round. -/
def RoundEnds (P : Program) (l : Nat) (w0 : World) (R : Value → List Asrt → List Chunk → Prop) : Exit → Act → World → Prop :=
 roundPost P l fun e w' => ∃ v A' I', e = .returned v ∧ R v A' I' ∧ St w0 w' A' I'
theorem st_putObj {w : World} {l : Nat} {o : Obj} (h : St w0 w (Pt l o :: A) I) (o' : Obj) : St w0 (w.putObj l o') (Pt l o' :: A) I := by
 have hl : l < w.heap.size := (Array.getElem?_eq_some_iff.1 h.at).1
 exact h.set o' (w.heap.setIfInBounds l o') (by simp) (by simp [hl]) (fun k hk => by rw [Array.getElem?_setIfInBounds, if_neg (Ne.symm hk)])
theorem round_enter {l : Nat} {lp : Loop} {ps : List Nat} {vs : List Value} {R : Value → List Asrt → List Chunk → Prop} (C : Frm → List Asrt → List Chunk → Prop) (hps : lp.params = ps.toArray) (hrd : lp.state = .ready) (hlt : allLt n ps = true) (hfr : Fr lp.tmps n F)
  (h1 : ∀ w0, Tri w0 n (putL ps vs F) (Pt l (.loop lp) :: A) I (XN [] (Code.wpIn (RF (some l)) 0 P lp.assign (cutQ [] w0 n (fun F' A' I' => ∃ A'', A' = Pt l (.loop lp) :: A'' ∧ C F' A'' I') fun _ _ _ => False))))
  (h2 : ∀ w0 F' A'' I', C F' A'' I' → Tri w0 n F' (Pt l (.loop { lp with state := .busy }) :: A'') I' (XN [] (Code.wpIn (RF (some l)) 0 P lp.body (RoundEnds P l w0 R)))) :
  RoundC P l lp vs A I R := by
 intro w0 w hs
 have hfr' := fr_putL ps vs lp.tmps F hfr hlt
 have e : (lp.params.zip vs.toArray).foldl (fun t (p : Tmp × Value) => t.setIfInBounds p.1 p.2) lp.tmps = (ps.zip vs).foldl (fun t p => t.setIfInBounds p.1 p.2) lp.tmps := by
  rw [hps, List.zip_toArray, List.foldl_toArray]
 rw [e]
 refine roundIn_of_wpIn (F := RF none) trivial ?_
 have h := h1 w0 _ w hfr' hs
 refine Code.wpIn_mono ?_ h
 intro ex a w1 q
 cases ex with
 | normal =>
  obtain ⟨F', _, I', ⟨A'', rfl, hC⟩, hF, hd, hS⟩ := q
  have hT := h2 w0 F' A'' I' hC
  obtain ⟨t', ds'⟩ := a
  simp only at hd hF
  subst hd
  exact ⟨_, run_beginRound hS.at hrd, hT t' _ hF (st_putObj hS _)⟩
 | _ => exact q.elim
theorem round_normal {l : Nat} {lp : Loop} {R : Value → List Asrt → List Chunk → Prop} (h : R (.bool true) (Pt l (.loop { lp with state := .ready, pending := none }) :: A) I) : Tri w0 n F (Pt l (.loop lp) :: A) I (XN [] (RoundEnds P l w0 R .normal)) :=
 fun t w hf hs => ⟨_, _, run_endRound none hs.at, _, _, _, rfl, h, st_putObj hs _⟩
theorem round_exit {l id : Nat} {lp : Loop} {R : Value → List Asrt → List Chunk → Prop} (h : R (.bool false) (Pt l (.loop { lp with state := .done, pending := some (.exit id) }) :: A) I) : Tri w0 n F (Pt l (.loop lp) :: A) I (XN [] (RoundEnds P l w0 R (.exit id))) :=
 fun t w hf hs => ⟨_, _, run_endRound (some (.exit id)) hs.at, _, _, _, rfl, h, st_putObj hs _⟩
/-- A call of yield. -/
theorem tri_yield {l : Nat} {lp : Loop} {x : Operand} {xs : List Operand} {vs : List Value} {ats : Array TypeId} {R : Value → List Asrt → List Chunk → Prop} (hx : ev F x = some (.func (.yield l) #[] #[])) (hxs : xs.map (ev F) = vs.map some) (hsz : vs.length = lp.params.size) (hR : RoundC P l lp vs A I R)
  (hn : dOk n ⟨dst, .call ⟨.value x, xs.toArray, ats⟩, ty, pos, af, none⟩ = true)
  (k : ∀ v A' I', R v A' I' → Tri w0 n (putF dst v F) A' I' (XN ds (wpListIn (RF none) 0 P ops Q rest))) :
  Tri w0 n F (Pt l (.loop lp) :: A) I (XN ds (wpListIn (RF none) 0 P ops Q (⟨dst, .call ⟨.value x, xs.toArray, ats⟩, ty, pos, af, none⟩ :: rest))) := by
 intro t w hf hs
 refine wpListIn_plain rfl fun K hK => ?_
 refine ⟨fun _ _ => trivial, ?_⟩
 have hl : #[] ++ vs.toArray ++ #[] = vs.toArray := by simp
 have hrun : (execOp (Act.eval ⟨t, ds⟩) ⟨dst, .call ⟨.value x, xs.toArray, ats⟩, ty, pos, af, none⟩).run P w = .ok (.round l lp.fn ((lp.params.zip vs.toArray).foldl (fun t (p : Tmp × Value) => t.setIfInBounds p.1 p.2) lp.tmps) lp.assign lp.body) w := by
  have hy := run_yield (P := P) (args := vs.toArray) hs.at (by simpa using hsz)
  simp only [execOp, resolve, show Act.eval ⟨t, ds⟩ x = _ from hf.eval hx, Deferred.ofValue, show xs.toArray.map (Act.eval ⟨t, ds⟩) = vs.toArray from evs hf hxs, Sem.run_bind, Sem.run_pure, Result.andThen_ok, invoke, Array.append_empty]
  rw [show #[] ++ vs.toArray = vs.toArray by simp]
  exact hy
 rw [show (RF none).round = none from rfl, Oper.semAt_none, hrun, Oper.uponIn_round]
 refine ⟨fun hx => absurd hx rf_depth, (hR w0 w hs).mono ?_⟩
 rintro e w' ⟨v, A', I', rfl, hR', hs'⟩
 simp only
 rw [put_ds]
 exact hK _ _ (k v A' I' hR' _ _ (hf.putF (o := ⟨dst, .call ⟨.value x, xs.toArray, ats⟩, ty, pos, af, none⟩) hn v) hs')
/-! #### the statement -/
/-- The mark of the rounds' deferred calls. -/
def mark (b : Nat) : Deferred := { target := .collected b, args := #[] }
/-- What the function that is ranged over leaves: the record, and the pending jump. -/
def RangeR (l b : Nat) (C : Option Code → List Asrt → List Chunk → Prop) : Value → List Asrt → List Chunk → Prop :=
 fun _ A' I' => ∃ lp A'', A' = Pt l (.loop lp) :: Pt b (.deferred (some [])) :: A'' ∧ lp.state ≠ .busy ∧ C lp.pending A'' I'
theorem tri_range {f : FuncId} {g : Operand} {ps : Array Tmp} {assign body : Code} {lb : List Value} (C : Option Code → List Asrt → List Chunk → Prop) [hfi : FnI P f] (hg : ev F g = some (.func (.func f) #[] lb.toArray))
  (hc : ∀ l b fnn tm df, Fr tm n F → FnC P f (.func (.yield l) #[] #[] :: lb).toArray (Pt l (.loop ⟨.ready, none, fnn, tm, ps, assign, body, df⟩) :: Pt b (.deferred (some [])) :: A) I (RangeR l b C))
  (hC : ∀ j A' I', C j A' I' → j = none ∨ ∃ id, j = some (.exit id))
  (k : ∀ l b lp A' I', C none A' I' → Tri w0 n F (Pt l (.loop lp) :: Pt b (.deferred (some [])) :: A') I' (XN [mark b] (Q .normal)))
  (kx : ∀ l b lp id A' I', C (some (.exit id)) A' I' → Tri w0 n F (Pt l (.loop lp) :: Pt b (.deferred (some [])) :: A') I' (XN [mark b] (Q (.exit id)))) :
  Tri w0 n F A I (XN [] (Code.wpIn (RF none) 0 P (.rangeFunc g ps assign body) Q)) := by
 intro t w hf hs
 refine wpIn_rangeFunc fun fnn _ => ?_
 obtain ⟨fn, h1, h2, h3⟩ := hfi.fn
 have s1 := hs.alloc (.deferred (some []))
 have s2 := s1.alloc (.loop { state := .ready, pending := none, fn := fnn, tmps := t, params := ps, assign := assign, body := body, defers := w.heap.size })
 have hsz : (w.alloc (.deferred (some []))).heap.size = w.heap.size + 1 := by rw [World.size_alloc]
 rw [hsz] at s2
 obtain ⟨W2, hW2⟩ : ∃ W2, W2 = (w.alloc (.deferred (some []))).alloc (.loop { state := .ready, pending := none, fn := fnn, tmps := t, params := ps, assign := assign, body := body, defers := w.heap.size }) := ⟨_, rfl⟩
 rw [← hW2] at s2
 refine ⟨w.heap.size + 1, [mark w.heap.size], W2, ⟨.fn (.func f) lb.toArray, #[.func (.yield (w.heap.size + 1)) #[] #[]]⟩, W2, f, (.func (.yield (w.heap.size + 1)) #[] #[] :: lb).toArray, W2, by rw [hW2]; exact run_enterLoop_outer fnn t ps assign body, ?_, fun _ _ => trivial, ?_, fun hx => absurd hx rf_depth, ?_⟩
 ·have he := hf.eval (ds := []) hg
  simp only [resolve, rangeCall, he, Deferred.ofValue, Sem.run_bind, Sem.run_pure, Result.andThen_ok]
  simp [Act.eval]
 ·have hl : #[Value.func (.yield (w.heap.size + 1)) #[] #[]] ++ lb.toArray = (Value.func (.yield (w.heap.size + 1)) #[] #[] :: lb).toArray := by simp
  simp only [invoke, callFunc, Sem.run_bind, run_program, Result.andThen_ok, h1, h2, h3, hl]
  rfl
 ·refine callsIn_rf.2 ((hc _ _ _ _ _ hf w0 _ s2).mono ?_)
  rintro e w' ⟨v, A', I', rfl, ⟨lp, A'', rfl, hst, hCC⟩, hs'⟩
  refine ⟨lp.pending, _, run_endLoop hs'.at hst, ?_⟩
  have hs2 := st_putObj hs' (.loop { lp with state := .exhausted })
  obtain ⟨st, pd, f0, t0, p0, as0, bd0, df0⟩ := lp
  simp only at hCC hs2 ⊢
  rcases hC _ _ _ hCC with rfl | ⟨id, rfl⟩
  ·exact k _ _ _ _ _ hCC t _ hf hs2
  ·exact wpIn_exit (kx _ _ _ id _ _ hCC t _ hf hs2)
end
/-! #### functions -/
/-- The post of a body. -/
def Ends (P : Program) (fn : Func) (w0 : World) (R : Value → List Asrt → List Chunk → Prop) : Exit → Act → World → Prop :=
 bodyPostM (RF none) 0 P fn fun e w' => ∃ v A' I', e = .returned v ∧ R v A' I' ∧ St w0 w' A' I'
theorem fn_enter {f : FuncId} {fn : Func} {c : Code} {args : List Value} {R : Value → List Asrt → List Chunk → Prop} {m : Nat} (hf : P.funcs[f]? = some fn) (hb : fn.body = some c) (hn : fn.ntmps = m) (hle : Nat.ble args.length m = true)
  (h : ∀ w0, Tri w0 m (argF args 0) A I (XN [] (Code.wpIn (RF none) 0 P c (Ends P fn w0 R)))) : FnC P f args.toArray A I R := by
 intro w0 w hs
 have hle' := Nat.le_of_ble_eq_true hle
 refine callsIn_rf.1 (callsIn_of_wp_marks (F := RF none) (n := 0) hf hb trivial (h w0 _ w ⟨?_, ?_⟩ hs))
 ·simp only [Array.size_append, Array.size_replicate, List.size_toArray, hn]; omega
 ·refine fr_of_args args _ 0 (fun i v hi => ?_)
  have hlt : i < args.length := (List.getElem?_eq_some_iff.1 hi).1
  rw [Nat.zero_add, Array.getElem?_append, if_pos (by simpa using hlt)]
  simpa using hi
section
variable {f : FuncId} {fn : Func} {c : Code} {R : Value → List Asrt → List Chunk → Prop} {m : Nat} (hf : P.funcs[f]? = some fn) (hb : fn.body = some c) (hn : fn.ntmps = m)
include hf hb hn
theorem fn_enter1 {a : Value} (hle : Nat.ble 1 m = true) (h : ∀ w0, Tri w0 m [(0, a)] A I (XN [] (Code.wpIn (RF none) 0 P c (Ends P fn w0 R)))) : FnC P f [a].toArray A I R := fn_enter (args := [a]) hf hb hn hle h
theorem fn_enter2 {a b : Value} (hle : Nat.ble 2 m = true) (h : ∀ w0, Tri w0 m [(0, a), (1, b)] A I (XN [] (Code.wpIn (RF none) 0 P c (Ends P fn w0 R)))) : FnC P f [a, b].toArray A I R := fn_enter (args := [a, b]) hf hb hn hle h
theorem fn_enter3 {a b d : Value} (hle : Nat.ble 3 m = true) (h : ∀ w0, Tri w0 m [(0, a), (1, b), (2, d)] A I (XN [] (Code.wpIn (RF none) 0 P c (Ends P fn w0 R)))) : FnC P f [a, b, d].toArray A I R := fn_enter (args := [a, b, d]) hf hb hn hle h
end
theorem end_ret {fn : Func} {rs : List ResultVar} {vs : List Value} {R : Value → List Asrt → List Chunk → Prop} (B : List Asrt) (hA : ∃ Am, A = Am ++ B) (hres : fn.results = rs.toArray) (h : RVs P w0 n F A I rs vs) (hR : R (retV vs) B I) {t : Array Value} {w : World} (hf : Fr t n F) (hs : St w0 w A I) :
  LeavesInM (RF none) 0 P fn t (fun e w' => ∃ v A' I', e = .returned v ∧ R v A' I' ∧ St w0 w' A' I') [] .returning w := by
 obtain ⟨Am, rfl⟩ := hA
 exact ⟨retV vs, run_results hres h hf hs, _, B, I, rfl, hR, hs.suffix⟩
theorem tri_end {fn : Func} {rs : List ResultVar} {vs : List Value} {R : Value → List Asrt → List Chunk → Prop} (B : List Asrt) (hA : ∃ Am, A = Am ++ B) (hres : fn.results = rs.toArray) (h : RVs P w0 n F A I rs vs) (hR : R (retV vs) B I) : Tri w0 n F A I (XN [] (Ends P fn w0 R .ret)) :=
 fun t w hf hs => end_ret B hA hres h hR hf hs
theorem tri_end_n {fn : Func} {rs : List ResultVar} {vs : List Value} {R : Value → List Asrt → List Chunk → Prop} (B : List Asrt) (hA : ∃ Am, A = Am ++ B) (hres : fn.results = rs.toArray) (h : RVs P w0 n F A I rs vs) (hR : R (retV vs) B I) : Tri w0 n F A I (XN [] (Ends P fn w0 R .normal)) :=
 fun t w hf hs => end_ret B hA hres h hR hf hs
/-- With the rounds' deferred calls: there are none. -/
theorem tri_endM {fn : Func} {rs : List ResultVar} {vs : List Value} {b : Nat} {R : Value → List Asrt → List Chunk → Prop} (B : List Asrt) (hA : ∃ Am, A = Am ++ B) (hres : fn.results = rs.toArray) (h : RVs P w0 n F (Pt b (.deferred none) :: A) I rs vs) (hR : R (retV vs) B I) : Tri w0 n F (Pt b (.deferred (some [])) :: A) I (XN [mark b] (Ends P fn w0 R .ret)) := by
 intro t w hf hs
 refine ⟨fun h => (by cases h), .inl ⟨b, _, rfl, run_takeDeferred hs.at, ?_⟩⟩
 obtain ⟨Am, rfl⟩ := hA
 exact end_ret B ⟨Pt b (.deferred none) :: Am, rfl⟩ hres h hR hf (st_putObj hs _)
theorem tri_endM_n {fn : Func} {rs : List ResultVar} {vs : List Value} {b : Nat} {R : Value → List Asrt → List Chunk → Prop} (B : List Asrt) (hA : ∃ Am, A = Am ++ B) (hres : fn.results = rs.toArray) (h : RVs P w0 n F (Pt b (.deferred none) :: A) I rs vs) (hR : R (retV vs) B I) : Tri w0 n F (Pt b (.deferred (some [])) :: A) I (XN [mark b] (Ends P fn w0 R .normal)) := by
 intro t w hf hs
 refine ⟨fun h => (by cases h), .inl ⟨b, _, rfl, run_takeDeferred hs.at, ?_⟩⟩
 obtain ⟨Am, rfl⟩ := hA
 exact end_ret B ⟨Pt b (.deferred none) :: Am, rfl⟩ hres h hR hf (st_putObj hs _)
end Rd
end
end Go.GL

set_option linter.unusedVariables false
namespace Go.GL
open Enc (enc)
/-! ### An element of a row is written -/
theorem encs_splice {α : Type} [Enc α] [Inhabited α] {vs : List Value} {x' : α} {fo : Nat} : ∀ {xs : List α} {i : Nat}, i < xs.length → spl (enc (xs.getD i default)) fo vs = some (enc x') →
  (encs xs).take (i * Enc.sz α + fo) ++ vs ++ (encs xs).drop (i * Enc.sz α + fo + vs.length) = encs (xs.set i x')
 | [], i, hi, h => absurd hi (by simp)
 | x :: xs, 0, hi, h => by
  obtain ⟨h1, h2⟩ := spl_spec h
  simp only [List.getD_cons_zero] at h1 h2
  rw [Nat.zero_mul, Nat.zero_add, encs_cons, List.set_cons_zero, encs_cons, h2, List.take_append_of_le_length (by omega), List.drop_append_of_le_length (by omega)]
  simp
 | x :: xs, i + 1, hi, h => by
  have ih := encs_splice (xs := xs) (i := i) (by simpa using hi) (by simpa using h)
  have hl : (enc x).length = Enc.sz α := Enc.hlen x
  have e : (i + 1) * Enc.sz α + fo = (enc x).length + (i * Enc.sz α + fo) := by rw [hl, Nat.succ_mul]; omega
  rw [encs_cons, List.set_cons_succ, encs_cons, e, List.take_length_add_append, Nat.add_assoc, List.drop_length_add_append, ← ih]
  simp
section
variable {w0 : World} {n : Nat} {F : Frm} {A : List Asrt} {I : List Chunk} {P : Program}
variable {dst : Option Tmp} {ty : TypeId} {pos : String} {af : Array Edge} {gd : Option (Nat × Bool)} {x y : Operand} {t E : TypeId} {d : TypeDesc} {s by_ : Nat} {z : List Value} {a : Option Addr} {len cap : Nat}
/-- Into an element, or a part of it. -/
theorem opg_storeRX {α : Type} [Enc α] [Inhabited α] {xs : List α} (x' : α) {i fo sz : Nat} {v : Value} {vs : List Value} {u : Asrt → List Asrt} [SelR A a cap len E sz (encs xs) u] [TyI P t d s by_ z] (hx : ev F x = some (epf a sz i fo)) (hy : ev F y = some v) (hz : Enc.sz α = sz) (hi : i < xs.length) (hl : len = xs.length)
  (hv : v.cells = vs.toArray) (hls : vs.length = s) (h0 : Nat.blt 0 s = true) (h : spl (enc (xs.getD i default)) fo vs = some (enc x')) :
  OpG P w0 n ⟨dst, .store t x y, ty, pos, af, gd⟩ F A I (fun _ A' I' => A' = u (Row a cap len E sz (encs (xs.set i x'))) ∧ I = I') := by
 have hspec := spl_spec h
 have hel : (enc (xs.getD i default)).length = Enc.sz α := Enc.hlen _
 have h1 : vs.all (·.oneCell') = true := by
  have := Enc.one x'
  rw [hspec.2] at this
  simp only [List.all_append, Bool.and_eq_true] at this
  exact this.1.2
 refine (opg_storeR (a := a) hx hy hv hls h1 h0 (by omega) (by omega)).mono fun v' A' I' ⟨e1, e2⟩ => ⟨?_, e2⟩
 rw [e1]
 congr 2
 rw [← hz, ← hls, encs_splice hi h]
/-- Where a slice begins that leaves out the first l. -/
def loA (a : Option Addr) (cap l s : Nat) : Option Addr := if cap = l then a else a.map fun q => q.add (l * s)
theorem opv_sliceLo {α : Type} [Enc α] {xs : List α} {lo : Operand} {k : IntKind} {l : Int} {t e : TypeId} {d' : TypeDesc} {s by_ s' by' : Nat} {z z' : List Value} [TyI P t (.slice e) s by_ z] [TyI P e d' s' by' z'] (hx : ev F x = some (.slice a len cap)) (hh : ev F lo = some (.int k l)) (h0 : 0 ≤ l) (h1 : l ≤ len) (hs : StA I a cap xs) (hl : len = xs.length) :
  OpV P w0 n ⟨dst, .slice t x (some lo) none none, ty, pos, af, gd⟩ F A I (.slice (loA a cap l.toNat s') (xs.drop l.toNat).length (cap - l.toNat)) := by
 intro tt w hf hst
 have hle := hs.le
 have hlen : (xs.drop l.toNat).length = len - l.toNat := by rw [List.length_drop]; omega
 rw [hlen]
 simp [execOp, hf.eval hx, hf.eval hh, Instr.sliceAt, Instr.slice, run_und (P := P) (t := t), Instr.sliceBounds, Instr.sliceBound, asIntOf, h0, h1, run_size (P := P) (t := e), loA]
theorem StA.lo {α : Type} [Enc α] {xs : List α} (hs : StA I a cap xs) {l s : Nat} (h1 : l ≤ xs.length) (hz : Enc.sz α = s) : StA I (loA a cap l s) (cap - l) (xs.drop l) := by
 have hle := hs.le
 have hlen : (xs.drop l).length = xs.length - l := by rw [List.length_drop]
 refine ⟨?_, by rw [hlen]; omega⟩
 unfold loA
 split
 ·left
  exact List.drop_of_length_le (by omega)
 ·rcases hs.sl with rfl | ⟨b, off, rfl, cs, T, fz, hm, hc⟩
  ·exact .inl (by simp)
  ·refine .inr ⟨b, off + l * s, by simp [add_pt], cs, T, fz, hm, fun j v hj => ?_⟩
   rw [encs_drop xs (by omega), hz] at hj
   rw [Nat.add_assoc]
   exact hc _ _ hj
/-- An entry of a map's literal. -/
theorem opg_insert {b : Nat} {kt e : TypeId} {es : KVs} {k : Nat} {u : KVs → List Asrt} {ks : List Int} {vk v : Value} {ym : Operand} [SelM P A b kt es u] [TyI P t (.map kt e) s by_ z] (hx : ev F x = some (.map (some b))) (hy : ev F y = some vk) (hv : ev F ym = some v) (hk : vk = mkv P kt ks) (hi : intAt P 9 kt = some k) (hl : ks.length = k) :
  OpG P w0 n ⟨dst, .insert t x y ym, ty, pos, af, gd⟩ F A I (fun _ A' I' => A' = u (mset es ks v) ∧ I = I') :=
 fun tt w K Q hf hs hk' => opg_mapUpdate (P := P) (dst := dst) (ty := ty) (pos := pos) (af := af) (gd := gd) (t := t) hx hy hv hk hi hl tt w K Q hf hs hk'
/-- A slice that is nil has no elements. -/
theorem tri_rowSome {α : Type} [Enc α] {xs : List α} {K : Act → World → Prop} (hz : Nat.beq (Enc.sz α) 0 = false) (h : (a = none → xs = []) → Tri w0 n F (Row a cap len E (Enc.sz α) (encs xs) :: A) I K) : Tri w0 n F (Row a cap len E (Enc.sz α) (encs xs) :: A) I K := by
 intro t w hf hs
 have h2 := hs
 obtain ⟨cs, h1, _⟩ := hs
 obtain ⟨c, cs', rfl, ⟨hl, ha⟩, hr⟩ := h1.cons_inv
 refine h (fun e => ?_) t w hf h2
 rcases ha with ⟨_, _, h3, _⟩ | ⟨b, cur, h3, _⟩
 ·rw [encs_length, h3, Nat.zero_mul] at hl
  rcases Nat.mul_eq_zero.1 hl with h4 | h4
  ·exact List.length_eq_zero_iff.1 h4
  ·rw [h4] at hz; cases hz
 ·rw [e] at h3; cases h3
end
end Go.GL

set_option linter.unusedVariables false
namespace Go.GL
open Go.Proofs
attribute [local irreducible] wpList Code.wp Exit.then Exit.inBlock Ends Tri TriH OpV OpG FnC epf wpAnyH
variable {A : List Asrt} {I : List Chunk}
set_option maxRecDepth 100000 in
theorem slices_containsFunc {l : List Int} {p : Int → Bool} {f : FuncId} {ca : List Value} {a : Option Addr} {cap : Nat} [FnI Try.prog f] (hp : ∀ x ∈ l, FnC Try.prog f ([] ++ [Value.int .i64 x] ++ ca).toArray A I (fun v A' I' => v = .bool (p x) ∧ A = A' ∧ I = I')) (hs : SlAt I a l) (hn : l.length ≤ 1000000000) :
  FnC Try.prog 35 [.slice a l.length cap, .func (.func f) #[] ca.toArray].toArray A I (fun v A' I' => v = .bool (decide (0 ≤ R11.idx p l)) ∧ A = A' ∧ I = I') := by
 refine fn_enter2 Try.func35 rfl Try.ntmps35 rfl fun w0 => ?_
 refine tS (tR (tA rfl rfl (tN (tT (tS (tR (tM rfl rfl ?_)))))))
 refine tM rfl rfl ?_
 refine tri_g (opg_call (xs := [_, _]) rfl (slices_indexFunc hp hs hn)) rfl ?_
 rintro _ _ _ ⟨rfl, rfl, rfl⟩
 refine tri_v (opv_geq rfl rfl) rfl ?_
 refine tA rfl rfl (tN (tT (tri_ret ?_)))
 refine tri_end A Suf.h rfl (.cons (rv_tmp rfl) .nil) ⟨rfl, rfl, rfl⟩
theorem idx_any {p : Int → Bool} {l : List Int} : 0 ≤ R11.idx p l ↔ ∃ i, i < l.length ∧ p (l.getD i default) = true := by
 constructor
 ·intro h
  obtain ⟨h1, h2, _⟩ := R11.idx_some h
  exact ⟨_, h1, h2⟩
 ·rintro ⟨i, h1, h2⟩
  apply Decidable.byContradiction
  intro h
  have := R11.idx_none h _ (R11.getD_mem h1)
  rw [h2] at this
  cases this
set_option maxRecDepth 100000 in
theorem live_clo {ns ns2 : List Node} {a a2 : Option Addr} {cap cap2 bx mb b : Nat} {room room2 n : Int} {es : KVs} {T : TypeId} {X : Asrt} :
  FnC Try.prog 36 [.int .i64 n, pt b 0].toArray (IxA bx mb a cap ns room es (X :: Box b [.slice a2 ns2.length cap2, .int .i64 room2] T :: A)) I (fun v A' I' => v = .bool (decide (n < 0 ∨ (ns2.length : Int) ≤ n)) ∧ IxA bx mb a cap ns room es (X :: Box b [.slice a2 ns2.length cap2, .int .i64 room2] T :: A) = A' ∧ I = I') := by
 refine fn_enter2 Try.func36 rfl Try.ntmps36 rfl fun w0 => ?_
 refine tS (tR (tA rfl rfl (tN (tT (tS (tR (tM rfl rfl ?_)))))))
 refine tri_v (opv_lss rfl rfl) rfl ?_
 refine tM rfl rfl ?_
 refine tri_split rfl rfl (fun h => ?_) (fun h => ?_)
 ·refine tri_guard_skip rfl rfl rfl rfl (tri_guard_skip rfl rfl rfl rfl (tri_guard_skip rfl rfl rfl rfl (tri_guard_skip rfl rfl rfl rfl (tri_guard_skip rfl rfl rfl rfl ?_))))
  refine tri_v (by first | exact opv_pick_t rfl rfl | exact opv_pick_f rfl rfl | exact opv_pick_bool rfl rfl rfl | exact opv_pick rfl rfl rfl) rfl ?_
  refine tA rfl rfl (tN (tT (tri_ret ?_)))
  refine tri_end _ (by first | exact ⟨[], rfl⟩ | exact ⟨[_], rfl⟩ | exact ⟨[_, _], rfl⟩ | exact ⟨[_, _, _], rfl⟩ | exact ⟨[_, _, _, _], rfl⟩ | exact ⟨[_, _, _, _, _], rfl⟩ | exact ⟨[_, _, _, _, _, _], rfl⟩ | exact ⟨[_, _, _, _, _, _, _], rfl⟩ | exact ⟨[_, _, _, _, _, _, _, _], rfl⟩) rfl (.cons (rv_tmp rfl) .nil) ⟨?_, rfl, rfl⟩
  exact congrArg Value.bool (decide_eq_true (Or.inl h)).symm
 ·refine tri_guard_run rfl rfl rfl (tM rfl rfl (tri_guard_run rfl rfl rfl ?_))
  refine tri_v (by first | exact opv_fieldAddr rfl rfl | exact opv_fieldAddrE rfl (by assumption) (by omega) rfl | exact opv_fieldAddrR rfl (by omega) rfl) rfl ?_
  refine tri_guard_run rfl rfl rfl ?_
  refine tri_v (by first | exact opv_load1 rfl rfl rfl | exact opv_loadA rfl rfl rfl | exact opv_loadE1 rfl (by assumption) rfl (by omega) rfl rfl | exact opv_loadEA rfl (by assumption) rfl (by omega) rfl rfl | exact opv_loadRX1 rfl rfl (by omega) rfl rfl | exact opv_loadRXA rfl rfl (by omega) rfl rfl rfl | exact opv_loadIX rfl rfl (by omega) | exact opv_loadR1 rfl rfl rfl | exact opv_loadRA rfl rfl rfl rfl) rfl ?_
  refine tri_guard_run rfl rfl rfl ?_
  refine tri_v (opv_len rfl) rfl ?_
  refine tri_guard_run rfl rfl rfl ?_
  refine tri_v (opv_geq rfl rfl) rfl ?_
  refine tri_v (by first | exact opv_pick_t rfl rfl | exact opv_pick_f rfl rfl | exact opv_pick_bool rfl rfl rfl | exact opv_pick rfl rfl rfl) rfl ?_
  refine tA rfl rfl (tN (tT (tri_ret ?_)))
  refine tri_end _ (by first | exact ⟨[], rfl⟩ | exact ⟨[_], rfl⟩ | exact ⟨[_, _], rfl⟩ | exact ⟨[_, _, _], rfl⟩ | exact ⟨[_, _, _, _], rfl⟩ | exact ⟨[_, _, _, _, _], rfl⟩ | exact ⟨[_, _, _, _, _, _], rfl⟩ | exact ⟨[_, _, _, _, _, _, _], rfl⟩ | exact ⟨[_, _, _, _, _, _, _, _], rfl⟩) rfl (.cons (rv_tmp rfl) .nil) ⟨?_, rfl, rfl⟩
  exact congrArg Value.bool (decide_eq_decide.2 ⟨Or.inr, fun hx => hx.resolve_left h⟩)
set_option maxRecDepth 100000 in
theorem slices_backward {a : Option Addr} {len cap : Nat} :
  FnC Try.prog 37 [.slice a len cap].toArray A I (fun v A' I' => ∃ b, v = .func (.func 42) #[] #[pt b 0] ∧ A' = Box b [.slice a len cap] 23 :: A ∧ I = I') := by
 skip
 refine fn_enter1 Try.func37 rfl Try.ntmps37 rfl fun w0 => ?_
 refine tS (tR ?_)
 first | refine tri_g (opg_box_agg rfl) rfl ?_ | refine tri_g (opg_box1 rfl rfl) rfl ?_
 rintro _ _ _ ⟨b1, rfl, rfl, rfl⟩
 refine tA rfl rfl (tN (tT (tS (tR ?_))))
 refine tri_v (opv_makeFunc (fs := []) (cs := [_]) (vf := []) (vc := [_]) rfl rfl) rfl ?_
 refine tA rfl rfl (tN (tT (tri_ret ?_)))
 refine tri_end _ (by first | exact ⟨[], rfl⟩ | exact ⟨[_], rfl⟩ | exact ⟨[_, _], rfl⟩ | exact ⟨[_, _, _], rfl⟩ | exact ⟨[_, _, _, _], rfl⟩ | exact ⟨[_, _, _, _, _], rfl⟩ | exact ⟨[_, _, _, _, _, _], rfl⟩ | exact ⟨[_, _, _, _, _, _, _], rfl⟩ | exact ⟨[_, _, _, _, _, _, _, _], rfl⟩) rfl (.cons (rv_tmp rfl) .nil) ⟨b1, rfl, rfl, rfl⟩
theorem keyI (i : Int) : Value.int .i64 i = mkv Try.prog 3 [i] := by kernel_rfl
theorem keyIAt : intAt Try.prog 9 3 = some 1 := by kernel_rfl
theorem zeroE (w : World) : (zeroValue 67).run Try.prog w = .ok (.agg #[]) w := by kernel_rfl
/-- The keys of a map are those that are kept. -/
structure KeepIx (es : KVs) (keep : List Bool) : Prop where
 ix : ∀ i : Nat, i < keep.length → (mfind es [(i : Int)]).isSome = keep.getD i default
 val : ∀ k v, mfind es k = some v → v = .agg #[]
theorem KeepIx.set {es : KVs} {keep : List Bool} (h : KeepIx es keep) {q : Int} (hq : 0 ≤ q ∧ q < keep.length) : KeepIx (mset es [q] (.agg #[])) (keep.set q.toNat true) := by
 constructor
 ·intro i hi
  rw [List.length_set] at hi
  rw [mfind_mset, List.getD_eq_getElem?_getD, List.getElem?_set]
  by_cases e : q = (i : Int)
  ·rw [if_pos (by rw [e]), if_pos (by omega), if_pos (by omega)]
   rfl
  ·rw [if_neg (fun hx => e (by injection hx)), if_neg (by omega), ← List.getD_eq_getElem?_getD]
   exact h.ix i hi
 ·intro k v hv
  rw [mfind_mset] at hv
  split at hv
  ·injection hv with hv
   exact hv.symm
  ·exact h.val k v hv
theorem KeepIx.get {es : KVs} {keep : List Bool} (h : KeepIx es keep) (k : List Int) : (mfind es k).getD (.agg #[]) = .agg #[] := by
 cases hm : mfind es k with
 | none => rfl
 | some v => exact h.val k v hm
theorem KeepIx.start {n : Nat} (h : 2 ≤ n) : KeepIx (mset (mset [] [0] (.agg #[])) [1] (.agg #[])) (((List.replicate n false).set 0 true).set 1 true) := by
 have h0 : KeepIx [] (List.replicate n false) := ⟨fun i hi => by
  rw [List.length_replicate] at hi
  rw [List.getD_eq_getElem?_getD, List.getElem?_replicate, if_pos hi]
  rfl, fun k v hv => by cases hv⟩
 exact (h0.set (q := 0) (by rw [List.length_replicate]; omega)).set (q := 1) (by rw [List.length_set, List.length_replicate]; omega)
end Go.GL

set_option linter.unusedVariables false
namespace Go.GL.Rd
open Go.Proofs
attribute [local irreducible] wpListIn Code.wpIn Exit.then Exit.inBlock Ends Tri OpV OpG FnC epf XN RoundC Go.GL.Ends
variable {A : List Asrt} {I : List Chunk}
theorem tri_mid3 {w0 : World} {n : Nat} {F : Frm} {p x1 x2 x3 : Asrt} {L : List Asrt} {K : Act → World → Prop} (h : Tri w0 n F (p :: (L ++ x1 :: x2 :: x3 :: A)) I K) : Tri w0 n F (p :: x1 :: x2 :: x3 :: (L ++ A)) I K :=
 tri_perm (B := p :: (L ++ x1 :: x2 :: x3 :: A)) (List.Perm.cons _ (List.perm_append_comm_assoc [x1, x2, x3] L A)) h
theorem tri_mid3' {w0 : World} {n : Nat} {F : Frm} {p x1 x2 x3 : Asrt} {L : List Asrt} {K : Act → World → Prop} (h : Tri w0 n F (p :: x1 :: x2 :: x3 :: (L ++ A)) I K) : Tri w0 n F (p :: (L ++ x1 :: x2 :: x3 :: A)) I K :=
 tri_perm (B := p :: x1 :: x2 :: x3 :: (L ++ A)) (List.Perm.cons _ (List.perm_append_comm_assoc L [x1, x2, x3] A)) h
set_option maxHeartbeats 1000000 in
set_option maxRecDepth 100000 in
theorem slices_backward1 {S : Nat → List Asrt → Prop} {ns : List Node} {a1 : Option Addr} {c1 l b b1 : Nat} {E T : TypeId} {fnn : FuncId} {tm : Array Value} {ps : Array Tmp} {sg bd : Code} {df : Nat} {L0 : List Asrt} (hn : ns.length ≤ 1000000) (hps : 2 = ps.size)
  (hround : ∀ (i : Nat) (L M : List Asrt), i < ns.length → S (i + 1) L → RoundC Try.prog l ⟨.ready, none, fnn, tm, ps, sg, bd, df⟩ [.int .i64 (i : Nat), nodeV (ns.getD i default)] (L ++ M) I (fun v A' I' => v = .bool true ∧ ∃ L', S i L' ∧ A' = Pt l (.loop ⟨.ready, none, fnn, tm, ps, sg, bd, df⟩) :: (L' ++ M) ∧ I = I')) (hS0 : S ns.length L0) :
  FnC Try.prog 42 [.func (.yield l) #[] #[], pt b1 0].toArray (Pt l (.loop ⟨.ready, none, fnn, tm, ps, sg, bd, df⟩) :: Pt b (.deferred (some [])) :: Box b1 [.slice a1 ns.length c1] T :: Row a1 c1 ns.length E 6 (encs ns) :: (L0 ++ A)) I
   (RangeR l b fun j A' I' => j = none ∧ ∃ L' : List Asrt, S 0 L' ∧ A' = Box b1 [.slice a1 ns.length c1] T :: Row a1 c1 ns.length E 6 (encs ns) :: (L' ++ A) ∧ I = I') := by
 refine fn_enter2 Try.func42 rfl Try.ntmps42 rfl fun w0 => ?_
 refine tri_seq ?_
 refine tri_region ?_
 refine tri_v (by first | exact opv_load1 rfl rfl rfl | exact opv_loadA rfl rfl rfl | exact opv_loadE1 rfl (by assumption) rfl (by omega) rfl rfl | exact opv_loadEA rfl (by assumption) rfl (by omega) rfl rfl | exact opv_loadRX1 rfl rfl (by omega) rfl rfl | exact opv_loadRXA rfl rfl (by omega) rfl rfl rfl | exact opv_loadIX rfl rfl (by omega) | exact opv_loadR1 rfl rfl rfl | exact opv_loadRA rfl rfl rfl rfl) rfl ?_
 refine tri_v (opv_len rfl) rfl ?_
 refine tri_v (by first | exact opv_sub rfl rfl (w64 (by omega) (by omega)) | exact opv_sub rfl rfl rfl) rfl ?_
 refine tri_v (opv_assign rfl) rfl ?_
 refine tri_nil ?_
 refine tri_then ?_
 refine tri_block ?_
 refine tri_sub (F' := [(0, .func (.yield l) #[] #[]), (1, pt b1 0), (3, .int .i64 ((ns.length : Int) - 1))]) ⟨rfl, rfl, rfl, trivial⟩ ?_
 refine loop_ind (G := Nat × List Asrt) (fun g => g.1) (fun g => g.1 ≤ ns.length ∧ S g.1 g.2) (fun g => [(0, .func (.yield l) #[] #[]), (1, pt b1 0), (3, .int .i64 ((g.1 : Int) - 1))]) (fun g => Pt l (.loop ⟨.ready, none, fnn, tm, ps, sg, bd, df⟩) :: Pt b (.deferred (some [])) :: Box b1 [.slice a1 ns.length c1] T :: Row a1 c1 ns.length E 6 (encs ns) :: (g.2 ++ A)) (fun _ => I) ?_ (ns.length, L0) ⟨by simp, hS0⟩
 rintro ⟨q, L⟩ ⟨hq, hS⟩ K hK
 simp only at hq hS hK ⊢
 skip
 refine tri_seq ?_
 refine tri_seq ?_
 refine tri_region ?_
 refine tri_v (opv_move rfl) rfl ?_
 refine tri_v (opv_geq rfl rfl) rfl ?_
 refine tri_nil ?_
 refine tri_then ?_
 refine tri_cond_dec rfl (fun h => ?_) (fun h => ?_)
 ·obtain ⟨i, rfl⟩ : ∃ i, q = i + 1 := ⟨q - 1, by omega⟩
  rw [show ((i + 1 : Nat) : Int) - 1 = (i : Nat) by omega]
  have hi : i < ns.length := by omega
  refine tri_skip ?_
  refine tri_then ?_
  refine tri_seq ?_
  refine tri_block ?_
  refine tri_seq ?_
  refine tri_region ?_
  refine tri_v (opv_move rfl) rfl ?_
  refine tri_v (opv_move rfl) rfl ?_
  refine tri_v (by first | exact opv_load1 rfl rfl rfl | exact opv_loadA rfl rfl rfl | exact opv_loadE1 rfl (by assumption) rfl (by omega) rfl rfl | exact opv_loadEA rfl (by assumption) rfl (by omega) rfl rfl | exact opv_loadRX1 rfl rfl (by omega) rfl rfl | exact opv_loadRXA rfl rfl (by omega) rfl rfl rfl | exact opv_loadIX rfl rfl (by omega) | exact opv_loadR1 rfl rfl rfl | exact opv_loadRA rfl rfl rfl rfl) rfl ?_
  refine tri_v (opv_move rfl) rfl ?_
  refine tri_v (by first | exact opv_indexAddrA rfl rfl (by first | decide | omega) (by first | decide | omega) | exact opv_indexAddrSN rfl rfl (by omega) (by assumption) rfl | exact opv_indexAddrS rfl rfl (by omega) (by omega) (by assumption) rfl | exact opv_indexAddrE rfl (by assumption) (by omega) rfl (by first | decide | omega) (by first | decide | omega) | exact opv_indexAddrRN rfl rfl (by omega) | exact opv_indexAddrR rfl rfl (by omega) (by omega) | exact opv_indexAddrRA rfl (by omega) rfl (by first | decide | omega) (by first | decide | omega)) rfl ?_
  refine tri_v (by first | exact opv_load1 rfl rfl rfl | exact opv_loadA rfl rfl rfl | exact opv_loadE1 rfl (by assumption) rfl (by omega) rfl rfl | exact opv_loadEA rfl (by assumption) rfl (by omega) rfl rfl | exact opv_loadRX1 rfl rfl (by omega) rfl rfl | exact opv_loadRXA rfl rfl (by omega) rfl rfl rfl | exact opv_loadIX rfl rfl (by omega) | exact opv_loadR1 rfl rfl rfl | exact opv_loadRA rfl rfl rfl rfl) rfl ?_
  refine tri_mid3 ?_
  refine tri_yield (xs := [_, _]) rfl rfl (by first | rfl | assumption) (hround i L _ hi hS) rfl ?_
  rintro _ _ _ ⟨rfl, L', hS', rfl, rfl⟩
  refine tri_mid3' ?_
  refine tri_v (by first | exact opv_notD rfl | exact opv_not rfl) rfl ?_
  refine tri_nil ?_
  refine tri_then ?_
  refine tri_cond_false (by first | rfl | exact rfl) ?_
  refine tri_skip ?_
  refine tri_inBlock ?_
  refine tri_then ?_
  refine tri_region ?_
  refine tri_v (opv_move rfl) rfl ?_
  refine tri_v (by first | exact opv_sub rfl rfl (w64 (by omega) (by omega)) | exact opv_sub rfl rfl rfl) rfl ?_
  refine tri_v (opv_assign rfl) rfl ?_
  refine tri_nil ?_
  refine tri_then ?_
  refine tri_sub ?_ (hK (i, L') ⟨by omega, hS'⟩ (by simp only; omega))
  exact ⟨rfl, rfl, rfl, trivial⟩
 ·obtain rfl : q = 0 := by omega
  refine tri_exit ?_
  refine tri_then_exit ?_
  refine tri_then_exit ?_
  refine tri_inBlock_hit rfl ?_
  refine tri_end_n _ ⟨[], rfl⟩ rfl .nil ⟨_, _, rfl, (by intro h; cases h), rfl, L, hS, rfl, rfl⟩
end Go.GL.Rd

set_option linter.unusedVariables false
namespace Go.GL
open Go.Proofs
attribute [local irreducible] wpList Code.wp Exit.then Exit.inBlock Ends Tri TriH OpV OpG FnC epf wpAnyH
variable {A : List Asrt} {I : List Chunk}
theorem R6.Good.emptyF {room : Int} : ∀ (k : Nat) (ns : List Node) (n : Int), R6.Good ns room → R6.Good (R7.emptyF room k ns n).1 room
 | 0, ns, n, h => h
 | k + 1, ns, n, h => by
  unfold R7.emptyF
  split
  ·exact h
  ·exact Good.emptyF k _ _ (h.put _ _ _ _)
set_option maxHeartbeats 1000000 in
set_option maxRecDepth 100000 in
theorem ref06_empty {ns : List Node} {a : Option Addr} {cap : Nat} {room lv : Int} (hs : StA I a cap ns) (hn : ns.length ≤ 1000000000) (hr : R6.Rng ns) :
  FnC Try.prog 22 [storeV a ns.length cap room, .int .i64 lv].toArray A I (StoreR (R6.emptyT ns room lv) room A I) := by
 skip
 refine fn_enter2 Try.func22 rfl Try.ntmps22 rfl fun w0 => ?_
 refine tS (tR ?_)
 first | refine tri_g (opg_box_agg rfl) rfl ?_ | refine tri_g (opg_box1 rfl rfl) rfl ?_
 rintro _ _ _ ⟨b2, rfl, rfl, rfl⟩
 refine tri_g opg_alloc rfl ?_
 rintro _ _ _ ⟨b4, rfl, rfl, rfl⟩
 refine tA rfl rfl (tA rfl rfl (tN (tT (tS (tS (tR ?_))))))
 refine tri_v (by first | exact opv_load1 rfl rfl rfl | exact opv_loadA rfl rfl rfl | exact opv_loadE1 rfl (by assumption) rfl (by omega) rfl rfl | exact opv_loadEA rfl (by assumption) rfl (by omega) rfl rfl | exact opv_loadRX1 rfl rfl (by omega) rfl rfl | exact opv_loadRXA rfl rfl (by omega) rfl rfl rfl | exact opv_loadIX rfl rfl (by omega) | exact opv_loadR1 rfl rfl rfl | exact opv_loadRA rfl rfl rfl rfl) rfl ?_
 refine tri_g (opg_call (xs := [_]) rfl (ref06_right hs.sl hn hr)) rfl ?_
 rintro _ _ _ ⟨rfl, rfl, rfl⟩
 refine tri_v (by first | exact opv_notD rfl | exact opv_not rfl) rfl ?_
 refine tM rfl rfl ?_
 refine tri_split rfl rfl (fun h0 => ?_) (fun h0 => ?_)
 ·refine tri_guard_skip rfl rfl rfl rfl (tri_guard_skip rfl rfl rfl rfl ?_)
  refine tri_v (by first | exact opv_pick_t rfl rfl | exact opv_pick_f rfl rfl | exact opv_pick_bool rfl rfl rfl | exact opv_pick rfl rfl rfl) rfl ?_
  refine tM rfl rfl (tri_guard_skip rfl rfl rfl rfl (tri_guard_skip rfl rfl rfl rfl ?_))
  refine tri_v (by first | exact opv_pick_t rfl rfl | exact opv_pick_f rfl rfl | exact opv_pick_bool rfl rfl rfl | exact opv_pick rfl rfl rfl) rfl ?_
  refine tN (tT ?_)
  refine tri_cond_true rfl ?_
  refine tS (tR ?_)
  refine tri_v (by first | exact opv_load1 rfl rfl rfl | exact opv_loadA rfl rfl rfl | exact opv_loadE1 rfl (by assumption) rfl (by omega) rfl rfl | exact opv_loadEA rfl (by assumption) rfl (by omega) rfl rfl | exact opv_loadRX1 rfl rfl (by omega) rfl rfl | exact opv_loadRXA rfl rfl (by omega) rfl rfl rfl | exact opv_loadIX rfl rfl (by omega) | exact opv_loadR1 rfl rfl rfl | exact opv_loadRA rfl rfl rfl rfl) rfl ?_
  refine tri_g (opg_store rfl rfl rfl rfl rfl rfl) rfl ?_
  rintro _ _ _ ⟨rfl, rfl⟩
  refine tA rfl rfl (tA rfl rfl (tN (tT (tri_ret (tri_then_ret ?_)))))
  refine tri_end A Suf.h rfl (.cons (rv_cellA rfl rfl rfl) (.cons (rv_tmp rfl) (.cons (rv_tmp rfl) .nil))) ?_
  rw [show R6.emptyT ns room lv = (ns, 0, 1) by unfold R6.emptyT R6.told; rw [if_neg h0]; split <;> rfl]
  exact ⟨a, cap, rfl, hs, rfl, fun _ h => h⟩
 refine tri_guard_run rfl rfl rfl (tM rfl rfl (tri_guard_run rfl rfl rfl ?_))
 refine tri_v (opv_lss rfl rfl) rfl ?_
 refine tri_v (by first | exact opv_pick_t rfl rfl | exact opv_pick_f rfl rfl | exact opv_pick_bool rfl rfl rfl | exact opv_pick rfl rfl rfl) rfl ?_
 refine tM rfl rfl ?_
 refine tri_split rfl rfl (fun h1 => ?_) (fun h1 => ?_)
 ·refine tri_guard_skip rfl rfl rfl rfl (tri_guard_skip rfl rfl rfl rfl ?_)
  refine tri_v (by first | exact opv_pick_t rfl rfl | exact opv_pick_f rfl rfl | exact opv_pick_bool rfl rfl rfl | exact opv_pick rfl rfl rfl) rfl ?_
  refine tN (tT ?_)
  refine tri_cond_true rfl ?_
  refine tS (tR ?_)
  refine tri_v (by first | exact opv_load1 rfl rfl rfl | exact opv_loadA rfl rfl rfl | exact opv_loadE1 rfl (by assumption) rfl (by omega) rfl rfl | exact opv_loadEA rfl (by assumption) rfl (by omega) rfl rfl | exact opv_loadRX1 rfl rfl (by omega) rfl rfl | exact opv_loadRXA rfl rfl (by omega) rfl rfl rfl | exact opv_loadIX rfl rfl (by omega) | exact opv_loadR1 rfl rfl rfl | exact opv_loadRA rfl rfl rfl rfl) rfl ?_
  refine tri_g (opg_store rfl rfl rfl rfl rfl rfl) rfl ?_
  rintro _ _ _ ⟨rfl, rfl⟩
  refine tA rfl rfl (tA rfl rfl (tN (tT (tri_ret (tri_then_ret ?_)))))
  refine tri_end A Suf.h rfl (.cons (rv_cellA rfl rfl rfl) (.cons (rv_tmp rfl) (.cons (rv_tmp rfl) .nil))) ?_
  rw [show R6.emptyT ns room lv = (ns, 0, 1) from if_pos (.inl h1)]
  exact ⟨a, cap, rfl, hs, rfl, fun _ h => h⟩
 refine tri_guard_run rfl rfl rfl (tM rfl rfl (tri_guard_run rfl rfl rfl ?_))
 refine tri_v (opv_gtr rfl rfl) rfl ?_
 refine tri_v (by first | exact opv_pick_t rfl rfl | exact opv_pick_f rfl rfl | exact opv_pick_bool rfl rfl rfl | exact opv_pick rfl rfl rfl) rfl ?_
 refine tN (tT ?_)
 refine tri_cond_dec rfl (fun h2 => ?_) (fun h2 => ?_)
 ·refine tS (tR ?_)
  refine tri_v (by first | exact opv_load1 rfl rfl rfl | exact opv_loadA rfl rfl rfl | exact opv_loadE1 rfl (by assumption) rfl (by omega) rfl rfl | exact opv_loadEA rfl (by assumption) rfl (by omega) rfl rfl | exact opv_loadRX1 rfl rfl (by omega) rfl rfl | exact opv_loadRXA rfl rfl (by omega) rfl rfl rfl | exact opv_loadIX rfl rfl (by omega) | exact opv_loadR1 rfl rfl rfl | exact opv_loadRA rfl rfl rfl rfl) rfl ?_
  refine tri_g (opg_store rfl rfl rfl rfl rfl rfl) rfl ?_
  rintro _ _ _ ⟨rfl, rfl⟩
  refine tA rfl rfl (tA rfl rfl (tN (tT (tri_ret (tri_then_ret ?_)))))
  refine tri_end A Suf.h rfl (.cons (rv_cellA rfl rfl rfl) (.cons (rv_tmp rfl) (.cons (rv_tmp rfl) .nil))) ?_
  rw [show R6.emptyT ns room lv = (ns, 0, 1) from if_pos (.inr h2)]
  exact ⟨a, cap, rfl, hs, rfl, fun _ h => h⟩
 refine tri_skip (tT (tS (tR ?_)))
 refine tri_v (by first | exact opv_load1 rfl rfl rfl | exact opv_loadA rfl rfl rfl | exact opv_loadE1 rfl (by assumption) rfl (by omega) rfl rfl | exact opv_loadEA rfl (by assumption) rfl (by omega) rfl rfl | exact opv_loadRX1 rfl rfl (by omega) rfl rfl | exact opv_loadRXA rfl rfl (by omega) rfl rfl rfl | exact opv_loadIX rfl rfl (by omega) | exact opv_loadR1 rfl rfl rfl | exact opv_loadRA rfl rfl rfl rfl) rfl ?_
 refine tri_g opg_alloc rfl ?_
 rintro _ _ _ ⟨b7, rfl, rfl, rfl⟩
 refine tri_g (opg_store rfl rfl rfl rfl rfl rfl) rfl ?_
 rintro _ _ _ ⟨rfl, rfl⟩
 refine tN (tT (tS (tR (tA rfl rfl (tN (tT (tS ?_)))))))
 refine tS (tR (tA rfl rfl (tN (tT (tri_block ?_)))))
 have h0' : R6.right ns room := Decidable.not_not.1 h0
 obtain ⟨l, rfl⟩ : ∃ l : Nat, lv = l := ⟨lv.toNat, by omega⟩
 have hE : R6.emptyT ns room (l : Int) = if (R7.empty ns room l).2.2 ≠ 0 then (ns, 0, (R7.empty ns room l).2.2) else R7.empty ns room l := (if_neg (by omega)).trans (if_pos h0')
 refine tri_sub (F' := [(1, .int .i64 (l : Nat)), (2, pt b2 0), (4, pt b4 0), (7, pt b7 0), (8, .int .i64 0), (9, .int .i64 (0 : Nat))]) ⟨rfl, rfl, rfl, rfl, rfl, rfl, trivial⟩ ?_
 refine loop_ind (G := Nat × List Node × Int × Option Addr × Nat × List Chunk) (fun g => l - g.1) (fun g => g.1 ≤ l ∧ R6.Good g.2.1 room ∧ StA g.2.2.2.2.2 g.2.2.2.1 g.2.2.2.2.1 g.2.1 ∧ R7.empty ns room l = R7.emptyF room (l - g.1) g.2.1 g.2.2.1 ∧ I ⊆ g.2.2.2.2.2) (fun g => [(1, .int .i64 (l : Nat)), (2, pt b2 0), (4, pt b4 0), (7, pt b7 0), (8, .int .i64 g.2.2.1), (9, .int .i64 (g.1 : Nat))])
  (fun g => Box b7 [.slice g.2.2.2.1 g.2.1.length g.2.2.2.2.1, .int .i64 room] 25 :: Box b4 [.slice none 0 0, .int .i64 0] 25 :: Box b2 [.slice a ns.length cap, .int .i64 room] 25 :: A) (fun g => g.2.2.2.2.2) ?_ (0, ns, 0, a, cap, I) ⟨by simp, h0'.good (by have := h0'.1.2.1; omega), hs, rfl, fun _ h => h⟩
 rintro ⟨i, ns1, n1, a1, c1, J⟩ ⟨hi1, hg1, hs1, he, hJ⟩ K hK
 simp only at hi1 hg1 hs1 he hJ hK ⊢
 skip
 refine tS (tS (tR (tM rfl rfl (tM rfl rfl ?_))))
 refine tri_v (opv_lss rfl rfl) rfl ?_
 refine tN (tT ?_)
 refine tri_cond_dec rfl (fun h => ?_) (fun h => ?_)
 ·have hlt : i < l := by omega
  rw [show l - i = (l - (i + 1)) + 1 by omega] at he
  unfold R7.emptyF at he
  refine tri_skip (tT (tS (tri_block (tS (tR ?_)))))
  refine tri_v (by first | exact opv_load1 rfl rfl rfl | exact opv_loadA rfl rfl rfl | exact opv_loadE1 rfl (by assumption) rfl (by omega) rfl rfl | exact opv_loadEA rfl (by assumption) rfl (by omega) rfl rfl | exact opv_loadRX1 rfl rfl (by omega) rfl rfl | exact opv_loadRXA rfl rfl (by omega) rfl rfl rfl | exact opv_loadIX rfl rfl (by omega) | exact opv_loadR1 rfl rfl rfl | exact opv_loadRA rfl rfl rfl rfl) rfl ?_
  refine tM rfl rfl (tM rfl rfl (tM rfl rfl (tM rfl rfl ?_)))
  refine tri_v (by first | exact opv_buildS rfl rfl | exact opv_buildA rfl rfl) rfl ?_
  refine tri_g (opg_call (xs := [_, _]) rfl (ref06_put (room := room) (q0 := n1) (q1 := n1) (q2 := n1) (q3 := n1) hs1 hg1.len hg1.mod)) rfl ?_
  rintro _ _ J2 ⟨a2, c2, rfl, hs2, rfl, hJ2⟩
  obtain ⟨r, hr⟩ : ∃ r, R6.put ns1 room n1 n1 n1 n1 = r := ⟨_, rfl⟩
  have hg2 := hg1.put n1 n1 n1 n1
  rw [hr] at he hs2 hg2 ⊢
  refine tM rfl rfl ?_
  refine tri_v (opv_extract rfl rfl) rfl ?_
  refine tri_v (opv_extract rfl rfl) rfl ?_
  refine tri_v (opv_extract rfl rfl) rfl ?_
  refine tri_g opg_alloc rfl ?_
  rintro _ _ _ ⟨b10, rfl, rfl, rfl⟩
  refine tri_g (opg_store rfl rfl rfl rfl rfl rfl) rfl ?_
  rintro _ _ _ ⟨rfl, rfl⟩
  refine tA rfl rfl (tA rfl rfl (tN (tT (tS (tS (tR (tM rfl rfl ?_)))))))
  refine tri_v (by first | exact opv_neq rfl rfl | exact opv_neqI rfl rfl rfl rfl rfl rfl | exact opv_neqB rfl rfl) rfl ?_
  refine tN (tT ?_)
  refine tri_cond_dec rfl (fun x => ?_) (fun x => ?_)
  ·rw [if_pos x] at he
   refine tS (tR ?_)
   refine tri_v (by first | exact opv_load1 rfl rfl rfl | exact opv_loadA rfl rfl rfl | exact opv_loadE1 rfl (by assumption) rfl (by omega) rfl rfl | exact opv_loadEA rfl (by assumption) rfl (by omega) rfl rfl | exact opv_loadRX1 rfl rfl (by omega) rfl rfl | exact opv_loadRXA rfl rfl (by omega) rfl rfl rfl | exact opv_loadIX rfl rfl (by omega) | exact opv_loadR1 rfl rfl rfl | exact opv_loadRA rfl rfl rfl rfl) rfl ?_
   refine tM rfl rfl ?_
   refine tri_g (opg_store rfl rfl rfl rfl rfl rfl) rfl ?_
   rintro _ _ _ ⟨rfl, rfl⟩
   refine tA rfl rfl (tA rfl rfl (tN (tT (tri_ret (tri_then_ret ?_)))))
   refine tri_inBlock_ret ?_
   refine tri_then_ret (tri_then_ret ?_)
   refine tri_inBlock_ret ?_
   refine tri_then_ret ?_
   refine tri_end A Suf.h rfl (.cons (rv_cellA rfl rfl rfl) (.cons (rv_tmp rfl) (.cons (rv_tmp rfl) .nil))) ?_
   rw [hE, he, if_pos x]
   exact ⟨a, cap, rfl, (hs.mono hJ).mono hJ2, rfl, fun _ h => hJ2 (hJ h)⟩
  ·rw [if_neg x] at he
   refine tri_skip (tT (tS (tR ?_)))
   refine tri_v (by first | exact opv_load1 rfl rfl rfl | exact opv_loadA rfl rfl rfl | exact opv_loadE1 rfl (by assumption) rfl (by omega) rfl rfl | exact opv_loadEA rfl (by assumption) rfl (by omega) rfl rfl | exact opv_loadRX1 rfl rfl (by omega) rfl rfl | exact opv_loadRXA rfl rfl (by omega) rfl rfl rfl | exact opv_loadIX rfl rfl (by omega) | exact opv_loadR1 rfl rfl rfl | exact opv_loadRA rfl rfl rfl rfl) rfl ?_
   refine tri_g (opg_store rfl rfl rfl rfl rfl rfl) rfl ?_
   rintro _ _ _ ⟨rfl, rfl⟩
   refine tN (tT (tR (tM rfl rfl (tA rfl rfl (tN ?_)))))
   refine tri_inBlock ?_
   refine tT (tR (tM rfl rfl ?_))
   refine tri_v (by first | exact opv_add rfl rfl (w64 (by omega) (by omega))) rfl ?_
   refine tA rfl rfl (tN (tT ?_))
   refine tri_drop ?_
   refine tri_sub ?_ (hK (i + 1, r.1, r.2.1, a2, c2, J2) ⟨by simp only; omega, hg2, hs2, he, fun _ h => hJ2 (hJ h)⟩ (by simp only; omega))
   exact ⟨rfl, rfl, rfl, rfl, rfl, rfl, trivial⟩
 ·obtain rfl : i = l := by omega
  rw [Nat.sub_self] at he
  unfold R7.emptyF at he
  refine tri_exit ?_
  refine tri_then_exit ?_
  refine tri_then_exit ?_
  refine tri_inBlock_hit rfl ?_
  refine tT (tS (tR ?_))
  refine tri_v (by first | exact opv_load1 rfl rfl rfl | exact opv_loadA rfl rfl rfl | exact opv_loadE1 rfl (by assumption) rfl (by omega) rfl rfl | exact opv_loadEA rfl (by assumption) rfl (by omega) rfl rfl | exact opv_loadRX1 rfl rfl (by omega) rfl rfl | exact opv_loadRXA rfl rfl (by omega) rfl rfl rfl | exact opv_loadIX rfl rfl (by omega) | exact opv_loadR1 rfl rfl rfl | exact opv_loadRA rfl rfl rfl rfl) rfl ?_
  refine tM rfl rfl ?_
  refine tri_g (opg_store rfl rfl rfl rfl rfl rfl) rfl ?_
  rintro _ _ _ ⟨rfl, rfl⟩
  refine tA rfl rfl (tA rfl rfl (tN (tT (tri_ret ?_))))
  refine tri_end A Suf.h rfl (.cons (rv_cellA rfl rfl rfl) (.cons (rv_tmp rfl) (.cons (rv_tmp rfl) .nil))) ?_
  rw [hE, he, if_neg (fun h => h rfl)]
  exact ⟨a1, c1, rfl, hs1, rfl, hJ⟩
end Go.GL

set_option linter.unusedVariables false
namespace Go.GL
open Go.Proofs
attribute [local irreducible] wpList Code.wp Exit.then Exit.inBlock Ends Tri TriH OpV OpG FnC epf wpAnyH
variable {A : List Asrt} {I : List Chunk}
theorem encs_rep {α : Type} [Enc α] {x : α} {v : Value} (h : Enc.enc x = [v]) (n : Nat) : List.replicate n v = encs (List.replicate n x) := by
 unfold encs
 rw [List.flatMap_replicate, h]
 exact (List.flatten_replicate_singleton).symm
theorem R6.live_bad {ns : List Node} {room : Int} {roots : List Int} (h : ¬ (R6.right ns room ∧ ∀ i, i < roots.length → R6.inS ns (roots.getD i default))) : R6.live ns room roots = (ns, [], 1) := if_neg h
theorem R6.liveStep_len {ns : List Node} {keep : List Bool} : ∀ i, ((List.range i).foldl (R6.liveStep ns keep) (List.replicate ns.length 0, [])).1.length = ns.length ∧ ((List.range i).foldl (R6.liveStep ns keep) (List.replicate ns.length 0, [])).2.length ≤ i
 | 0 => by simp
 | i + 1 => by
  have ih := liveStep_len (ns := ns) (keep := keep) i
  rw [List.range_succ, List.foldl_append, List.foldl_cons, List.foldl_nil]
  generalize (List.range i).foldl (R6.liveStep ns keep) (List.replicate ns.length 0, []) = s at *
  unfold R6.liveStep
  split
  ·simp only [List.length_set, List.length_append, List.length_singleton]
   omega
  ·omega
set_option maxHeartbeats 4000000 in
set_option maxRecDepth 100000 in
theorem ref06_live {ns : List Node} {roots : List Int} {a ar : Option Addr} {cap capr : Nat} {room : Int} (hs : StA I a cap ns) (hn : ns.length ≤ 1000000) (hr : R6.Rng ns) (hsr : SlAt I ar roots) (hrl : roots.length ≤ 1000000) :
  FnC Try.prog 24 [storeV a ns.length cap room, .slice ar roots.length capr].toArray A I (LiveR (R6.live ns room roots) room A I) := by
 have hsl := hs.sl
 skip
 skip
 refine fn_enter2 Try.func24 rfl Try.ntmps24 rfl fun w0 => ?_
 refine tS (tR ?_)
 first | refine tri_g (opg_box_agg rfl) rfl ?_ | refine tri_g (opg_box1 rfl rfl) rfl ?_
 rintro _ _ _ ⟨b2, rfl, rfl, rfl⟩
 refine tri_g opg_alloc rfl ?_
 rintro _ _ _ ⟨b4, rfl, rfl, rfl⟩
 refine tA rfl rfl (tA rfl rfl (tN (tT (tS (tS (tR ?_))))))
 refine tri_v (by first | exact opv_load1 rfl rfl rfl | exact opv_loadA rfl rfl rfl | exact opv_loadE1 rfl (by assumption) rfl (by omega) rfl rfl | exact opv_loadEA rfl (by assumption) rfl (by omega) rfl rfl | exact opv_loadRX1 rfl rfl (by omega) rfl rfl | exact opv_loadRXA rfl rfl (by omega) rfl rfl rfl | exact opv_loadIX rfl rfl (by omega) | exact opv_loadR1 rfl rfl rfl | exact opv_loadRA rfl rfl rfl rfl) rfl ?_
 refine tri_g (opg_call (xs := [_]) rfl (ref06_right hs.sl (by omega) hr)) rfl ?_
 rintro _ _ _ ⟨rfl, rfl, rfl⟩
 refine tri_v (by first | exact opv_notD rfl | exact opv_not rfl) rfl ?_
 refine tN (tT ?_)
 refine tri_cond_dec rfl (fun h0 => ?_) (fun h0 => ?_)
 ·refine tS (tR ?_)
  refine tri_v (by first | exact opv_load1 rfl rfl rfl | exact opv_loadA rfl rfl rfl | exact opv_loadE1 rfl (by assumption) rfl (by omega) rfl rfl | exact opv_loadEA rfl (by assumption) rfl (by omega) rfl rfl | exact opv_loadRX1 rfl rfl (by omega) rfl rfl | exact opv_loadRXA rfl rfl (by omega) rfl rfl rfl | exact opv_loadIX rfl rfl (by omega) | exact opv_loadR1 rfl rfl rfl | exact opv_loadRA rfl rfl rfl rfl) rfl ?_
  refine tri_g (opg_store rfl rfl rfl rfl rfl rfl) rfl ?_
  rintro _ _ _ ⟨rfl, rfl⟩
  refine tA rfl rfl (tA rfl rfl (tN (tT (tri_ret (tri_then_ret ?_)))))
  refine tri_end A Suf.h rfl (.cons (rv_cellA rfl rfl rfl) (.cons (rv_tmp rfl) (.cons (rv_tmp rfl) .nil))) ?_
  rw [R6.live_bad (fun h => h0 h.1)]
  exact ⟨a, cap, none, 0, rfl, hs, SlAt.nil, rfl, fun _ h => h⟩
 refine tri_skip (tT (tS (tR ?_)))
 refine tri_v (by first | exact opv_fieldAddr rfl rfl | exact opv_fieldAddrE rfl (by assumption) (by omega) rfl | exact opv_fieldAddrR rfl (by omega) rfl) rfl ?_
 refine tri_v (by first | exact opv_load1 rfl rfl rfl | exact opv_loadA rfl rfl rfl | exact opv_loadE1 rfl (by assumption) rfl (by omega) rfl rfl | exact opv_loadEA rfl (by assumption) rfl (by omega) rfl rfl | exact opv_loadRX1 rfl rfl (by omega) rfl rfl | exact opv_loadRXA rfl rfl (by omega) rfl rfl rfl | exact opv_loadIX rfl rfl (by omega) | exact opv_loadR1 rfl rfl rfl | exact opv_loadRA rfl rfl rfl rfl) rfl ?_
 refine tri_v (opv_len rfl) rfl ?_
 have hrt : R6.right ns room := Decidable.not_not.1 h0
 have hn2 : 2 ≤ ns.length := hrt.1.2.2.1
 have hkid := fun i hi => hrt.kid (i := i) hi
 refine tri_g (opg_makeSlice rfl rfl rfl (by omega) (by omega) (by omega)) rfl ?_
 rintro _ _ _ ⟨a7, ha7, rfl, rfl, rfl⟩
 rw [show ((ns.length : Nat) : Int).toNat = ns.length from rfl]
 refine tri_rowEq (len' := ns.length) (cells' := encs (List.replicate ns.length false)) rfl (encs_rep rfl _) ?_
 refine tA rfl rfl (tN (tT (tS (tR (tM rfl rfl ?_)))))
 refine tri_v (by first | exact opv_indexAddrA rfl rfl (by first | decide | omega) (by first | decide | omega) | exact opv_indexAddrSN rfl rfl (by omega) (by assumption) rfl | exact opv_indexAddrS rfl rfl (by omega) (by omega) (by assumption) rfl | exact opv_indexAddrE rfl (by assumption) (by omega) rfl (by first | decide | omega) (by first | decide | omega) | exact opv_indexAddrRN rfl rfl (by omega) | exact opv_indexAddrR rfl rfl (by omega) (by omega) | exact opv_indexAddrRA rfl (by omega) rfl (by first | decide | omega) (by first | decide | omega)) rfl ?_
 refine tri_g (opg_storeRX true rfl rfl rfl (by rw [List.length_replicate]; exact Nat.lt_of_lt_of_le (by decide) hn2) (List.length_replicate).symm rfl rfl rfl rfl) rfl ?_
 rintro _ _ _ ⟨rfl, rfl⟩
 refine tN (tT (tS (tR (tM rfl rfl ?_))))
 refine tri_v (by first | exact opv_indexAddrA rfl rfl (by first | decide | omega) (by first | decide | omega) | exact opv_indexAddrSN rfl rfl (by omega) (by assumption) rfl | exact opv_indexAddrS rfl rfl (by omega) (by omega) (by assumption) rfl | exact opv_indexAddrE rfl (by assumption) (by omega) rfl (by first | decide | omega) (by first | decide | omega) | exact opv_indexAddrRN rfl rfl (by omega) | exact opv_indexAddrR rfl rfl (by omega) (by omega) | exact opv_indexAddrRA rfl (by omega) rfl (by first | decide | omega) (by first | decide | omega)) rfl ?_
 refine tri_g (opg_storeRX true rfl rfl rfl (by rw [List.length_set, List.length_replicate]; exact hn2) (by rw [List.length_set, List.length_replicate]) rfl rfl rfl rfl) rfl ?_
 rintro _ _ _ ⟨rfl, rfl⟩
 refine tN (tT (tS (tS (tR (tA rfl rfl (tN (tT ?_)))))))
 refine tri_cut (fun F' A' J => F' = [(1, .slice ar roots.length capr), (2, pt b2 0), (4, pt b4 0), (7, .slice a7 ns.length ns.length)] ∧ A' = Row a7 ns.length ns.length 4 1 (encs (R6.keepRoots ns.length roots)) :: Box b4 [.slice none 0 0, .int .i64 0] 25 :: Box b2 [.slice a ns.length cap, .int .i64 room] 25 :: A ∧ I = J ∧ ∀ i, i < roots.length → R6.inS ns (roots.getD i default)) ?_ ?_
 ·refine tri_block ?_
  refine tri_sub (F' := [(1, .slice ar roots.length capr), (2, pt b2 0), (4, pt b4 0), (7, .slice a7 ns.length ns.length), (8, .int .i64 (0 : Nat))]) ⟨rfl, rfl, rfl, rfl, rfl, trivial⟩ ?_
  refine loop_ind (G := Nat × List Bool) (fun g => roots.length - g.1) (fun g => g.1 ≤ roots.length ∧ g.2.length = ns.length ∧ g.2 = (roots.take g.1).foldl (fun keep r => keep.set r.toNat true) (((List.replicate ns.length false).set 0 true).set 1 true) ∧ ∀ j, j < g.1 → R6.inS ns (roots.getD j default)) (fun g => [(1, .slice ar roots.length capr), (2, pt b2 0), (4, pt b4 0), (7, .slice a7 ns.length ns.length), (8, .int .i64 (g.1 : Nat))])
   (fun g => Row a7 ns.length ns.length 4 1 (encs g.2) :: Box b4 [.slice none 0 0, .int .i64 0] 25 :: Box b2 [.slice a ns.length cap, .int .i64 room] 25 :: A) (fun _ => I) ?_ (0, ((List.replicate ns.length false).set 0 true).set 1 true) ⟨by simp, by simp, rfl, fun j h => absurd h (by simp)⟩
  rintro ⟨i, keep⟩ ⟨hi, hkl, hke, hin⟩ K hK
  simp only at hi hkl hke hin hK ⊢
  skip
  refine tS (tS (tR (tM rfl rfl (tM rfl rfl ?_))))
  refine tri_v (opv_len rfl) rfl ?_
  refine tri_v (opv_lss rfl rfl) rfl ?_
  refine tN (tT ?_)
  refine tri_cond_dec rfl (fun h => ?_) (fun h => ?_)
  ·have hlt : i < roots.length := by omega
   refine tri_skip (tT (tS (tri_block (tS (tS ?_)))))
   refine tri_draw [0, 1, 2, 3, 4, 5, 6, 7, 8, 9, 10, 11, 12, 13, 14] rfl [] rfl mixed ?_
   refine th_take rfl rfl (by kernel_rfl)  (opv_move rfl) ?_
   refine th_take rfl rfl (by kernel_rfl)  (opv_move rfl) ?_
   refine th_take rfl rfl (by kernel_rfl)  (by first | exact opv_indexAddrA rfl rfl (by first | decide | omega) (by first | decide | omega) | exact opv_indexAddrSN rfl rfl (by omega) (by assumption) rfl | exact opv_indexAddrS rfl rfl (by omega) (by omega) (by assumption) rfl | exact opv_indexAddrE rfl (by assumption) (by omega) rfl (by first | decide | omega) (by first | decide | omega) | exact opv_indexAddrRN rfl rfl (by omega) | exact opv_indexAddrR rfl rfl (by omega) (by omega) | exact opv_indexAddrRA rfl (by omega) rfl (by first | decide | omega) (by first | decide | omega)) ?_
   refine th_take rfl rfl (by kernel_rfl)  (by first | exact opv_load1 rfl rfl rfl | exact opv_loadA rfl rfl rfl | exact opv_loadE1 rfl (by assumption) rfl (by omega) rfl rfl | exact opv_loadEA rfl (by assumption) rfl (by omega) rfl rfl | exact opv_loadRX1 rfl rfl (by omega) rfl rfl | exact opv_loadRXA rfl rfl (by omega) rfl rfl rfl | exact opv_loadIX rfl rfl (by omega) | exact opv_loadR1 rfl rfl rfl | exact opv_loadRA rfl rfl rfl rfl) ?_
   refine th_take rfl rfl (by kernel_rfl)  (opv_lss rfl rfl) ?_
   refine th_take rfl rfl (by kernel_rfl)  (opv_move rfl) ?_
   refine th_split rfl rfl rfl (fun h5 => ?_) (fun h5 => ?_)
   ·refine th_skip rfl rfl rfl rfl rfl (by kernel_rfl)  ?_
    refine th_skip rfl rfl rfl rfl rfl (by kernel_rfl)  ?_
    refine th_skip rfl rfl rfl rfl rfl (by kernel_rfl)  ?_
    refine th_skip rfl rfl rfl rfl rfl (by kernel_rfl)  ?_
    refine th_skip rfl rfl rfl rfl rfl (by kernel_rfl)  ?_
    refine th_skip rfl rfl rfl rfl rfl (by kernel_rfl)  ?_
    refine th_skip rfl rfl rfl rfl rfl (by kernel_rfl)  ?_
    refine th_skip rfl rfl rfl rfl rfl (by kernel_rfl)  ?_
    refine th_take rfl rfl (by kernel_rfl)  (by first | exact opv_pick_t rfl rfl | exact opv_pick_f rfl rfl | exact opv_pick_bool rfl rfl rfl | exact opv_pick rfl rfl rfl) ?_
    refine th_done (by kernel_rfl) ?_
    refine tT ?_
    refine tri_cond_true rfl ?_
    refine tS (tR ?_)
    refine tri_v (by first | exact opv_load1 rfl rfl rfl | exact opv_loadA rfl rfl rfl | exact opv_loadE1 rfl (by assumption) rfl (by omega) rfl rfl | exact opv_loadEA rfl (by assumption) rfl (by omega) rfl rfl | exact opv_loadRX1 rfl rfl (by omega) rfl rfl | exact opv_loadRXA rfl rfl (by omega) rfl rfl rfl | exact opv_loadIX rfl rfl (by omega) | exact opv_loadR1 rfl rfl rfl | exact opv_loadRA rfl rfl rfl rfl) rfl ?_
    refine tri_g (opg_store rfl rfl rfl rfl rfl rfl) rfl ?_
    rintro _ _ _ ⟨rfl, rfl⟩
    refine tA rfl rfl (tA rfl rfl (tN (tT (tri_ret (tri_then_ret ?_)))))
    refine tri_inBlock_ret ?_
    refine tri_then_ret (tri_then_ret ?_)
    refine tri_inBlock_ret ?_
    refine tri_cut_ret ?_
    refine tri_then_ret ?_
    refine tri_end A Suf.h rfl (.cons (rv_cellA rfl rfl rfl) (.cons (rv_tmp rfl) (.cons (rv_tmp rfl) .nil))) ?_
    rw [R6.live_bad (fun h => by have := (h.2 i hlt).1; omega)]
    exact ⟨a, cap, none, 0, rfl, hs, SlAt.nil, rfl, fun _ h => h⟩
   refine th_take_g rfl rfl rfl rfl rfl (by kernel_rfl)  (opv_move rfl) ?_
   refine th_take_g rfl rfl rfl rfl rfl (by kernel_rfl)  (opv_move rfl) ?_
   refine th_take_g rfl rfl rfl rfl rfl (by kernel_rfl)  (by first | exact opv_indexAddrA rfl rfl (by first | decide | omega) (by first | decide | omega) | exact opv_indexAddrSN rfl rfl (by omega) (by assumption) rfl | exact opv_indexAddrS rfl rfl (by omega) (by omega) (by assumption) rfl | exact opv_indexAddrE rfl (by assumption) (by omega) rfl (by first | decide | omega) (by first | decide | omega) | exact opv_indexAddrRN rfl rfl (by omega) | exact opv_indexAddrR rfl rfl (by omega) (by omega) | exact opv_indexAddrRA rfl (by omega) rfl (by first | decide | omega) (by first | decide | omega)) ?_
   refine th_take_g rfl rfl rfl rfl rfl (by kernel_rfl)  (by first | exact opv_load1 rfl rfl rfl | exact opv_loadA rfl rfl rfl | exact opv_loadE1 rfl (by assumption) rfl (by omega) rfl rfl | exact opv_loadEA rfl (by assumption) rfl (by omega) rfl rfl | exact opv_loadRX1 rfl rfl (by omega) rfl rfl | exact opv_loadRXA rfl rfl (by omega) rfl rfl rfl | exact opv_loadIX rfl rfl (by omega) | exact opv_loadR1 rfl rfl rfl | exact opv_loadRA rfl rfl rfl rfl) ?_
   refine th_take_g rfl rfl rfl rfl rfl (by kernel_rfl)  (by first | exact opv_fieldAddr rfl rfl | exact opv_fieldAddrE rfl (by assumption) (by omega) rfl | exact opv_fieldAddrR rfl (by omega) rfl) ?_
   refine th_take_g rfl rfl rfl rfl rfl (by kernel_rfl)  (by first | exact opv_load1 rfl rfl rfl | exact opv_loadA rfl rfl rfl | exact opv_loadE1 rfl (by assumption) rfl (by omega) rfl rfl | exact opv_loadEA rfl (by assumption) rfl (by omega) rfl rfl | exact opv_loadRX1 rfl rfl (by omega) rfl rfl | exact opv_loadRXA rfl rfl (by omega) rfl rfl rfl | exact opv_loadIX rfl rfl (by omega) | exact opv_loadR1 rfl rfl rfl | exact opv_loadRA rfl rfl rfl rfl) ?_
   refine th_take_g rfl rfl rfl rfl rfl (by kernel_rfl)  (opv_len rfl) ?_
   refine th_take_g rfl rfl rfl rfl rfl (by kernel_rfl)  (opv_geq rfl rfl) ?_
   refine th_take rfl rfl (by kernel_rfl)  (by first | exact opv_pick_t rfl rfl | exact opv_pick_f rfl rfl | exact opv_pick_bool rfl rfl rfl | exact opv_pick rfl rfl rfl) ?_
   refine th_done (by kernel_rfl) ?_
   refine tT ?_
   refine tri_cond_dec rfl (fun h6 => ?_) (fun h6 => ?_)
   ·refine tS (tR ?_)
    refine tri_v (by first | exact opv_load1 rfl rfl rfl | exact opv_loadA rfl rfl rfl | exact opv_loadE1 rfl (by assumption) rfl (by omega) rfl rfl | exact opv_loadEA rfl (by assumption) rfl (by omega) rfl rfl | exact opv_loadRX1 rfl rfl (by omega) rfl rfl | exact opv_loadRXA rfl rfl (by omega) rfl rfl rfl | exact opv_loadIX rfl rfl (by omega) | exact opv_loadR1 rfl rfl rfl | exact opv_loadRA rfl rfl rfl rfl) rfl ?_
    refine tri_g (opg_store rfl rfl rfl rfl rfl rfl) rfl ?_
    rintro _ _ _ ⟨rfl, rfl⟩
    refine tA rfl rfl (tA rfl rfl (tN (tT (tri_ret (tri_then_ret ?_)))))
    refine tri_inBlock_ret ?_
    refine tri_then_ret (tri_then_ret ?_)
    refine tri_inBlock_ret ?_
    refine tri_cut_ret ?_
    refine tri_then_ret ?_
    refine tri_end A Suf.h rfl (.cons (rv_cellA rfl rfl rfl) (.cons (rv_tmp rfl) (.cons (rv_tmp rfl) .nil))) ?_
    rw [R6.live_bad (fun h => by have := (h.2 i hlt).2; omega)]
    exact ⟨a, cap, none, 0, rfl, hs, SlAt.nil, rfl, fun _ h => h⟩
   ·refine tri_skip (tT (tR (tM rfl rfl (tM rfl rfl (tM rfl rfl ?_)))))
    refine tri_v (by first | exact opv_indexAddrA rfl rfl (by first | decide | omega) (by first | decide | omega) | exact opv_indexAddrSN rfl rfl (by omega) (by assumption) rfl | exact opv_indexAddrS rfl rfl (by omega) (by omega) (by assumption) rfl | exact opv_indexAddrE rfl (by assumption) (by omega) rfl (by first | decide | omega) (by first | decide | omega) | exact opv_indexAddrRN rfl rfl (by omega) | exact opv_indexAddrR rfl rfl (by omega) (by omega) | exact opv_indexAddrRA rfl (by omega) rfl (by first | decide | omega) (by first | decide | omega)) rfl ?_
    refine tri_v (by first | exact opv_load1 rfl rfl rfl | exact opv_loadA rfl rfl rfl | exact opv_loadE1 rfl (by assumption) rfl (by omega) rfl rfl | exact opv_loadEA rfl (by assumption) rfl (by omega) rfl rfl | exact opv_loadRX1 rfl rfl (by omega) rfl rfl | exact opv_loadRXA rfl rfl (by omega) rfl rfl rfl | exact opv_loadIX rfl rfl (by omega) | exact opv_loadR1 rfl rfl rfl | exact opv_loadRA rfl rfl rfl rfl) rfl ?_
    refine tri_v (by first | exact opv_indexAddrA rfl rfl (by first | decide | omega) (by first | decide | omega) | exact opv_indexAddrSN rfl rfl (by omega) (by assumption) rfl | exact opv_indexAddrS rfl rfl (by omega) (by omega) (by assumption) rfl | exact opv_indexAddrE rfl (by assumption) (by omega) rfl (by first | decide | omega) (by first | decide | omega) | exact opv_indexAddrRN rfl rfl (by omega) | exact opv_indexAddrR rfl rfl (by omega) (by omega) | exact opv_indexAddrRA rfl (by omega) rfl (by first | decide | omega) (by first | decide | omega)) rfl ?_
    refine tri_g (opg_storeRX true rfl rfl rfl (by omega) hkl.symm rfl rfl rfl rfl) rfl ?_
    rintro _ _ _ ⟨rfl, rfl⟩
    refine tN ?_
    refine tri_inBlock ?_
    refine tT (tR (tM rfl rfl ?_))
    refine tri_v (by first | exact opv_add rfl rfl (w64 (by omega) (by omega))) rfl ?_
    refine tA rfl rfl (tN (tT ?_))
    refine tri_sub ?_ (hK (i + 1, keep.set (roots.getD i default).toNat true) ⟨by simp only; omega, by simp only [List.length_set]; exact hkl, ?_, fun j hj => ?_⟩ (by simp only; omega))
    ·exact ⟨rfl, rfl, rfl, rfl, rfl, trivial⟩
    ·simp only
     rw [List.take_succ_eq_append_getElem hlt, List.foldl_append, ← hke, show roots.getD i default = roots[i] by simp [hlt]]
     rfl
    ·by_cases e : j = i
     ·subst e
      exact ⟨by omega, by omega⟩
     ·exact hin j (by simp only at hj; omega)
  ·obtain rfl : i = roots.length := by omega
   rw [List.take_length] at hke
   rw [show keep = R6.keepRoots ns.length roots from hke]
   refine tri_exit ?_
   refine tri_then_exit ?_
   refine tri_then_exit ?_
   refine tri_inBlock_hit rfl ?_
   exact tri_cutEnd _ ⟨rfl, rfl, rfl, hin⟩ ⟨rfl, rfl, rfl, rfl, trivial⟩
 rintro _ _ _ ⟨rfl, rfl, rfl, hin⟩
 have hlive : R6.live ns room roots = ((R6.liveAll ns (R6.kept ns roots)).2, roots.map fun r => (R6.liveAll ns (R6.kept ns roots)).1.getD r.toNat default, 0) := if_pos ⟨hrt, hin⟩
 skip
 refine tT (tS (tS (tR ?_)))
 refine tri_v (by first | exact opv_fieldAddr rfl rfl | exact opv_fieldAddrE rfl (by assumption) (by omega) rfl | exact opv_fieldAddrR rfl (by omega) rfl) rfl ?_
 refine tri_v (by first | exact opv_load1 rfl rfl rfl | exact opv_loadA rfl rfl rfl | exact opv_loadE1 rfl (by assumption) rfl (by omega) rfl rfl | exact opv_loadEA rfl (by assumption) rfl (by omega) rfl rfl | exact opv_loadRX1 rfl rfl (by omega) rfl rfl | exact opv_loadRXA rfl rfl (by omega) rfl rfl rfl | exact opv_loadIX rfl rfl (by omega) | exact opv_loadR1 rfl rfl rfl | exact opv_loadRA rfl rfl rfl rfl) rfl ?_
 refine tri_v (opv_len rfl) rfl ?_
 refine tri_v (by first | exact opv_sub rfl rfl (w64 (by omega) (by omega)) | exact opv_sub rfl rfl rfl) rfl ?_
 refine tA rfl rfl (tN (tT (tri_block ?_)))
 refine tri_sub (F' := [(1, .slice ar roots.length capr), (2, pt b2 0), (4, pt b4 0), (7, .slice a7 ns.length ns.length), (9, .int .i64 ((ns.length - 1 : Nat) : Int))]) ⟨rfl, rfl, rfl, rfl, congrArg (fun z => some (Value.int IntKind.i64 z)) (by omega), trivial⟩ ?_
 refine loop_ind (G := Nat × List Bool) (fun g => g.1) (fun g => 1 ≤ g.1 ∧ g.1 < ns.length ∧ g.2.length = ns.length ∧ R6.kept ns roots = R6.keepDown ns (g.1 - 1) g.2) (fun g => [(1, .slice ar roots.length capr), (2, pt b2 0), (4, pt b4 0), (7, .slice a7 ns.length ns.length), (9, .int .i64 (g.1 : Nat))])
  (fun g => Row a7 ns.length ns.length 4 1 (encs g.2) :: Box b4 [.slice none 0 0, .int .i64 0] 25 :: Box b2 [.slice a ns.length cap, .int .i64 room] 25 :: A) (fun _ => I) ?_ (ns.length - 1, R6.keepRoots ns.length roots) ⟨by simp only; omega, by simp only; omega, R6.keepRoots_len _ _, by simp only; rw [show ns.length - 1 - 1 = ns.length - 2 by omega]; rfl⟩
 rintro ⟨i, keep⟩ ⟨hi1, hi, hkl, hke⟩ K hK
 simp only at hi1 hi hkl hke hK ⊢
 skip
 refine tS (tS (tR (tM rfl rfl ?_)))
 refine tri_v (opv_geq rfl rfl) rfl ?_
 refine tN (tT ?_)
 refine tri_cond_dec rfl (fun h => ?_) (fun h => ?_)
 ·have hi2 : 2 ≤ i := by omega
  obtain ⟨⟨p0, q0, r0⟩, ⟨p1, q1, r1⟩, ⟨p2, q2, r2⟩, ⟨p3, q3, r3⟩⟩ := hkid i hi
  have r0 := r0 hi2
  have r1 := r1 hi2
  have r2 := r2 hi2
  have r3 := r3 hi2
  rw [show i - 1 = (i - 2) + 1 by omega] at hke
  unfold R6.keepDown at hke
  rw [show i - 2 + 2 = i by omega] at hke
  refine tri_skip (tT (tS ?_))
  refine tri_cut (fun F' A' J => F' = [(1, .slice ar roots.length capr), (2, pt b2 0), (4, pt b4 0), (7, .slice a7 ns.length ns.length), (9, .int .i64 (i : Nat))] ∧ A' = Row a7 ns.length ns.length 4 1 (encs (if keep.getD i default = true then R6.keepKids keep (ns.getD i default) else keep)) :: Box b4 [.slice none 0 0, .int .i64 0] 25 :: Box b2 [.slice a ns.length cap, .int .i64 room] 25 :: A ∧ I = J) ?_ ?_
  ·refine tri_block (tS (tR (tA rfl rfl (tN (tT (tri_block ?_))))))
   refine tri_rounds 5 ?_
   refine tri_round ?_
   refine tS (tS (tR (tM rfl rfl ?_)))
   refine tri_v (opv_lss rfl rfl) rfl ?_
   refine tM rfl rfl ?_
   refine tri_true rfl rfl ((by decide)) ?_
   refine tri_guard_run rfl rfl rfl (tM rfl rfl (tri_guard_run rfl rfl rfl (tM rfl rfl (tri_guard_run rfl rfl rfl ?_))))
   refine tri_v (by first | exact opv_indexAddrA rfl rfl (by first | decide | omega) (by first | decide | omega) | exact opv_indexAddrSN rfl rfl (by omega) (by assumption) rfl | exact opv_indexAddrS rfl rfl (by omega) (by omega) (by assumption) rfl | exact opv_indexAddrE rfl (by assumption) (by omega) rfl (by first | decide | omega) (by first | decide | omega) | exact opv_indexAddrRN rfl rfl (by omega) | exact opv_indexAddrR rfl rfl (by omega) (by omega) | exact opv_indexAddrRA rfl (by omega) rfl (by first | decide | omega) (by first | decide | omega)) rfl ?_
   refine tri_guard_run rfl rfl rfl ?_
   refine tri_v (by first | exact opv_load1 rfl rfl rfl | exact opv_loadA rfl rfl rfl | exact opv_loadE1 rfl (by assumption) rfl (by omega) rfl rfl | exact opv_loadEA rfl (by assumption) rfl (by omega) rfl rfl | exact opv_loadRX1 rfl rfl (by omega) rfl rfl | exact opv_loadRXA rfl rfl (by omega) rfl rfl rfl | exact opv_loadIX rfl rfl (by omega) | exact opv_loadR1 rfl rfl rfl | exact opv_loadRA rfl rfl rfl rfl) rfl ?_
   refine tri_v (by first | exact opv_pick_t rfl rfl | exact opv_pick_f rfl rfl | exact opv_pick_bool rfl rfl rfl | exact opv_pick rfl rfl rfl) rfl ?_
   refine tN (tT ?_)
   refine tri_cond rfl (fun hb => ?_) (fun hb => ?_)
   ·refine tri_skip (tT (tS (tri_block (tR (tM rfl rfl ?_)))))
    refine tri_v (by first | exact opv_fieldAddr rfl rfl | exact opv_fieldAddrE rfl (by assumption) (by omega) rfl | exact opv_fieldAddrR rfl (by omega) rfl) rfl ?_
    refine tri_v (by first | exact opv_load1 rfl rfl rfl | exact opv_loadA rfl rfl rfl | exact opv_loadE1 rfl (by assumption) rfl (by omega) rfl rfl | exact opv_loadEA rfl (by assumption) rfl (by omega) rfl rfl | exact opv_loadRX1 rfl rfl (by omega) rfl rfl | exact opv_loadRXA rfl rfl (by omega) rfl rfl rfl | exact opv_loadIX rfl rfl (by omega) | exact opv_loadR1 rfl rfl rfl | exact opv_loadRA rfl rfl rfl rfl) rfl ?_
    refine tM rfl rfl (tM rfl rfl ?_)
    refine tri_v (by first | exact opv_indexAddrA rfl rfl (by first | decide | omega) (by first | decide | omega) | exact opv_indexAddrSN rfl rfl (by omega) (by assumption) rfl | exact opv_indexAddrS rfl rfl (by omega) (by omega) (by assumption) rfl | exact opv_indexAddrE rfl (by assumption) (by omega) rfl (by first | decide | omega) (by first | decide | omega) | exact opv_indexAddrRN rfl rfl (by omega) | exact opv_indexAddrR rfl rfl (by omega) (by omega) | exact opv_indexAddrRA rfl (by omega) rfl (by first | decide | omega) (by first | decide | omega)) rfl ?_
    refine tri_v (by first | exact opv_fieldAddr rfl rfl | exact opv_fieldAddrE rfl (by assumption) (by omega) rfl | exact opv_fieldAddrR rfl (by omega) rfl) rfl ?_
    refine tri_v (by first | exact opv_indexAddrA rfl rfl (by first | decide | omega) (by first | decide | omega) | exact opv_indexAddrSN rfl rfl (by omega) (by assumption) rfl | exact opv_indexAddrS rfl rfl (by omega) (by omega) (by assumption) rfl | exact opv_indexAddrE rfl (by assumption) (by omega) rfl (by first | decide | omega) (by first | decide | omega) | exact opv_indexAddrRN rfl rfl (by omega) | exact opv_indexAddrR rfl rfl (by omega) (by omega) | exact opv_indexAddrRA rfl (by omega) rfl (by first | decide | omega) (by first | decide | omega)) rfl ?_
    refine tri_v (by first | exact opv_load1 rfl rfl rfl | exact opv_loadA rfl rfl rfl | exact opv_loadE1 rfl (by assumption) rfl (by omega) rfl rfl | exact opv_loadEA rfl (by assumption) rfl (by omega) rfl rfl | exact opv_loadRX1 rfl rfl (by omega) rfl rfl | exact opv_loadRXA rfl rfl (by omega) rfl rfl rfl | exact opv_loadIX rfl rfl (by omega) | exact opv_loadR1 rfl rfl rfl | exact opv_loadRA rfl rfl rfl rfl) rfl ?_
    refine tri_v (by first | exact opv_indexAddrA rfl rfl (by first | decide | omega) (by first | decide | omega) | exact opv_indexAddrSN rfl rfl (by omega) (by assumption) rfl | exact opv_indexAddrS rfl rfl (by omega) (by omega) (by assumption) rfl | exact opv_indexAddrE rfl (by assumption) (by omega) rfl (by first | decide | omega) (by first | decide | omega) | exact opv_indexAddrRN rfl rfl (by omega) | exact opv_indexAddrR rfl rfl (by omega) (by omega) | exact opv_indexAddrRA rfl (by omega) rfl (by first | decide | omega) (by first | decide | omega)) rfl ?_
    refine tri_g (opg_storeRX true rfl rfl rfl (by omega) hkl.symm rfl rfl rfl rfl) rfl ?_
    rintro _ _ _ ⟨rfl, rfl⟩
    obtain ⟨keep1, hk1⟩ : ∃ x, x = keep.set (ns.getD i default).k0.toNat true := ⟨_, rfl⟩
    have hl1 : keep1.length = ns.length := by rw [hk1, List.length_set]; exact hkl
    have ht1 : keep1.getD i default = true := by rw [hk1, R6.set_getD (by omega)]; exact hb
    rw [← hk1]
    refine tN ?_
    refine tri_inBlock ?_
    refine tT (tR (tM rfl rfl ?_))
    refine tri_v (by first | exact opv_add rfl rfl (w64 (by omega) (by omega))) rfl ?_
    refine tA rfl rfl (tN (tT ?_))
    refine tri_round ?_
    refine tS (tS (tR (tM rfl rfl ?_)))
    refine tri_v (opv_lss rfl rfl) rfl ?_
    refine tM rfl rfl ?_
    refine tri_true rfl rfl ((by decide)) ?_
    refine tri_guard_run rfl rfl rfl (tM rfl rfl (tri_guard_run rfl rfl rfl (tM rfl rfl (tri_guard_run rfl rfl rfl ?_))))
    refine tri_v (by first | exact opv_indexAddrA rfl rfl (by first | decide | omega) (by first | decide | omega) | exact opv_indexAddrSN rfl rfl (by omega) (by assumption) rfl | exact opv_indexAddrS rfl rfl (by omega) (by omega) (by assumption) rfl | exact opv_indexAddrE rfl (by assumption) (by omega) rfl (by first | decide | omega) (by first | decide | omega) | exact opv_indexAddrRN rfl rfl (by omega) | exact opv_indexAddrR rfl rfl (by omega) (by omega) | exact opv_indexAddrRA rfl (by omega) rfl (by first | decide | omega) (by first | decide | omega)) rfl ?_
    refine tri_guard_run rfl rfl rfl ?_
    refine tri_v (by first | exact opv_load1 rfl rfl rfl | exact opv_loadA rfl rfl rfl | exact opv_loadE1 rfl (by assumption) rfl (by omega) rfl rfl | exact opv_loadEA rfl (by assumption) rfl (by omega) rfl rfl | exact opv_loadRX1 rfl rfl (by omega) rfl rfl | exact opv_loadRXA rfl rfl (by omega) rfl rfl rfl | exact opv_loadIX rfl rfl (by omega) | exact opv_loadR1 rfl rfl rfl | exact opv_loadRA rfl rfl rfl rfl) rfl ?_
    refine tri_v (by first | exact opv_pick_t rfl rfl | exact opv_pick_f rfl rfl | exact opv_pick_bool rfl rfl rfl | exact opv_pick rfl rfl rfl) rfl ?_
    refine tN (tT ?_)
    refine tri_cond_true (by first | rfl | exact (congrArg some (congrArg Value.bool ht1))) ?_
    refine tri_skip (tT (tS (tri_block (tR (tM rfl rfl ?_)))))
    refine tri_v (by first | exact opv_fieldAddr rfl rfl | exact opv_fieldAddrE rfl (by assumption) (by omega) rfl | exact opv_fieldAddrR rfl (by omega) rfl) rfl ?_
    refine tri_v (by first | exact opv_load1 rfl rfl rfl | exact opv_loadA rfl rfl rfl | exact opv_loadE1 rfl (by assumption) rfl (by omega) rfl rfl | exact opv_loadEA rfl (by assumption) rfl (by omega) rfl rfl | exact opv_loadRX1 rfl rfl (by omega) rfl rfl | exact opv_loadRXA rfl rfl (by omega) rfl rfl rfl | exact opv_loadIX rfl rfl (by omega) | exact opv_loadR1 rfl rfl rfl | exact opv_loadRA rfl rfl rfl rfl) rfl ?_
    refine tM rfl rfl (tM rfl rfl ?_)
    refine tri_v (by first | exact opv_indexAddrA rfl rfl (by first | decide | omega) (by first | decide | omega) | exact opv_indexAddrSN rfl rfl (by omega) (by assumption) rfl | exact opv_indexAddrS rfl rfl (by omega) (by omega) (by assumption) rfl | exact opv_indexAddrE rfl (by assumption) (by omega) rfl (by first | decide | omega) (by first | decide | omega) | exact opv_indexAddrRN rfl rfl (by omega) | exact opv_indexAddrR rfl rfl (by omega) (by omega) | exact opv_indexAddrRA rfl (by omega) rfl (by first | decide | omega) (by first | decide | omega)) rfl ?_
    refine tri_v (by first | exact opv_fieldAddr rfl rfl | exact opv_fieldAddrE rfl (by assumption) (by omega) rfl | exact opv_fieldAddrR rfl (by omega) rfl) rfl ?_
    refine tri_v (by first | exact opv_indexAddrA rfl rfl (by first | decide | omega) (by first | decide | omega) | exact opv_indexAddrSN rfl rfl (by omega) (by assumption) rfl | exact opv_indexAddrS rfl rfl (by omega) (by omega) (by assumption) rfl | exact opv_indexAddrE rfl (by assumption) (by omega) rfl (by first | decide | omega) (by first | decide | omega) | exact opv_indexAddrRN rfl rfl (by omega) | exact opv_indexAddrR rfl rfl (by omega) (by omega) | exact opv_indexAddrRA rfl (by omega) rfl (by first | decide | omega) (by first | decide | omega)) rfl ?_
    refine tri_v (by first | exact opv_load1 rfl rfl rfl | exact opv_loadA rfl rfl rfl | exact opv_loadE1 rfl (by assumption) rfl (by omega) rfl rfl | exact opv_loadEA rfl (by assumption) rfl (by omega) rfl rfl | exact opv_loadRX1 rfl rfl (by omega) rfl rfl | exact opv_loadRXA rfl rfl (by omega) rfl rfl rfl | exact opv_loadIX rfl rfl (by omega) | exact opv_loadR1 rfl rfl rfl | exact opv_loadRA rfl rfl rfl rfl) rfl ?_
    refine tri_v (by first | exact opv_indexAddrA rfl rfl (by first | decide | omega) (by first | decide | omega) | exact opv_indexAddrSN rfl rfl (by omega) (by assumption) rfl | exact opv_indexAddrS rfl rfl (by omega) (by omega) (by assumption) rfl | exact opv_indexAddrE rfl (by assumption) (by omega) rfl (by first | decide | omega) (by first | decide | omega) | exact opv_indexAddrRN rfl rfl (by omega) | exact opv_indexAddrR rfl rfl (by omega) (by omega) | exact opv_indexAddrRA rfl (by omega) rfl (by first | decide | omega) (by first | decide | omega)) rfl ?_
    refine tri_g (opg_storeRX true rfl rfl rfl (by omega) hl1.symm rfl rfl rfl rfl) rfl ?_
    rintro _ _ _ ⟨rfl, rfl⟩
    obtain ⟨keep2, hk2⟩ : ∃ x, x = keep1.set (ns.getD i default).k1.toNat true := ⟨_, rfl⟩
    have hl2 : keep2.length = ns.length := by rw [hk2, List.length_set]; exact hl1
    have ht2 : keep2.getD i default = true := by rw [hk2, R6.set_getD (by omega)]; exact ht1
    rw [← hk2]
    refine tN ?_
    refine tri_inBlock ?_
    refine tT (tR (tM rfl rfl ?_))
    refine tri_v (by first | exact opv_add rfl rfl (w64 (by omega) (by omega))) rfl ?_
    refine tA rfl rfl (tN (tT ?_))
    refine tri_round ?_
    refine tS (tS (tR (tM rfl rfl ?_)))
    refine tri_v (opv_lss rfl rfl) rfl ?_
    refine tM rfl rfl ?_
    refine tri_true rfl rfl ((by decide)) ?_
    refine tri_guard_run rfl rfl rfl (tM rfl rfl (tri_guard_run rfl rfl rfl (tM rfl rfl (tri_guard_run rfl rfl rfl ?_))))
    refine tri_v (by first | exact opv_indexAddrA rfl rfl (by first | decide | omega) (by first | decide | omega) | exact opv_indexAddrSN rfl rfl (by omega) (by assumption) rfl | exact opv_indexAddrS rfl rfl (by omega) (by omega) (by assumption) rfl | exact opv_indexAddrE rfl (by assumption) (by omega) rfl (by first | decide | omega) (by first | decide | omega) | exact opv_indexAddrRN rfl rfl (by omega) | exact opv_indexAddrR rfl rfl (by omega) (by omega) | exact opv_indexAddrRA rfl (by omega) rfl (by first | decide | omega) (by first | decide | omega)) rfl ?_
    refine tri_guard_run rfl rfl rfl ?_
    refine tri_v (by first | exact opv_load1 rfl rfl rfl | exact opv_loadA rfl rfl rfl | exact opv_loadE1 rfl (by assumption) rfl (by omega) rfl rfl | exact opv_loadEA rfl (by assumption) rfl (by omega) rfl rfl | exact opv_loadRX1 rfl rfl (by omega) rfl rfl | exact opv_loadRXA rfl rfl (by omega) rfl rfl rfl | exact opv_loadIX rfl rfl (by omega) | exact opv_loadR1 rfl rfl rfl | exact opv_loadRA rfl rfl rfl rfl) rfl ?_
    refine tri_v (by first | exact opv_pick_t rfl rfl | exact opv_pick_f rfl rfl | exact opv_pick_bool rfl rfl rfl | exact opv_pick rfl rfl rfl) rfl ?_
    refine tN (tT ?_)
    refine tri_cond_true (by first | rfl | exact (congrArg some (congrArg Value.bool ht2))) ?_
    refine tri_skip (tT (tS (tri_block (tR (tM rfl rfl ?_)))))
    refine tri_v (by first | exact opv_fieldAddr rfl rfl | exact opv_fieldAddrE rfl (by assumption) (by omega) rfl | exact opv_fieldAddrR rfl (by omega) rfl) rfl ?_
    refine tri_v (by first | exact opv_load1 rfl rfl rfl | exact opv_loadA rfl rfl rfl | exact opv_loadE1 rfl (by assumption) rfl (by omega) rfl rfl | exact opv_loadEA rfl (by assumption) rfl (by omega) rfl rfl | exact opv_loadRX1 rfl rfl (by omega) rfl rfl | exact opv_loadRXA rfl rfl (by omega) rfl rfl rfl | exact opv_loadIX rfl rfl (by omega) | exact opv_loadR1 rfl rfl rfl | exact opv_loadRA rfl rfl rfl rfl) rfl ?_
    refine tM rfl rfl (tM rfl rfl ?_)
    refine tri_v (by first | exact opv_indexAddrA rfl rfl (by first | decide | omega) (by first | decide | omega) | exact opv_indexAddrSN rfl rfl (by omega) (by assumption) rfl | exact opv_indexAddrS rfl rfl (by omega) (by omega) (by assumption) rfl | exact opv_indexAddrE rfl (by assumption) (by omega) rfl (by first | decide | omega) (by first | decide | omega) | exact opv_indexAddrRN rfl rfl (by omega) | exact opv_indexAddrR rfl rfl (by omega) (by omega) | exact opv_indexAddrRA rfl (by omega) rfl (by first | decide | omega) (by first | decide | omega)) rfl ?_
    refine tri_v (by first | exact opv_fieldAddr rfl rfl | exact opv_fieldAddrE rfl (by assumption) (by omega) rfl | exact opv_fieldAddrR rfl (by omega) rfl) rfl ?_
    refine tri_v (by first | exact opv_indexAddrA rfl rfl (by first | decide | omega) (by first | decide | omega) | exact opv_indexAddrSN rfl rfl (by omega) (by assumption) rfl | exact opv_indexAddrS rfl rfl (by omega) (by omega) (by assumption) rfl | exact opv_indexAddrE rfl (by assumption) (by omega) rfl (by first | decide | omega) (by first | decide | omega) | exact opv_indexAddrRN rfl rfl (by omega) | exact opv_indexAddrR rfl rfl (by omega) (by omega) | exact opv_indexAddrRA rfl (by omega) rfl (by first | decide | omega) (by first | decide | omega)) rfl ?_
    refine tri_v (by first | exact opv_load1 rfl rfl rfl | exact opv_loadA rfl rfl rfl | exact opv_loadE1 rfl (by assumption) rfl (by omega) rfl rfl | exact opv_loadEA rfl (by assumption) rfl (by omega) rfl rfl | exact opv_loadRX1 rfl rfl (by omega) rfl rfl | exact opv_loadRXA rfl rfl (by omega) rfl rfl rfl | exact opv_loadIX rfl rfl (by omega) | exact opv_loadR1 rfl rfl rfl | exact opv_loadRA rfl rfl rfl rfl) rfl ?_
    refine tri_v (by first | exact opv_indexAddrA rfl rfl (by first | decide | omega) (by first | decide | omega) | exact opv_indexAddrSN rfl rfl (by omega) (by assumption) rfl | exact opv_indexAddrS rfl rfl (by omega) (by omega) (by assumption) rfl | exact opv_indexAddrE rfl (by assumption) (by omega) rfl (by first | decide | omega) (by first | decide | omega) | exact opv_indexAddrRN rfl rfl (by omega) | exact opv_indexAddrR rfl rfl (by omega) (by omega) | exact opv_indexAddrRA rfl (by omega) rfl (by first | decide | omega) (by first | decide | omega)) rfl ?_
    refine tri_g (opg_storeRX true rfl rfl rfl (by omega) hl2.symm rfl rfl rfl rfl) rfl ?_
    rintro _ _ _ ⟨rfl, rfl⟩
    obtain ⟨keep3, hk3⟩ : ∃ x, x = keep2.set (ns.getD i default).k2.toNat true := ⟨_, rfl⟩
    have hl3 : keep3.length = ns.length := by rw [hk3, List.length_set]; exact hl2
    have ht3 : keep3.getD i default = true := by rw [hk3, R6.set_getD (by omega)]; exact ht2
    rw [← hk3]
    refine tN ?_
    refine tri_inBlock ?_
    refine tT (tR (tM rfl rfl ?_))
    refine tri_v (by first | exact opv_add rfl rfl (w64 (by omega) (by omega))) rfl ?_
    refine tA rfl rfl (tN (tT ?_))
    refine tri_round ?_
    refine tS (tS (tR (tM rfl rfl ?_)))
    refine tri_v (opv_lss rfl rfl) rfl ?_
    refine tM rfl rfl ?_
    refine tri_true rfl rfl ((by decide)) ?_
    refine tri_guard_run rfl rfl rfl (tM rfl rfl (tri_guard_run rfl rfl rfl (tM rfl rfl (tri_guard_run rfl rfl rfl ?_))))
    refine tri_v (by first | exact opv_indexAddrA rfl rfl (by first | decide | omega) (by first | decide | omega) | exact opv_indexAddrSN rfl rfl (by omega) (by assumption) rfl | exact opv_indexAddrS rfl rfl (by omega) (by omega) (by assumption) rfl | exact opv_indexAddrE rfl (by assumption) (by omega) rfl (by first | decide | omega) (by first | decide | omega) | exact opv_indexAddrRN rfl rfl (by omega) | exact opv_indexAddrR rfl rfl (by omega) (by omega) | exact opv_indexAddrRA rfl (by omega) rfl (by first | decide | omega) (by first | decide | omega)) rfl ?_
    refine tri_guard_run rfl rfl rfl ?_
    refine tri_v (by first | exact opv_load1 rfl rfl rfl | exact opv_loadA rfl rfl rfl | exact opv_loadE1 rfl (by assumption) rfl (by omega) rfl rfl | exact opv_loadEA rfl (by assumption) rfl (by omega) rfl rfl | exact opv_loadRX1 rfl rfl (by omega) rfl rfl | exact opv_loadRXA rfl rfl (by omega) rfl rfl rfl | exact opv_loadIX rfl rfl (by omega) | exact opv_loadR1 rfl rfl rfl | exact opv_loadRA rfl rfl rfl rfl) rfl ?_
    refine tri_v (by first | exact opv_pick_t rfl rfl | exact opv_pick_f rfl rfl | exact opv_pick_bool rfl rfl rfl | exact opv_pick rfl rfl rfl) rfl ?_
    refine tN (tT ?_)
    refine tri_cond_true (by first | rfl | exact (congrArg some (congrArg Value.bool ht3))) ?_
    refine tri_skip (tT (tS (tri_block (tR (tM rfl rfl ?_)))))
    refine tri_v (by first | exact opv_fieldAddr rfl rfl | exact opv_fieldAddrE rfl (by assumption) (by omega) rfl | exact opv_fieldAddrR rfl (by omega) rfl) rfl ?_
    refine tri_v (by first | exact opv_load1 rfl rfl rfl | exact opv_loadA rfl rfl rfl | exact opv_loadE1 rfl (by assumption) rfl (by omega) rfl rfl | exact opv_loadEA rfl (by assumption) rfl (by omega) rfl rfl | exact opv_loadRX1 rfl rfl (by omega) rfl rfl | exact opv_loadRXA rfl rfl (by omega) rfl rfl rfl | exact opv_loadIX rfl rfl (by omega) | exact opv_loadR1 rfl rfl rfl | exact opv_loadRA rfl rfl rfl rfl) rfl ?_
    refine tM rfl rfl (tM rfl rfl ?_)
    refine tri_v (by first | exact opv_indexAddrA rfl rfl (by first | decide | omega) (by first | decide | omega) | exact opv_indexAddrSN rfl rfl (by omega) (by assumption) rfl | exact opv_indexAddrS rfl rfl (by omega) (by omega) (by assumption) rfl | exact opv_indexAddrE rfl (by assumption) (by omega) rfl (by first | decide | omega) (by first | decide | omega) | exact opv_indexAddrRN rfl rfl (by omega) | exact opv_indexAddrR rfl rfl (by omega) (by omega) | exact opv_indexAddrRA rfl (by omega) rfl (by first | decide | omega) (by first | decide | omega)) rfl ?_
    refine tri_v (by first | exact opv_fieldAddr rfl rfl | exact opv_fieldAddrE rfl (by assumption) (by omega) rfl | exact opv_fieldAddrR rfl (by omega) rfl) rfl ?_
    refine tri_v (by first | exact opv_indexAddrA rfl rfl (by first | decide | omega) (by first | decide | omega) | exact opv_indexAddrSN rfl rfl (by omega) (by assumption) rfl | exact opv_indexAddrS rfl rfl (by omega) (by omega) (by assumption) rfl | exact opv_indexAddrE rfl (by assumption) (by omega) rfl (by first | decide | omega) (by first | decide | omega) | exact opv_indexAddrRN rfl rfl (by omega) | exact opv_indexAddrR rfl rfl (by omega) (by omega) | exact opv_indexAddrRA rfl (by omega) rfl (by first | decide | omega) (by first | decide | omega)) rfl ?_
    refine tri_v (by first | exact opv_load1 rfl rfl rfl | exact opv_loadA rfl rfl rfl | exact opv_loadE1 rfl (by assumption) rfl (by omega) rfl rfl | exact opv_loadEA rfl (by assumption) rfl (by omega) rfl rfl | exact opv_loadRX1 rfl rfl (by omega) rfl rfl | exact opv_loadRXA rfl rfl (by omega) rfl rfl rfl | exact opv_loadIX rfl rfl (by omega) | exact opv_loadR1 rfl rfl rfl | exact opv_loadRA rfl rfl rfl rfl) rfl ?_
    refine tri_v (by first | exact opv_indexAddrA rfl rfl (by first | decide | omega) (by first | decide | omega) | exact opv_indexAddrSN rfl rfl (by omega) (by assumption) rfl | exact opv_indexAddrS rfl rfl (by omega) (by omega) (by assumption) rfl | exact opv_indexAddrE rfl (by assumption) (by omega) rfl (by first | decide | omega) (by first | decide | omega) | exact opv_indexAddrRN rfl rfl (by omega) | exact opv_indexAddrR rfl rfl (by omega) (by omega) | exact opv_indexAddrRA rfl (by omega) rfl (by first | decide | omega) (by first | decide | omega)) rfl ?_
    refine tri_g (opg_storeRX true rfl rfl rfl (by omega) hl3.symm rfl rfl rfl rfl) rfl ?_
    rintro _ _ _ ⟨rfl, rfl⟩
    obtain ⟨keep4, hk4⟩ : ∃ x, x = keep3.set (ns.getD i default).k3.toNat true := ⟨_, rfl⟩
    have hl4 : keep4.length = ns.length := by rw [hk4, List.length_set]; exact hl3
    have ht4 : keep4.getD i default = true := by rw [hk4, R6.set_getD (by omega)]; exact ht3
    rw [← hk4]
    refine tN ?_
    refine tri_inBlock ?_
    refine tT (tR (tM rfl rfl ?_))
    refine tri_v (by first | exact opv_add rfl rfl (w64 (by omega) (by omega))) rfl ?_
    refine tA rfl rfl (tN (tT ?_))
    refine tri_round ?_
    refine tS (tS (tR (tM rfl rfl ?_)))
    refine tri_v (opv_lss rfl rfl) rfl ?_
    refine tM rfl rfl ?_
    refine tri_false rfl rfl ((by decide)) ?_
    refine tri_guard_skip rfl rfl rfl rfl (tri_guard_skip rfl rfl rfl rfl (tri_guard_skip rfl rfl rfl rfl (tri_guard_skip rfl rfl rfl rfl ?_)))
    refine tri_v (by first | exact opv_pick_t rfl rfl | exact opv_pick_f rfl rfl | exact opv_pick_bool rfl rfl rfl | exact opv_pick rfl rfl rfl) rfl ?_
    refine tN (tT ?_)
    refine tri_cond_false rfl ?_
    refine tri_exit ?_
    refine tri_then_exit ?_
    refine tri_then_exit ?_
    refine tri_inBlock_hit rfl ?_
    refine tri_inBlock ?_
    refine tri_cutEnd _ ⟨rfl, ?_, rfl⟩ ⟨rfl, rfl, rfl, rfl, rfl, trivial⟩
    rw [if_pos hb, hk4, hk3, hk2, hk1]
    rfl
   ·refine tri_exit ?_
    refine tri_then_exit ?_
    refine tri_then_exit ?_
    refine tri_inBlock_hit rfl ?_
    refine tri_inBlock ?_
    refine tri_cutEnd _ ⟨rfl, ?_, rfl⟩ ⟨rfl, rfl, rfl, rfl, rfl, trivial⟩
    rw [if_neg (by rw [hb]; decide)]
  rintro _ _ _ ⟨rfl, rfl, rfl⟩
  skip
  refine tT (tR (tM rfl rfl ?_))
  refine tri_v (by first | exact opv_sub rfl rfl (w64 (by omega) (by omega)) | exact opv_sub rfl rfl rfl) rfl ?_
  refine tA rfl rfl (tN (tT ?_))
  refine tri_sub ?_ (hK (i - 1, if keep.getD i default = true then R6.keepKids keep (ns.getD i default) else keep) ⟨by simp only; omega, by simp only; omega, ?_, ?_⟩ (by simp only; omega))
  ·exact ⟨rfl, rfl, rfl, rfl, congrArg (fun z => some (Value.int IntKind.i64 z)) (by simp only; omega), trivial⟩
  ·simp only
   split
   ·rw [R6.keepKids_len, hkl]
   ·exact hkl
  ·simp only
   rw [show i - 1 - 1 = i - 2 by omega]
   exact hke
 ·obtain rfl : i = 1 := by omega
  rw [show keep = R6.kept ns roots from hke.symm]
  have hkl : (R6.kept ns roots).length = ns.length := by rw [hke]; exact hkl
  have hall : R6.liveAll ns (R6.kept ns roots) = (List.range ns.length).foldl (R6.liveStep ns (R6.kept ns roots)) (List.replicate ns.length 0, []) := rfl
  generalize R6.kept ns roots = kp at *
  generalize hR : R6.liveAll ns kp = R at *
  refine tri_exit ?_
  refine tri_then_exit ?_
  refine tri_then_exit ?_
  refine tri_inBlock_hit rfl ?_
  refine tT (tS (tR ?_))
  refine tri_v (by first | exact opv_fieldAddr rfl rfl | exact opv_fieldAddrE rfl (by assumption) (by omega) rfl | exact opv_fieldAddrR rfl (by omega) rfl) rfl ?_
  refine tri_v (by first | exact opv_load1 rfl rfl rfl | exact opv_loadA rfl rfl rfl | exact opv_loadE1 rfl (by assumption) rfl (by omega) rfl rfl | exact opv_loadEA rfl (by assumption) rfl (by omega) rfl rfl | exact opv_loadRX1 rfl rfl (by omega) rfl rfl | exact opv_loadRXA rfl rfl (by omega) rfl rfl rfl | exact opv_loadIX rfl rfl (by omega) | exact opv_loadR1 rfl rfl rfl | exact opv_loadRA rfl rfl rfl rfl) rfl ?_
  refine tri_v (opv_len rfl) rfl ?_
  refine tri_g (opg_makeSlice rfl rfl rfl (by omega) (by omega) (by omega)) rfl ?_
  rintro _ _ _ ⟨a11, ha11, rfl, rfl, rfl⟩
  rw [show ((ns.length : Nat) : Int).toNat = ns.length from rfl]
  refine tri_rowEq (len' := ns.length) (cells' := encs (List.replicate ns.length (0 : Int))) rfl (encs_rep rfl _) ?_
  refine tA rfl rfl (tN (tT (tS (tR ?_))))
  refine tri_v (by first | exact opv_fieldAddr rfl rfl | exact opv_fieldAddrE rfl (by assumption) (by omega) rfl | exact opv_fieldAddrR rfl (by omega) rfl) rfl ?_
  refine tri_v (by first | exact opv_load1 rfl rfl rfl | exact opv_loadA rfl rfl rfl | exact opv_loadE1 rfl (by assumption) rfl (by omega) rfl rfl | exact opv_loadEA rfl (by assumption) rfl (by omega) rfl rfl | exact opv_loadRX1 rfl rfl (by omega) rfl rfl | exact opv_loadRXA rfl rfl (by omega) rfl rfl rfl | exact opv_loadIX rfl rfl (by omega) | exact opv_loadR1 rfl rfl rfl | exact opv_loadRA rfl rfl rfl rfl) rfl ?_
  refine tri_v (by first | exact opv_buildS rfl rfl | exact opv_buildA rfl rfl) rfl ?_
  refine tri_g opg_alloc rfl ?_
  rintro _ _ _ ⟨b12, rfl, rfl, rfl⟩
  refine tri_g (opg_store rfl rfl rfl rfl rfl rfl) rfl ?_
  rintro _ _ _ ⟨rfl, rfl⟩
  refine tN (tT (tS (tS (tR (tA rfl rfl (tN (tT ?_)))))))
  refine tri_block ?_
  refine tri_nilRow (E := 49) (sz := 6) ?_
  refine tri_sub (F' := [(1, .slice ar roots.length capr), (2, pt b2 0), (4, pt b4 0), (7, .slice a7 ns.length ns.length), (11, .slice a11 ns.length ns.length), (12, pt b12 0), (13, .int .i64 (0 : Nat))]) ⟨rfl, rfl, rfl, rfl, rfl, rfl, rfl, trivial⟩ ?_
  refine loop_ind (G := Nat × List Int × List Node × Option Addr × Nat) (fun g => ns.length - g.1) (fun g => g.1 ≤ ns.length ∧ (List.range g.1).foldl (R6.liveStep ns kp) (List.replicate ns.length 0, []) = (g.2.1, g.2.2.1)) (fun g => [(1, .slice ar roots.length capr), (2, pt b2 0), (4, pt b4 0), (7, .slice a7 ns.length ns.length), (11, .slice a11 ns.length ns.length), (12, pt b12 0), (13, .int .i64 (g.1 : Nat))])
   (fun g => Row g.2.2.2.1 g.2.2.2.2 g.2.2.1.length 49 6 (encs g.2.2.1) :: Box b12 [.slice g.2.2.2.1 g.2.2.1.length g.2.2.2.2, .int .i64 room] 25 :: Row a11 ns.length ns.length 3 1 (encs g.2.1) :: Row a7 ns.length ns.length 4 1 (encs kp) :: Box b4 [.slice none 0 0, .int .i64 0] 25 :: Box b2 [.slice a ns.length cap, .int .i64 room] 25 :: A) (fun _ => I) ?_ (0, List.replicate ns.length 0, [], none, 0) ⟨by simp, rfl⟩
  rintro ⟨i, to, out, a1, c1⟩ ⟨hi, hst⟩ K2 hK2
  simp only at hi hst hK2 ⊢
  have hlen := R6.liveStep_len (ns := ns) (keep := kp) i
  rw [hst] at hlen
  obtain ⟨htl, hol⟩ := hlen
  simp only at htl hol
  skip
  refine tS (tS (tR (tM rfl rfl ?_)))
  refine tri_v (by first | exact opv_fieldAddr rfl rfl | exact opv_fieldAddrE rfl (by assumption) (by omega) rfl | exact opv_fieldAddrR rfl (by omega) rfl) rfl ?_
  refine tri_v (by first | exact opv_load1 rfl rfl rfl | exact opv_loadA rfl rfl rfl | exact opv_loadE1 rfl (by assumption) rfl (by omega) rfl rfl | exact opv_loadEA rfl (by assumption) rfl (by omega) rfl rfl | exact opv_loadRX1 rfl rfl (by omega) rfl rfl | exact opv_loadRXA rfl rfl (by omega) rfl rfl rfl | exact opv_loadIX rfl rfl (by omega) | exact opv_loadR1 rfl rfl rfl | exact opv_loadRA rfl rfl rfl rfl) rfl ?_
  refine tri_v (opv_len rfl) rfl ?_
  refine tri_v (opv_lss rfl rfl) rfl ?_
  refine tN (tT ?_)
  refine tri_cond_dec rfl (fun h2 => ?_) (fun h2 => ?_)
  ·have hil : i < ns.length := by omega
   obtain ⟨⟨p0, q0, r0⟩, ⟨p1, q1, r1⟩, ⟨p2, q2, r2⟩, ⟨p3, q3, r3⟩⟩ := hkid i hil
   have hnx : (List.range (i + 1)).foldl (R6.liveStep ns kp) (List.replicate ns.length 0, []) = R6.liveStep ns kp (to, out) i := by
    rw [List.range_succ, List.foldl_append, hst]; rfl
   refine tri_skip (tT (tS (tri_block (tS (tS (tR (tM rfl rfl ?_)))))))
   refine tM rfl rfl ?_
   refine tri_v (by first | exact opv_indexAddrA rfl rfl (by first | decide | omega) (by first | decide | omega) | exact opv_indexAddrSN rfl rfl (by omega) (by assumption) rfl | exact opv_indexAddrS rfl rfl (by omega) (by omega) (by assumption) rfl | exact opv_indexAddrE rfl (by assumption) (by omega) rfl (by first | decide | omega) (by first | decide | omega) | exact opv_indexAddrRN rfl rfl (by omega) | exact opv_indexAddrR rfl rfl (by omega) (by omega) | exact opv_indexAddrRA rfl (by omega) rfl (by first | decide | omega) (by first | decide | omega)) rfl ?_
   refine tri_v (by first | exact opv_load1 rfl rfl rfl | exact opv_loadA rfl rfl rfl | exact opv_loadE1 rfl (by assumption) rfl (by omega) rfl rfl | exact opv_loadEA rfl (by assumption) rfl (by omega) rfl rfl | exact opv_loadRX1 rfl rfl (by omega) rfl rfl | exact opv_loadRXA rfl rfl (by omega) rfl rfl rfl | exact opv_loadIX rfl rfl (by omega) | exact opv_loadR1 rfl rfl rfl | exact opv_loadRA rfl rfl rfl rfl) rfl ?_
   refine tri_v (by first | exact opv_notD rfl | exact opv_not rfl) rfl ?_
   refine tN (tT ?_)
   refine tri_cond rfl (fun hb => ?_) (fun hb => ?_)
   ·have hb' : kp.getD i default = false := by simpa using hb
    rw [show R6.liveStep ns kp (to, out) i = (to, out) from if_neg (by rw [hb']; decide)] at hnx
    refine tri_exit ?_
    refine tri_then_exit ?_
    refine tri_inBlock_hit rfl ?_
    refine tT (tR (tM rfl rfl ?_))
    refine tri_v (by first | exact opv_add rfl rfl (w64 (by omega) (by omega))) rfl ?_
    refine tA rfl rfl (tN (tT ?_))
    refine tri_sub ?_ (hK2 (i + 1, to, out, a1, c1) ⟨by simp only; omega, hnx⟩ (by simp only; omega))
    exact ⟨rfl, rfl, rfl, rfl, rfl, rfl, rfl, trivial⟩
   ·have hb' : kp.getD i default = true := by simpa using hb
    rw [show R6.liveStep ns kp (to, out) i = (to.set i (out.length : Nat), out ++ [R6.mapKids to (ns.getD i default)]) from if_pos hb'] at hnx
    refine tri_skip (tT (tS (tR ?_)))
    refine tri_v (by first | exact opv_fieldAddr rfl rfl | exact opv_fieldAddrE rfl (by assumption) (by omega) rfl | exact opv_fieldAddrR rfl (by omega) rfl) rfl ?_
    refine tri_v (by first | exact opv_load1 rfl rfl rfl | exact opv_loadA rfl rfl rfl | exact opv_loadE1 rfl (by assumption) rfl (by omega) rfl rfl | exact opv_loadEA rfl (by assumption) rfl (by omega) rfl rfl | exact opv_loadRX1 rfl rfl (by omega) rfl rfl | exact opv_loadRXA rfl rfl (by omega) rfl rfl rfl | exact opv_loadIX rfl rfl (by omega) | exact opv_loadR1 rfl rfl rfl | exact opv_loadRA rfl rfl rfl rfl) rfl ?_
    refine tM rfl rfl ?_
    refine tri_v (by first | exact opv_indexAddrA rfl rfl (by first | decide | omega) (by first | decide | omega) | exact opv_indexAddrSN rfl rfl (by omega) (by assumption) rfl | exact opv_indexAddrS rfl rfl (by omega) (by omega) (by assumption) rfl | exact opv_indexAddrE rfl (by assumption) (by omega) rfl (by first | decide | omega) (by first | decide | omega) | exact opv_indexAddrRN rfl rfl (by omega) | exact opv_indexAddrR rfl rfl (by omega) (by omega) | exact opv_indexAddrRA rfl (by omega) rfl (by first | decide | omega) (by first | decide | omega)) rfl ?_
    refine tri_v (by first | exact opv_load1 rfl rfl rfl | exact opv_loadA rfl rfl rfl | exact opv_loadE1 rfl (by assumption) rfl (by omega) rfl rfl | exact opv_loadEA rfl (by assumption) rfl (by omega) rfl rfl | exact opv_loadRX1 rfl rfl (by omega) rfl rfl | exact opv_loadRXA rfl rfl (by omega) rfl rfl rfl | exact opv_loadIX rfl rfl (by omega) | exact opv_loadR1 rfl rfl rfl | exact opv_loadRA rfl rfl rfl rfl) rfl ?_
    refine tri_g opg_alloc rfl ?_
    rintro _ _ _ ⟨b14, rfl, rfl, rfl⟩
    refine tri_g (opg_store rfl rfl rfl rfl rfl rfl) rfl ?_
    rintro _ _ _ ⟨rfl, rfl⟩
    refine tN (tT (tS (tS (tR (tA rfl rfl (tN (tT ?_)))))))
    refine tri_block ?_
    refine tri_rounds 5 ?_
    refine tri_round ?_
    refine tS (tS (tR (tM rfl rfl ?_)))
    refine tri_v (opv_lss rfl rfl) rfl ?_
    refine tN (tT ?_)
    refine tri_cond_is rfl ((by decide)) ?_
    refine tri_skip (tT (tS (tri_block (tR (tM rfl rfl (tM rfl rfl (tM rfl rfl ?_)))))))
    refine tri_v (by first | exact opv_fieldAddr rfl rfl | exact opv_fieldAddrE rfl (by assumption) (by omega) rfl | exact opv_fieldAddrR rfl (by omega) rfl) rfl ?_
    refine tri_v (by first | exact opv_indexAddrA rfl rfl (by first | decide | omega) (by first | decide | omega) | exact opv_indexAddrSN rfl rfl (by omega) (by assumption) rfl | exact opv_indexAddrS rfl rfl (by omega) (by omega) (by assumption) rfl | exact opv_indexAddrE rfl (by assumption) (by omega) rfl (by first | decide | omega) (by first | decide | omega) | exact opv_indexAddrRN rfl rfl (by omega) | exact opv_indexAddrR rfl rfl (by omega) (by omega) | exact opv_indexAddrRA rfl (by omega) rfl (by first | decide | omega) (by first | decide | omega)) rfl ?_
    refine tri_v (by first | exact opv_load1 rfl rfl rfl | exact opv_loadA rfl rfl rfl | exact opv_loadE1 rfl (by assumption) rfl (by omega) rfl rfl | exact opv_loadEA rfl (by assumption) rfl (by omega) rfl rfl | exact opv_loadRX1 rfl rfl (by omega) rfl rfl | exact opv_loadRXA rfl rfl (by omega) rfl rfl rfl | exact opv_loadIX rfl rfl (by omega) | exact opv_loadR1 rfl rfl rfl | exact opv_loadRA rfl rfl rfl rfl) rfl ?_
    refine tri_v (by first | exact opv_indexAddrA rfl rfl (by first | decide | omega) (by first | decide | omega) | exact opv_indexAddrSN rfl rfl (by omega) (by assumption) rfl | exact opv_indexAddrS rfl rfl (by omega) (by omega) (by assumption) rfl | exact opv_indexAddrE rfl (by assumption) (by omega) rfl (by first | decide | omega) (by first | decide | omega) | exact opv_indexAddrRN rfl rfl (by omega) | exact opv_indexAddrR rfl rfl (by omega) (by omega) | exact opv_indexAddrRA rfl (by omega) rfl (by first | decide | omega) (by first | decide | omega)) rfl ?_
    refine tri_v (by first | exact opv_load1 rfl rfl rfl | exact opv_loadA rfl rfl rfl | exact opv_loadE1 rfl (by assumption) rfl (by omega) rfl rfl | exact opv_loadEA rfl (by assumption) rfl (by omega) rfl rfl | exact opv_loadRX1 rfl rfl (by omega) rfl rfl | exact opv_loadRXA rfl rfl (by omega) rfl rfl rfl | exact opv_loadIX rfl rfl (by omega) | exact opv_loadR1 rfl rfl rfl | exact opv_loadRA rfl rfl rfl rfl) rfl ?_
    refine tri_v (by first | exact opv_fieldAddr rfl rfl | exact opv_fieldAddrE rfl (by assumption) (by omega) rfl | exact opv_fieldAddrR rfl (by omega) rfl) rfl ?_
    refine tri_v (by first | exact opv_indexAddrA rfl rfl (by first | decide | omega) (by first | decide | omega) | exact opv_indexAddrSN rfl rfl (by omega) (by assumption) rfl | exact opv_indexAddrS rfl rfl (by omega) (by omega) (by assumption) rfl | exact opv_indexAddrE rfl (by assumption) (by omega) rfl (by first | decide | omega) (by first | decide | omega) | exact opv_indexAddrRN rfl rfl (by omega) | exact opv_indexAddrR rfl rfl (by omega) (by omega) | exact opv_indexAddrRA rfl (by omega) rfl (by first | decide | omega) (by first | decide | omega)) rfl ?_
    refine tri_g (opg_store rfl rfl rfl rfl rfl rfl) rfl ?_
    rintro _ _ _ ⟨rfl, rfl⟩
    refine tN ?_
    refine tri_inBlock ?_
    refine tT (tR (tM rfl rfl ?_))
    refine tri_v (by first | exact opv_add rfl rfl (w64 (by omega) (by omega))) rfl ?_
    refine tA rfl rfl (tN (tT ?_))
    refine tri_round ?_
    refine tS (tS (tR (tM rfl rfl ?_)))
    refine tri_v (opv_lss rfl rfl) rfl ?_
    refine tN (tT ?_)
    refine tri_cond_is rfl ((by decide)) ?_
    refine tri_skip (tT (tS (tri_block (tR (tM rfl rfl (tM rfl rfl (tM rfl rfl ?_)))))))
    refine tri_v (by first | exact opv_fieldAddr rfl rfl | exact opv_fieldAddrE rfl (by assumption) (by omega) rfl | exact opv_fieldAddrR rfl (by omega) rfl) rfl ?_
    refine tri_v (by first | exact opv_indexAddrA rfl rfl (by first | decide | omega) (by first | decide | omega) | exact opv_indexAddrSN rfl rfl (by omega) (by assumption) rfl | exact opv_indexAddrS rfl rfl (by omega) (by omega) (by assumption) rfl | exact opv_indexAddrE rfl (by assumption) (by omega) rfl (by first | decide | omega) (by first | decide | omega) | exact opv_indexAddrRN rfl rfl (by omega) | exact opv_indexAddrR rfl rfl (by omega) (by omega) | exact opv_indexAddrRA rfl (by omega) rfl (by first | decide | omega) (by first | decide | omega)) rfl ?_
    refine tri_v (by first | exact opv_load1 rfl rfl rfl | exact opv_loadA rfl rfl rfl | exact opv_loadE1 rfl (by assumption) rfl (by omega) rfl rfl | exact opv_loadEA rfl (by assumption) rfl (by omega) rfl rfl | exact opv_loadRX1 rfl rfl (by omega) rfl rfl | exact opv_loadRXA rfl rfl (by omega) rfl rfl rfl | exact opv_loadIX rfl rfl (by omega) | exact opv_loadR1 rfl rfl rfl | exact opv_loadRA rfl rfl rfl rfl) rfl ?_
    refine tri_v (by first | exact opv_indexAddrA rfl rfl (by first | decide | omega) (by first | decide | omega) | exact opv_indexAddrSN rfl rfl (by omega) (by assumption) rfl | exact opv_indexAddrS rfl rfl (by omega) (by omega) (by assumption) rfl | exact opv_indexAddrE rfl (by assumption) (by omega) rfl (by first | decide | omega) (by first | decide | omega) | exact opv_indexAddrRN rfl rfl (by omega) | exact opv_indexAddrR rfl rfl (by omega) (by omega) | exact opv_indexAddrRA rfl (by omega) rfl (by first | decide | omega) (by first | decide | omega)) rfl ?_
    refine tri_v (by first | exact opv_load1 rfl rfl rfl | exact opv_loadA rfl rfl rfl | exact opv_loadE1 rfl (by assumption) rfl (by omega) rfl rfl | exact opv_loadEA rfl (by assumption) rfl (by omega) rfl rfl | exact opv_loadRX1 rfl rfl (by omega) rfl rfl | exact opv_loadRXA rfl rfl (by omega) rfl rfl rfl | exact opv_loadIX rfl rfl (by omega) | exact opv_loadR1 rfl rfl rfl | exact opv_loadRA rfl rfl rfl rfl) rfl ?_
    refine tri_v (by first | exact opv_fieldAddr rfl rfl | exact opv_fieldAddrE rfl (by assumption) (by omega) rfl | exact opv_fieldAddrR rfl (by omega) rfl) rfl ?_
    refine tri_v (by first | exact opv_indexAddrA rfl rfl (by first | decide | omega) (by first | decide | omega) | exact opv_indexAddrSN rfl rfl (by omega) (by assumption) rfl | exact opv_indexAddrS rfl rfl (by omega) (by omega) (by assumption) rfl | exact opv_indexAddrE rfl (by assumption) (by omega) rfl (by first | decide | omega) (by first | decide | omega) | exact opv_indexAddrRN rfl rfl (by omega) | exact opv_indexAddrR rfl rfl (by omega) (by omega) | exact opv_indexAddrRA rfl (by omega) rfl (by first | decide | omega) (by first | decide | omega)) rfl ?_
    refine tri_g (opg_store rfl rfl rfl rfl rfl rfl) rfl ?_
    rintro _ _ _ ⟨rfl, rfl⟩
    refine tN ?_
    refine tri_inBlock ?_
    refine tT (tR (tM rfl rfl ?_))
    refine tri_v (by first | exact opv_add rfl rfl (w64 (by omega) (by omega))) rfl ?_
    refine tA rfl rfl (tN (tT ?_))
    refine tri_round ?_
    refine tS (tS (tR (tM rfl rfl ?_)))
    refine tri_v (opv_lss rfl rfl) rfl ?_
    refine tN (tT ?_)
    refine tri_cond_is rfl ((by decide)) ?_
    refine tri_skip (tT (tS (tri_block (tR (tM rfl rfl (tM rfl rfl (tM rfl rfl ?_)))))))
    refine tri_v (by first | exact opv_fieldAddr rfl rfl | exact opv_fieldAddrE rfl (by assumption) (by omega) rfl | exact opv_fieldAddrR rfl (by omega) rfl) rfl ?_
    refine tri_v (by first | exact opv_indexAddrA rfl rfl (by first | decide | omega) (by first | decide | omega) | exact opv_indexAddrSN rfl rfl (by omega) (by assumption) rfl | exact opv_indexAddrS rfl rfl (by omega) (by omega) (by assumption) rfl | exact opv_indexAddrE rfl (by assumption) (by omega) rfl (by first | decide | omega) (by first | decide | omega) | exact opv_indexAddrRN rfl rfl (by omega) | exact opv_indexAddrR rfl rfl (by omega) (by omega) | exact opv_indexAddrRA rfl (by omega) rfl (by first | decide | omega) (by first | decide | omega)) rfl ?_
    refine tri_v (by first | exact opv_load1 rfl rfl rfl | exact opv_loadA rfl rfl rfl | exact opv_loadE1 rfl (by assumption) rfl (by omega) rfl rfl | exact opv_loadEA rfl (by assumption) rfl (by omega) rfl rfl | exact opv_loadRX1 rfl rfl (by omega) rfl rfl | exact opv_loadRXA rfl rfl (by omega) rfl rfl rfl | exact opv_loadIX rfl rfl (by omega) | exact opv_loadR1 rfl rfl rfl | exact opv_loadRA rfl rfl rfl rfl) rfl ?_
    refine tri_v (by first | exact opv_indexAddrA rfl rfl (by first | decide | omega) (by first | decide | omega) | exact opv_indexAddrSN rfl rfl (by omega) (by assumption) rfl | exact opv_indexAddrS rfl rfl (by omega) (by omega) (by assumption) rfl | exact opv_indexAddrE rfl (by assumption) (by omega) rfl (by first | decide | omega) (by first | decide | omega) | exact opv_indexAddrRN rfl rfl (by omega) | exact opv_indexAddrR rfl rfl (by omega) (by omega) | exact opv_indexAddrRA rfl (by omega) rfl (by first | decide | omega) (by first | decide | omega)) rfl ?_
    refine tri_v (by first | exact opv_load1 rfl rfl rfl | exact opv_loadA rfl rfl rfl | exact opv_loadE1 rfl (by assumption) rfl (by omega) rfl rfl | exact opv_loadEA rfl (by assumption) rfl (by omega) rfl rfl | exact opv_loadRX1 rfl rfl (by omega) rfl rfl | exact opv_loadRXA rfl rfl (by omega) rfl rfl rfl | exact opv_loadIX rfl rfl (by omega) | exact opv_loadR1 rfl rfl rfl | exact opv_loadRA rfl rfl rfl rfl) rfl ?_
    refine tri_v (by first | exact opv_fieldAddr rfl rfl | exact opv_fieldAddrE rfl (by assumption) (by omega) rfl | exact opv_fieldAddrR rfl (by omega) rfl) rfl ?_
    refine tri_v (by first | exact opv_indexAddrA rfl rfl (by first | decide | omega) (by first | decide | omega) | exact opv_indexAddrSN rfl rfl (by omega) (by assumption) rfl | exact opv_indexAddrS rfl rfl (by omega) (by omega) (by assumption) rfl | exact opv_indexAddrE rfl (by assumption) (by omega) rfl (by first | decide | omega) (by first | decide | omega) | exact opv_indexAddrRN rfl rfl (by omega) | exact opv_indexAddrR rfl rfl (by omega) (by omega) | exact opv_indexAddrRA rfl (by omega) rfl (by first | decide | omega) (by first | decide | omega)) rfl ?_
    refine tri_g (opg_store rfl rfl rfl rfl rfl rfl) rfl ?_
    rintro _ _ _ ⟨rfl, rfl⟩
    refine tN ?_
    refine tri_inBlock ?_
    refine tT (tR (tM rfl rfl ?_))
    refine tri_v (by first | exact opv_add rfl rfl (w64 (by omega) (by omega))) rfl ?_
    refine tA rfl rfl (tN (tT ?_))
    refine tri_round ?_
    refine tS (tS (tR (tM rfl rfl ?_)))
    refine tri_v (opv_lss rfl rfl) rfl ?_
    refine tN (tT ?_)
    refine tri_cond_is rfl ((by decide)) ?_
    refine tri_skip (tT (tS (tri_block (tR (tM rfl rfl (tM rfl rfl (tM rfl rfl ?_)))))))
    refine tri_v (by first | exact opv_fieldAddr rfl rfl | exact opv_fieldAddrE rfl (by assumption) (by omega) rfl | exact opv_fieldAddrR rfl (by omega) rfl) rfl ?_
    refine tri_v (by first | exact opv_indexAddrA rfl rfl (by first | decide | omega) (by first | decide | omega) | exact opv_indexAddrSN rfl rfl (by omega) (by assumption) rfl | exact opv_indexAddrS rfl rfl (by omega) (by omega) (by assumption) rfl | exact opv_indexAddrE rfl (by assumption) (by omega) rfl (by first | decide | omega) (by first | decide | omega) | exact opv_indexAddrRN rfl rfl (by omega) | exact opv_indexAddrR rfl rfl (by omega) (by omega) | exact opv_indexAddrRA rfl (by omega) rfl (by first | decide | omega) (by first | decide | omega)) rfl ?_
    refine tri_v (by first | exact opv_load1 rfl rfl rfl | exact opv_loadA rfl rfl rfl | exact opv_loadE1 rfl (by assumption) rfl (by omega) rfl rfl | exact opv_loadEA rfl (by assumption) rfl (by omega) rfl rfl | exact opv_loadRX1 rfl rfl (by omega) rfl rfl | exact opv_loadRXA rfl rfl (by omega) rfl rfl rfl | exact opv_loadIX rfl rfl (by omega) | exact opv_loadR1 rfl rfl rfl | exact opv_loadRA rfl rfl rfl rfl) rfl ?_
    refine tri_v (by first | exact opv_indexAddrA rfl rfl (by first | decide | omega) (by first | decide | omega) | exact opv_indexAddrSN rfl rfl (by omega) (by assumption) rfl | exact opv_indexAddrS rfl rfl (by omega) (by omega) (by assumption) rfl | exact opv_indexAddrE rfl (by assumption) (by omega) rfl (by first | decide | omega) (by first | decide | omega) | exact opv_indexAddrRN rfl rfl (by omega) | exact opv_indexAddrR rfl rfl (by omega) (by omega) | exact opv_indexAddrRA rfl (by omega) rfl (by first | decide | omega) (by first | decide | omega)) rfl ?_
    refine tri_v (by first | exact opv_load1 rfl rfl rfl | exact opv_loadA rfl rfl rfl | exact opv_loadE1 rfl (by assumption) rfl (by omega) rfl rfl | exact opv_loadEA rfl (by assumption) rfl (by omega) rfl rfl | exact opv_loadRX1 rfl rfl (by omega) rfl rfl | exact opv_loadRXA rfl rfl (by omega) rfl rfl rfl | exact opv_loadIX rfl rfl (by omega) | exact opv_loadR1 rfl rfl rfl | exact opv_loadRA rfl rfl rfl rfl) rfl ?_
    refine tri_v (by first | exact opv_fieldAddr rfl rfl | exact opv_fieldAddrE rfl (by assumption) (by omega) rfl | exact opv_fieldAddrR rfl (by omega) rfl) rfl ?_
    refine tri_v (by first | exact opv_indexAddrA rfl rfl (by first | decide | omega) (by first | decide | omega) | exact opv_indexAddrSN rfl rfl (by omega) (by assumption) rfl | exact opv_indexAddrS rfl rfl (by omega) (by omega) (by assumption) rfl | exact opv_indexAddrE rfl (by assumption) (by omega) rfl (by first | decide | omega) (by first | decide | omega) | exact opv_indexAddrRN rfl rfl (by omega) | exact opv_indexAddrR rfl rfl (by omega) (by omega) | exact opv_indexAddrRA rfl (by omega) rfl (by first | decide | omega) (by first | decide | omega)) rfl ?_
    refine tri_g (opg_store rfl rfl rfl rfl rfl rfl) rfl ?_
    rintro _ _ _ ⟨rfl, rfl⟩
    refine tN ?_
    refine tri_inBlock ?_
    refine tT (tR (tM rfl rfl ?_))
    refine tri_v (by first | exact opv_add rfl rfl (w64 (by omega) (by omega))) rfl ?_
    refine tA rfl rfl (tN (tT ?_))
    refine tri_round ?_
    refine tS (tS (tR (tM rfl rfl ?_)))
    refine tri_v (opv_lss rfl rfl) rfl ?_
    refine tN (tT ?_)
    refine tri_cond_not rfl ((by decide)) ?_
    refine tri_exit ?_
    refine tri_then_exit ?_
    refine tri_then_exit ?_
    refine tri_inBlock_hit rfl ?_
    refine tT (tS (tR (tM rfl rfl (tM rfl rfl ?_))))
    refine tri_v (by first | exact opv_fieldAddr rfl rfl | exact opv_fieldAddrE rfl (by assumption) (by omega) rfl | exact opv_fieldAddrR rfl (by omega) rfl) rfl ?_
    refine tri_v (by first | exact opv_load1 rfl rfl rfl | exact opv_loadA rfl rfl rfl | exact opv_loadE1 rfl (by assumption) rfl (by omega) rfl rfl | exact opv_loadEA rfl (by assumption) rfl (by omega) rfl rfl | exact opv_loadRX1 rfl rfl (by omega) rfl rfl | exact opv_loadRXA rfl rfl (by omega) rfl rfl rfl | exact opv_loadIX rfl rfl (by omega) | exact opv_loadR1 rfl rfl rfl | exact opv_loadRA rfl rfl rfl rfl) rfl ?_
    refine tri_v (opv_len rfl) rfl ?_
    refine tri_v (by first | exact opv_indexAddrA rfl rfl (by first | decide | omega) (by first | decide | omega) | exact opv_indexAddrSN rfl rfl (by omega) (by assumption) rfl | exact opv_indexAddrS rfl rfl (by omega) (by omega) (by assumption) rfl | exact opv_indexAddrE rfl (by assumption) (by omega) rfl (by first | decide | omega) (by first | decide | omega) | exact opv_indexAddrRN rfl rfl (by omega) | exact opv_indexAddrR rfl rfl (by omega) (by omega) | exact opv_indexAddrRA rfl (by omega) rfl (by first | decide | omega) (by first | decide | omega)) rfl ?_
    refine tri_g (opg_storeRX ((out.length : Nat) : Int) rfl rfl rfl (by omega) htl.symm rfl rfl rfl rfl) rfl ?_
    rintro _ _ _ ⟨rfl, rfl⟩
    refine tN (tT (tR ?_))
    refine tri_v (by first | exact opv_fieldAddr rfl rfl | exact opv_fieldAddrE rfl (by assumption) (by omega) rfl | exact opv_fieldAddrR rfl (by omega) rfl) rfl ?_
    refine tri_v (by first | exact opv_load1 rfl rfl rfl | exact opv_loadA rfl rfl rfl | exact opv_loadE1 rfl (by assumption) rfl (by omega) rfl rfl | exact opv_loadEA rfl (by assumption) rfl (by omega) rfl rfl | exact opv_loadRX1 rfl rfl (by omega) rfl rfl | exact opv_loadRXA rfl rfl (by omega) rfl rfl rfl | exact opv_loadIX rfl rfl (by omega) | exact opv_loadR1 rfl rfl rfl | exact opv_loadRA rfl rfl rfl rfl) rfl ?_
    refine tri_v (by first | exact opv_load1 rfl rfl rfl | exact opv_loadA rfl rfl rfl | exact opv_loadE1 rfl (by assumption) rfl (by omega) rfl rfl | exact opv_loadEA rfl (by assumption) rfl (by omega) rfl rfl | exact opv_loadRX1 rfl rfl (by omega) rfl rfl | exact opv_loadRXA rfl rfl (by omega) rfl rfl rfl | exact opv_loadIX rfl rfl (by omega) | exact opv_loadR1 rfl rfl rfl | exact opv_loadRA rfl rfl rfl rfl) rfl ?_
    refine tri_g (opg_buildSlice rfl rfl rfl rfl) rfl ?_
    rintro _ _ _ ⟨b133, rfl, rfl, rfl⟩
    refine tri_g (opg_appendB rfl rfl rfl rfl (by omega) rfl) rfl ?_
    rintro _ _ _ ⟨a3, c3, rfl, rfl, rfl⟩
    refine tri_v (by first | exact opv_fieldAddr rfl rfl | exact opv_fieldAddrE rfl (by assumption) (by omega) rfl | exact opv_fieldAddrR rfl (by omega) rfl) rfl ?_
    refine tri_g (opg_store rfl rfl rfl rfl rfl rfl) rfl ?_
    rintro _ _ _ ⟨rfl, rfl⟩
    refine tN ?_
    refine tri_inBlock ?_
    refine tT (tR (tM rfl rfl ?_))
    refine tri_v (by first | exact opv_add rfl rfl (w64 (by omega) (by omega))) rfl ?_
    refine tA rfl rfl (tN (tT ?_))
    refine tri_drop ?_
    refine tri_drop ?_
    refine tri_rowEq (len' := (out ++ [R6.mapKids to (ns.getD i default)]).length) (cells' := encs (out ++ [R6.mapKids to (ns.getD i default)])) (by simp) (by rw [encs_append]; rfl) ?_
    have hk := hK2 (i + 1, to.set i (out.length : Nat), out ++ [R6.mapKids to (ns.getD i default)], a3, c3) ⟨by simp only; omega, hnx⟩ (by simp only; omega)
    simp only [List.length_append] at hk ⊢
    refine tri_sub ?_ hk
    exact ⟨rfl, rfl, rfl, rfl, rfl, rfl, rfl, trivial⟩
  ·obtain rfl : i = ns.length := by omega
   rw [← hall] at hst
   have hR1 : R.1 = to := by rw [hst]
   have hR2 : R.2 = out := by rw [hst]
   rw [hR1, hR2] at hlive
   refine tri_freezeRowC rfl fun I2 hI2 hso => ?_
   have hsr2 := hsr.mono hI2
   refine tri_exit ?_
   refine tri_then_exit ?_
   refine tri_then_exit ?_
   refine tri_inBlock_hit rfl ?_
   refine tT (tS (tR (tA rfl rfl (tN (tT (tS (tS ?_)))))))
   refine tR (tA rfl rfl (tN (tT (tri_block ?_))))
   refine tri_nilRow (E := 3) (sz := 1) ?_
   refine tri_sub (F' := [(1, .slice ar roots.length capr), (4, pt b4 0), (11, .slice a11 ns.length ns.length), (12, pt b12 0), (16, .slice none 0 0), (17, .int .i64 (0 : Nat))]) ⟨rfl, rfl, rfl, rfl, rfl, rfl, trivial⟩ ?_
   refine loop_ind (G := Nat × Option Addr × Nat) (fun g => roots.length - g.1) (fun g => g.1 ≤ roots.length) (fun g => [(1, .slice ar roots.length capr), (4, pt b4 0), (11, .slice a11 ns.length ns.length), (12, pt b12 0), (16, .slice g.2.1 ((roots.take g.1).map fun r => to.getD r.toNat default).length g.2.2), (17, .int .i64 (g.1 : Nat))])
    (fun g => Row g.2.1 g.2.2 ((roots.take g.1).map fun r => to.getD r.toNat default).length 3 1 (encs ((roots.take g.1).map fun r => to.getD r.toNat default)) :: Box b12 [.slice a1 out.length c1, .int .i64 room] 25 :: Row a11 ns.length ns.length 3 1 (encs to) :: Row a7 ns.length ns.length 4 1 (encs kp) :: Box b4 [.slice none 0 0, .int .i64 0] 25 :: Box b2 [.slice a ns.length cap, .int .i64 room] 25 :: A) (fun _ => I2) ?_ (0, none, 0) (by simp)
   rintro ⟨q, a5, c5⟩ hq K3 hK3
   simp only at hq hK3 ⊢
   have hl1 : ((roots.take q).map fun r => to.getD r.toNat default).length = q := by rw [List.length_map, List.length_take]; omega
   skip
   refine tS (tS (tR (tM rfl rfl (tM rfl rfl ?_))))
   refine tri_v (opv_len rfl) rfl ?_
   refine tri_v (opv_lss rfl rfl) rfl ?_
   refine tN (tT ?_)
   refine tri_cond_dec rfl (fun h3 => ?_) (fun h3 => ?_)
   ·have hql : q < roots.length := by omega
    have hrb := hin q hql
    have hrb1 := hrb.1
    have hrb2 := hrb.2
    refine tri_skip (tT (tS (tri_block (tR (tM rfl rfl (tM rfl rfl (tM rfl rfl ?_)))))))
    refine tM rfl rfl ?_
    refine tri_v (by first | exact opv_indexAddrA rfl rfl (by first | decide | omega) (by first | decide | omega) | exact opv_indexAddrSN rfl rfl (by omega) (by assumption) rfl | exact opv_indexAddrS rfl rfl (by omega) (by omega) (by assumption) rfl | exact opv_indexAddrE rfl (by assumption) (by omega) rfl (by first | decide | omega) (by first | decide | omega) | exact opv_indexAddrRN rfl rfl (by omega) | exact opv_indexAddrR rfl rfl (by omega) (by omega) | exact opv_indexAddrRA rfl (by omega) rfl (by first | decide | omega) (by first | decide | omega)) rfl ?_
    refine tri_v (by first | exact opv_load1 rfl rfl rfl | exact opv_loadA rfl rfl rfl | exact opv_loadE1 rfl (by assumption) rfl (by omega) rfl rfl | exact opv_loadEA rfl (by assumption) rfl (by omega) rfl rfl | exact opv_loadRX1 rfl rfl (by omega) rfl rfl | exact opv_loadRXA rfl rfl (by omega) rfl rfl rfl | exact opv_loadIX rfl rfl (by omega) | exact opv_loadR1 rfl rfl rfl | exact opv_loadRA rfl rfl rfl rfl) rfl ?_
    refine tri_v (by first | exact opv_indexAddrA rfl rfl (by first | decide | omega) (by first | decide | omega) | exact opv_indexAddrSN rfl rfl (by omega) (by assumption) rfl | exact opv_indexAddrS rfl rfl (by omega) (by omega) (by assumption) rfl | exact opv_indexAddrE rfl (by assumption) (by omega) rfl (by first | decide | omega) (by first | decide | omega) | exact opv_indexAddrRN rfl rfl (by omega) | exact opv_indexAddrR rfl rfl (by omega) (by omega) | exact opv_indexAddrRA rfl (by omega) rfl (by first | decide | omega) (by first | decide | omega)) rfl ?_
    refine tri_v (by first | exact opv_load1 rfl rfl rfl | exact opv_loadA rfl rfl rfl | exact opv_loadE1 rfl (by assumption) rfl (by omega) rfl rfl | exact opv_loadEA rfl (by assumption) rfl (by omega) rfl rfl | exact opv_loadRX1 rfl rfl (by omega) rfl rfl | exact opv_loadRXA rfl rfl (by omega) rfl rfl rfl | exact opv_loadIX rfl rfl (by omega) | exact opv_loadR1 rfl rfl rfl | exact opv_loadRA rfl rfl rfl rfl) rfl ?_
    refine tri_g (opg_buildSlice rfl rfl rfl rfl) rfl ?_
    rintro _ _ _ ⟨b150, rfl, rfl, rfl⟩
    refine tri_g (opg_appendB rfl rfl rfl rfl (by omega) rfl) rfl ?_
    rintro _ _ _ ⟨a6, c6, rfl, rfl, rfl⟩
    refine tA rfl rfl (tN ?_)
    refine tri_inBlock ?_
    refine tT (tR (tM rfl rfl ?_))
    refine tri_v (by first | exact opv_add rfl rfl (w64 (by omega) (by omega))) rfl ?_
    refine tA rfl rfl (tN (tT ?_))
    have e2 : (roots.take (q + 1)).map (fun r => to.getD r.toNat default) = (roots.take q).map (fun r => to.getD r.toNat default) ++ [to.getD (roots.getD q default).toNat default] := by
     rw [List.take_succ_eq_append_getElem hql, List.map_append, show roots.getD q default = roots[q] by simp [hql]]; rfl
    refine tri_drop ?_
    refine tri_rowEq (len' := ((roots.take (q + 1)).map fun r => to.getD r.toNat default).length) (cells' := encs ((roots.take (q + 1)).map fun r => to.getD r.toNat default)) (by rw [e2]; simp) (by rw [e2, encs_append]; rfl) ?_
    refine tri_sub ?_ (hK3 (q + 1, a6, c6) (by simp only; omega) (by simp only; omega))
    exact ⟨rfl, rfl, rfl, rfl, by simp only [e2, List.length_append]; rfl, rfl, trivial⟩
   ·obtain rfl : q = roots.length := by omega
    rw [List.take_length]
    refine tri_freezeRow (α := Int) rfl fun I3 hI3 hsp => ?_
    refine tri_exit ?_
    refine tri_then_exit ?_
    refine tri_then_exit ?_
    refine tri_inBlock_hit rfl ?_
    refine tT (tS (tR ?_))
    refine tri_v (by first | exact opv_load1 rfl rfl rfl | exact opv_loadA rfl rfl rfl | exact opv_loadE1 rfl (by assumption) rfl (by omega) rfl rfl | exact opv_loadEA rfl (by assumption) rfl (by omega) rfl rfl | exact opv_loadRX1 rfl rfl (by omega) rfl rfl | exact opv_loadRXA rfl rfl (by omega) rfl rfl rfl | exact opv_loadIX rfl rfl (by omega) | exact opv_loadR1 rfl rfl rfl | exact opv_loadRA rfl rfl rfl rfl) rfl ?_
    refine tM rfl rfl ?_
    refine tri_g (opg_store rfl rfl rfl rfl rfl rfl) rfl ?_
    rintro _ _ _ ⟨rfl, rfl⟩
    refine tA rfl rfl (tA rfl rfl (tN (tT (tri_ret ?_))))
    refine tri_end A Suf.h rfl (.cons (rv_cellA rfl rfl rfl) (.cons (rv_tmp rfl) (.cons (rv_tmp rfl) .nil))) ?_
    rw [hlive]
    exact ⟨a1, c1, a5, c5, rfl, hso.mono hI3, hsp, rfl, fun _ h => hI3 (hI2 h)⟩
end Go.GL

set_option linter.unusedVariables false
namespace Go.GL.Rd
open Go.Proofs
attribute [local irreducible] wpListIn Code.wpIn Exit.then Exit.inBlock Ends Tri OpV OpG FnC epf XN RoundC Go.GL.Ends
variable {A : List Asrt} {I : List Chunk}
/-- The maps of what is kept. -/
def KeepS (ns : List Node) (roots : List Int) (b9 b42 : Nat) (T : TypeId) (i : Nat) (L : List Asrt) : Prop := ∃ es keep, KeepIx es keep ∧ keep.length = ns.length ∧ R6.kept ns roots = R6.keepDown ns (i - 2) keep ∧ L = [Box b9 [.map (some b42)] T, MapA Try.prog 3 b42 es]
theorem right_lv {ns : List Node} {room : Int} (h : R6.right ns room) {i : Nat} (hi : i < ns.length) : (ns.getD i default).lv = 0 ↔ i < 2 := by
 by_cases h2 : 2 ≤ i
 ·have := (h.2 i hi h2).2.2.2.2.1
  omega
 ·rcases (by omega : i = 0 ∨ i = 1) with rfl | rfl
  ·rw [h.1.2.2.2.2.1]; exact ⟨fun _ => by omega, fun _ => rfl⟩
  ·rw [h.1.2.2.2.2.2]; exact ⟨fun _ => by omega, fun _ => rfl⟩
set_option maxHeartbeats 4000000 in
set_option maxRecDepth 100000 in
theorem node_live {ns : List Node} {roots : List Int} {a ar : Option Addr} {cap capr : Nat} {room : Int} (hs : StA I a cap ns) (hn : ns.length ≤ 1000000) (hsr : SlAt I ar roots) (hrl : roots.length ≤ 1000000) :
  FnC Try.prog 23 [storeV a ns.length cap room, .slice ar roots.length capr].toArray A I (LiveR (R6.live ns room roots) room A I) := by
 skip
 skip
 refine fn_enter2 Try.func23 rfl Try.ntmps23 rfl fun w0 => ?_
 refine tri_seq ?_
 refine tri_region ?_
 first | refine tri_g (opg_box_agg rfl) rfl ?_ | refine tri_g (opg_box1 rfl rfl) rfl ?_
 rintro _ _ _ ⟨b2, rfl, rfl, rfl⟩
 refine tri_g opg_alloc rfl ?_
 rintro _ _ _ ⟨b4, rfl, rfl, rfl⟩
 refine tri_v (opv_assign rfl) rfl ?_
 refine tri_v (opv_assign rfl) rfl ?_
 refine tri_nil ?_
 refine tri_then ?_
 refine tri_seq ?_
 refine tri_region ?_
 refine tri_v (by first | exact opv_load1 rfl rfl rfl | exact opv_loadA rfl rfl rfl | exact opv_loadE1 rfl (by assumption) rfl (by omega) rfl rfl | exact opv_loadEA rfl (by assumption) rfl (by omega) rfl rfl | exact opv_loadRX1 rfl rfl (by omega) rfl rfl | exact opv_loadRXA rfl rfl (by omega) rfl rfl rfl | exact opv_loadIX rfl rfl (by omega) | exact opv_loadR1 rfl rfl rfl | exact opv_loadRA rfl rfl rfl rfl) rfl ?_
 refine tri_g (opg_call (xs := [_]) rfl (node_of hs (by omega))) rfl ?_
 rintro v A1 I1 hR
 rcases hR with ⟨hrt, bx, mb, a1, c1, es, rfl, rfl, hix, rfl⟩ | ⟨hrt, rfl, rfl, rfl⟩
 ·have hn2 : 2 ≤ ns.length := hrt.1.2.2.1
  have hkid := fun i hi => hrt.kid (i := i) hi
  have hlv := fun i hi => right_lv hrt (i := i) hi
  refine tri_v (opv_move rfl) rfl ?_
  refine tri_v (opv_extract rfl rfl) rfl ?_
  refine tri_v (opv_extract rfl rfl) rfl ?_
  refine tri_v (opv_assign rfl) rfl ?_
  refine tri_v (opv_assign rfl) rfl ?_
  refine tri_nil ?_
  refine tri_then ?_
  refine tri_seq ?_
  refine tri_seq ?_
  refine tri_region ?_
  refine tri_v (opv_move rfl) rfl ?_
  refine tri_v (by first | exact opv_notD rfl | exact opv_not rfl) rfl ?_
  refine tri_v (opv_move rfl) rfl ?_
  skip
  refine tri_guard_run rfl rfl rfl ?_
  refine tri_v (opv_move rfl) rfl ?_
  refine tri_guard_run rfl rfl rfl ?_
  refine tri_v (opv_makeFunc (fs := []) (cs := [_]) (vf := []) (vc := [_]) rfl rfl) rfl ?_
  refine tri_guard_run rfl rfl rfl ?_
  refine tri_g (opg_call (xs := [_, _]) rfl (slices_containsFunc (p := fun n => decide (n < 0 ∨ (ns.length : Int) ≤ n)) (ca := [pt b2 0]) (fun x _ => live_clo) hsr (by omega))) rfl ?_
  rintro _ _ _ ⟨rfl, rfl, rfl⟩
  refine tri_v (by first | exact opv_pick_t rfl rfl | exact opv_pick_f rfl rfl | exact opv_pick_bool rfl rfl rfl | exact opv_pick rfl rfl rfl) rfl ?_
  refine tri_nil ?_
  refine tri_then ?_
  refine tri_cond_dec rfl (fun h0 => ?_) (fun h0 => ?_)
  ·refine tri_seq ?_
   refine tri_region ?_
   refine tri_v (by first | exact opv_load1 rfl rfl rfl | exact opv_loadA rfl rfl rfl | exact opv_loadE1 rfl (by assumption) rfl (by omega) rfl rfl | exact opv_loadEA rfl (by assumption) rfl (by omega) rfl rfl | exact opv_loadRX1 rfl rfl (by omega) rfl rfl | exact opv_loadRXA rfl rfl (by omega) rfl rfl rfl | exact opv_loadIX rfl rfl (by omega) | exact opv_loadR1 rfl rfl rfl | exact opv_loadRA rfl rfl rfl rfl) rfl ?_
   refine tri_g (opg_store rfl rfl rfl rfl rfl rfl) rfl ?_
   rintro _ _ _ ⟨rfl, rfl⟩
   refine tri_v (opv_assign rfl) rfl ?_
   refine tri_v (opv_assign rfl) rfl ?_
   refine tri_nil ?_
   refine tri_then ?_
   refine tri_ret ?_
   refine tri_then_ret ?_
   refine tri_end A Suf.h rfl (.cons (rv_cellA rfl rfl rfl) (.cons (rv_tmp rfl) (.cons (rv_tmp rfl) .nil))) ?_
   obtain ⟨i, hi, hp⟩ := idx_any.1 h0
   have hp := of_decide_eq_true hp
   rw [R6.live_bad (fun h => by have := h.2 i hi; unfold R6.inS at this; omega)]
   exact ⟨a, cap, none, 0, rfl, hs, SlAt.nil, rfl, fun _ h => h⟩
  have hin : ∀ i, i < roots.length → R6.inS ns (roots.getD i default) := fun i hi => by
   apply Decidable.byContradiction
   intro hx
   refine h0 (idx_any.2 ⟨i, hi, decide_eq_true ?_⟩)
   unfold R6.inS at hx
   omega
  have hlive : R6.live ns room roots = ((R6.liveAll ns (R6.kept ns roots)).2, roots.map fun r => (R6.liveAll ns (R6.kept ns roots)).1.getD r.toNat default, 0) := if_pos ⟨hrt, hin⟩
  refine tri_skip ?_
  refine tri_then ?_
  refine tri_seq ?_
  refine tri_region ?_
  refine tri_g opg_makeMap rfl ?_
  rintro _ _ _ ⟨b42, rfl, rfl, rfl⟩
  refine tri_v (by first | exact opv_buildS rfl rfl | exact opv_buildA rfl rfl) rfl ?_
  refine tri_g (opg_insert (P := Try.prog) (ks := [0]) rfl rfl rfl (keyI 0) keyIAt rfl) rfl ?_
  rintro _ _ _ ⟨rfl, rfl⟩
  refine tri_v (by first | exact opv_buildS rfl rfl | exact opv_buildA rfl rfl) rfl ?_
  refine tri_g (opg_insert (P := Try.prog) (ks := [1]) rfl rfl rfl (keyI 1) keyIAt rfl) rfl ?_
  rintro _ _ _ ⟨rfl, rfl⟩
  refine tri_v (opv_move rfl) rfl ?_
  refine tri_g opg_alloc rfl ?_
  rintro _ _ _ ⟨b9, rfl, rfl, rfl⟩
  refine tri_g (opg_store rfl rfl rfl rfl rfl rfl) rfl ?_
  rintro _ _ _ ⟨rfl, rfl⟩
  refine tri_nil ?_
  refine tri_then ?_
  refine tri_seq ?_
  refine tri_seq ?_
  refine tri_region ?_
  refine tri_v (opv_move rfl) rfl ?_
  refine tri_v (opv_len rfl) rfl ?_
  refine tri_v (opv_move rfl) rfl ?_
  refine tri_nil ?_
  refine tri_then ?_
  refine tri_cut (fun F' A' J => ∃ es2 : KVs, F' = [(1, .slice ar roots.length capr), (2, pt b2 0), (4, pt b4 0), (7, pt bx 0), (9, pt b9 0)] ∧ A' = Box b9 [.map (some b42)] 68 :: MapA Try.prog 3 b42 es2 :: IxA bx mb a1 c1 ns room es (Box b4 [.slice none 0 0, .int .i64 0] 25 :: Box b2 [.slice a ns.length cap, .int .i64 room] 25 :: A) ∧ I = J ∧ KeepIx es2 (R6.keepRoots ns.length roots)) ?_ ?_
  ·refine tri_block ?_
   refine tri_sub (F' := [(1, .slice ar roots.length capr), (2, pt b2 0), (4, pt b4 0), (7, pt bx 0), (9, pt b9 0), (46, .slice ar roots.length capr), (47, .int .i64 (roots.length : Nat)), (48, .int .i64 (0 : Nat))]) ⟨rfl, rfl, rfl, rfl, rfl, rfl, rfl, rfl, trivial⟩ ?_
   refine loop_ind (G := Nat × List Bool × KVs) (fun g => roots.length - g.1) (fun g => g.1 ≤ roots.length ∧ g.2.1.length = ns.length ∧ g.2.1 = (roots.take g.1).foldl (fun keep r => keep.set r.toNat true) (((List.replicate ns.length false).set 0 true).set 1 true) ∧ KeepIx g.2.2 g.2.1) (fun g => [(1, .slice ar roots.length capr), (2, pt b2 0), (4, pt b4 0), (7, pt bx 0), (9, pt b9 0), (46, .slice ar roots.length capr), (47, .int .i64 (roots.length : Nat)), (48, .int .i64 (g.1 : Nat))])
    (fun g => Box b9 [.map (some b42)] 68 :: MapA Try.prog 3 b42 g.2.2 :: IxA bx mb a1 c1 ns room es (Box b4 [.slice none 0 0, .int .i64 0] 25 :: Box b2 [.slice a ns.length cap, .int .i64 room] 25 :: A)) (fun _ => I) ?_ (0, ((List.replicate ns.length false).set 0 true).set 1 true, mset (mset [] [0] (.agg #[])) [1] (.agg #[])) ⟨by simp, by simp, rfl, KeepIx.start hn2⟩
   rintro ⟨i, keep, es2⟩ ⟨hi, hkl, hke, hkx⟩ K hK
   simp only at hi hkl hke hkx hK ⊢
   skip
   refine tri_seq ?_
   refine tri_region ?_
   refine tri_v (opv_lss rfl rfl) rfl ?_
   refine tri_nil ?_
   refine tri_then ?_
   refine tri_seq ?_
   refine tri_cond_dec rfl (fun h => ?_) (fun h => ?_)
   ·have hlt : i < roots.length := by omega
    have hri := hin i hlt
    refine tri_skip ?_
    refine tri_then ?_
    refine tri_seq ?_
    refine tri_block ?_
    refine tri_seq ?_
    refine tri_region ?_
    refine tri_v (by first | exact opv_indexAddrA rfl rfl (by first | decide | omega) (by first | decide | omega) | exact opv_indexAddrSN rfl rfl (by omega) (by assumption) rfl | exact opv_indexAddrS rfl rfl (by omega) (by omega) (by assumption) rfl | exact opv_indexAddrE rfl (by assumption) (by omega) rfl (by first | decide | omega) (by first | decide | omega) | exact opv_indexAddrRN rfl rfl (by omega) | exact opv_indexAddrR rfl rfl (by omega) (by omega) | exact opv_indexAddrRA rfl (by omega) rfl (by first | decide | omega) (by first | decide | omega)) rfl ?_
    refine tri_v (by first | exact opv_load1 rfl rfl rfl | exact opv_loadA rfl rfl rfl | exact opv_loadE1 rfl (by assumption) rfl (by omega) rfl rfl | exact opv_loadEA rfl (by assumption) rfl (by omega) rfl rfl | exact opv_loadRX1 rfl rfl (by omega) rfl rfl | exact opv_loadRXA rfl rfl (by omega) rfl rfl rfl | exact opv_loadIX rfl rfl (by omega) | exact opv_loadR1 rfl rfl rfl | exact opv_loadRA rfl rfl rfl rfl) rfl ?_
    refine tri_v (opv_assign rfl) rfl ?_
    refine tri_nil ?_
    refine tri_then ?_
    refine tri_region ?_
    refine tri_v (by first | exact opv_load1 rfl rfl rfl | exact opv_loadA rfl rfl rfl | exact opv_loadE1 rfl (by assumption) rfl (by omega) rfl rfl | exact opv_loadEA rfl (by assumption) rfl (by omega) rfl rfl | exact opv_loadRX1 rfl rfl (by omega) rfl rfl | exact opv_loadRXA rfl rfl (by omega) rfl rfl rfl | exact opv_loadIX rfl rfl (by omega) | exact opv_loadR1 rfl rfl rfl | exact opv_loadRA rfl rfl rfl rfl) rfl ?_
    refine tri_v (opv_move rfl) rfl ?_
    refine tri_v (by first | exact opv_buildS rfl rfl | exact opv_buildA rfl rfl) rfl ?_
    refine tri_g (opg_mapUpdate (P := Try.prog) (ks := [roots.getD i default]) rfl rfl rfl (keyI _) keyIAt rfl) rfl ?_
    rintro _ _ _ ⟨rfl, rfl⟩
    refine tri_nil ?_
    refine tri_inBlock ?_
    refine tri_then ?_
    refine tri_region ?_
    refine tri_v (by first | exact opv_add rfl rfl (w64 (by omega) (by omega))) rfl ?_
    refine tri_v (opv_move rfl) rfl ?_
    refine tri_nil ?_
    refine tri_then ?_
    refine tri_sub ?_ (hK (i + 1, keep.set (roots.getD i default).toNat true, mset es2 [roots.getD i default] (.agg #[])) ⟨by simp only; omega, by simp only [List.length_set]; exact hkl, ?_, hkx.set ⟨hri.1, by rw [hkl]; exact hri.2⟩⟩ (by simp only; omega))
    ·exact ⟨rfl, rfl, rfl, rfl, rfl, rfl, rfl, rfl, trivial⟩
    ·simp only
     rw [List.take_succ_eq_append_getElem hlt, List.foldl_append, ← hke, show roots.getD i default = roots[i] by simp [hlt]]
     rfl
   ·obtain rfl : i = roots.length := by omega
    rw [List.take_length] at hke
    rw [show keep = R6.keepRoots ns.length roots from hke] at hkx
    refine tri_exit ?_
    refine tri_then_exit ?_
    refine tri_then_exit ?_
    refine tri_inBlock_hit rfl ?_
    exact tri_cutEnd _ ⟨es2, rfl, rfl, rfl, hkx⟩ ⟨rfl, rfl, rfl, rfl, rfl, trivial⟩
  rintro _ _ _ ⟨es2, rfl, rfl, rfl, hkx⟩
  skip
  refine tri_then ?_
  refine tri_seq ?_
  refine tri_seq ?_
  refine tri_region ?_
  refine tri_v (opv_move rfl) rfl ?_
  refine tri_v (opv_nilCheck rfl) rfl ?_
  refine tri_v (by first | exact opv_fieldAddr rfl rfl | exact opv_fieldAddrE rfl (by assumption) (by omega) rfl | exact opv_fieldAddrR rfl (by omega) rfl) rfl ?_
  refine tri_v (by first | exact opv_fieldAddr rfl rfl | exact opv_fieldAddrE rfl (by assumption) (by omega) rfl | exact opv_fieldAddrR rfl (by omega) rfl) rfl ?_
  refine tri_v (by first | exact opv_load1 rfl rfl rfl | exact opv_loadA rfl rfl rfl | exact opv_loadE1 rfl (by assumption) rfl (by omega) rfl rfl | exact opv_loadEA rfl (by assumption) rfl (by omega) rfl rfl | exact opv_loadRX1 rfl rfl (by omega) rfl rfl | exact opv_loadRXA rfl rfl (by omega) rfl rfl rfl | exact opv_loadIX rfl rfl (by omega) | exact opv_loadR1 rfl rfl rfl | exact opv_loadRA rfl rfl rfl rfl) rfl ?_
  refine tri_g (opg_call (xs := [_]) rfl (slices_backward)) rfl ?_
  rintro _ _ _ ⟨b1, rfl, rfl, rfl⟩
  refine tri_nil ?_
  refine tri_then ?_
  refine tri_block ?_
  skip
  refine tri_perm (A := ?a1_0 :: ?a1_1 :: ?a1_2 :: ?a1_3 :: ?a1_4 :: ?a1_5 :: ?a1_6 :: ?a1_7 :: ?T1) (B := ?a1_0 :: ?a1_4 :: ?a1_1 :: ?a1_2 :: ?a1_3 :: ?a1_5 :: ?a1_6 :: ?a1_7 :: ?T1) (by exact permL [0, 4, 1, 2, 3, 5, 6, 7] [?a1_0, ?a1_1, ?a1_2, ?a1_3, ?a1_4, ?a1_5, ?a1_6, ?a1_7] ?T1 (by decide) rfl) ?_
  refine tri_range (f := 42) (fun j A' I' => j = none ∧ ∃ L' : List Asrt, KeepS ns roots b9 b42 68 0 L' ∧ A' = Box b1 [.slice a1 ns.length c1] 23 :: Row a1 c1 ns.length 49 6 (encs ns) :: (L' ++ Box bx [.slice a1 ns.length c1, .int .i64 room, .map (some mb)] 74 :: MapA Try.prog 26 mb es :: Box b4 [.slice none 0 0, .int .i64 0] 25 :: Box b2 [.slice a ns.length cap, .int .i64 room] 25 :: A) ∧ I = I') rfl (fun l b fnn tm df hfr => ?_) (fun j A' I' h => .inl h.1) (fun l b lp A' I' h => ?_) (fun l b lp id A' I' h => by cases h.1)
  ·refine slices_backward1 (L0 := [Box b9 [.map (some b42)] 68, MapA Try.prog 3 b42 es2]) hn rfl ?_ ⟨es2, _, hkx, R6.keepRoots_len _ _, rfl, rfl⟩
   rintro i _ M hi ⟨es3, keep, hkx, hkl, hke, rfl⟩
   have hq := hkx.ix i (by omega)
   have hv := hkx.get [(i : Int)]
   have hlvi := hlv i hi
   obtain ⟨⟨p0, q0, r0⟩, ⟨p1, q1, r1⟩, ⟨p2, q2, r2⟩, ⟨p3, q3, r3⟩⟩ := hkid i hi
   refine round_enter (ps := [62, 63]) (F := [(9, pt b9 0)]) (fun F' A' I' => ∃ b13, F' = [(9, pt b9 0), (12, .int .i64 (i : Nat)), (13, pt b13 0)] ∧ A' = Box b13 [.int .i64 (ns.getD i default).lv, .int .i64 (ns.getD i default).k0, .int .i64 (ns.getD i default).k1, .int .i64 (ns.getD i default).k2, .int .i64 (ns.getD i default).k3, .int .i64 (ns.getD i default).pop] 49 :: Box b9 [.map (some b42)] 68 :: MapA Try.prog 3 b42 es3 :: M ∧ I = I') rfl rfl rfl (hfr.sub ⟨rfl, trivial⟩) (fun w1 => ?_) ?_
   ·skip
    refine tri_seq ?_
    refine tri_region ?_
    refine tri_v (opv_assign rfl) rfl ?_
    refine tri_nil ?_
    refine tri_then ?_
    refine tri_region ?_
    refine tri_g opg_alloc rfl ?_
    rintro _ _ _ ⟨b13, rfl, rfl, rfl⟩
    refine tri_g (opg_store rfl rfl rfl rfl rfl rfl) rfl ?_
    rintro _ _ _ ⟨rfl, rfl⟩
    refine tri_nil ?_
    refine tri_perm (A := ?a2_0 :: ?a2_1 :: ?T2) (B := ?a2_1 :: ?a2_0 :: ?T2) (by exact permL [1, 0] [?a2_0, ?a2_1] ?T2 (by decide) rfl) ?_
    exact tri_cutEnd _ ⟨_, rfl, b13, rfl, rfl, rfl⟩ ⟨rfl, rfl, rfl, trivial⟩
   ·rintro w1 _ _ _ ⟨b13, rfl, rfl, rfl⟩
    skip
    refine tri_block ?_
    refine tri_seq ?_
    refine tri_seq ?_
    refine tri_region ?_
    refine tri_v (by first | exact opv_load1 rfl rfl rfl | exact opv_loadA rfl rfl rfl | exact opv_loadE1 rfl (by assumption) rfl (by omega) rfl rfl | exact opv_loadEA rfl (by assumption) rfl (by omega) rfl rfl | exact opv_loadRX1 rfl rfl (by omega) rfl rfl | exact opv_loadRXA rfl rfl (by omega) rfl rfl rfl | exact opv_loadIX rfl rfl (by omega) | exact opv_loadR1 rfl rfl rfl | exact opv_loadRA rfl rfl rfl rfl) rfl ?_
    refine tri_v (opv_move rfl) rfl ?_
    refine tri_v (opv_lookup2 (P := Try.prog) (ks := [(i : Int)]) zeroE rfl rfl (keyI _) keyIAt rfl) rfl ?_
    rw [hq, hv]
    refine tri_v (opv_move rfl) rfl ?_
    refine tri_v (opv_extract rfl rfl) rfl ?_
    refine tri_v (opv_extract rfl rfl) rfl ?_
    refine tri_g opg_alloc rfl ?_
    rintro _ _ _ ⟨b14, rfl, rfl, rfl⟩
    refine tri_g (opg_store rfl rfl rfl rfl rfl rfl) rfl ?_
    rintro _ _ _ ⟨rfl, rfl⟩
    refine tri_v (opv_assign rfl) rfl ?_
    refine tri_nil ?_
    refine tri_then ?_
    refine tri_seq ?_
    refine tri_region ?_
    refine tri_v (opv_move rfl) rfl ?_
    refine tri_v (by first | exact opv_notD rfl | exact opv_not rfl) rfl ?_
    refine tri_v (opv_move rfl) rfl ?_
    refine tri_bool 72 rfl (fun hb => ?_) (fun hb => ?_)
    ·have hb' : keep.getD i default = false := by simpa using hb
     refine tri_guard_skip rfl rfl rfl rfl ?_
     refine tri_guard_skip rfl rfl rfl rfl ?_
     refine tri_guard_skip rfl rfl rfl rfl ?_
     refine tri_v (by first | exact opv_pick_t rfl rfl | exact opv_pick_f rfl rfl | exact opv_pick_bool rfl rfl rfl | exact opv_pick rfl rfl rfl) rfl ?_
     refine tri_nil ?_
     refine tri_then ?_
     refine tri_cond_true rfl ?_
     refine tri_exit ?_
     refine tri_then_exit ?_
     refine tri_inBlock_hit rfl ?_
     refine tri_drop ?_
     refine tri_perm (A := ?a3_0 :: ?a3_1 :: ?T3) (B := ?a3_1 :: ?a3_0 :: ?T3) (by exact permL [1, 0] [?a3_0, ?a3_1] ?T3 (by decide) rfl) ?_
     refine tri_drop ?_
     refine round_normal ⟨rfl, _, ⟨es3, keep, hkx, hkl, ?_, rfl⟩, rfl, rfl⟩
     rw [hke]
     by_cases hi2 : 2 ≤ i
     ·rw [show i + 1 - 2 = (i - 2) + 1 by omega, R6.keepDown_succ, show i - 2 + 2 = i by omega, if_neg (by rw [hb']; decide)]
     ·rw [show i + 1 - 2 = 0 by omega, show i - 2 = 0 by omega]
    ·have hb' : keep.getD i default = true := by simpa using hb
     refine tri_guard_run rfl rfl rfl ?_
     refine tri_v (by first | exact opv_fieldAddr rfl rfl | exact opv_fieldAddrE rfl (by assumption) (by omega) rfl | exact opv_fieldAddrR rfl (by omega) rfl) rfl ?_
     refine tri_guard_run rfl rfl rfl ?_
     refine tri_v (by first | exact opv_load1 rfl rfl rfl | exact opv_loadA rfl rfl rfl | exact opv_loadE1 rfl (by assumption) rfl (by omega) rfl rfl | exact opv_loadEA rfl (by assumption) rfl (by omega) rfl rfl | exact opv_loadRX1 rfl rfl (by omega) rfl rfl | exact opv_loadRXA rfl rfl (by omega) rfl rfl rfl | exact opv_loadIX rfl rfl (by omega) | exact opv_loadR1 rfl rfl rfl | exact opv_loadRA rfl rfl rfl rfl) rfl ?_
     refine tri_guard_run rfl rfl rfl ?_
     refine tri_v (by first | exact opv_eql rfl rfl | exact opv_eqlI rfl rfl rfl rfl rfl rfl | exact opv_eqlB rfl rfl | exact opv_eqlNil rfl rfl) rfl ?_
     refine tri_v (by first | exact opv_pick_t rfl rfl | exact opv_pick_f rfl rfl | exact opv_pick_bool rfl rfl rfl | exact opv_pick rfl rfl rfl) rfl ?_
     refine tri_nil ?_
     refine tri_then ?_
     refine tri_cond_dec rfl (fun h4 => ?_) (fun h4 => ?_)
     ·have hi2 := hlvi.1 h4
      refine tri_exit ?_
      refine tri_then_exit ?_
      refine tri_inBlock_hit rfl ?_
      refine tri_drop ?_
      refine tri_perm (A := ?a4_0 :: ?a4_1 :: ?T4) (B := ?a4_1 :: ?a4_0 :: ?T4) (by exact permL [1, 0] [?a4_0, ?a4_1] ?T4 (by decide) rfl) ?_
      refine tri_drop ?_
      refine round_normal ⟨rfl, _, ⟨es3, keep, hkx, hkl, ?_, rfl⟩, rfl, rfl⟩
      rw [hke, show i + 1 - 2 = 0 by omega, show i - 2 = 0 by omega]
     ·have hi2 : 2 ≤ i := by
       apply Decidable.byContradiction
       intro hx
       exact h4 (hlvi.2 (by omega))
      have r0 := r0 hi2
      have r1 := r1 hi2
      have r2 := r2 hi2
      have r3 := r3 hi2
      refine tri_skip ?_
      refine tri_then ?_
      refine tri_seq ?_
      refine tri_region ?_
      refine tri_v (by first | exact opv_fieldAddr rfl rfl | exact opv_fieldAddrE rfl (by assumption) (by omega) rfl | exact opv_fieldAddrR rfl (by omega) rfl) rfl ?_
      refine tri_v (by first | exact opv_load1 rfl rfl rfl | exact opv_loadA rfl rfl rfl | exact opv_loadE1 rfl (by assumption) rfl (by omega) rfl rfl | exact opv_loadEA rfl (by assumption) rfl (by omega) rfl rfl | exact opv_loadRX1 rfl rfl (by omega) rfl rfl | exact opv_loadRXA rfl rfl (by omega) rfl rfl rfl | exact opv_loadIX rfl rfl (by omega) | exact opv_loadR1 rfl rfl rfl | exact opv_loadRA rfl rfl rfl rfl) rfl ?_
      refine tri_v (opv_move rfl) rfl ?_
      refine tri_nil ?_
      refine tri_then ?_
      refine tri_block ?_
      refine tri_rounds 5 ?_
      refine tri_round ?_
      refine tri_seq ?_
      refine tri_region ?_
      refine tri_v (opv_lss rfl rfl) rfl ?_
      refine tri_nil ?_
      refine tri_then ?_
      refine tri_seq ?_
      refine tri_cond_is rfl ((by decide)) ?_
      refine tri_skip ?_
      refine tri_then ?_
      refine tri_seq ?_
      refine tri_block ?_
      refine tri_seq ?_
      refine tri_region ?_
      refine tri_v (by first | exact opv_index rfl rfl (by first | decide | omega) (by first | decide | omega) rfl rfl) rfl ?_
      refine tri_v (opv_assign rfl) rfl ?_
      refine tri_nil ?_
      refine tri_then ?_
      refine tri_region ?_
      refine tri_v (by first | exact opv_load1 rfl rfl rfl | exact opv_loadA rfl rfl rfl | exact opv_loadE1 rfl (by assumption) rfl (by omega) rfl rfl | exact opv_loadEA rfl (by assumption) rfl (by omega) rfl rfl | exact opv_loadRX1 rfl rfl (by omega) rfl rfl | exact opv_loadRXA rfl rfl (by omega) rfl rfl rfl | exact opv_loadIX rfl rfl (by omega) | exact opv_loadR1 rfl rfl rfl | exact opv_loadRA rfl rfl rfl rfl) rfl ?_
      refine tri_v (opv_move rfl) rfl ?_
      refine tri_v (by first | exact opv_buildS rfl rfl | exact opv_buildA rfl rfl) rfl ?_
      refine tri_g (opg_mapUpdate (P := Try.prog) (ks := [(ns.getD i default).k0]) rfl rfl rfl (keyI _) keyIAt rfl) rfl ?_
      rintro _ _ _ ⟨rfl, rfl⟩
      refine tri_nil ?_
      refine tri_inBlock ?_
      refine tri_then ?_
      refine tri_region ?_
      refine tri_v (by first | exact opv_add rfl rfl (w64 (by omega) (by omega))) rfl ?_
      refine tri_v (opv_move rfl) rfl ?_
      refine tri_nil ?_
      refine tri_then ?_
      refine tri_round ?_
      refine tri_seq ?_
      refine tri_region ?_
      refine tri_v (opv_lss rfl rfl) rfl ?_
      refine tri_nil ?_
      refine tri_then ?_
      refine tri_seq ?_
      refine tri_cond_is rfl ((by decide)) ?_
      refine tri_skip ?_
      refine tri_then ?_
      refine tri_seq ?_
      refine tri_block ?_
      refine tri_seq ?_
      refine tri_region ?_
      refine tri_v (by first | exact opv_index rfl rfl (by first | decide | omega) (by first | decide | omega) rfl rfl) rfl ?_
      refine tri_v (opv_assign rfl) rfl ?_
      refine tri_nil ?_
      refine tri_then ?_
      refine tri_region ?_
      refine tri_v (by first | exact opv_load1 rfl rfl rfl | exact opv_loadA rfl rfl rfl | exact opv_loadE1 rfl (by assumption) rfl (by omega) rfl rfl | exact opv_loadEA rfl (by assumption) rfl (by omega) rfl rfl | exact opv_loadRX1 rfl rfl (by omega) rfl rfl | exact opv_loadRXA rfl rfl (by omega) rfl rfl rfl | exact opv_loadIX rfl rfl (by omega) | exact opv_loadR1 rfl rfl rfl | exact opv_loadRA rfl rfl rfl rfl) rfl ?_
      refine tri_v (opv_move rfl) rfl ?_
      refine tri_v (by first | exact opv_buildS rfl rfl | exact opv_buildA rfl rfl) rfl ?_
      refine tri_g (opg_mapUpdate (P := Try.prog) (ks := [(ns.getD i default).k1]) rfl rfl rfl (keyI _) keyIAt rfl) rfl ?_
      rintro _ _ _ ⟨rfl, rfl⟩
      refine tri_nil ?_
      refine tri_inBlock ?_
      refine tri_then ?_
      refine tri_region ?_
      refine tri_v (by first | exact opv_add rfl rfl (w64 (by omega) (by omega))) rfl ?_
      refine tri_v (opv_move rfl) rfl ?_
      refine tri_nil ?_
      refine tri_then ?_
      refine tri_round ?_
      refine tri_seq ?_
      refine tri_region ?_
      refine tri_v (opv_lss rfl rfl) rfl ?_
      refine tri_nil ?_
      refine tri_then ?_
      refine tri_seq ?_
      refine tri_cond_is rfl ((by decide)) ?_
      refine tri_skip ?_
      refine tri_then ?_
      refine tri_seq ?_
      refine tri_block ?_
      refine tri_seq ?_
      refine tri_region ?_
      refine tri_v (by first | exact opv_index rfl rfl (by first | decide | omega) (by first | decide | omega) rfl rfl) rfl ?_
      refine tri_v (opv_assign rfl) rfl ?_
      refine tri_nil ?_
      refine tri_then ?_
      refine tri_region ?_
      refine tri_v (by first | exact opv_load1 rfl rfl rfl | exact opv_loadA rfl rfl rfl | exact opv_loadE1 rfl (by assumption) rfl (by omega) rfl rfl | exact opv_loadEA rfl (by assumption) rfl (by omega) rfl rfl | exact opv_loadRX1 rfl rfl (by omega) rfl rfl | exact opv_loadRXA rfl rfl (by omega) rfl rfl rfl | exact opv_loadIX rfl rfl (by omega) | exact opv_loadR1 rfl rfl rfl | exact opv_loadRA rfl rfl rfl rfl) rfl ?_
      refine tri_v (opv_move rfl) rfl ?_
      refine tri_v (by first | exact opv_buildS rfl rfl | exact opv_buildA rfl rfl) rfl ?_
      refine tri_g (opg_mapUpdate (P := Try.prog) (ks := [(ns.getD i default).k2]) rfl rfl rfl (keyI _) keyIAt rfl) rfl ?_
      rintro _ _ _ ⟨rfl, rfl⟩
      refine tri_nil ?_
      refine tri_inBlock ?_
      refine tri_then ?_
      refine tri_region ?_
      refine tri_v (by first | exact opv_add rfl rfl (w64 (by omega) (by omega))) rfl ?_
      refine tri_v (opv_move rfl) rfl ?_
      refine tri_nil ?_
      refine tri_then ?_
      refine tri_round ?_
      refine tri_seq ?_
      refine tri_region ?_
      refine tri_v (opv_lss rfl rfl) rfl ?_
      refine tri_nil ?_
      refine tri_then ?_
      refine tri_seq ?_
      refine tri_cond_is rfl ((by decide)) ?_
      refine tri_skip ?_
      refine tri_then ?_
      refine tri_seq ?_
      refine tri_block ?_
      refine tri_seq ?_
      refine tri_region ?_
      refine tri_v (by first | exact opv_index rfl rfl (by first | decide | omega) (by first | decide | omega) rfl rfl) rfl ?_
      refine tri_v (opv_assign rfl) rfl ?_
      refine tri_nil ?_
      refine tri_then ?_
      refine tri_region ?_
      refine tri_v (by first | exact opv_load1 rfl rfl rfl | exact opv_loadA rfl rfl rfl | exact opv_loadE1 rfl (by assumption) rfl (by omega) rfl rfl | exact opv_loadEA rfl (by assumption) rfl (by omega) rfl rfl | exact opv_loadRX1 rfl rfl (by omega) rfl rfl | exact opv_loadRXA rfl rfl (by omega) rfl rfl rfl | exact opv_loadIX rfl rfl (by omega) | exact opv_loadR1 rfl rfl rfl | exact opv_loadRA rfl rfl rfl rfl) rfl ?_
      refine tri_v (opv_move rfl) rfl ?_
      refine tri_v (by first | exact opv_buildS rfl rfl | exact opv_buildA rfl rfl) rfl ?_
      refine tri_g (opg_mapUpdate (P := Try.prog) (ks := [(ns.getD i default).k3]) rfl rfl rfl (keyI _) keyIAt rfl) rfl ?_
      rintro _ _ _ ⟨rfl, rfl⟩
      refine tri_nil ?_
      refine tri_inBlock ?_
      refine tri_then ?_
      refine tri_region ?_
      refine tri_v (by first | exact opv_add rfl rfl (w64 (by omega) (by omega))) rfl ?_
      refine tri_v (opv_move rfl) rfl ?_
      refine tri_nil ?_
      refine tri_then ?_
      refine tri_round ?_
      refine tri_seq ?_
      refine tri_region ?_
      refine tri_v (opv_lss rfl rfl) rfl ?_
      refine tri_nil ?_
      refine tri_then ?_
      refine tri_seq ?_
      refine tri_cond_not rfl ((by decide)) ?_
      refine tri_exit ?_
      refine tri_then_exit ?_
      refine tri_then_exit ?_
      refine tri_inBlock_hit rfl ?_
      refine tri_inBlock ?_
      refine tri_drop ?_
      refine tri_perm (A := ?a5_0 :: ?a5_1 :: ?T5) (B := ?a5_1 :: ?a5_0 :: ?T5) (by exact permL [1, 0] [?a5_0, ?a5_1] ?T5 (by decide) rfl) ?_
      refine tri_drop ?_
      have x1 := hkx.set (q := (ns.getD i default).k0) ⟨p0, by omega⟩
      have y1 : (keep.set (ns.getD i default).k0.toNat true).length = ns.length := by rw [List.length_set]; exact hkl
      have x2 := x1.set (q := (ns.getD i default).k1) ⟨p1, by omega⟩
      have y2 : ((keep.set (ns.getD i default).k0.toNat true).set (ns.getD i default).k1.toNat true).length = ns.length := by rw [List.length_set]; exact y1
      have x3 := x2.set (q := (ns.getD i default).k2) ⟨p2, by omega⟩
      have y3 : (((keep.set (ns.getD i default).k0.toNat true).set (ns.getD i default).k1.toNat true).set (ns.getD i default).k2.toNat true).length = ns.length := by rw [List.length_set]; exact y2
      have x4 := x3.set (q := (ns.getD i default).k3) ⟨p3, by omega⟩
      refine round_normal ⟨rfl, _, ⟨_, R6.keepKids keep (ns.getD i default), x4, by rw [R6.keepKids_len, hkl], ?_, rfl⟩, rfl, rfl⟩
      rw [hke, show i + 1 - 2 = (i - 2) + 1 by omega, R6.keepDown_succ, show i - 2 + 2 = i by omega, if_pos hb']
  ·obtain ⟨_, L', ⟨es3, keep, hkx, hkl, hke, rfl⟩, rfl, rfl⟩ := h
   rw [show R6.keepDown ns (0 - 2) keep = keep from rfl] at hke
   have hall : R6.liveAll ns (R6.kept ns roots) = (List.range ns.length).foldl (R6.liveStep ns (R6.kept ns roots)) (List.replicate ns.length 0, []) := rfl
   generalize R6.kept ns roots = kp at *
   subst hke
   generalize hR : R6.liveAll ns kp = R at *
   skip
   refine tri_perm (A := ?a6_0 :: ?a6_1 :: ?a6_2 :: ?a6_3 :: ?a6_4 :: ?a6_5 :: ?a6_6 :: ?a6_7 :: ?a6_8 :: ?a6_9 :: ?T6) (B := ?a6_1 :: ?a6_0 :: ?a6_2 :: ?a6_3 :: ?a6_4 :: ?a6_5 :: ?a6_6 :: ?a6_7 :: ?a6_8 :: ?a6_9 :: ?T6) (by exact permL [1, 0, 2, 3, 4, 5, 6, 7, 8, 9] [?a6_0, ?a6_1, ?a6_2, ?a6_3, ?a6_4, ?a6_5, ?a6_6, ?a6_7, ?a6_8, ?a6_9] ?T6 (by decide) rfl) ?_
   refine tri_inBlock ?_
   refine tri_then ?_
   refine tri_seq ?_
   refine tri_region ?_
   refine tri_v (opv_move rfl) rfl ?_
   refine tri_v (opv_nilCheck rfl) rfl ?_
   refine tri_v (by first | exact opv_fieldAddr rfl rfl | exact opv_fieldAddrE rfl (by assumption) (by omega) rfl | exact opv_fieldAddrR rfl (by omega) rfl) rfl ?_
   refine tri_v (by first | exact opv_fieldAddr rfl rfl | exact opv_fieldAddrE rfl (by assumption) (by omega) rfl | exact opv_fieldAddrR rfl (by omega) rfl) rfl ?_
   refine tri_v (by first | exact opv_load1 rfl rfl rfl | exact opv_loadA rfl rfl rfl | exact opv_loadE1 rfl (by assumption) rfl (by omega) rfl rfl | exact opv_loadEA rfl (by assumption) rfl (by omega) rfl rfl | exact opv_loadRX1 rfl rfl (by omega) rfl rfl | exact opv_loadRXA rfl rfl (by omega) rfl rfl rfl | exact opv_loadIX rfl rfl (by omega) | exact opv_loadR1 rfl rfl rfl | exact opv_loadRA rfl rfl rfl rfl) rfl ?_
   refine tri_v (opv_len rfl) rfl ?_
   refine tri_g (opg_makeSlice rfl rfl rfl (by omega) (by omega) (by omega)) rfl ?_
   rintro _ _ _ ⟨a18, ha18, rfl, rfl, rfl⟩
   rw [show ((ns.length : Nat) : Int).toNat = ns.length from rfl]
   refine tri_rowEq (len' := ns.length) (cells' := encs (List.replicate ns.length (0 : Int))) rfl (encs_rep rfl _) ?_
   refine tri_v (opv_assign rfl) rfl ?_
   refine tri_nil ?_
   refine tri_then ?_
   refine tri_seq ?_
   refine tri_region ?_
   refine tri_v (by first | exact opv_fieldAddr rfl rfl | exact opv_fieldAddrE rfl (by assumption) (by omega) rfl | exact opv_fieldAddrR rfl (by omega) rfl) rfl ?_
   refine tri_v (by first | exact opv_load1 rfl rfl rfl | exact opv_loadA rfl rfl rfl | exact opv_loadE1 rfl (by assumption) rfl (by omega) rfl rfl | exact opv_loadEA rfl (by assumption) rfl (by omega) rfl rfl | exact opv_loadRX1 rfl rfl (by omega) rfl rfl | exact opv_loadRXA rfl rfl (by omega) rfl rfl rfl | exact opv_loadIX rfl rfl (by omega) | exact opv_loadR1 rfl rfl rfl | exact opv_loadRA rfl rfl rfl rfl) rfl ?_
   refine tri_v (by first | exact opv_buildS rfl rfl | exact opv_buildA rfl rfl) rfl ?_
   refine tri_g opg_alloc rfl ?_
   rintro _ _ _ ⟨b19, rfl, rfl, rfl⟩
   refine tri_g (opg_store rfl rfl rfl rfl rfl rfl) rfl ?_
   rintro _ _ _ ⟨rfl, rfl⟩
   refine tri_nil ?_
   refine tri_then ?_
   refine tri_seq ?_
   refine tri_seq ?_
   refine tri_region ?_
   refine tri_v (opv_move rfl) rfl ?_
   refine tri_v (opv_nilCheck rfl) rfl ?_
   refine tri_v (by first | exact opv_fieldAddr rfl rfl | exact opv_fieldAddrE rfl (by assumption) (by omega) rfl | exact opv_fieldAddrR rfl (by omega) rfl) rfl ?_
   refine tri_v (by first | exact opv_fieldAddr rfl rfl | exact opv_fieldAddrE rfl (by assumption) (by omega) rfl | exact opv_fieldAddrR rfl (by omega) rfl) rfl ?_
   refine tri_v (by first | exact opv_load1 rfl rfl rfl | exact opv_loadA rfl rfl rfl | exact opv_loadE1 rfl (by assumption) rfl (by omega) rfl rfl | exact opv_loadEA rfl (by assumption) rfl (by omega) rfl rfl | exact opv_loadRX1 rfl rfl (by omega) rfl rfl | exact opv_loadRXA rfl rfl (by omega) rfl rfl rfl | exact opv_loadIX rfl rfl (by omega) | exact opv_loadR1 rfl rfl rfl | exact opv_loadRA rfl rfl rfl rfl) rfl ?_
   refine tri_v (opv_len rfl) rfl ?_
   refine tri_v (opv_move rfl) rfl ?_
   refine tri_nil ?_
   refine tri_then ?_
   refine tri_block ?_
   refine tri_nilRow (E := 49) (sz := 6) ?_
   refine tri_sub (F' := [(1, .slice ar roots.length capr), (2, pt b2 0), (4, pt b4 0), (9, pt b9 0), (18, .slice a18 ns.length ns.length), (19, pt b19 0), (100, .slice a1 ns.length c1), (101, .int .i64 (ns.length : Nat)), (102, .int .i64 (0 : Nat))]) ⟨rfl, rfl, rfl, rfl, rfl, rfl, rfl, rfl, rfl, trivial⟩ ?_
   refine loop_ind (G := Nat × List Int × List Node × Option Addr × Nat) (fun g => ns.length - g.1) (fun g => g.1 ≤ ns.length ∧ (List.range g.1).foldl (R6.liveStep ns kp) (List.replicate ns.length 0, []) = (g.2.1, g.2.2.1)) (fun g => [(1, .slice ar roots.length capr), (2, pt b2 0), (4, pt b4 0), (9, pt b9 0), (18, .slice a18 ns.length ns.length), (19, pt b19 0), (100, .slice a1 ns.length c1), (101, .int .i64 (ns.length : Nat)), (102, .int .i64 (g.1 : Nat))])
    (fun g => Row g.2.2.2.1 g.2.2.2.2 g.2.2.1.length 49 6 (encs g.2.2.1) :: Box b19 [.slice g.2.2.2.1 g.2.2.1.length g.2.2.2.2, .int .i64 room] 25 :: Row a18 ns.length ns.length 3 1 (encs g.2.1) :: Pt b (.deferred (some [])) :: Pt l (.loop lp) :: Box b1 [.slice a1 ns.length c1] 23 :: Row a1 c1 ns.length 49 6 (encs ns) :: Box b9 [.map (some b42)] 68 :: MapA Try.prog 3 b42 es3 :: Box bx [.slice a1 ns.length c1, .int .i64 room, .map (some mb)] 74 :: MapA Try.prog 26 mb es :: Box b4 [.slice none 0 0, .int .i64 0] 25 :: Box b2 [.slice a ns.length cap, .int .i64 room] 25 :: A) (fun _ => I) ?_ (0, List.replicate ns.length 0, [], none, 0) ⟨by simp, rfl⟩
   rintro ⟨i, to, out, a21, c21⟩ ⟨hi, hst⟩ K2 hK2
   simp only at hi hst hK2 ⊢
   have hlen := R6.liveStep_len (ns := ns) (keep := kp) i
   rw [hst] at hlen
   obtain ⟨htl, hol⟩ := hlen
   simp only at htl hol
   skip
   refine tri_seq ?_
   refine tri_region ?_
   refine tri_v (opv_lss rfl rfl) rfl ?_
   refine tri_nil ?_
   refine tri_then ?_
   refine tri_seq ?_
   refine tri_cond_dec rfl (fun h2 => ?_) (fun h2 => ?_)
   ·have hil : i < ns.length := by omega
    obtain ⟨⟨p0, q0, r0⟩, ⟨p1, q1, r1⟩, ⟨p2, q2, r2⟩, ⟨p3, q3, r3⟩⟩ := hkid i hil
    have hnx : (List.range (i + 1)).foldl (R6.liveStep ns kp) (List.replicate ns.length 0, []) = R6.liveStep ns kp (to, out) i := by
     rw [List.range_succ, List.foldl_append, hst]; rfl
    have hq := hkx.ix i (by omega)
    have hv := hkx.get [(i : Int)]
    refine tri_skip ?_
    refine tri_then ?_
    refine tri_seq ?_
    refine tri_block ?_
    refine tri_seq ?_
    refine tri_region ?_
    refine tri_v (opv_move rfl) rfl ?_
    refine tri_v (by first | exact opv_indexAddrA rfl rfl (by first | decide | omega) (by first | decide | omega) | exact opv_indexAddrSN rfl rfl (by omega) (by assumption) rfl | exact opv_indexAddrS rfl rfl (by omega) (by omega) (by assumption) rfl | exact opv_indexAddrE rfl (by assumption) (by omega) rfl (by first | decide | omega) (by first | decide | omega) | exact opv_indexAddrRN rfl rfl (by omega) | exact opv_indexAddrR rfl rfl (by omega) (by omega) | exact opv_indexAddrRA rfl (by omega) rfl (by first | decide | omega) (by first | decide | omega)) rfl ?_
    refine tri_v (by first | exact opv_load1 rfl rfl rfl | exact opv_loadA rfl rfl rfl | exact opv_loadE1 rfl (by assumption) rfl (by omega) rfl rfl | exact opv_loadEA rfl (by assumption) rfl (by omega) rfl rfl | exact opv_loadRX1 rfl rfl (by omega) rfl rfl | exact opv_loadRXA rfl rfl (by omega) rfl rfl rfl | exact opv_loadIX rfl rfl (by omega) | exact opv_loadR1 rfl rfl rfl | exact opv_loadRA rfl rfl rfl rfl) rfl ?_
    refine tri_g opg_alloc rfl ?_
    rintro _ _ _ ⟨b21, rfl, rfl, rfl⟩
    refine tri_v (opv_assign rfl) rfl ?_
    refine tri_g (opg_store rfl rfl rfl rfl rfl rfl) rfl ?_
    rintro _ _ _ ⟨rfl, rfl⟩
    refine tri_nil ?_
    refine tri_then ?_
    refine tri_seq ?_
    refine tri_seq ?_
    refine tri_region ?_
    refine tri_v (by first | exact opv_load1 rfl rfl rfl | exact opv_loadA rfl rfl rfl | exact opv_loadE1 rfl (by assumption) rfl (by omega) rfl rfl | exact opv_loadEA rfl (by assumption) rfl (by omega) rfl rfl | exact opv_loadRX1 rfl rfl (by omega) rfl rfl | exact opv_loadRXA rfl rfl (by omega) rfl rfl rfl | exact opv_loadIX rfl rfl (by omega) | exact opv_loadR1 rfl rfl rfl | exact opv_loadRA rfl rfl rfl rfl) rfl ?_
    refine tri_v (opv_move rfl) rfl ?_
    refine tri_v (opv_lookup2 (P := Try.prog) (ks := [(i : Int)]) zeroE rfl rfl (keyI _) keyIAt rfl) rfl ?_
    rw [hq, hv]
    refine tri_v (opv_move rfl) rfl ?_
    refine tri_v (opv_extract rfl rfl) rfl ?_
    refine tri_v (opv_extract rfl rfl) rfl ?_
    refine tri_g opg_alloc rfl ?_
    rintro _ _ _ ⟨b22, rfl, rfl, rfl⟩
    refine tri_g (opg_store rfl rfl rfl rfl rfl rfl) rfl ?_
    rintro _ _ _ ⟨rfl, rfl⟩
    refine tri_v (opv_assign rfl) rfl ?_
    refine tri_nil ?_
    refine tri_then ?_
    refine tri_seq ?_
    refine tri_region ?_
    refine tri_v (opv_move rfl) rfl ?_
    refine tri_v (by first | exact opv_notD rfl | exact opv_not rfl) rfl ?_
    refine tri_nil ?_
    refine tri_then ?_
    refine tri_cond rfl (fun hb => ?_) (fun hb => ?_)
    ·have hb' : kp.getD i default = false := by simpa using hb
     rw [show R6.liveStep ns kp (to, out) i = (to, out) from if_neg (by rw [hb']; decide)] at hnx
     refine tri_exit ?_
     refine tri_then_exit ?_
     refine tri_inBlock_hit rfl ?_
     refine tri_then ?_
     refine tri_region ?_
     refine tri_v (by first | exact opv_add rfl rfl (w64 (by omega) (by omega))) rfl ?_
     refine tri_v (opv_move rfl) rfl ?_
     refine tri_nil ?_
     refine tri_then ?_
     refine tri_drop (tri_drop ?_)
     refine tri_sub ?_ (hK2 (i + 1, to, out, a21, c21) ⟨by simp only; omega, hnx⟩ (by simp only; omega))
     exact ⟨rfl, rfl, rfl, rfl, rfl, rfl, rfl, rfl, rfl, trivial⟩
    ·have hb' : kp.getD i default = true := by simpa using hb
     rw [show R6.liveStep ns kp (to, out) i = (to.set i (out.length : Nat), out ++ [R6.mapKids to (ns.getD i default)]) from if_pos hb'] at hnx
     refine tri_skip ?_
     refine tri_then ?_
     refine tri_seq ?_
     refine tri_seq ?_
     refine tri_region ?_
     refine tri_v (by first | exact opv_fieldAddr rfl rfl | exact opv_fieldAddrE rfl (by assumption) (by omega) rfl | exact opv_fieldAddrR rfl (by omega) rfl) rfl ?_
     refine tri_v (by first | exact opv_load1 rfl rfl rfl | exact opv_loadA rfl rfl rfl | exact opv_loadE1 rfl (by assumption) rfl (by omega) rfl rfl | exact opv_loadEA rfl (by assumption) rfl (by omega) rfl rfl | exact opv_loadRX1 rfl rfl (by omega) rfl rfl | exact opv_loadRXA rfl rfl (by omega) rfl rfl rfl | exact opv_loadIX rfl rfl (by omega) | exact opv_loadR1 rfl rfl rfl | exact opv_loadRA rfl rfl rfl rfl) rfl ?_
     refine tri_v (opv_move rfl) rfl ?_
     refine tri_nil ?_
     refine tri_then ?_
     refine tri_block ?_
     refine tri_rounds 5 ?_
     refine tri_round ?_
     refine tri_seq ?_
     refine tri_region ?_
     refine tri_v (opv_lss rfl rfl) rfl ?_
     refine tri_nil ?_
     refine tri_then ?_
     refine tri_seq ?_
     refine tri_cond_is rfl ((by decide)) ?_
     refine tri_skip ?_
     refine tri_then ?_
     refine tri_seq ?_
     refine tri_block ?_
     refine tri_seq ?_
     refine tri_region ?_
     refine tri_v (opv_move rfl) rfl ?_
     refine tri_v (by first | exact opv_index rfl rfl (by first | decide | omega) (by first | decide | omega) rfl rfl) rfl ?_
     refine tri_v (opv_assign rfl) rfl ?_
     refine tri_v (opv_assign rfl) rfl ?_
     refine tri_nil ?_
     refine tri_then ?_
     refine tri_region ?_
     refine tri_v (opv_move rfl) rfl ?_
     refine tri_v (opv_move rfl) rfl ?_
     refine tri_v (opv_move rfl) rfl ?_
     refine tri_v (by first | exact opv_indexAddrA rfl rfl (by first | decide | omega) (by first | decide | omega) | exact opv_indexAddrSN rfl rfl (by omega) (by assumption) rfl | exact opv_indexAddrS rfl rfl (by omega) (by omega) (by assumption) rfl | exact opv_indexAddrE rfl (by assumption) (by omega) rfl (by first | decide | omega) (by first | decide | omega) | exact opv_indexAddrRN rfl rfl (by omega) | exact opv_indexAddrR rfl rfl (by omega) (by omega) | exact opv_indexAddrRA rfl (by omega) rfl (by first | decide | omega) (by first | decide | omega)) rfl ?_
     refine tri_v (by first | exact opv_load1 rfl rfl rfl | exact opv_loadA rfl rfl rfl | exact opv_loadE1 rfl (by assumption) rfl (by omega) rfl rfl | exact opv_loadEA rfl (by assumption) rfl (by omega) rfl rfl | exact opv_loadRX1 rfl rfl (by omega) rfl rfl | exact opv_loadRXA rfl rfl (by omega) rfl rfl rfl | exact opv_loadIX rfl rfl (by omega) | exact opv_loadR1 rfl rfl rfl | exact opv_loadRA rfl rfl rfl rfl) rfl ?_
     refine tri_v (by first | exact opv_fieldAddr rfl rfl | exact opv_fieldAddrE rfl (by assumption) (by omega) rfl | exact opv_fieldAddrR rfl (by omega) rfl) rfl ?_
     refine tri_v (by first | exact opv_indexAddrA rfl rfl (by first | decide | omega) (by first | decide | omega) | exact opv_indexAddrSN rfl rfl (by omega) (by assumption) rfl | exact opv_indexAddrS rfl rfl (by omega) (by omega) (by assumption) rfl | exact opv_indexAddrE rfl (by assumption) (by omega) rfl (by first | decide | omega) (by first | decide | omega) | exact opv_indexAddrRN rfl rfl (by omega) | exact opv_indexAddrR rfl rfl (by omega) (by omega) | exact opv_indexAddrRA rfl (by omega) rfl (by first | decide | omega) (by first | decide | omega)) rfl ?_
     refine tri_g (opg_store rfl rfl rfl rfl rfl rfl) rfl ?_
     rintro _ _ _ ⟨rfl, rfl⟩
     refine tri_nil ?_
     refine tri_inBlock ?_
     refine tri_then ?_
     refine tri_region ?_
     refine tri_v (by first | exact opv_add rfl rfl (w64 (by omega) (by omega))) rfl ?_
     refine tri_v (opv_move rfl) rfl ?_
     refine tri_nil ?_
     refine tri_then ?_
     refine tri_round ?_
     refine tri_seq ?_
     refine tri_region ?_
     refine tri_v (opv_lss rfl rfl) rfl ?_
     refine tri_nil ?_
     refine tri_then ?_
     refine tri_seq ?_
     refine tri_cond_is rfl ((by decide)) ?_
     refine tri_skip ?_
     refine tri_then ?_
     refine tri_seq ?_
     refine tri_block ?_
     refine tri_seq ?_
     refine tri_region ?_
     refine tri_v (opv_move rfl) rfl ?_
     refine tri_v (by first | exact opv_index rfl rfl (by first | decide | omega) (by first | decide | omega) rfl rfl) rfl ?_
     refine tri_v (opv_assign rfl) rfl ?_
     refine tri_v (opv_assign rfl) rfl ?_
     refine tri_nil ?_
     refine tri_then ?_
     refine tri_region ?_
     refine tri_v (opv_move rfl) rfl ?_
     refine tri_v (opv_move rfl) rfl ?_
     refine tri_v (opv_move rfl) rfl ?_
     refine tri_v (by first | exact opv_indexAddrA rfl rfl (by first | decide | omega) (by first | decide | omega) | exact opv_indexAddrSN rfl rfl (by omega) (by assumption) rfl | exact opv_indexAddrS rfl rfl (by omega) (by omega) (by assumption) rfl | exact opv_indexAddrE rfl (by assumption) (by omega) rfl (by first | decide | omega) (by first | decide | omega) | exact opv_indexAddrRN rfl rfl (by omega) | exact opv_indexAddrR rfl rfl (by omega) (by omega) | exact opv_indexAddrRA rfl (by omega) rfl (by first | decide | omega) (by first | decide | omega)) rfl ?_
     refine tri_v (by first | exact opv_load1 rfl rfl rfl | exact opv_loadA rfl rfl rfl | exact opv_loadE1 rfl (by assumption) rfl (by omega) rfl rfl | exact opv_loadEA rfl (by assumption) rfl (by omega) rfl rfl | exact opv_loadRX1 rfl rfl (by omega) rfl rfl | exact opv_loadRXA rfl rfl (by omega) rfl rfl rfl | exact opv_loadIX rfl rfl (by omega) | exact opv_loadR1 rfl rfl rfl | exact opv_loadRA rfl rfl rfl rfl) rfl ?_
     refine tri_v (by first | exact opv_fieldAddr rfl rfl | exact opv_fieldAddrE rfl (by assumption) (by omega) rfl | exact opv_fieldAddrR rfl (by omega) rfl) rfl ?_
     refine tri_v (by first | exact opv_indexAddrA rfl rfl (by first | decide | omega) (by first | decide | omega) | exact opv_indexAddrSN rfl rfl (by omega) (by assumption) rfl | exact opv_indexAddrS rfl rfl (by omega) (by omega) (by assumption) rfl | exact opv_indexAddrE rfl (by assumption) (by omega) rfl (by first | decide | omega) (by first | decide | omega) | exact opv_indexAddrRN rfl rfl (by omega) | exact opv_indexAddrR rfl rfl (by omega) (by omega) | exact opv_indexAddrRA rfl (by omega) rfl (by first | decide | omega) (by first | decide | omega)) rfl ?_
     refine tri_g (opg_store rfl rfl rfl rfl rfl rfl) rfl ?_
     rintro _ _ _ ⟨rfl, rfl⟩
     refine tri_nil ?_
     refine tri_inBlock ?_
     refine tri_then ?_
     refine tri_region ?_
     refine tri_v (by first | exact opv_add rfl rfl (w64 (by omega) (by omega))) rfl ?_
     refine tri_v (opv_move rfl) rfl ?_
     refine tri_nil ?_
     refine tri_then ?_
     refine tri_round ?_
     refine tri_seq ?_
     refine tri_region ?_
     refine tri_v (opv_lss rfl rfl) rfl ?_
     refine tri_nil ?_
     refine tri_then ?_
     refine tri_seq ?_
     refine tri_cond_is rfl ((by decide)) ?_
     refine tri_skip ?_
     refine tri_then ?_
     refine tri_seq ?_
     refine tri_block ?_
     refine tri_seq ?_
     refine tri_region ?_
     refine tri_v (opv_move rfl) rfl ?_
     refine tri_v (by first | exact opv_index rfl rfl (by first | decide | omega) (by first | decide | omega) rfl rfl) rfl ?_
     refine tri_v (opv_assign rfl) rfl ?_
     refine tri_v (opv_assign rfl) rfl ?_
     refine tri_nil ?_
     refine tri_then ?_
     refine tri_region ?_
     refine tri_v (opv_move rfl) rfl ?_
     refine tri_v (opv_move rfl) rfl ?_
     refine tri_v (opv_move rfl) rfl ?_
     refine tri_v (by first | exact opv_indexAddrA rfl rfl (by first | decide | omega) (by first | decide | omega) | exact opv_indexAddrSN rfl rfl (by omega) (by assumption) rfl | exact opv_indexAddrS rfl rfl (by omega) (by omega) (by assumption) rfl | exact opv_indexAddrE rfl (by assumption) (by omega) rfl (by first | decide | omega) (by first | decide | omega) | exact opv_indexAddrRN rfl rfl (by omega) | exact opv_indexAddrR rfl rfl (by omega) (by omega) | exact opv_indexAddrRA rfl (by omega) rfl (by first | decide | omega) (by first | decide | omega)) rfl ?_
     refine tri_v (by first | exact opv_load1 rfl rfl rfl | exact opv_loadA rfl rfl rfl | exact opv_loadE1 rfl (by assumption) rfl (by omega) rfl rfl | exact opv_loadEA rfl (by assumption) rfl (by omega) rfl rfl | exact opv_loadRX1 rfl rfl (by omega) rfl rfl | exact opv_loadRXA rfl rfl (by omega) rfl rfl rfl | exact opv_loadIX rfl rfl (by omega) | exact opv_loadR1 rfl rfl rfl | exact opv_loadRA rfl rfl rfl rfl) rfl ?_
     refine tri_v (by first | exact opv_fieldAddr rfl rfl | exact opv_fieldAddrE rfl (by assumption) (by omega) rfl | exact opv_fieldAddrR rfl (by omega) rfl) rfl ?_
     refine tri_v (by first | exact opv_indexAddrA rfl rfl (by first | decide | omega) (by first | decide | omega) | exact opv_indexAddrSN rfl rfl (by omega) (by assumption) rfl | exact opv_indexAddrS rfl rfl (by omega) (by omega) (by assumption) rfl | exact opv_indexAddrE rfl (by assumption) (by omega) rfl (by first | decide | omega) (by first | decide | omega) | exact opv_indexAddrRN rfl rfl (by omega) | exact opv_indexAddrR rfl rfl (by omega) (by omega) | exact opv_indexAddrRA rfl (by omega) rfl (by first | decide | omega) (by first | decide | omega)) rfl ?_
     refine tri_g (opg_store rfl rfl rfl rfl rfl rfl) rfl ?_
     rintro _ _ _ ⟨rfl, rfl⟩
     refine tri_nil ?_
     refine tri_inBlock ?_
     refine tri_then ?_
     refine tri_region ?_
     refine tri_v (by first | exact opv_add rfl rfl (w64 (by omega) (by omega))) rfl ?_
     refine tri_v (opv_move rfl) rfl ?_
     refine tri_nil ?_
     refine tri_then ?_
     refine tri_round ?_
     refine tri_seq ?_
     refine tri_region ?_
     refine tri_v (opv_lss rfl rfl) rfl ?_
     refine tri_nil ?_
     refine tri_then ?_
     refine tri_seq ?_
     refine tri_cond_is rfl ((by decide)) ?_
     refine tri_skip ?_
     refine tri_then ?_
     refine tri_seq ?_
     refine tri_block ?_
     refine tri_seq ?_
     refine tri_region ?_
     refine tri_v (opv_move rfl) rfl ?_
     refine tri_v (by first | exact opv_index rfl rfl (by first | decide | omega) (by first | decide | omega) rfl rfl) rfl ?_
     refine tri_v (opv_assign rfl) rfl ?_
     refine tri_v (opv_assign rfl) rfl ?_
     refine tri_nil ?_
     refine tri_then ?_
     refine tri_region ?_
     refine tri_v (opv_move rfl) rfl ?_
     refine tri_v (opv_move rfl) rfl ?_
     refine tri_v (opv_move rfl) rfl ?_
     refine tri_v (by first | exact opv_indexAddrA rfl rfl (by first | decide | omega) (by first | decide | omega) | exact opv_indexAddrSN rfl rfl (by omega) (by assumption) rfl | exact opv_indexAddrS rfl rfl (by omega) (by omega) (by assumption) rfl | exact opv_indexAddrE rfl (by assumption) (by omega) rfl (by first | decide | omega) (by first | decide | omega) | exact opv_indexAddrRN rfl rfl (by omega) | exact opv_indexAddrR rfl rfl (by omega) (by omega) | exact opv_indexAddrRA rfl (by omega) rfl (by first | decide | omega) (by first | decide | omega)) rfl ?_
     refine tri_v (by first | exact opv_load1 rfl rfl rfl | exact opv_loadA rfl rfl rfl | exact opv_loadE1 rfl (by assumption) rfl (by omega) rfl rfl | exact opv_loadEA rfl (by assumption) rfl (by omega) rfl rfl | exact opv_loadRX1 rfl rfl (by omega) rfl rfl | exact opv_loadRXA rfl rfl (by omega) rfl rfl rfl | exact opv_loadIX rfl rfl (by omega) | exact opv_loadR1 rfl rfl rfl | exact opv_loadRA rfl rfl rfl rfl) rfl ?_
     refine tri_v (by first | exact opv_fieldAddr rfl rfl | exact opv_fieldAddrE rfl (by assumption) (by omega) rfl | exact opv_fieldAddrR rfl (by omega) rfl) rfl ?_
     refine tri_v (by first | exact opv_indexAddrA rfl rfl (by first | decide | omega) (by first | decide | omega) | exact opv_indexAddrSN rfl rfl (by omega) (by assumption) rfl | exact opv_indexAddrS rfl rfl (by omega) (by omega) (by assumption) rfl | exact opv_indexAddrE rfl (by assumption) (by omega) rfl (by first | decide | omega) (by first | decide | omega) | exact opv_indexAddrRN rfl rfl (by omega) | exact opv_indexAddrR rfl rfl (by omega) (by omega) | exact opv_indexAddrRA rfl (by omega) rfl (by first | decide | omega) (by first | decide | omega)) rfl ?_
     refine tri_g (opg_store rfl rfl rfl rfl rfl rfl) rfl ?_
     rintro _ _ _ ⟨rfl, rfl⟩
     refine tri_nil ?_
     refine tri_inBlock ?_
     refine tri_then ?_
     refine tri_region ?_
     refine tri_v (by first | exact opv_add rfl rfl (w64 (by omega) (by omega))) rfl ?_
     refine tri_v (opv_move rfl) rfl ?_
     refine tri_nil ?_
     refine tri_then ?_
     refine tri_round ?_
     refine tri_seq ?_
     refine tri_region ?_
     refine tri_v (opv_lss rfl rfl) rfl ?_
     refine tri_nil ?_
     refine tri_then ?_
     refine tri_seq ?_
     refine tri_cond_not rfl ((by decide)) ?_
     refine tri_exit ?_
     refine tri_then_exit ?_
     refine tri_then_exit ?_
     refine tri_inBlock_hit rfl ?_
     refine tri_then ?_
     refine tri_seq ?_
     refine tri_region ?_
     refine tri_v (opv_move rfl) rfl ?_
     refine tri_v (opv_move rfl) rfl ?_
     refine tri_v (by first | exact opv_fieldAddr rfl rfl | exact opv_fieldAddrE rfl (by assumption) (by omega) rfl | exact opv_fieldAddrR rfl (by omega) rfl) rfl ?_
     refine tri_v (by first | exact opv_load1 rfl rfl rfl | exact opv_loadA rfl rfl rfl | exact opv_loadE1 rfl (by assumption) rfl (by omega) rfl rfl | exact opv_loadEA rfl (by assumption) rfl (by omega) rfl rfl | exact opv_loadRX1 rfl rfl (by omega) rfl rfl | exact opv_loadRXA rfl rfl (by omega) rfl rfl rfl | exact opv_loadIX rfl rfl (by omega) | exact opv_loadR1 rfl rfl rfl | exact opv_loadRA rfl rfl rfl rfl) rfl ?_
     refine tri_v (opv_len rfl) rfl ?_
     refine tri_v (by first | exact opv_indexAddrA rfl rfl (by first | decide | omega) (by first | decide | omega) | exact opv_indexAddrSN rfl rfl (by omega) (by assumption) rfl | exact opv_indexAddrS rfl rfl (by omega) (by omega) (by assumption) rfl | exact opv_indexAddrE rfl (by assumption) (by omega) rfl (by first | decide | omega) (by first | decide | omega) | exact opv_indexAddrRN rfl rfl (by omega) | exact opv_indexAddrR rfl rfl (by omega) (by omega) | exact opv_indexAddrRA rfl (by omega) rfl (by first | decide | omega) (by first | decide | omega)) rfl ?_
     refine tri_g (opg_storeRX ((out.length : Nat) : Int) rfl rfl rfl (by omega) htl.symm rfl rfl rfl rfl) rfl ?_
     rintro _ _ _ ⟨rfl, rfl⟩
     refine tri_nil ?_
     refine tri_then ?_
     refine tri_region ?_
     refine tri_v (by first | exact opv_fieldAddr rfl rfl | exact opv_fieldAddrE rfl (by assumption) (by omega) rfl | exact opv_fieldAddrR rfl (by omega) rfl) rfl ?_
     refine tri_v (by first | exact opv_load1 rfl rfl rfl | exact opv_loadA rfl rfl rfl | exact opv_loadE1 rfl (by assumption) rfl (by omega) rfl rfl | exact opv_loadEA rfl (by assumption) rfl (by omega) rfl rfl | exact opv_loadRX1 rfl rfl (by omega) rfl rfl | exact opv_loadRXA rfl rfl (by omega) rfl rfl rfl | exact opv_loadIX rfl rfl (by omega) | exact opv_loadR1 rfl rfl rfl | exact opv_loadRA rfl rfl rfl rfl) rfl ?_
     refine tri_v (by first | exact opv_load1 rfl rfl rfl | exact opv_loadA rfl rfl rfl | exact opv_loadE1 rfl (by assumption) rfl (by omega) rfl rfl | exact opv_loadEA rfl (by assumption) rfl (by omega) rfl rfl | exact opv_loadRX1 rfl rfl (by omega) rfl rfl | exact opv_loadRXA rfl rfl (by omega) rfl rfl rfl | exact opv_loadIX rfl rfl (by omega) | exact opv_loadR1 rfl rfl rfl | exact opv_loadRA rfl rfl rfl rfl) rfl ?_
     refine tri_g (opg_buildSlice rfl rfl rfl rfl) rfl ?_
     rintro _ _ _ ⟨b138, rfl, rfl, rfl⟩
     refine tri_g (opg_appendB rfl rfl rfl rfl (by omega) rfl) rfl ?_
     rintro _ _ _ ⟨a3, c3, rfl, rfl, rfl⟩
     refine tri_v (by first | exact opv_fieldAddr rfl rfl | exact opv_fieldAddrE rfl (by assumption) (by omega) rfl | exact opv_fieldAddrR rfl (by omega) rfl) rfl ?_
     refine tri_g (opg_store rfl rfl rfl rfl rfl rfl) rfl ?_
     rintro _ _ _ ⟨rfl, rfl⟩
     refine tri_nil ?_
     refine tri_inBlock ?_
     refine tri_then ?_
     refine tri_region ?_
     refine tri_v (by first | exact opv_add rfl rfl (w64 (by omega) (by omega))) rfl ?_
     refine tri_v (opv_move rfl) rfl ?_
     refine tri_nil ?_
     refine tri_then ?_
     refine tri_drop (tri_drop (tri_drop ?_))
     refine tri_rowEq (len' := (out ++ [R6.mapKids to (ns.getD i default)]).length) (cells' := encs (out ++ [R6.mapKids to (ns.getD i default)])) (by simp) (by rw [encs_append]; rfl) ?_
     have hk := hK2 (i + 1, to.set i (out.length : Nat), out ++ [R6.mapKids to (ns.getD i default)], a3, c3) ⟨by simp only; omega, hnx⟩ (by simp only; omega)
     simp only [List.length_append] at hk ⊢
     refine tri_sub ?_ hk
     exact ⟨rfl, rfl, rfl, rfl, rfl, rfl, rfl, rfl, rfl, trivial⟩
   ·obtain rfl : i = ns.length := by omega
    rw [← hall] at hst
    have hR1 : R.1 = to := by rw [hst]
    have hR2 : R.2 = out := by rw [hst]
    rw [hR1, hR2] at hlive
    refine tri_freezeRowC rfl fun I2 hI2 hso => ?_
    have hsr2 := hsr.mono hI2
    refine tri_exit ?_
    refine tri_then_exit ?_
    refine tri_then_exit ?_
    refine tri_inBlock_hit rfl ?_
    refine tri_then ?_
    refine tri_seq ?_
    refine tri_region ?_
    refine tri_v (opv_assign rfl) rfl ?_
    refine tri_nil ?_
    refine tri_then ?_
    refine tri_seq ?_
    refine tri_seq ?_
    refine tri_region ?_
    refine tri_v (opv_move rfl) rfl ?_
    refine tri_v (opv_len rfl) rfl ?_
    refine tri_v (opv_move rfl) rfl ?_
    refine tri_nil ?_
    refine tri_then ?_
    refine tri_block ?_
    refine tri_nilRow (E := 3) (sz := 1) ?_
    refine tri_sub (F' := [(1, .slice ar roots.length capr), (4, pt b4 0), (18, .slice a18 ns.length ns.length), (19, pt b19 0), (26, .slice none 0 0), (142, .slice ar roots.length capr), (143, .int .i64 (roots.length : Nat)), (144, .int .i64 (0 : Nat))]) ⟨rfl, rfl, rfl, rfl, rfl, rfl, rfl, rfl, trivial⟩ ?_
    refine loop_ind (G := Nat × Option Addr × Nat) (fun g => roots.length - g.1) (fun g => g.1 ≤ roots.length) (fun g => [(1, .slice ar roots.length capr), (4, pt b4 0), (18, .slice a18 ns.length ns.length), (19, pt b19 0), (26, .slice g.2.1 ((roots.take g.1).map fun r => to.getD r.toNat default).length g.2.2), (142, .slice ar roots.length capr), (143, .int .i64 (roots.length : Nat)), (144, .int .i64 (g.1 : Nat))])
     (fun g => Row g.2.1 g.2.2 ((roots.take g.1).map fun r => to.getD r.toNat default).length 3 1 (encs ((roots.take g.1).map fun r => to.getD r.toNat default)) :: Box b19 [.slice a21 out.length c21, .int .i64 room] 25 :: Row a18 ns.length ns.length 3 1 (encs to) :: Pt b (.deferred (some [])) :: Pt l (.loop lp) :: Box b1 [.slice a1 ns.length c1] 23 :: Row a1 c1 ns.length 49 6 (encs ns) :: Box b9 [.map (some b42)] 68 :: MapA Try.prog 3 b42 es3 :: Box bx [.slice a1 ns.length c1, .int .i64 room, .map (some mb)] 74 :: MapA Try.prog 26 mb es :: Box b4 [.slice none 0 0, .int .i64 0] 25 :: Box b2 [.slice a ns.length cap, .int .i64 room] 25 :: A) (fun _ => I2) ?_ (0, none, 0) (by simp)
    rintro ⟨q, a5, c5⟩ hq K3 hK3
    simp only at hq hK3 ⊢
    have hl1 : ((roots.take q).map fun r => to.getD r.toNat default).length = q := by rw [List.length_map, List.length_take]; omega
    skip
    refine tri_seq ?_
    refine tri_region ?_
    refine tri_v (opv_lss rfl rfl) rfl ?_
    refine tri_nil ?_
    refine tri_then ?_
    refine tri_seq ?_
    refine tri_cond_dec rfl (fun h3 => ?_) (fun h3 => ?_)
    ·have hql : q < roots.length := by omega
     have hrb := hin q hql
     have hrb1 := hrb.1
     have hrb2 := hrb.2
     refine tri_skip ?_
     refine tri_then ?_
     refine tri_seq ?_
     refine tri_block ?_
     refine tri_seq ?_
     refine tri_region ?_
     refine tri_v (by first | exact opv_indexAddrA rfl rfl (by first | decide | omega) (by first | decide | omega) | exact opv_indexAddrSN rfl rfl (by omega) (by assumption) rfl | exact opv_indexAddrS rfl rfl (by omega) (by omega) (by assumption) rfl | exact opv_indexAddrE rfl (by assumption) (by omega) rfl (by first | decide | omega) (by first | decide | omega) | exact opv_indexAddrRN rfl rfl (by omega) | exact opv_indexAddrR rfl rfl (by omega) (by omega) | exact opv_indexAddrRA rfl (by omega) rfl (by first | decide | omega) (by first | decide | omega)) rfl ?_
     refine tri_v (by first | exact opv_load1 rfl rfl rfl | exact opv_loadA rfl rfl rfl | exact opv_loadE1 rfl (by assumption) rfl (by omega) rfl rfl | exact opv_loadEA rfl (by assumption) rfl (by omega) rfl rfl | exact opv_loadRX1 rfl rfl (by omega) rfl rfl | exact opv_loadRXA rfl rfl (by omega) rfl rfl rfl | exact opv_loadIX rfl rfl (by omega) | exact opv_loadR1 rfl rfl rfl | exact opv_loadRA rfl rfl rfl rfl) rfl ?_
     refine tri_v (opv_assign rfl) rfl ?_
     refine tri_nil ?_
     refine tri_then ?_
     refine tri_region ?_
     refine tri_v (opv_move rfl) rfl ?_
     refine tri_v (opv_move rfl) rfl ?_
     refine tri_v (opv_move rfl) rfl ?_
     refine tri_v (by first | exact opv_indexAddrA rfl rfl (by first | decide | omega) (by first | decide | omega) | exact opv_indexAddrSN rfl rfl (by omega) (by assumption) rfl | exact opv_indexAddrS rfl rfl (by omega) (by omega) (by assumption) rfl | exact opv_indexAddrE rfl (by assumption) (by omega) rfl (by first | decide | omega) (by first | decide | omega) | exact opv_indexAddrRN rfl rfl (by omega) | exact opv_indexAddrR rfl rfl (by omega) (by omega) | exact opv_indexAddrRA rfl (by omega) rfl (by first | decide | omega) (by first | decide | omega)) rfl ?_
     refine tri_v (by first | exact opv_load1 rfl rfl rfl | exact opv_loadA rfl rfl rfl | exact opv_loadE1 rfl (by assumption) rfl (by omega) rfl rfl | exact opv_loadEA rfl (by assumption) rfl (by omega) rfl rfl | exact opv_loadRX1 rfl rfl (by omega) rfl rfl | exact opv_loadRXA rfl rfl (by omega) rfl rfl rfl | exact opv_loadIX rfl rfl (by omega) | exact opv_loadR1 rfl rfl rfl | exact opv_loadRA rfl rfl rfl rfl) rfl ?_
     refine tri_g (opg_buildSlice rfl rfl rfl rfl) rfl ?_
     rintro _ _ _ ⟨b153, rfl, rfl, rfl⟩
     refine tri_g (opg_appendB rfl rfl rfl rfl (by omega) rfl) rfl ?_
     rintro _ _ _ ⟨a6, c6, rfl, rfl, rfl⟩
     refine tri_v (opv_assign rfl) rfl ?_
     refine tri_nil ?_
     refine tri_inBlock ?_
     refine tri_then ?_
     refine tri_region ?_
     refine tri_v (by first | exact opv_add rfl rfl (w64 (by omega) (by omega))) rfl ?_
     refine tri_v (opv_move rfl) rfl ?_
     refine tri_nil ?_
     refine tri_then ?_
     have e2 : (roots.take (q + 1)).map (fun r => to.getD r.toNat default) = (roots.take q).map (fun r => to.getD r.toNat default) ++ [to.getD (roots.getD q default).toNat default] := by
      rw [List.take_succ_eq_append_getElem hql, List.map_append, show roots.getD q default = roots[q] by simp [hql]]; rfl
     refine tri_drop ?_
     refine tri_rowEq (len' := ((roots.take (q + 1)).map fun r => to.getD r.toNat default).length) (cells' := encs ((roots.take (q + 1)).map fun r => to.getD r.toNat default)) (by rw [e2]; simp) (by rw [e2, encs_append]; rfl) ?_
     refine tri_sub ?_ (hK3 (q + 1, a6, c6) (by simp only; omega) (by simp only; omega))
     exact ⟨rfl, rfl, rfl, rfl, by simp only [e2, List.length_append]; rfl, rfl, rfl, rfl, trivial⟩
    ·obtain rfl : q = roots.length := by omega
     rw [List.take_length]
     refine tri_freezeRow (α := Int) rfl fun I3 hI3 hsp => ?_
     refine tri_exit ?_
     refine tri_then_exit ?_
     refine tri_then_exit ?_
     refine tri_inBlock_hit rfl ?_
     refine tri_then ?_
     refine tri_seq ?_
     refine tri_region ?_
     refine tri_v (by first | exact opv_load1 rfl rfl rfl | exact opv_loadA rfl rfl rfl | exact opv_loadE1 rfl (by assumption) rfl (by omega) rfl rfl | exact opv_loadEA rfl (by assumption) rfl (by omega) rfl rfl | exact opv_loadRX1 rfl rfl (by omega) rfl rfl | exact opv_loadRXA rfl rfl (by omega) rfl rfl rfl | exact opv_loadIX rfl rfl (by omega) | exact opv_loadR1 rfl rfl rfl | exact opv_loadRA rfl rfl rfl rfl) rfl ?_
     refine tri_v (opv_move rfl) rfl ?_
     refine tri_g (opg_store rfl rfl rfl rfl rfl rfl) rfl ?_
     rintro _ _ _ ⟨rfl, rfl⟩
     refine tri_v (opv_assign rfl) rfl ?_
     refine tri_v (opv_assign rfl) rfl ?_
     refine tri_nil ?_
     refine tri_then ?_
     refine tri_ret ?_
     refine tri_perm (A := ?a7_0 :: ?a7_1 :: ?a7_2 :: ?T7) (B := ?a7_2 :: ?a7_0 :: ?a7_1 :: ?T7) (by exact permL [2, 0, 1] [?a7_0, ?a7_1, ?a7_2] ?T7 (by decide) rfl) ?_
     refine tri_endM A ⟨[_, _, _, _, _, _, _, _, _, _, _], rfl⟩ rfl (.cons (rv_cellA rfl rfl rfl) (.cons (rv_tmp rfl) (.cons (rv_tmp rfl) .nil))) ?_
     rw [hlive]
     exact ⟨a21, c21, a5, c5, rfl, hso.mono hI3, hsp, rfl, fun _ h => hI3 (hI2 h)⟩
 ·refine tri_v (opv_move rfl) rfl ?_
  refine tri_v (opv_extract rfl rfl) rfl ?_
  refine tri_v (opv_extract rfl rfl) rfl ?_
  refine tri_v (opv_assign rfl) rfl ?_
  refine tri_v (opv_assign rfl) rfl ?_
  refine tri_nil ?_
  refine tri_then ?_
  refine tri_seq ?_
  refine tri_seq ?_
  refine tri_region ?_
  refine tri_v (opv_move rfl) rfl ?_
  refine tri_v (by first | exact opv_notD rfl | exact opv_not rfl) rfl ?_
  refine tri_v (opv_move rfl) rfl ?_
  skip
  refine tri_guard_skip rfl rfl rfl rfl ?_
  refine tri_guard_skip rfl rfl rfl rfl ?_
  refine tri_guard_skip rfl rfl rfl rfl ?_
  refine tri_v (by first | exact opv_pick_t rfl rfl | exact opv_pick_f rfl rfl | exact opv_pick_bool rfl rfl rfl | exact opv_pick rfl rfl rfl) rfl ?_
  refine tri_nil ?_
  refine tri_then ?_
  refine tri_cond_true rfl ?_
  refine tri_seq ?_
  refine tri_region ?_
  refine tri_v (by first | exact opv_load1 rfl rfl rfl | exact opv_loadA rfl rfl rfl | exact opv_loadE1 rfl (by assumption) rfl (by omega) rfl rfl | exact opv_loadEA rfl (by assumption) rfl (by omega) rfl rfl | exact opv_loadRX1 rfl rfl (by omega) rfl rfl | exact opv_loadRXA rfl rfl (by omega) rfl rfl rfl | exact opv_loadIX rfl rfl (by omega) | exact opv_loadR1 rfl rfl rfl | exact opv_loadRA rfl rfl rfl rfl) rfl ?_
  refine tri_g (opg_store rfl rfl rfl rfl rfl rfl) rfl ?_
  rintro _ _ _ ⟨rfl, rfl⟩
  refine tri_v (opv_assign rfl) rfl ?_
  refine tri_v (opv_assign rfl) rfl ?_
  refine tri_nil ?_
  refine tri_then ?_
  refine tri_ret ?_
  refine tri_then_ret ?_
  refine tri_end A Suf.h rfl (.cons (rv_cellA rfl rfl rfl) (.cons (rv_tmp rfl) (.cons (rv_tmp rfl) .nil))) ?_
  rw [R6.live_bad (fun h => hrt h.1)]
  exact ⟨a, cap, none, 0, rfl, hs, SlAt.nil, rfl, fun _ h => h⟩
end Go.GL.Rd

namespace Go.GL
namespace RL
abbrev St6 := List Node × Int × Int
def aw61 : St6 := R6.intern [R6.n0, R6.n1] 9 0 1 0 0
def aw62 : St6 := R6.intern aw61.1 9 0 1 0 0
def aw63 : St6 := R6.intern aw61.1 9 0 1 0 2
def aw64 : St6 := R6.emptyT aw61.1 9 3
def aw65 : List Node × List Int × Int := R6.live aw64.1 9 [aw61.2.1]
def aw66 : St6 := R6.emptyT [R6.n0, R6.n1] 4 5
theorem aw6_ok : (aw61.1.length = 3 ∧ aw61.2.1 = 2 ∧ aw61.2.2 = 0 ∧ aw61.1.getD 2 default = ⟨1, 0, 1, 0, 0, 1⟩) ∧ (aw62.1.length = 3 ∧ aw62.2.1 = 2 ∧ aw62.2.2 = 0) ∧ aw63.2.2 = 1
  ∧ (aw64.1.length = 6 ∧ aw64.2.1 = 5 ∧ aw64.2.2 = 0 ∧ (aw64.1.getD 5 default).lv = 3 ∧ R6.right aw64.1 9) ∧ (aw65.2.1.length = 1 ∧ aw65.1.length = 3 ∧ aw65.2.1.getD 0 default = 2 ∧ aw65.2.2 = 0) ∧ aw66.2.2 = 40 ∧ ¬ R6.right [] 0 := by
 refine ⟨by decide +kernel, by decide +kernel, by decide +kernel, by decide +kernel, by decide +kernel, by decide +kernel, by decide +kernel⟩
end RL
end Go.GL

set_option linter.unusedVariables false
namespace Go.GL
open Go.Proofs
attribute [local irreducible] wpList Code.wp Exit.then Exit.inBlock Ends Tri TriH OpV OpG FnC epf wpAnyH
variable {A : List Asrt} {I : List Chunk}
theorem node_newR {room : Int} {p : List Node × Int} (h : R6.new room = p) : FnC Try.prog 12 [.int .i64 room].toArray A I (fun v A' I' => ∃ a' cap', v = storeV a' p.1.length cap' p.2 ∧ StA I' a' cap' p.1 ∧ A = A' ∧ I ⊆ I') := by
 subst h
 exact node_new
theorem node_internR {ns : List Node} {a : Option Addr} {cap : Nat} {room q0 q1 q2 q3 : Int} {p : List Node × Int × Int} (hs : StA I a cap ns) (hn : ns.length ≤ 1000000000) (h : R6.intern ns room q0 q1 q2 q3 = p) :
  FnC Try.prog 18 [storeV a ns.length cap room, int4V q0 q1 q2 q3].toArray A I (StoreR p room A I) := by
 subst h
 exact node_intern hs hn
theorem node_emptyR {ns : List Node} {a : Option Addr} {cap : Nat} {room lv : Int} {p : List Node × Int × Int} (hs : StA I a cap ns) (hn : ns.length ≤ 1000000000) (h : R6.emptyT ns room lv = p) :
  FnC Try.prog 21 [storeV a ns.length cap room, .int .i64 lv].toArray A I (StoreR p room A I) := by
 subst h
 exact node_empty hs hn
theorem node_liveR {ns : List Node} {roots : List Int} {a ar : Option Addr} {cap capr : Nat} {room : Int} {p : List Node × List Int × Int} (hs : StA I a cap ns) (hn : ns.length ≤ 1000000) (hsr : SlAt I ar roots) (hrl : roots.length ≤ 1000000) (h : R6.live ns room roots = p) :
  FnC Try.prog 23 [storeV a ns.length cap room, .slice ar roots.length capr].toArray A I (LiveR p room A I) := by
 subst h
 exact Rd.node_live hs hn hsr hrl
set_option maxHeartbeats 2000000 in
set_option maxRecDepth 100000 in
theorem law06_awake : FnC Try.prog 10 #[] A I (fun v A' I' => v = .bool true ∧ A = A' ∧ I ⊆ I') := by
 obtain ⟨⟨a1, a2, a3, a4⟩, ⟨b1, b2, b3⟩, c1, ⟨d1, d2, d3, d4, d5⟩, ⟨e1, e2, e3, e4⟩, f1, g1⟩ := RL.aw6_ok
 have eN : R6.new 9 = ([R6.n0, R6.n1], 9) := by decide
 have eN4 : R6.new 4 = ([R6.n0, R6.n1], 4) := by decide
 obtain ⟨r1, h1⟩ : ∃ r, RL.aw61 = r := ⟨_, rfl⟩
 obtain ⟨r2, h2⟩ : ∃ r, RL.aw62 = r := ⟨_, rfl⟩
 obtain ⟨r3, h3⟩ : ∃ r, RL.aw63 = r := ⟨_, rfl⟩
 obtain ⟨r4, h4⟩ : ∃ r, RL.aw64 = r := ⟨_, rfl⟩
 obtain ⟨r5, h5⟩ : ∃ r, RL.aw65 = r := ⟨_, rfl⟩
 obtain ⟨r6, h6⟩ : ∃ r, RL.aw66 = r := ⟨_, rfl⟩
 have m1 : R6.intern [R6.n0, R6.n1] 9 0 1 0 0 = r1 := h1
 have m2 : R6.intern r1.1 9 0 1 0 0 = r2 := by rw [← h1]; exact h2
 have m3 : R6.intern r1.1 9 0 1 0 2 = r3 := by rw [← h1]; exact h3
 have m4 : R6.emptyT r1.1 9 3 = r4 := by rw [← h1]; exact h4
 have m5 : R6.live r4.1 9 [r1.2.1] = r5 := by rw [← h1, ← h4]; exact h5
 have m6 : R6.emptyT [R6.n0, R6.n1] 4 5 = r6 := h6
 rw [h1] at a1 a2 a3 a4
 rw [h2] at b1 b2 b3
 rw [h3] at c1
 rw [h4] at d1 d2 d3 d4 d5
 rw [h5] at e1 e2 e3 e4
 rw [h6] at f1
 clear h1 h2 h3 h4 h5 h6
 skip
 refine fn_enter0 Try.func10 rfl Try.ntmps10 rfl fun w0 => ?_
 refine tS (tR (tA rfl rfl (tN (tT (tS (tR ?_))))))
 refine tri_g (opg_call (xs := [_]) rfl (node_newR eN)) rfl ?_
 rintro _ _ I0 ⟨x0, y0, rfl, hs0, rfl, hI0⟩
 refine tri_v (by first | exact opv_buildS rfl rfl | exact opv_buildA rfl rfl) rfl ?_
 refine tri_g (opg_call (xs := [_, _]) rfl (node_internR hs0 (by decide) m1)) rfl ?_
 rintro _ _ I1 ⟨x1, y1, rfl, hs1, rfl, hI1⟩
 refine tM rfl rfl ?_
 refine tri_v (opv_extract rfl rfl) rfl ?_
 refine tri_v (opv_extract rfl rfl) rfl ?_
 refine tri_v (opv_extract rfl rfl) rfl ?_
 refine tri_g opg_alloc rfl ?_
 rintro _ _ _ ⟨b1, rfl, rfl, rfl⟩
 refine tri_g (opg_store rfl rfl rfl rfl rfl rfl) rfl ?_
 rintro _ _ _ ⟨rfl, rfl⟩
 refine tA rfl rfl (tA rfl rfl (tN (tT (tS (tR ?_)))))
 refine tri_v (by first | exact opv_load1 rfl rfl rfl | exact opv_loadA rfl rfl rfl | exact opv_loadE1 rfl (by assumption) rfl (by omega) rfl rfl | exact opv_loadEA rfl (by assumption) rfl (by omega) rfl rfl | exact opv_loadRX1 rfl rfl (by omega) rfl rfl | exact opv_loadRXA rfl rfl (by omega) rfl rfl rfl | exact opv_loadIX rfl rfl (by omega) | exact opv_loadR1 rfl rfl rfl | exact opv_loadRA rfl rfl rfl rfl) rfl ?_
 refine tri_v (by first | exact opv_buildS rfl rfl | exact opv_buildA rfl rfl) rfl ?_
 refine tri_g (opg_call (xs := [_, _]) rfl (node_internR hs1 (by omega) m2)) rfl ?_
 rintro _ _ I2 ⟨x2, y2, rfl, hs2, rfl, hI2⟩
 refine tM rfl rfl ?_
 refine tri_v (opv_extract rfl rfl) rfl ?_
 refine tri_v (opv_extract rfl rfl) rfl ?_
 refine tri_v (opv_extract rfl rfl) rfl ?_
 refine tri_g opg_alloc rfl ?_
 rintro _ _ _ ⟨b4, rfl, rfl, rfl⟩
 refine tri_g (opg_store rfl rfl rfl rfl rfl rfl) rfl ?_
 rintro _ _ _ ⟨rfl, rfl⟩
 refine tA rfl rfl (tA rfl rfl (tN (tT (tS (tR ?_)))))
 refine tri_v (by first | exact opv_load1 rfl rfl rfl | exact opv_loadA rfl rfl rfl | exact opv_loadE1 rfl (by assumption) rfl (by omega) rfl rfl | exact opv_loadEA rfl (by assumption) rfl (by omega) rfl rfl | exact opv_loadRX1 rfl rfl (by omega) rfl rfl | exact opv_loadRXA rfl rfl (by omega) rfl rfl rfl | exact opv_loadIX rfl rfl (by omega) | exact opv_loadR1 rfl rfl rfl | exact opv_loadRA rfl rfl rfl rfl) rfl ?_
 refine tri_v (by first | exact opv_buildS rfl rfl | exact opv_buildA rfl rfl) rfl ?_
 refine tri_g (opg_call (xs := [_, _]) rfl (node_internR (hs1.mono hI2) (by omega) m3)) rfl ?_
 rintro _ _ I3 ⟨x3, y3, rfl, hs3, rfl, hI3⟩
 refine tM rfl rfl ?_
 refine tri_v (opv_extract rfl rfl) rfl ?_
 refine tri_v (opv_extract rfl rfl) rfl ?_
 refine tri_v (opv_extract rfl rfl) rfl ?_
 refine tri_g opg_alloc rfl ?_
 rintro _ _ _ ⟨b7, rfl, rfl, rfl⟩
 refine tri_g (opg_store rfl rfl rfl rfl rfl rfl) rfl ?_
 rintro _ _ _ ⟨rfl, rfl⟩
 refine tA rfl rfl (tA rfl rfl (tN (tT (tS (tR ?_)))))
 refine tri_v (by first | exact opv_load1 rfl rfl rfl | exact opv_loadA rfl rfl rfl | exact opv_loadE1 rfl (by assumption) rfl (by omega) rfl rfl | exact opv_loadEA rfl (by assumption) rfl (by omega) rfl rfl | exact opv_loadRX1 rfl rfl (by omega) rfl rfl | exact opv_loadRXA rfl rfl (by omega) rfl rfl rfl | exact opv_loadIX rfl rfl (by omega) | exact opv_loadR1 rfl rfl rfl | exact opv_loadRA rfl rfl rfl rfl) rfl ?_
 refine tri_g (opg_call (xs := [_, _]) rfl (node_emptyR ((hs1.mono hI2).mono hI3) (by omega) m4)) rfl ?_
 rintro _ _ I4 ⟨x4, y4, rfl, hs4, rfl, hI4⟩
 refine tM rfl rfl ?_
 refine tri_v (opv_extract rfl rfl) rfl ?_
 refine tri_v (opv_extract rfl rfl) rfl ?_
 refine tri_v (opv_extract rfl rfl) rfl ?_
 refine tri_g opg_alloc rfl ?_
 rintro _ _ _ ⟨b10, rfl, rfl, rfl⟩
 refine tri_g (opg_store rfl rfl rfl rfl rfl rfl) rfl ?_
 rintro _ _ _ ⟨rfl, rfl⟩
 refine tA rfl rfl (tA rfl rfl (tN (tT (tS (tR ?_)))))
 refine tri_v (by first | exact opv_load1 rfl rfl rfl | exact opv_loadA rfl rfl rfl | exact opv_loadE1 rfl (by assumption) rfl (by omega) rfl rfl | exact opv_loadEA rfl (by assumption) rfl (by omega) rfl rfl | exact opv_loadRX1 rfl rfl (by omega) rfl rfl | exact opv_loadRXA rfl rfl (by omega) rfl rfl rfl | exact opv_loadIX rfl rfl (by omega) | exact opv_loadR1 rfl rfl rfl | exact opv_loadRA rfl rfl rfl rfl) rfl ?_
 refine tM rfl rfl ?_
 refine tri_g (opg_buildSlice rfl rfl rfl rfl) rfl ?_
 rintro _ _ _ ⟨b49, rfl, rfl, rfl⟩
 refine tri_freezeBoxS [r1.2.1] rfl fun I5 hI5 hsr => ?_
 refine tri_g (opg_call (xs := [_, _]) rfl (node_liveR (hs4.mono hI5) (by omega) hsr (by simp) m5)) rfl ?_
 rintro _ _ I6 ⟨x6, y6, x7, y7, rfl, hs6, hs7, rfl, hI6⟩
 refine tM rfl rfl ?_
 refine tri_v (opv_extract rfl rfl) rfl ?_
 refine tri_v (opv_extract rfl rfl) rfl ?_
 refine tri_v (opv_extract rfl rfl) rfl ?_
 refine tri_g opg_alloc rfl ?_
 rintro _ _ _ ⟨b13, rfl, rfl, rfl⟩
 refine tri_g (opg_store rfl rfl rfl rfl rfl rfl) rfl ?_
 rintro _ _ _ ⟨rfl, rfl⟩
 refine tA rfl rfl (tA rfl rfl (tN (tT (tS (tR ?_)))))
 refine tri_g (opg_call (xs := [_]) rfl (node_newR eN4)) rfl ?_
 rintro _ _ I7 ⟨x8, y8, rfl, hs8, rfl, hI7⟩
 skip
 refine tri_g (opg_call (xs := [_, _]) rfl (node_emptyR hs8 (by decide) m6)) rfl ?_
 rintro _ _ I8 ⟨x9, y9, rfl, hs9, rfl, hI8⟩
 have s1 : SlAt I8 x1 r1.1 := ((((((hs1.mono hI2).mono hI3).mono hI4).mono hI5).mono hI6).mono hI7 |>.mono hI8).sl
 have s4 : StA I8 x4 y4 r4.1 := ((((hs4.mono hI5).mono hI6).mono hI7).mono hI8)
 have s4l := s4.sl
 have s7 : SlAt I8 x7 r5.2.1 := (hs7.mono hI7).mono hI8
 have eR : decide (R6.right r4.1 9) = true := decide_eq_true d5
 refine tM rfl rfl ?_
 refine tri_v (opv_extract rfl rfl) rfl ?_
 refine tri_v (opv_extract rfl rfl) rfl ?_
 refine tri_v (opv_extract rfl rfl) rfl ?_
 refine tri_g opg_alloc rfl ?_
 rintro _ _ _ ⟨b16, rfl, rfl, rfl⟩
 refine tri_g (opg_store rfl rfl rfl rfl rfl rfl) rfl ?_
 rintro _ _ _ ⟨rfl, rfl⟩
 refine tA rfl rfl (tA rfl rfl (tN (tT (tS (tS (tR ?_))))))
 refine tri_v (by first | exact opv_fieldAddr rfl rfl | exact opv_fieldAddrE rfl (by assumption) (by omega) rfl | exact opv_fieldAddrR rfl (by omega) rfl) rfl ?_
 refine tri_v (by first | exact opv_load1 rfl rfl rfl | exact opv_loadA rfl rfl rfl | exact opv_loadE1 rfl (by assumption) rfl (by omega) rfl rfl | exact opv_loadEA rfl (by assumption) rfl (by omega) rfl rfl | exact opv_loadRX1 rfl rfl (by omega) rfl rfl | exact opv_loadRXA rfl rfl (by omega) rfl rfl rfl | exact opv_loadIX rfl rfl (by omega) | exact opv_loadR1 rfl rfl rfl | exact opv_loadRA rfl rfl rfl rfl) rfl ?_
 refine tri_v (opv_len rfl) rfl ?_
 refine tri_v (by first | exact opv_neq rfl rfl | exact opv_neqI rfl rfl rfl rfl rfl rfl | exact opv_neqB rfl rfl) rfl ?_
 refine tM rfl rfl ?_
 refine tri_false rfl rfl ((by omega)) ?_
 refine tri_guard_run rfl rfl rfl ?_
 refine tri_v (by first | exact opv_fieldAddr rfl rfl | exact opv_fieldAddrE rfl (by assumption) (by omega) rfl | exact opv_fieldAddrR rfl (by omega) rfl) rfl ?_
 refine tri_guard_run rfl rfl rfl ?_
 refine tri_v (by first | exact opv_load1 rfl rfl rfl | exact opv_loadA rfl rfl rfl | exact opv_loadE1 rfl (by assumption) rfl (by omega) rfl rfl | exact opv_loadEA rfl (by assumption) rfl (by omega) rfl rfl | exact opv_loadRX1 rfl rfl (by omega) rfl rfl | exact opv_loadRXA rfl rfl (by omega) rfl rfl rfl | exact opv_loadIX rfl rfl (by omega) | exact opv_loadR1 rfl rfl rfl | exact opv_loadRA rfl rfl rfl rfl) rfl ?_
 refine tri_guard_run rfl rfl rfl ?_
 refine tri_v (opv_len rfl) rfl ?_
 refine tri_guard_run rfl rfl rfl ?_
 refine tri_v (by first | exact opv_neq rfl rfl | exact opv_neqI rfl rfl rfl rfl rfl rfl | exact opv_neqB rfl rfl) rfl ?_
 refine tri_v (by first | exact opv_pick_t rfl rfl | exact opv_pick_f rfl rfl | exact opv_pick_bool rfl rfl rfl | exact opv_pick rfl rfl rfl) rfl ?_
 refine tM rfl rfl ?_
 refine tri_false rfl rfl ((by omega)) ?_
 refine tri_guard_run rfl rfl rfl (tM rfl rfl (tri_guard_run rfl rfl rfl ?_))
 refine tri_v (opv_len rfl) rfl ?_
 refine tri_guard_run rfl rfl rfl ?_
 refine tri_v (by first | exact opv_neq rfl rfl | exact opv_neqI rfl rfl rfl rfl rfl rfl | exact opv_neqB rfl rfl) rfl ?_
 refine tri_v (by first | exact opv_pick_t rfl rfl | exact opv_pick_f rfl rfl | exact opv_pick_bool rfl rfl rfl | exact opv_pick rfl rfl rfl) rfl ?_
 refine tM rfl rfl ?_
 refine tri_false rfl rfl ((by omega)) ?_
 refine tri_guard_run rfl rfl rfl ?_
 refine tri_v (by first | exact opv_fieldAddr rfl rfl | exact opv_fieldAddrE rfl (by assumption) (by omega) rfl | exact opv_fieldAddrR rfl (by omega) rfl) rfl ?_
 refine tri_guard_run rfl rfl rfl ?_
 refine tri_v (by first | exact opv_load1 rfl rfl rfl | exact opv_loadA rfl rfl rfl | exact opv_loadE1 rfl (by assumption) rfl (by omega) rfl rfl | exact opv_loadEA rfl (by assumption) rfl (by omega) rfl rfl | exact opv_loadRX1 rfl rfl (by omega) rfl rfl | exact opv_loadRXA rfl rfl (by omega) rfl rfl rfl | exact opv_loadIX rfl rfl (by omega) | exact opv_loadR1 rfl rfl rfl | exact opv_loadRA rfl rfl rfl rfl) rfl ?_
 refine tri_guard_run rfl rfl rfl ?_
 refine tri_v (opv_len rfl) rfl ?_
 refine tri_guard_run rfl rfl rfl ?_
 refine tri_v (by first | exact opv_neq rfl rfl | exact opv_neqI rfl rfl rfl rfl rfl rfl | exact opv_neqB rfl rfl) rfl ?_
 refine tri_v (by first | exact opv_pick_t rfl rfl | exact opv_pick_f rfl rfl | exact opv_pick_bool rfl rfl rfl | exact opv_pick rfl rfl rfl) rfl ?_
 refine tN (tT ?_)
 refine tri_cond_not rfl ((by omega)) ?_
 refine tri_skip (tT (tS (tR (tM rfl rfl ?_))))
 refine tri_v (by first | exact opv_eql rfl rfl | exact opv_eqlI rfl rfl rfl rfl rfl rfl | exact opv_eqlB rfl rfl | exact opv_eqlNil rfl rfl) rfl ?_
 refine tM rfl rfl ?_
 refine tri_true rfl rfl (a2) ?_
 refine tri_guard_run rfl rfl rfl (tM rfl rfl (tri_guard_run rfl rfl rfl ?_))
 refine tri_v (by first | exact opv_eql rfl rfl | exact opv_eqlI rfl rfl rfl rfl rfl rfl | exact opv_eqlB rfl rfl | exact opv_eqlNil rfl rfl) rfl ?_
 refine tri_v (by first | exact opv_pick_t rfl rfl | exact opv_pick_f rfl rfl | exact opv_pick_bool rfl rfl rfl | exact opv_pick rfl rfl rfl) rfl ?_
 refine tM rfl rfl ?_
 refine tri_true rfl rfl (a3) ?_
 refine tri_guard_run rfl rfl rfl (tM rfl rfl (tri_guard_run rfl rfl rfl ?_))
 refine tri_v (by first | exact opv_eql rfl rfl | exact opv_eqlI rfl rfl rfl rfl rfl rfl | exact opv_eqlB rfl rfl | exact opv_eqlNil rfl rfl) rfl ?_
 refine tri_v (by first | exact opv_pick_t rfl rfl | exact opv_pick_f rfl rfl | exact opv_pick_bool rfl rfl rfl | exact opv_pick rfl rfl rfl) rfl ?_
 refine tM rfl rfl ?_
 refine tri_true rfl rfl (b2) ?_
 refine tri_guard_run rfl rfl rfl (tM rfl rfl (tri_guard_run rfl rfl rfl ?_))
 refine tri_v (by first | exact opv_eql rfl rfl | exact opv_eqlI rfl rfl rfl rfl rfl rfl | exact opv_eqlB rfl rfl | exact opv_eqlNil rfl rfl) rfl ?_
 refine tri_v (by first | exact opv_pick_t rfl rfl | exact opv_pick_f rfl rfl | exact opv_pick_bool rfl rfl rfl | exact opv_pick rfl rfl rfl) rfl ?_
 refine tM rfl rfl ?_
 refine tri_true rfl rfl (b3) ?_
 refine tri_guard_run rfl rfl rfl ?_
 refine tri_v (by first | exact opv_fieldAddr rfl rfl | exact opv_fieldAddrE rfl (by assumption) (by omega) rfl | exact opv_fieldAddrR rfl (by omega) rfl) rfl ?_
 refine tri_guard_run rfl rfl rfl ?_
 refine tri_v (by first | exact opv_load1 rfl rfl rfl | exact opv_loadA rfl rfl rfl | exact opv_loadE1 rfl (by assumption) rfl (by omega) rfl rfl | exact opv_loadEA rfl (by assumption) rfl (by omega) rfl rfl | exact opv_loadRX1 rfl rfl (by omega) rfl rfl | exact opv_loadRXA rfl rfl (by omega) rfl rfl rfl | exact opv_loadIX rfl rfl (by omega) | exact opv_loadR1 rfl rfl rfl | exact opv_loadRA rfl rfl rfl rfl) rfl ?_
 refine tri_guard_run rfl rfl rfl ?_
 refine tri_v (by first | exact opv_indexAddrA rfl rfl (by first | decide | omega) (by first | decide | omega) | exact opv_indexAddrSN rfl rfl (by omega) (by assumption) rfl | exact opv_indexAddrS rfl rfl (by omega) (by omega) (by assumption) rfl | exact opv_indexAddrE rfl (by assumption) (by omega) rfl (by first | decide | omega) (by first | decide | omega) | exact opv_indexAddrRN rfl rfl (by omega) | exact opv_indexAddrR rfl rfl (by omega) (by omega) | exact opv_indexAddrRA rfl (by omega) rfl (by first | decide | omega) (by first | decide | omega)) rfl ?_
 refine tri_guard_run rfl rfl rfl ?_
 refine tri_v (by first | exact opv_load1 rfl rfl rfl | exact opv_loadA rfl rfl rfl | exact opv_loadE1 rfl (by assumption) rfl (by omega) rfl rfl | exact opv_loadEA rfl (by assumption) rfl (by omega) rfl rfl | exact opv_loadRX1 rfl rfl (by omega) rfl rfl | exact opv_loadRXA rfl rfl (by omega) rfl rfl rfl | exact opv_loadIX rfl rfl (by omega) | exact opv_loadR1 rfl rfl rfl | exact opv_loadRA rfl rfl rfl rfl) rfl ?_
 refine tri_guard_run rfl rfl rfl ?_
 refine tri_v (by first | exact opv_buildS rfl rfl | exact opv_buildA rfl rfl) rfl ?_
 refine tri_guard_run rfl rfl rfl ?_
 refine tri_v (by first | exact opv_buildS rfl rfl | exact opv_buildA rfl rfl) rfl ?_
 refine tri_guard_run rfl rfl rfl ?_
 refine tri_v (by first | exact opv_eql rfl rfl | exact opv_eqlI rfl rfl rfl rfl rfl rfl | exact opv_eqlB rfl rfl | exact opv_eqlNil rfl rfl) rfl ?_
 refine tri_v (by first | exact opv_pick_t rfl rfl | exact opv_pick_f rfl rfl | exact opv_pick_bool rfl rfl rfl | exact opv_pick rfl rfl rfl) rfl ?_
 refine tM rfl rfl ?_
 refine tri_true rfl rfl ((Node.ext_iff'.1 a4)) ?_
 refine tri_guard_run rfl rfl rfl (tM rfl rfl (tri_guard_run rfl rfl rfl ?_))
 refine tri_v (by first | exact opv_eql rfl rfl | exact opv_eqlI rfl rfl rfl rfl rfl rfl | exact opv_eqlB rfl rfl | exact opv_eqlNil rfl rfl) rfl ?_
 refine tri_v (by first | exact opv_pick_t rfl rfl | exact opv_pick_f rfl rfl | exact opv_pick_bool rfl rfl rfl | exact opv_pick rfl rfl rfl) rfl ?_
 refine tM rfl rfl ?_
 refine tri_true rfl rfl (c1) ?_
 refine tri_guard_run rfl rfl rfl (tM rfl rfl (tri_guard_run rfl rfl rfl ?_))
 refine tri_v (by first | exact opv_eql rfl rfl | exact opv_eqlI rfl rfl rfl rfl rfl rfl | exact opv_eqlB rfl rfl | exact opv_eqlNil rfl rfl) rfl ?_
 refine tri_v (by first | exact opv_pick_t rfl rfl | exact opv_pick_f rfl rfl | exact opv_pick_bool rfl rfl rfl | exact opv_pick rfl rfl rfl) rfl ?_
 refine tM rfl rfl ?_
 refine tri_true rfl rfl (d2) ?_
 refine tri_guard_run rfl rfl rfl (tM rfl rfl (tri_guard_run rfl rfl rfl ?_))
 refine tri_v (by first | exact opv_eql rfl rfl | exact opv_eqlI rfl rfl rfl rfl rfl rfl | exact opv_eqlB rfl rfl | exact opv_eqlNil rfl rfl) rfl ?_
 refine tri_v (by first | exact opv_pick_t rfl rfl | exact opv_pick_f rfl rfl | exact opv_pick_bool rfl rfl rfl | exact opv_pick rfl rfl rfl) rfl ?_
 refine tM rfl rfl ?_
 refine tri_true rfl rfl (d3) ?_
 refine tri_guard_run rfl rfl rfl ?_
 refine tri_v (by first | exact opv_fieldAddr rfl rfl | exact opv_fieldAddrE rfl (by assumption) (by omega) rfl | exact opv_fieldAddrR rfl (by omega) rfl) rfl ?_
 refine tri_guard_run rfl rfl rfl ?_
 refine tri_v (by first | exact opv_load1 rfl rfl rfl | exact opv_loadA rfl rfl rfl | exact opv_loadE1 rfl (by assumption) rfl (by omega) rfl rfl | exact opv_loadEA rfl (by assumption) rfl (by omega) rfl rfl | exact opv_loadRX1 rfl rfl (by omega) rfl rfl | exact opv_loadRXA rfl rfl (by omega) rfl rfl rfl | exact opv_loadIX rfl rfl (by omega) | exact opv_loadR1 rfl rfl rfl | exact opv_loadRA rfl rfl rfl rfl) rfl ?_
 refine tri_guard_run rfl rfl rfl ?_
 refine tri_v (by first | exact opv_indexAddrA rfl rfl (by first | decide | omega) (by first | decide | omega) | exact opv_indexAddrSN rfl rfl (by omega) (by assumption) rfl | exact opv_indexAddrS rfl rfl (by omega) (by omega) (by assumption) rfl | exact opv_indexAddrE rfl (by assumption) (by omega) rfl (by first | decide | omega) (by first | decide | omega) | exact opv_indexAddrRN rfl rfl (by omega) | exact opv_indexAddrR rfl rfl (by omega) (by omega) | exact opv_indexAddrRA rfl (by omega) rfl (by first | decide | omega) (by first | decide | omega)) rfl ?_
 refine tri_guard_run rfl rfl rfl ?_
 refine tri_v (by first | exact opv_fieldAddr rfl rfl | exact opv_fieldAddrE rfl (by assumption) (by omega) rfl | exact opv_fieldAddrR rfl (by omega) rfl) rfl ?_
 refine tri_guard_run rfl rfl rfl ?_
 refine tri_v (by first | exact opv_load1 rfl rfl rfl | exact opv_loadA rfl rfl rfl | exact opv_loadE1 rfl (by assumption) rfl (by omega) rfl rfl | exact opv_loadEA rfl (by assumption) rfl (by omega) rfl rfl | exact opv_loadRX1 rfl rfl (by omega) rfl rfl | exact opv_loadRXA rfl rfl (by omega) rfl rfl rfl | exact opv_loadIX rfl rfl (by omega) | exact opv_loadR1 rfl rfl rfl | exact opv_loadRA rfl rfl rfl rfl) rfl ?_
 refine tri_guard_run rfl rfl rfl ?_
 refine tri_v (by first | exact opv_eql rfl rfl | exact opv_eqlI rfl rfl rfl rfl rfl rfl | exact opv_eqlB rfl rfl | exact opv_eqlNil rfl rfl) rfl ?_
 refine tri_v (by first | exact opv_pick_t rfl rfl | exact opv_pick_f rfl rfl | exact opv_pick_bool rfl rfl rfl | exact opv_pick rfl rfl rfl) rfl ?_
 refine tM rfl rfl ?_
 refine tri_true rfl rfl (d4) ?_
 refine tri_guard_run rfl rfl rfl (tM rfl rfl (tri_guard_run rfl rfl rfl ?_))
 refine tri_v (by first | exact opv_indexAddrA rfl rfl (by first | decide | omega) (by first | decide | omega) | exact opv_indexAddrSN rfl rfl (by omega) (by assumption) rfl | exact opv_indexAddrS rfl rfl (by omega) (by omega) (by assumption) rfl | exact opv_indexAddrE rfl (by assumption) (by omega) rfl (by first | decide | omega) (by first | decide | omega) | exact opv_indexAddrRN rfl rfl (by omega) | exact opv_indexAddrR rfl rfl (by omega) (by omega) | exact opv_indexAddrRA rfl (by omega) rfl (by first | decide | omega) (by first | decide | omega)) rfl ?_
 refine tri_guard_run rfl rfl rfl ?_
 refine tri_v (by first | exact opv_load1 rfl rfl rfl | exact opv_loadA rfl rfl rfl | exact opv_loadE1 rfl (by assumption) rfl (by omega) rfl rfl | exact opv_loadEA rfl (by assumption) rfl (by omega) rfl rfl | exact opv_loadRX1 rfl rfl (by omega) rfl rfl | exact opv_loadRXA rfl rfl (by omega) rfl rfl rfl | exact opv_loadIX rfl rfl (by omega) | exact opv_loadR1 rfl rfl rfl | exact opv_loadRA rfl rfl rfl rfl) rfl ?_
 refine tri_guard_run rfl rfl rfl ?_
 refine tri_v (by first | exact opv_eql rfl rfl | exact opv_eqlI rfl rfl rfl rfl rfl rfl | exact opv_eqlB rfl rfl | exact opv_eqlNil rfl rfl) rfl ?_
 refine tri_v (by first | exact opv_pick_t rfl rfl | exact opv_pick_f rfl rfl | exact opv_pick_bool rfl rfl rfl | exact opv_pick rfl rfl rfl) rfl ?_
 refine tM rfl rfl ?_
 refine tri_true rfl rfl (e3) ?_
 refine tri_guard_run rfl rfl rfl (tM rfl rfl (tri_guard_run rfl rfl rfl ?_))
 refine tri_v (by first | exact opv_eql rfl rfl | exact opv_eqlI rfl rfl rfl rfl rfl rfl | exact opv_eqlB rfl rfl | exact opv_eqlNil rfl rfl) rfl ?_
 refine tri_v (by first | exact opv_pick_t rfl rfl | exact opv_pick_f rfl rfl | exact opv_pick_bool rfl rfl rfl | exact opv_pick rfl rfl rfl) rfl ?_
 refine tM rfl rfl ?_
 refine tri_true rfl rfl (e4) ?_
 refine tri_guard_run rfl rfl rfl (tM rfl rfl (tri_guard_run rfl rfl rfl ?_))
 refine tri_v (by first | exact opv_eql rfl rfl | exact opv_eqlI rfl rfl rfl rfl rfl rfl | exact opv_eqlB rfl rfl | exact opv_eqlNil rfl rfl) rfl ?_
 refine tri_v (by first | exact opv_pick_t rfl rfl | exact opv_pick_f rfl rfl | exact opv_pick_bool rfl rfl rfl | exact opv_pick rfl rfl rfl) rfl ?_
 refine tM rfl rfl ?_
 refine tri_true rfl rfl (f1) ?_
 refine tri_guard_run rfl rfl rfl ?_
 refine tri_v (by first | exact opv_load1 rfl rfl rfl | exact opv_loadA rfl rfl rfl | exact opv_loadE1 rfl (by assumption) rfl (by omega) rfl rfl | exact opv_loadEA rfl (by assumption) rfl (by omega) rfl rfl | exact opv_loadRX1 rfl rfl (by omega) rfl rfl | exact opv_loadRXA rfl rfl (by omega) rfl rfl rfl | exact opv_loadIX rfl rfl (by omega) | exact opv_loadR1 rfl rfl rfl | exact opv_loadRA rfl rfl rfl rfl) rfl ?_
 refine tri_guard_run rfl rfl rfl ?_
 refine tri_g (opg_call (xs := [_]) rfl (node_right s4 (by omega))) rfl ?_
 rintro _ _ _ ⟨rfl, rfl, rfl⟩
 refine tri_v (by first | exact opv_pick_t rfl rfl | exact opv_pick_f rfl rfl | exact opv_pick_bool rfl rfl rfl | exact opv_pick rfl rfl rfl) rfl ?_
 refine tM rfl rfl ?_
 refine tri_true rfl rfl (d5) ?_
 refine tri_guard_run rfl rfl rfl ?_
 refine tri_v (by first | exact opv_buildS rfl rfl | exact opv_buildA rfl rfl) rfl ?_
 refine tri_guard_run rfl rfl rfl ?_
 refine tri_g (opg_call (xs := [_]) rfl (node_right (ns := []) (room := 0) StA.nil (by decide))) rfl ?_
 rintro _ _ _ ⟨rfl, rfl, rfl⟩
 refine tri_guard_run rfl rfl rfl ?_
 refine tri_v (by first | exact opv_notD rfl | exact opv_not rfl) rfl ?_
 refine tri_v (by first | exact opv_pick_t rfl rfl | exact opv_pick_f rfl rfl | exact opv_pick_bool rfl rfl rfl | exact opv_pick rfl rfl rfl) rfl ?_
 refine tA rfl rfl (tN (tT (tri_ret ?_)))
 refine tri_end A Suf.h rfl (.cons (rv_tmp rfl) .nil) ⟨?_, rfl, fun _ h => hI8 (hI7 (hI6 (hI5 (hI4 (hI3 (hI2 (hI1 (hI0 h))))))))⟩
 exact congrArg Value.bool (decide_eq_true g1)
end Go.GL

set_option linter.unusedVariables false
namespace Go.GL
open Go.Proofs
attribute [local irreducible] wpList Code.wp Exit.then Exit.inBlock Ends Tri TriH OpV OpG FnC epf wpAnyH
variable {A : List Asrt} {I : List Chunk}
set_option maxRecDepth 100000 in
theorem ref03_ints {l m : List Int} {a b : Option Addr} {cap cap2 : Nat} (hs : SlAt I a l) (ht : SlAt I b m) (hn : l.length ≤ 1000000000) :
  FnC Try.prog 25 [.slice a l.length cap, .slice b m.length cap2].toArray A I (fun v A' I' => v = .bool (decide (l = m)) ∧ A = A' ∧ I = I') := by
 refine fn_enter2 Try.func25 rfl Try.ntmps25 rfl fun w0 => ?_
 refine tS (tR (tA rfl rfl (tN (tT (tS (tS (tR ?_)))))))
 refine tM rfl rfl ?_
 refine tri_v (opv_len rfl) rfl ?_
 refine tM rfl rfl ?_
 refine tri_v (opv_len rfl) rfl ?_
 refine tri_v (by first | exact opv_neq rfl rfl | exact opv_neqI rfl rfl rfl rfl rfl rfl | exact opv_neqB rfl rfl) rfl ?_
 refine tN (tT ?_)
 refine tri_cond_dec rfl (fun h1 => ?_) (fun h1 => ?_)
 ·refine tS (tR (tA rfl rfl (tN (tT (tri_ret (tri_then_ret ?_))))))
  refine tri_end A Suf.h rfl (.cons (rv_tmp rfl) .nil) ⟨congrArg Value.bool ?_, rfl, rfl⟩
  exact (decide_eq_false fun h => h1 (by rw [h])).symm
 refine tri_skip (tT (tS (tS (tR (tA rfl rfl (tN (tT ?_)))))))
 refine tri_block ?_
 have hlen : l.length = m.length := by omega
 refine tri_sub (F' := [(0, .slice a l.length cap), (1, .slice b m.length cap2), (5, .int .i64 (0 : Nat))]) ⟨rfl, rfl, rfl, trivial⟩ ?_
 refine loop_ind (G := Nat) (fun i => l.length - i) (fun i => i ≤ l.length ∧ ∀ j, j < i → l.getD j default = m.getD j default) (fun i => [(0, .slice a l.length cap), (1, .slice b m.length cap2), (5, .int .i64 (i : Nat))]) (fun _ => _) (fun _ => _) ?_ 0 ⟨by omega, fun j h => absurd h (by omega)⟩
 rintro i ⟨hi, hok⟩ K hK
 skip
 refine tS (tS (tR (tM rfl rfl (tM rfl rfl ?_))))
 refine tri_v (opv_len rfl) rfl ?_
 refine tri_v (opv_lss rfl rfl) rfl ?_
 refine tN (tT ?_)
 refine tri_cond_dec rfl (fun h => ?_) (fun h => ?_)
 ·refine tri_skip (tT (tS (tri_block (tS ?_))))
  refine tri_draw [0, 1, 2, 3, 4, 5, 6, 7, 8] rfl [] rfl mixed ?_
  refine th_take rfl rfl (by kernel_rfl)  (opv_move rfl) ?_
  refine th_take rfl rfl (by kernel_rfl)  (opv_move rfl) ?_
  refine th_take rfl rfl (by kernel_rfl)  (by first | exact opv_indexAddrA rfl rfl (by first | decide | omega) (by first | decide | omega) | exact opv_indexAddrSN rfl rfl (by omega) (by assumption) rfl | exact opv_indexAddrS rfl rfl (by omega) (by omega) (by assumption) rfl | exact opv_indexAddrE rfl (by assumption) (by omega) rfl (by first | decide | omega) (by first | decide | omega) | exact opv_indexAddrRN rfl rfl (by omega) | exact opv_indexAddrR rfl rfl (by omega) (by omega) | exact opv_indexAddrRA rfl (by omega) rfl (by first | decide | omega) (by first | decide | omega)) ?_
  refine th_take rfl rfl (by kernel_rfl)  (by first | exact opv_load1 rfl rfl rfl | exact opv_loadA rfl rfl rfl | exact opv_loadE1 rfl (by assumption) rfl (by omega) rfl rfl | exact opv_loadEA rfl (by assumption) rfl (by omega) rfl rfl | exact opv_loadRX1 rfl rfl (by omega) rfl rfl | exact opv_loadRXA rfl rfl (by omega) rfl rfl rfl | exact opv_loadIX rfl rfl (by omega) | exact opv_loadR1 rfl rfl rfl | exact opv_loadRA rfl rfl rfl rfl) ?_
  refine th_take rfl rfl (by kernel_rfl)  (opv_move rfl) ?_
  refine th_take rfl rfl (by kernel_rfl)  (opv_move rfl) ?_
  refine th_take rfl rfl (by kernel_rfl)  (by first | exact opv_indexAddrA rfl rfl (by first | decide | omega) (by first | decide | omega) | exact opv_indexAddrSN rfl rfl (by omega) (by assumption) rfl | exact opv_indexAddrS rfl rfl (by omega) (by omega) (by assumption) rfl | exact opv_indexAddrE rfl (by assumption) (by omega) rfl (by first | decide | omega) (by first | decide | omega) | exact opv_indexAddrRN rfl rfl (by omega) | exact opv_indexAddrR rfl rfl (by omega) (by omega) | exact opv_indexAddrRA rfl (by omega) rfl (by first | decide | omega) (by first | decide | omega)) ?_
  refine th_take rfl rfl (by kernel_rfl)  (by first | exact opv_load1 rfl rfl rfl | exact opv_loadA rfl rfl rfl | exact opv_loadE1 rfl (by assumption) rfl (by omega) rfl rfl | exact opv_loadEA rfl (by assumption) rfl (by omega) rfl rfl | exact opv_loadRX1 rfl rfl (by omega) rfl rfl | exact opv_loadRXA rfl rfl (by omega) rfl rfl rfl | exact opv_loadIX rfl rfl (by omega) | exact opv_loadR1 rfl rfl rfl | exact opv_loadRA rfl rfl rfl rfl) ?_
  refine th_take rfl rfl (by kernel_rfl)  (by first | exact opv_neq rfl rfl | exact opv_neqI rfl rfl rfl rfl rfl rfl | exact opv_neqB rfl rfl) ?_
  refine th_done (by kernel_rfl) ?_
  refine tT ?_
  refine tri_cond_dec rfl (fun h1 => ?_) (fun h1 => ?_)
  ·refine tS (tR (tA rfl rfl (tN (tT (tri_ret ?_)))))
   refine tri_inBlock_ret ?_
   refine tri_then_ret (tri_then_ret ?_)
   refine tri_inBlock_ret ?_
   refine tri_then_ret ?_
   refine tri_end A Suf.h rfl (.cons (rv_tmp rfl) .nil) ⟨congrArg Value.bool ?_, rfl, rfl⟩
   exact (decide_eq_false fun h => h1 (by rw [h])).symm
  ·refine tri_skip ?_
   refine tri_inBlock ?_
   refine tT (tR (tM rfl rfl ?_))
   refine tri_v (by first | exact opv_add rfl rfl (w64 (by omega) (by omega))) rfl ?_
   refine tA rfl rfl (tN (tT ?_))
   refine tri_sub ?_ (hK (i + 1) ⟨by omega, fun j hj => ?_⟩ (by omega))
   ·exact ⟨rfl, rfl, rfl, trivial⟩
   ·by_cases e : j = i
    ·subst e
     exact Decidable.not_not.1 h1
    ·exact hok j (by omega)
 ·refine tri_exit ?_
  refine tri_then_exit ?_
  refine tri_then_exit ?_
  refine tri_inBlock_hit rfl ?_
  refine tT (tS (tR (tA rfl rfl (tN (tT (tri_ret ?_))))))
  refine tri_end A Suf.h rfl (.cons (rv_tmp rfl) .nil) ⟨congrArg Value.bool ?_, rfl, rfl⟩
  refine (decide_eq_true (List.ext_getElem hlen fun j h1 h2 => ?_)).symm
  have := hok j (by omega)
  simpa [h1, h2] using this
end Go.GL

set_option linter.unusedVariables false
namespace Go.GL
/-- A store's head. -/
structure Sto where
 a : Option Addr
 len : Nat
 cap : Nat
 room : Int
 deriving Inhabited
instance : Enc Sto := ⟨fun s => [.slice s.a s.len s.cap, .int .i64 s.room], 2, fun _ => rfl, fun _ => rfl⟩
/-- A slice's head. -/
structure Sl where
 a : Option Addr
 len : Nat
 cap : Nat
 deriving Inhabited
instance : Enc Sl := ⟨fun s => [.slice s.a s.len s.cap], 1, fun _ => rfl, fun _ => rfl⟩
/-- Four numbers. -/
structure Four where
 r0 : Int
 r1 : Int
 r2 : Int
 r3 : Int
 deriving DecidableEq, Inhabited
instance : Enc Four := ⟨fun x => [.int .i64 x.r0, .int .i64 x.r1, .int .i64 x.r2, .int .i64 x.r3], 4, fun _ => rfl, fun _ => rfl⟩
instance : Dec Four := ⟨fun xs => ⟨xs.getD 0 0, xs.getD 1 0, xs.getD 2 0, xs.getD 3 0⟩, fun xs h => by
 match xs, h with
 | [a, b, c, d], _ => rfl⟩
theorem four_ok {x : Four} (h : DecOk x) : I64 x.r0 ∧ I64 x.r1 ∧ I64 x.r2 ∧ I64 x.r3 := by
 obtain ⟨zs, h1, h2, rfl⟩ := h
 match zs, h1 with
 | [a, b, c, d], _ => exact ⟨h2 a (by simp), h2 b (by simp), h2 c (by simp), h2 d (by simp)⟩
namespace R6
theorem put_len1 (ns : List Node) (room q0 q1 q2 q3 : Int) : (put ns room q0 q1 q2 q3).1.length ≤ ns.length + 1 := by
 unfold put
 split
 ·split
  ·simp
  ·split
   ·simp
   ·simp
 ·simp
theorem intern_len (ns : List Node) (room q0 q1 q2 q3 : Int) : (intern ns room q0 q1 q2 q3).1.length ≤ ns.length + 1 := by
 unfold intern
 split
 ·exact put_len1 ..
 ·simp
theorem emptyF_len (room : Int) : ∀ (k : Nat) (ns : List Node) (n : Int), (R7.emptyF room k ns n).1.length ≤ ns.length + k
 | 0, ns, n => by simp [R7.emptyF]
 | k + 1, ns, n => by
  unfold R7.emptyF
  split
  ·show ns.length ≤ _; omega
  ·have := emptyF_len room k (put ns room n n n n).1 (put ns room n n n n).2.1
   have := put_len1 ns room n n n n
   omega
theorem emptyT_len (ns : List Node) (room lv : Int) : (emptyT ns room lv).1.length ≤ ns.length + 42 := by
 unfold emptyT told R7.empty
 split
 ·simp
 ·rename_i h
  have := emptyF_len room lv.toNat ns 0
  split
  ·split
   ·simp
   ·omega
  ·simp
end R6
end Go.GL

set_option linter.unusedVariables false
namespace Go.GL
open Go.Proofs
attribute [local irreducible] wpList Code.wp Exit.then Exit.inBlock Ends Tri TriH OpV OpG FnC epf wpAnyH
variable {A : List Asrt} {I : List Chunk}
theorem R6.live_len (ns : List Node) (room : Int) (roots : List Int) : (R6.live ns room roots).1.length ≤ ns.length := by
 unfold R6.live
 split
 ·exact (R6.liveStep_len (ns := ns) (keep := R6.kept ns roots) ns.length).2
 ·simp
theorem R6.live_len2 (ns : List Node) (room : Int) (roots : List Int) : (R6.live ns room roots).2.1.length ≤ roots.length := by
 unfold R6.live
 split
 ·simp
 ·simp
theorem RL.store_gd (c : Int) (raw : List Five) : R6.Good (RL.store (RL.room c) raw) (RL.room c) := by
 have hrm := RL.room_bd c
 exact RL.foldl_good (by omega) (by omega) _ _ (RL.store0_good (by omega) (by omega))
set_option maxHeartbeats 4000000 in
set_option maxRecDepth 100000 in
theorem law06_tells {raw : List Five} {os : List Node} {roots : List Int} {a2 a3 a4 : Option Addr} {cap2 cap3 cap4 : Nat} {room rm level : Int} {ks : Four} {some_ : Five} (h0 : I64 room) (hs2 : SlAt I a2 raw) (hf : RL.Fs raw) (hs3 : StA I a3 cap3 os) (hr3 : R6.Rng os) (hk : DecOk ks) (hsm : DecOk some_) (hlv : I64 level) (hs4 : StA I a4 cap4 roots) (hr4 : ∀ i, i < roots.length → I64 (roots.getD i default)) :
  FnC Try.prog 3 [.int .i64 room, .slice a2 raw.length cap2, storeV a3 os.length cap3 rm, int4V ks.r0 ks.r1 ks.r2 ks.r3, int5V some_, .int .i64 level, .slice a4 roots.length cap4].toArray A I (fun v A' I' => v = .bool true ∧ A = A' ∧ I ⊆ I') := by
 obtain ⟨hk0, hk1, hk2, hk3⟩ := four_ok hk
 obtain ⟨hm0, hm1, hm2, hm3, hm4⟩ := five_ok hsm
 skip
 refine fn_enter7 Try.func3 rfl Try.ntmps3 rfl fun w0 => ?_
 refine tS (tR ?_)
 first | refine tri_g (opg_box_agg rfl) rfl ?_ | refine tri_g (opg_box1 rfl rfl) rfl ?_
 rintro _ _ _ ⟨b9, rfl, rfl, rfl⟩
 first | refine tri_g (opg_box_agg rfl) rfl ?_ | refine tri_g (opg_box1 rfl rfl) rfl ?_
 rintro _ _ _ ⟨b10, rfl, rfl, rfl⟩
 first | refine tri_g (opg_box_agg rfl) rfl ?_ | refine tri_g (opg_box1 rfl rfl) rfl ?_
 rintro _ _ _ ⟨b11, rfl, rfl, rfl⟩
 refine tA rfl rfl (tN (tT (tS (tR ?_))))
 refine tri_g (opg_call (xs := []) rfl (law06_awake)) rfl ?_
 rintro _ _ I0 ⟨rfl, rfl, hI0⟩
 refine tA rfl rfl (tN (tT (tS (tS (tR (tM rfl rfl ?_))))))
 refine tri_g (opg_call (xs := [_]) rfl (node_new)) rfl ?_
 rintro _ _ I1 ⟨x1, y1, rfl, hn1, rfl, hI1⟩
 refine tM rfl rfl ?_
 refine tri_g (opg_call (xs := [_]) rfl (ref06_new)) rfl ?_
 rintro _ _ I2 ⟨x2, y2, rfl, hn2, rfl, hI2⟩
 skip
 refine tri_g (opg_call (xs := [_, _]) rfl (ref06_same (hn1.mono hI2).sl hn2.sl (by unfold R6.new; split <;> simp))) rfl ?_
 rintro _ _ _ ⟨rfl, rfl, rfl⟩
 refine tri_v (by first | exact opv_notD rfl | exact opv_not rfl) rfl ?_
 refine tN (tT ?_)
 refine tri_cond_not rfl ((fun h => h ⟨rfl, rfl⟩)) ?_
 refine tri_skip (tT (tS (tS ?_)))
 refine tri_draw [0, 1, 3, 6, 2, 4, 5] rfl [] rfl mixed ?_
 refine th_take rfl rfl (by kernel_rfl)  (opv_move rfl) ?_
 refine th_take rfl rfl (by kernel_rfl)  (opv_move rfl) ?_
 refine th_take rfl rfl (by kernel_rfl)  (by first | exact opv_load1 rfl rfl rfl | exact opv_loadA rfl rfl rfl | exact opv_loadE1 rfl (by assumption) rfl (by omega) rfl rfl | exact opv_loadEA rfl (by assumption) rfl (by omega) rfl rfl | exact opv_loadRX1 rfl rfl (by omega) rfl rfl | exact opv_loadRXA rfl rfl (by omega) rfl rfl rfl | exact opv_loadIX rfl rfl (by omega) | exact opv_loadR1 rfl rfl rfl | exact opv_loadRA rfl rfl rfl rfl) ?_
 refine th_take rfl rfl (by kernel_rfl)  (opv_move rfl) ?_
 refine th_one (by kernel_rfl) (step_m rfl rfl (opg_call (xs := [_, _]) rfl (law06_store h0 (((hs2.mono hI0).mono hI1).mono hI2) hf)) ?_)
 rintro _ _ I3 ⟨x3, y3, rfl, hst, rfl, hI3⟩
 refine ⟨Suf.h, fun _ h => hI3 h, ?_⟩
 have hgd := RL.store_gd room raw
 generalize hsq : RL.store (RL.room room) raw = sq at *
 refine th_one (by kernel_rfl) (step_m rfl rfl (opg_buildSlice rfl rfl rfl rfl) ?_)
 rintro _ _ _ ⟨b55, rfl, rfl, rfl⟩
 refine ⟨Suf.h, (by first | exact fun _ h => h | assumption | exact fun _ h => (by assumption : _ ⊆ _) ((by assumption : _ ⊆ _) h)), ?_⟩
 refine th_take rfl rfl (by kernel_rfl)  (opv_len rfl) ?_
 refine th_done (by kernel_rfl) ?_
 refine tT (tri_block ?_)
 refine tri_freezeBoxS [(⟨x3, sq.length, y3, RL.room room⟩ : Sto), ⟨a3, os.length, cap3, rm⟩] rfl fun I4 hI4 hs5 => ?_
 have hI34 : I ⊆ I4 := fun _ h => hI4 (hI3 (hI2 (hI1 (hI0 h))))
 have hstt : ∀ i, i < 2 → ∃ ns : List Node, StA I4 (([(⟨x3, sq.length, y3, RL.room room⟩ : Sto), ⟨a3, os.length, cap3, rm⟩] : List Sto).getD i default).a (([(⟨x3, sq.length, y3, RL.room room⟩ : Sto), ⟨a3, os.length, cap3, rm⟩] : List Sto).getD i default).cap ns ∧ (([(⟨x3, sq.length, y3, RL.room room⟩ : Sto), ⟨a3, os.length, cap3, rm⟩] : List Sto).getD i default).len = ns.length ∧ R6.Rng ns := by
  intro i hi
  rcases (by omega : i = 0 ∨ i = 1) with rfl | rfl
  ·exact ⟨sq, hst.mono hI4, rfl, hgd.mod.rng⟩
  ·exact ⟨os, hs3.mono hI34, rfl, hr3⟩
 generalize hls : ([(⟨x3, sq.length, y3, RL.room room⟩ : Sto), ⟨a3, os.length, cap3, rm⟩] : List Sto) = ss at *
 have hls2 : ss.length = 2 := by rw [← hls]; rfl
 skip
 refine tri_sub (F' := [(5, .int .i64 level), (6, .slice a4 roots.length cap4), (15, .bool true), (10, pt b10 0), (11, pt b11 0), (55, .slice (some ⟨b55, 0, none⟩) ss.length 2), (56, .int .i64 (2 : Nat)), (57, .int .i64 (0 : Nat))]) ⟨rfl, rfl, rfl, rfl, rfl, by rw [hls2]; rfl, rfl, rfl, trivial⟩ ?_
 refine loop_ind (G := Nat × List Chunk) (fun g => 2 - g.1) (fun g => g.1 ≤ 2 ∧ I4 ⊆ g.2) (fun g => [(5, .int .i64 level), (6, .slice a4 roots.length cap4), (15, .bool true), (10, pt b10 0), (11, pt b11 0), (55, .slice (some ⟨b55, 0, none⟩) ss.length 2), (56, .int .i64 (2 : Nat)), (57, .int .i64 (g.1 : Nat))]) (fun _ => Box b11 [.int .i64 some_.r0, .int .i64 some_.r1, .int .i64 some_.r2, .int .i64 some_.r3, .int .i64 some_.r4] 27 :: Box b10 [.int .i64 ks.r0, .int .i64 ks.r1, .int .i64 ks.r2, .int .i64 ks.r3] 26 :: Box b9 [.slice a3 os.length cap3, .int .i64 rm] 25 :: A) (fun g => g.2) ?_ (0, I4) ⟨by omega, fun _ h => h⟩
 rintro ⟨i, J0⟩ ⟨hi, hJ0⟩ K hK
 simp only at hi hJ0 hK ⊢
 skip
 refine tS (tR ?_)
 refine tri_v (opv_lss rfl rfl) rfl ?_
 refine tN (tT (tS ?_))
 refine tri_cond_dec rfl (fun h => ?_) (fun h => ?_)
 ·have hi2 : i < 2 := by omega
  obtain ⟨ns, hns, hlen, hrr⟩ := hstt i hi2
  have hs5' := hs5.mono hJ0
  have hns' := hns.mono hJ0
  refine tri_skip (tT (tS (tri_block (tS (tR ?_)))))
  refine tri_v (by first | exact opv_indexAddrA rfl rfl (by first | decide | omega) (by first | decide | omega) | exact opv_indexAddrSN rfl rfl (by omega) (by assumption) rfl | exact opv_indexAddrS rfl rfl (by omega) (by omega) (by assumption) rfl | exact opv_indexAddrE rfl (by assumption) (by omega) rfl (by first | decide | omega) (by first | decide | omega) | exact opv_indexAddrRN rfl rfl (by omega) | exact opv_indexAddrR rfl rfl (by omega) (by omega) | exact opv_indexAddrRA rfl (by omega) rfl (by first | decide | omega) (by first | decide | omega)) rfl ?_
  refine tri_v (by first | exact opv_load1 rfl rfl rfl | exact opv_loadA rfl rfl rfl | exact opv_loadE1 rfl (by assumption) rfl (by omega) rfl rfl | exact opv_loadEA rfl (by assumption) rfl (by omega) rfl rfl | exact opv_loadRX1 rfl rfl (by omega) rfl rfl | exact opv_loadRXA rfl rfl (by omega) rfl rfl rfl | exact opv_loadIX rfl rfl (by omega) | exact opv_loadR1 rfl rfl rfl | exact opv_loadRA rfl rfl rfl rfl) rfl ?_
  refine tri_g opg_alloc rfl ?_
  rintro _ _ _ ⟨b17, rfl, rfl, rfl⟩
  refine tri_g (opg_store rfl rfl rfl rfl rfl rfl) rfl ?_
  rintro _ _ _ ⟨rfl, rfl⟩
  refine tN (tT (tS (tS ?_)))
  rw [hlen] at *
  refine tR ?_
  refine tri_v (by first | exact opv_fieldAddr rfl rfl | exact opv_fieldAddrE rfl (by assumption) (by omega) rfl | exact opv_fieldAddrR rfl (by omega) rfl) rfl ?_
  refine tri_v (by first | exact opv_load1 rfl rfl rfl | exact opv_loadA rfl rfl rfl | exact opv_loadE1 rfl (by assumption) rfl (by omega) rfl rfl | exact opv_loadEA rfl (by assumption) rfl (by omega) rfl rfl | exact opv_loadRX1 rfl rfl (by omega) rfl rfl | exact opv_loadRXA rfl rfl (by omega) rfl rfl rfl | exact opv_loadIX rfl rfl (by omega) | exact opv_loadR1 rfl rfl rfl | exact opv_loadRA rfl rfl rfl rfl) rfl ?_
  refine tri_v (opv_len rfl) rfl ?_
  refine tri_v (opv_gtr rfl rfl) rfl ?_
  refine tN (tT ?_)
  refine tri_cond_dec rfl (fun hbig => ?_) (fun hbig => ?_)
  ·refine tri_exit ?_
   refine tri_then_exit ?_
   refine tri_inBlock_hit rfl ?_
   refine tT (tR ?_)
   refine tri_v (by first | exact opv_add rfl rfl (w64 (by omega) (by omega))) rfl ?_
   refine tM rfl rfl (tN (tT ?_))
   refine tri_drop ?_
   refine tri_sub ?_ (hK (i + 1, J0) ⟨by simp only; omega, hJ0⟩ (by simp only; omega))
   exact ⟨rfl, rfl, rfl, rfl, rfl, rfl, rfl, rfl, trivial⟩
  ·have hle : ns.length ≤ 100 := by omega
   refine tri_skip (tT (tS (tS ?_)))
   refine tri_cut (fun F' A' J => F' = [(5, .int .i64 level), (6, .slice a4 roots.length cap4), (15, .bool true), (10, pt b10 0), (11, pt b11 0), (17, pt b17 0), (55, .slice (some ⟨b55, 0, none⟩) ss.length 2), (56, .int .i64 (2 : Nat)), (57, .int .i64 (i : Nat)), (69, .bool (decide (decide (R6.right ns (ss.getD i default).room) ≠ decide (R6.right ns (ss.getD i default).room))))] ∧ A' = Box b17 [.slice (ss.getD i default).a ns.length (ss.getD i default).cap, .int .i64 (ss.getD i default).room] 25 :: Box b11 [.int .i64 some_.r0, .int .i64 some_.r1, .int .i64 some_.r2, .int .i64 some_.r3, .int .i64 some_.r4] 27 :: Box b10 [.int .i64 ks.r0, .int .i64 ks.r1, .int .i64 ks.r2, .int .i64 ks.r3] 26 :: Box b9 [.slice a3 os.length cap3, .int .i64 rm] 25 :: A ∧ J0 = J) ?_ ?_
   ·refine tri_draw [0, 2, 1, 3, 4] rfl [] rfl mixed ?_
    refine th_take rfl rfl (by kernel_rfl)  (by first | exact opv_load1 rfl rfl rfl | exact opv_loadA rfl rfl rfl | exact opv_loadE1 rfl (by assumption) rfl (by omega) rfl rfl | exact opv_loadEA rfl (by assumption) rfl (by omega) rfl rfl | exact opv_loadRX1 rfl rfl (by omega) rfl rfl | exact opv_loadRXA rfl rfl (by omega) rfl rfl rfl | exact opv_loadIX rfl rfl (by omega) | exact opv_loadR1 rfl rfl rfl | exact opv_loadRA rfl rfl rfl rfl) ?_
    refine th_take rfl rfl (by kernel_rfl)  (by first | exact opv_load1 rfl rfl rfl | exact opv_loadA rfl rfl rfl | exact opv_loadE1 rfl (by assumption) rfl (by omega) rfl rfl | exact opv_loadEA rfl (by assumption) rfl (by omega) rfl rfl | exact opv_loadRX1 rfl rfl (by omega) rfl rfl | exact opv_loadRXA rfl rfl (by omega) rfl rfl rfl | exact opv_loadIX rfl rfl (by omega) | exact opv_loadR1 rfl rfl rfl | exact opv_loadRA rfl rfl rfl rfl) ?_
    refine th_one (by kernel_rfl) (step_m rfl rfl (opg_call (xs := [_]) rfl (node_right hns' (by omega))) ?_)
    rintro _ _ _ ⟨rfl, rfl, rfl⟩
    refine ⟨Suf.h, fun _ h => h, ?_⟩
    refine th_one (by kernel_rfl) (step_m rfl rfl (opg_call (xs := [_]) rfl (ref06_right hns'.sl (by omega) hrr)) ?_)
    rintro _ _ _ ⟨rfl, rfl, rfl⟩
    refine ⟨Suf.h, fun _ h => h, ?_⟩
    refine th_take rfl rfl (by kernel_rfl)  (by first | exact opv_neq rfl rfl | exact opv_neqI rfl rfl rfl rfl rfl rfl | exact opv_neqB rfl rfl) ?_
    refine th_done (by kernel_rfl) ?_
    exact tri_cutEnd _ ⟨rfl, rfl, rfl⟩ ⟨rfl, rfl, rfl, rfl, rfl, rfl, rfl, rfl, rfl, rfl, trivial⟩
   rintro _ _ _ ⟨rfl, rfl, rfl⟩
   skip
   refine tT ?_
   refine tri_cond_not rfl ((fun h => h rfl)) ?_
   refine tri_skip (tT (tS (tS ?_)))
   refine tri_draw [0, 1, 2, 6, 3, 4, 5] rfl [] rfl mixed ?_
   refine th_take rfl rfl (by kernel_rfl)  (by first | exact opv_load1 rfl rfl rfl | exact opv_loadA rfl rfl rfl | exact opv_loadE1 rfl (by assumption) rfl (by omega) rfl rfl | exact opv_loadEA rfl (by assumption) rfl (by omega) rfl rfl | exact opv_loadRX1 rfl rfl (by omega) rfl rfl | exact opv_loadRXA rfl rfl (by omega) rfl rfl rfl | exact opv_loadIX rfl rfl (by omega) | exact opv_loadR1 rfl rfl rfl | exact opv_loadRA rfl rfl rfl rfl) ?_
   refine th_take rfl rfl (by kernel_rfl)  (by first | exact opv_load1 rfl rfl rfl | exact opv_loadA rfl rfl rfl | exact opv_loadE1 rfl (by assumption) rfl (by omega) rfl rfl | exact opv_loadEA rfl (by assumption) rfl (by omega) rfl rfl | exact opv_loadRX1 rfl rfl (by omega) rfl rfl | exact opv_loadRXA rfl rfl (by omega) rfl rfl rfl | exact opv_loadIX rfl rfl (by omega) | exact opv_loadR1 rfl rfl rfl | exact opv_loadRA rfl rfl rfl rfl) ?_
   refine th_take rfl rfl (by kernel_rfl)  (by first | exact opv_load1 rfl rfl rfl | exact opv_loadA rfl rfl rfl | exact opv_loadE1 rfl (by assumption) rfl (by omega) rfl rfl | exact opv_loadEA rfl (by assumption) rfl (by omega) rfl rfl | exact opv_loadRX1 rfl rfl (by omega) rfl rfl | exact opv_loadRXA rfl rfl (by omega) rfl rfl rfl | exact opv_loadIX rfl rfl (by omega) | exact opv_loadR1 rfl rfl rfl | exact opv_loadRA rfl rfl rfl rfl) ?_
   refine th_take rfl rfl (by kernel_rfl)  (opv_move rfl) ?_
   refine th_one (by kernel_rfl) (step_m rfl rfl (opg_call (xs := [_, _]) rfl (law06_kids (room := (ss.getD i default).room) hns'.sl (by omega) hm0 hm1 hm2 hm3 hm4)) ?_)
   rintro _ _ _ ⟨rfl, rfl, rfl⟩
   refine ⟨Suf.h, fun _ h => h, ?_⟩
   refine th_one (by kernel_rfl) (step_m rfl rfl (opg_buildSlice rfl rfl rfl rfl) ?_)
   rintro _ _ _ ⟨b74, rfl, rfl, rfl⟩
   refine ⟨Suf.h, (by first | exact fun _ h => h | assumption | exact fun _ h => (by assumption : _ ⊆ _) ((by assumption : _ ⊆ _) h)), ?_⟩
   refine th_take rfl rfl (by kernel_rfl)  (opv_len rfl) ?_
   refine th_done (by kernel_rfl) ?_
   refine tT (tri_block ?_)
   refine tri_freezeBoxS [ks, (⟨(RL.kids ns some_).1, (RL.kids ns some_).2.1, (RL.kids ns some_).2.2.1, (RL.kids ns some_).2.2.2⟩ : Four)] rfl fun I5 hI5 hs6 => ?_
   generalize hfs : [ks, (⟨(RL.kids ns some_).1, (RL.kids ns some_).2.1, (RL.kids ns some_).2.2.1, (RL.kids ns some_).2.2.2⟩ : Four)] = fs at *
   have hfs2 : fs.length = 2 := by rw [← hfs]; rfl
   skip
   refine tri_sub (F' := [(5, .int .i64 level), (6, .slice a4 roots.length cap4), (15, .bool true), (10, pt b10 0), (11, pt b11 0), (17, pt b17 0), (55, .slice (some ⟨b55, 0, none⟩) ss.length 2), (56, .int .i64 (2 : Nat)), (57, .int .i64 (i : Nat)), (74, .slice (some ⟨b74, 0, none⟩) fs.length 2), (75, .int .i64 (2 : Nat)), (76, .int .i64 (0 : Nat))]) ⟨rfl, rfl, rfl, rfl, rfl, rfl, rfl, rfl, rfl, by rw [hfs2]; rfl, rfl, rfl, trivial⟩ ?_
   refine loop_ind (G := Nat × List Chunk) (fun g => 2 - g.1) (fun g => g.1 ≤ 2 ∧ I5 ⊆ g.2) (fun g => [(5, .int .i64 level), (6, .slice a4 roots.length cap4), (15, .bool true), (10, pt b10 0), (11, pt b11 0), (17, pt b17 0), (55, .slice (some ⟨b55, 0, none⟩) ss.length 2), (56, .int .i64 (2 : Nat)), (57, .int .i64 (i : Nat)), (74, .slice (some ⟨b74, 0, none⟩) fs.length 2), (75, .int .i64 (2 : Nat)), (76, .int .i64 (g.1 : Nat))]) (fun _ => Box b17 [.slice (ss.getD i default).a ns.length (ss.getD i default).cap, .int .i64 (ss.getD i default).room] 25 :: Box b11 [.int .i64 some_.r0, .int .i64 some_.r1, .int .i64 some_.r2, .int .i64 some_.r3, .int .i64 some_.r4] 27 :: Box b10 [.int .i64 ks.r0, .int .i64 ks.r1, .int .i64 ks.r2, .int .i64 ks.r3] 26 :: Box b9 [.slice a3 os.length cap3, .int .i64 rm] 25 :: A) (fun g => g.2) ?_ (0, I5) ⟨by omega, fun _ h => h⟩
   rintro ⟨q, J1⟩ ⟨hq, hJ1⟩ K2 hK2
   simp only at hq hJ1 hK2 ⊢
   have hns1 := (hns'.mono hI5).mono hJ1
   have hs6' := hs6.mono hJ1
   skip
   refine tS (tR ?_)
   refine tri_v (opv_lss rfl rfl) rfl ?_
   refine tN (tT (tS ?_))
   refine tri_cond_dec rfl (fun h3 => ?_) (fun h3 => ?_)
   ·refine tri_skip (tT (tS (tri_block (tS (tR ?_)))))
    refine tri_v (by first | exact opv_indexAddrA rfl rfl (by first | decide | omega) (by first | decide | omega) | exact opv_indexAddrSN rfl rfl (by omega) (by assumption) rfl | exact opv_indexAddrS rfl rfl (by omega) (by omega) (by assumption) rfl | exact opv_indexAddrE rfl (by assumption) (by omega) rfl (by first | decide | omega) (by first | decide | omega) | exact opv_indexAddrRN rfl rfl (by omega) | exact opv_indexAddrR rfl rfl (by omega) (by omega) | exact opv_indexAddrRA rfl (by omega) rfl (by first | decide | omega) (by first | decide | omega)) rfl ?_
    refine tri_v (by first | exact opv_load1 rfl rfl rfl | exact opv_loadA rfl rfl rfl | exact opv_loadE1 rfl (by assumption) rfl (by omega) rfl rfl | exact opv_loadEA rfl (by assumption) rfl (by omega) rfl rfl | exact opv_loadRX1 rfl rfl (by omega) rfl rfl | exact opv_loadRXA rfl rfl (by omega) rfl rfl rfl | exact opv_loadIX rfl rfl (by omega) | exact opv_loadR1 rfl rfl rfl | exact opv_loadRA rfl rfl rfl rfl) rfl ?_
    refine tri_g opg_alloc rfl ?_
    rintro _ _ _ ⟨b19, rfl, rfl, rfl⟩
    refine tri_g (opg_store rfl rfl rfl rfl rfl rfl) rfl ?_
    rintro _ _ _ ⟨rfl, rfl⟩
    refine tN (tT (tS ?_))
    generalize fs.getD q default = k at *
    have hlk := R6.intern_len ns (ss.getD i default).room k.r0 k.r1 k.r2 k.r3
    refine tR ?_
    refine tri_v (by first | exact opv_load1 rfl rfl rfl | exact opv_loadA rfl rfl rfl | exact opv_loadE1 rfl (by assumption) rfl (by omega) rfl rfl | exact opv_loadEA rfl (by assumption) rfl (by omega) rfl rfl | exact opv_loadRX1 rfl rfl (by omega) rfl rfl | exact opv_loadRXA rfl rfl (by omega) rfl rfl rfl | exact opv_loadIX rfl rfl (by omega) | exact opv_loadR1 rfl rfl rfl | exact opv_loadRA rfl rfl rfl rfl) rfl ?_
    refine tri_v (by first | exact opv_load1 rfl rfl rfl | exact opv_loadA rfl rfl rfl | exact opv_loadE1 rfl (by assumption) rfl (by omega) rfl rfl | exact opv_loadEA rfl (by assumption) rfl (by omega) rfl rfl | exact opv_loadRX1 rfl rfl (by omega) rfl rfl | exact opv_loadRXA rfl rfl (by omega) rfl rfl rfl | exact opv_loadIX rfl rfl (by omega) | exact opv_loadR1 rfl rfl rfl | exact opv_loadRA rfl rfl rfl rfl) rfl ?_
    refine tri_g (opg_call (xs := [_, _]) rfl (node_intern (room := (ss.getD i default).room) (q0 := k.r0) (q1 := k.r1) (q2 := k.r2) (q3 := k.r3) hns1 (by omega))) rfl ?_
    rintro _ _ J2 ⟨u0, v0, rfl, g0, rfl, hJ2⟩
    refine tM rfl rfl ?_
    refine tri_v (opv_extract rfl rfl) rfl ?_
    refine tri_v (opv_extract rfl rfl) rfl ?_
    refine tri_v (opv_extract rfl rfl) rfl ?_
    refine tri_g opg_alloc rfl ?_
    rintro _ _ _ ⟨b20, rfl, rfl, rfl⟩
    refine tri_g (opg_store rfl rfl rfl rfl rfl rfl) rfl ?_
    rintro _ _ _ ⟨rfl, rfl⟩
    refine tA rfl rfl (tA rfl rfl (tN (tT (tS (tR ?_)))))
    refine tri_v (by first | exact opv_load1 rfl rfl rfl | exact opv_loadA rfl rfl rfl | exact opv_loadE1 rfl (by assumption) rfl (by omega) rfl rfl | exact opv_loadEA rfl (by assumption) rfl (by omega) rfl rfl | exact opv_loadRX1 rfl rfl (by omega) rfl rfl | exact opv_loadRXA rfl rfl (by omega) rfl rfl rfl | exact opv_loadIX rfl rfl (by omega) | exact opv_loadR1 rfl rfl rfl | exact opv_loadRA rfl rfl rfl rfl) rfl ?_
    refine tri_v (by first | exact opv_load1 rfl rfl rfl | exact opv_loadA rfl rfl rfl | exact opv_loadE1 rfl (by assumption) rfl (by omega) rfl rfl | exact opv_loadEA rfl (by assumption) rfl (by omega) rfl rfl | exact opv_loadRX1 rfl rfl (by omega) rfl rfl | exact opv_loadRXA rfl rfl (by omega) rfl rfl rfl | exact opv_loadIX rfl rfl (by omega) | exact opv_loadR1 rfl rfl rfl | exact opv_loadRA rfl rfl rfl rfl) rfl ?_
    refine tri_g (opg_call (xs := [_, _]) rfl (ref06_intern (room := (ss.getD i default).room) (q0 := k.r0) (q1 := k.r1) (q2 := k.r2) (q3 := k.r3) (hns1.mono hJ2) (by omega) hrr)) rfl ?_
    rintro _ _ J3 ⟨u1, v1, rfl, g1, rfl, hJ3⟩
    refine tM rfl rfl ?_
    refine tri_v (opv_extract rfl rfl) rfl ?_
    refine tri_v (opv_extract rfl rfl) rfl ?_
    refine tri_v (opv_extract rfl rfl) rfl ?_
    refine tri_g opg_alloc rfl ?_
    rintro _ _ _ ⟨b23, rfl, rfl, rfl⟩
    refine tri_g (opg_store rfl rfl rfl rfl rfl rfl) rfl ?_
    rintro _ _ _ ⟨rfl, rfl⟩
    refine tA rfl rfl (tA rfl rfl (tN (tT (tS (tR ?_)))))
    refine tri_v (by first | exact opv_load1 rfl rfl rfl | exact opv_loadA rfl rfl rfl | exact opv_loadE1 rfl (by assumption) rfl (by omega) rfl rfl | exact opv_loadEA rfl (by assumption) rfl (by omega) rfl rfl | exact opv_loadRX1 rfl rfl (by omega) rfl rfl | exact opv_loadRXA rfl rfl (by omega) rfl rfl rfl | exact opv_loadIX rfl rfl (by omega) | exact opv_loadR1 rfl rfl rfl | exact opv_loadRA rfl rfl rfl rfl) rfl ?_
    refine tri_v (by first | exact opv_load1 rfl rfl rfl | exact opv_loadA rfl rfl rfl | exact opv_loadE1 rfl (by assumption) rfl (by omega) rfl rfl | exact opv_loadEA rfl (by assumption) rfl (by omega) rfl rfl | exact opv_loadRX1 rfl rfl (by omega) rfl rfl | exact opv_loadRXA rfl rfl (by omega) rfl rfl rfl | exact opv_loadIX rfl rfl (by omega) | exact opv_loadR1 rfl rfl rfl | exact opv_loadRA rfl rfl rfl rfl) rfl ?_
    refine tri_g (opg_call (xs := [_, _]) rfl (ref06_same (g0.mono hJ3).sl g1.sl (by omega))) rfl ?_
    rintro _ _ _ ⟨rfl, rfl, rfl⟩
    refine tri_v (by first | exact opv_notD rfl | exact opv_not rfl) rfl ?_
    refine tM rfl rfl ?_
    refine tri_false rfl rfl ((fun h => h ⟨rfl, rfl⟩)) ?_
    refine tri_guard_run rfl rfl rfl (tM rfl rfl (tri_guard_run rfl rfl rfl (tM rfl rfl (tri_guard_run rfl rfl rfl ?_))))
    refine tri_v (by first | exact opv_neq rfl rfl | exact opv_neqI rfl rfl rfl rfl rfl rfl | exact opv_neqB rfl rfl) rfl ?_
    refine tri_v (by first | exact opv_pick_t rfl rfl | exact opv_pick_f rfl rfl | exact opv_pick_bool rfl rfl rfl | exact opv_pick rfl rfl rfl) rfl ?_
    refine tM rfl rfl ?_
    refine tri_false rfl rfl ((fun h => h rfl)) ?_
    refine tri_guard_run rfl rfl rfl (tM rfl rfl (tri_guard_run rfl rfl rfl (tM rfl rfl (tri_guard_run rfl rfl rfl ?_))))
    refine tri_v (by first | exact opv_neq rfl rfl | exact opv_neqI rfl rfl rfl rfl rfl rfl | exact opv_neqB rfl rfl) rfl ?_
    refine tri_v (by first | exact opv_pick_t rfl rfl | exact opv_pick_f rfl rfl | exact opv_pick_bool rfl rfl rfl | exact opv_pick rfl rfl rfl) rfl ?_
    refine tN (tT ?_)
    refine tri_cond_not rfl ((fun h => h rfl)) ?_
    refine tri_skip ?_
    refine tri_inBlock ?_
    refine tT (tR ?_)
    refine tri_v (by first | exact opv_add rfl rfl (w64 (by omega) (by omega))) rfl ?_
    refine tM rfl rfl (tN (tT ?_))
    refine tri_drop (tri_drop (tri_drop ?_))
    refine tri_sub ?_ (hK2 (q + 1, J3) ⟨by simp only; omega, fun _ h => hJ3 (hJ2 (hJ1 h))⟩ (by simp only; omega))
    exact ⟨rfl, rfl, rfl, rfl, rfl, rfl, rfl, rfl, rfl, rfl, rfl, rfl, trivial⟩
   ·refine tri_exit ?_
    refine tri_then_exit ?_
    refine tri_then_exit ?_
    refine tri_inBlock_hit rfl ?_
    refine tT (tS (tS (tR (tM rfl rfl (tM rfl rfl ?_)))))
    refine tri_g (opg_call (xs := [_, _]) rfl (law06_pick hlv.1 hlv.2 (by decide))) rfl ?_
    rintro _ _ _ ⟨rfl, rfl, rfl⟩
    refine tri_g (opg_buildSlice rfl rfl rfl rfl) rfl ?_
    rintro _ _ _ ⟨b112, rfl, rfl, rfl⟩
    refine tri_v (opv_len rfl) rfl ?_
    refine tM rfl rfl (tN (tT (tri_block ?_)))
    refine tri_freezeBoxS [level, pk level 43] rfl fun I6 hI6 hs7 => ?_
    generalize hes : ([level, pk level 43] : List Int) = es at *
    have hes2 : es.length = 2 := by rw [← hes]; rfl
    skip
    refine tri_sub (F' := [(5, .int .i64 level), (6, .slice a4 roots.length cap4), (15, .bool true), (10, pt b10 0), (11, pt b11 0), (17, pt b17 0), (55, .slice (some ⟨b55, 0, none⟩) ss.length 2), (56, .int .i64 (2 : Nat)), (57, .int .i64 (i : Nat)), (112, .slice (some ⟨b112, 0, none⟩) es.length 2), (113, .int .i64 (2 : Nat)), (114, .int .i64 (0 : Nat))]) ⟨rfl, rfl, rfl, rfl, rfl, rfl, rfl, rfl, rfl, by rw [hes2]; rfl, rfl, rfl, trivial⟩ ?_
    refine loop_ind (G := Nat × List Chunk) (fun g => 2 - g.1) (fun g => g.1 ≤ 2 ∧ I6 ⊆ g.2) (fun g => [(5, .int .i64 level), (6, .slice a4 roots.length cap4), (15, .bool true), (10, pt b10 0), (11, pt b11 0), (17, pt b17 0), (55, .slice (some ⟨b55, 0, none⟩) ss.length 2), (56, .int .i64 (2 : Nat)), (57, .int .i64 (i : Nat)), (112, .slice (some ⟨b112, 0, none⟩) es.length 2), (113, .int .i64 (2 : Nat)), (114, .int .i64 (g.1 : Nat))]) (fun _ => Box b17 [.slice (ss.getD i default).a ns.length (ss.getD i default).cap, .int .i64 (ss.getD i default).room] 25 :: Box b11 [.int .i64 some_.r0, .int .i64 some_.r1, .int .i64 some_.r2, .int .i64 some_.r3, .int .i64 some_.r4] 27 :: Box b10 [.int .i64 ks.r0, .int .i64 ks.r1, .int .i64 ks.r2, .int .i64 ks.r3] 26 :: Box b9 [.slice a3 os.length cap3, .int .i64 rm] 25 :: A) (fun g => g.2) ?_ (0, I6) ⟨by omega, fun _ h => h⟩
    rintro ⟨q2, J2⟩ ⟨hq2, hJ2⟩ K3 hK3
    simp only at hq2 hJ2 hK3 ⊢
    have hns2 := (hns1.mono hI6).mono hJ2
    have hs7' := hs7.mono hJ2
    skip
    refine tS (tR ?_)
    refine tri_v (opv_lss rfl rfl) rfl ?_
    refine tN (tT (tS ?_))
    refine tri_cond_dec rfl (fun h4 => ?_) (fun h4 => ?_)
    ·refine tri_skip (tT (tS (tri_block (tS (tR ?_)))))
     refine tri_v (by first | exact opv_indexAddrA rfl rfl (by first | decide | omega) (by first | decide | omega) | exact opv_indexAddrSN rfl rfl (by omega) (by assumption) rfl | exact opv_indexAddrS rfl rfl (by omega) (by omega) (by assumption) rfl | exact opv_indexAddrE rfl (by assumption) (by omega) rfl (by first | decide | omega) (by first | decide | omega) | exact opv_indexAddrRN rfl rfl (by omega) | exact opv_indexAddrR rfl rfl (by omega) (by omega) | exact opv_indexAddrRA rfl (by omega) rfl (by first | decide | omega) (by first | decide | omega)) rfl ?_
     refine tri_v (by first | exact opv_load1 rfl rfl rfl | exact opv_loadA rfl rfl rfl | exact opv_loadE1 rfl (by assumption) rfl (by omega) rfl rfl | exact opv_loadEA rfl (by assumption) rfl (by omega) rfl rfl | exact opv_loadRX1 rfl rfl (by omega) rfl rfl | exact opv_loadRXA rfl rfl (by omega) rfl rfl rfl | exact opv_loadIX rfl rfl (by omega) | exact opv_loadR1 rfl rfl rfl | exact opv_loadRA rfl rfl rfl rfl) rfl ?_
     refine tA rfl rfl (tN (tT (tS ?_)))
     generalize es.getD q2 default = e at *
     have hle2 := R6.emptyT_len ns (ss.getD i default).room e
     refine tR ?_
     refine tri_v (by first | exact opv_load1 rfl rfl rfl | exact opv_loadA rfl rfl rfl | exact opv_loadE1 rfl (by assumption) rfl (by omega) rfl rfl | exact opv_loadEA rfl (by assumption) rfl (by omega) rfl rfl | exact opv_loadRX1 rfl rfl (by omega) rfl rfl | exact opv_loadRXA rfl rfl (by omega) rfl rfl rfl | exact opv_loadIX rfl rfl (by omega) | exact opv_loadR1 rfl rfl rfl | exact opv_loadRA rfl rfl rfl rfl) rfl ?_
     refine tM rfl rfl ?_
     refine tri_g (opg_call (xs := [_, _]) rfl (node_empty (room := (ss.getD i default).room) (lv := e) hns2 (by omega))) rfl ?_
     rintro _ _ J3 ⟨u0, v0, rfl, g0, rfl, hJ3⟩
     refine tM rfl rfl ?_
     refine tri_v (opv_extract rfl rfl) rfl ?_
     refine tri_v (opv_extract rfl rfl) rfl ?_
     refine tri_v (opv_extract rfl rfl) rfl ?_
     refine tri_g opg_alloc rfl ?_
     rintro _ _ _ ⟨b28, rfl, rfl, rfl⟩
     refine tri_g (opg_store rfl rfl rfl rfl rfl rfl) rfl ?_
     rintro _ _ _ ⟨rfl, rfl⟩
     refine tA rfl rfl (tA rfl rfl (tN (tT (tS (tR ?_)))))
     refine tri_v (by first | exact opv_load1 rfl rfl rfl | exact opv_loadA rfl rfl rfl | exact opv_loadE1 rfl (by assumption) rfl (by omega) rfl rfl | exact opv_loadEA rfl (by assumption) rfl (by omega) rfl rfl | exact opv_loadRX1 rfl rfl (by omega) rfl rfl | exact opv_loadRXA rfl rfl (by omega) rfl rfl rfl | exact opv_loadIX rfl rfl (by omega) | exact opv_loadR1 rfl rfl rfl | exact opv_loadRA rfl rfl rfl rfl) rfl ?_
     refine tM rfl rfl ?_
     refine tri_g (opg_call (xs := [_, _]) rfl (ref06_empty (room := (ss.getD i default).room) (lv := e) (hns2.mono hJ3) (by omega) hrr)) rfl ?_
     rintro _ _ J4 ⟨u1, v1, rfl, g1, rfl, hJ4⟩
     refine tM rfl rfl ?_
     refine tri_v (opv_extract rfl rfl) rfl ?_
     refine tri_v (opv_extract rfl rfl) rfl ?_
     refine tri_v (opv_extract rfl rfl) rfl ?_
     refine tri_g opg_alloc rfl ?_
     rintro _ _ _ ⟨b31, rfl, rfl, rfl⟩
     refine tri_g (opg_store rfl rfl rfl rfl rfl rfl) rfl ?_
     rintro _ _ _ ⟨rfl, rfl⟩
     refine tA rfl rfl (tA rfl rfl (tN (tT (tS (tR ?_)))))
     refine tri_v (by first | exact opv_load1 rfl rfl rfl | exact opv_loadA rfl rfl rfl | exact opv_loadE1 rfl (by assumption) rfl (by omega) rfl rfl | exact opv_loadEA rfl (by assumption) rfl (by omega) rfl rfl | exact opv_loadRX1 rfl rfl (by omega) rfl rfl | exact opv_loadRXA rfl rfl (by omega) rfl rfl rfl | exact opv_loadIX rfl rfl (by omega) | exact opv_loadR1 rfl rfl rfl | exact opv_loadRA rfl rfl rfl rfl) rfl ?_
     refine tri_v (by first | exact opv_load1 rfl rfl rfl | exact opv_loadA rfl rfl rfl | exact opv_loadE1 rfl (by assumption) rfl (by omega) rfl rfl | exact opv_loadEA rfl (by assumption) rfl (by omega) rfl rfl | exact opv_loadRX1 rfl rfl (by omega) rfl rfl | exact opv_loadRXA rfl rfl (by omega) rfl rfl rfl | exact opv_loadIX rfl rfl (by omega) | exact opv_loadR1 rfl rfl rfl | exact opv_loadRA rfl rfl rfl rfl) rfl ?_
     refine tri_g (opg_call (xs := [_, _]) rfl (ref06_same (g0.mono hJ4).sl g1.sl (by omega))) rfl ?_
     rintro _ _ _ ⟨rfl, rfl, rfl⟩
     refine tri_v (by first | exact opv_notD rfl | exact opv_not rfl) rfl ?_
     refine tM rfl rfl ?_
     refine tri_false rfl rfl ((fun h => h ⟨rfl, rfl⟩)) ?_
     refine tri_guard_run rfl rfl rfl (tM rfl rfl (tri_guard_run rfl rfl rfl (tM rfl rfl (tri_guard_run rfl rfl rfl ?_))))
     refine tri_v (by first | exact opv_neq rfl rfl | exact opv_neqI rfl rfl rfl rfl rfl rfl | exact opv_neqB rfl rfl) rfl ?_
     refine tri_v (by first | exact opv_pick_t rfl rfl | exact opv_pick_f rfl rfl | exact opv_pick_bool rfl rfl rfl | exact opv_pick rfl rfl rfl) rfl ?_
     refine tM rfl rfl ?_
     refine tri_false rfl rfl ((fun h => h rfl)) ?_
     refine tri_guard_run rfl rfl rfl (tM rfl rfl (tri_guard_run rfl rfl rfl (tM rfl rfl (tri_guard_run rfl rfl rfl ?_))))
     refine tri_v (by first | exact opv_neq rfl rfl | exact opv_neqI rfl rfl rfl rfl rfl rfl | exact opv_neqB rfl rfl) rfl ?_
     refine tri_v (by first | exact opv_pick_t rfl rfl | exact opv_pick_f rfl rfl | exact opv_pick_bool rfl rfl rfl | exact opv_pick rfl rfl rfl) rfl ?_
     refine tN (tT ?_)
     refine tri_cond_not rfl ((fun h => h rfl)) ?_
     refine tri_skip ?_
     refine tri_inBlock ?_
     refine tT (tR ?_)
     refine tri_v (by first | exact opv_add rfl rfl (w64 (by omega) (by omega))) rfl ?_
     refine tM rfl rfl (tN (tT ?_))
     refine tri_drop (tri_drop ?_)
     refine tri_sub ?_ (hK3 (q2 + 1, J4) ⟨by simp only; omega, fun _ h => hJ4 (hJ3 (hJ2 h))⟩ (by simp only; omega))
     exact ⟨rfl, rfl, rfl, rfl, rfl, rfl, rfl, rfl, rfl, rfl, rfl, rfl, trivial⟩
    ·refine tri_exit ?_
     refine tri_then_exit ?_
     refine tri_then_exit ?_
     refine tri_inBlock_hit rfl ?_
     refine tT (tS (tR (tA rfl rfl (tN (tT (tS (tS ?_)))))))
     refine tR (tA rfl rfl (tN (tT ?_)))
     refine tri_cut (fun F' A' J => ∃ (aI : Option Addr) (cI : Nat) (ins : List Int), F' = [(5, .int .i64 level), (6, .slice a4 roots.length cap4), (15, .bool true), (10, pt b10 0), (11, pt b11 0), (17, pt b17 0), (55, .slice (some ⟨b55, 0, none⟩) ss.length 2), (56, .int .i64 (2 : Nat)), (57, .int .i64 (i : Nat)), (34, .slice aI ins.length cI)] ∧ A' = Box b17 [.slice (ss.getD i default).a ns.length (ss.getD i default).cap, .int .i64 (ss.getD i default).room] 25 :: Box b11 [.int .i64 some_.r0, .int .i64 some_.r1, .int .i64 some_.r2, .int .i64 some_.r3, .int .i64 some_.r4] 27 :: Box b10 [.int .i64 ks.r0, .int .i64 ks.r1, .int .i64 ks.r2, .int .i64 ks.r3] 26 :: Box b9 [.slice a3 os.length cap3, .int .i64 rm] 25 :: A ∧ SlAt J aI ins ∧ ins.length ≤ 5 ∧ J2 ⊆ J) ?_ ?_
     ·refine tri_block ?_
      refine tri_nilRow (E := 3) (sz := 1) ?_
      refine tri_sub (F' := [(5, .int .i64 level), (6, .slice a4 roots.length cap4), (15, .bool true), (10, pt b10 0), (11, pt b11 0), (17, pt b17 0), (55, .slice (some ⟨b55, 0, none⟩) ss.length 2), (56, .int .i64 (2 : Nat)), (57, .int .i64 (i : Nat)), (34, .slice none 0 0), (35, .int .i64 (0 : Nat))]) ⟨rfl, rfl, rfl, rfl, rfl, rfl, rfl, rfl, rfl, rfl, rfl, trivial⟩ ?_
      refine loop_ind (G := Nat × Option Addr × Nat × List Int) (fun g => 5 - g.1) (fun g => g.1 ≤ 5 ∧ g.2.2.2.length = g.1) (fun g => [(5, .int .i64 level), (6, .slice a4 roots.length cap4), (15, .bool true), (10, pt b10 0), (11, pt b11 0), (17, pt b17 0), (55, .slice (some ⟨b55, 0, none⟩) ss.length 2), (56, .int .i64 (2 : Nat)), (57, .int .i64 (i : Nat)), (34, .slice g.2.1 g.2.2.2.length g.2.2.1), (35, .int .i64 (g.1 : Nat))]) (fun g => Row g.2.1 g.2.2.1 g.2.2.2.length 3 1 (encs g.2.2.2) :: Box b17 [.slice (ss.getD i default).a ns.length (ss.getD i default).cap, .int .i64 (ss.getD i default).room] 25 :: Box b11 [.int .i64 some_.r0, .int .i64 some_.r1, .int .i64 some_.r2, .int .i64 some_.r3, .int .i64 some_.r4] 27 :: Box b10 [.int .i64 ks.r0, .int .i64 ks.r1, .int .i64 ks.r2, .int .i64 ks.r3] 26 :: Box b9 [.slice a3 os.length cap3, .int .i64 rm] 25 :: A) (fun _ => J2) ?_ (0, none, 0, []) ⟨by omega, rfl⟩
      rintro ⟨p, aI, cI, ins⟩ ⟨hp, hpl⟩ K4 hK4
      simp only at hp hpl hK4 ⊢
      have hs4' : StA J2 a4 cap4 roots := (((((hs4.mono hI34).mono hJ0).mono hI5).mono hJ1).mono hI6).mono hJ2
      have hs4l := hs4'.sl
      skip
      refine tS (tS (tR (tM rfl rfl (tM rfl rfl ?_))))
      refine tri_v (opv_len rfl) rfl ?_
      refine tri_v (opv_lss rfl rfl) rfl ?_
      refine tM rfl rfl ?_
      refine tri_split rfl rfl (fun h5 => ?_) (fun h5 => ?_)
      ·refine tri_guard_run rfl rfl rfl (tM rfl rfl (tri_guard_run rfl rfl rfl ?_))
       refine tri_v (opv_lss rfl rfl) rfl ?_
       refine tri_v (by first | exact opv_pick_t rfl rfl | exact opv_pick_f rfl rfl | exact opv_pick_bool rfl rfl rfl | exact opv_pick rfl rfl rfl) rfl ?_
       refine tN (tT ?_)
       refine tri_cond_dec rfl (fun h6 => ?_) (fun h6 => ?_)
       ·have hpr : p < roots.length := by omega
        have hrp := hr4 p hpr
        skip
        refine tri_skip (tT (tS (tri_block ?_)))
        refine tri_draw [0, 1, 2, 3, 4, 5, 6, 7, 8, 9, 10, 11, 12] rfl [_] rfl mixed ?_
        refine th_take rfl rfl (by kernel_rfl)  (opv_move rfl) ?_
        refine th_take rfl rfl (by kernel_rfl)  (opv_move rfl) ?_
        refine th_take rfl rfl (by kernel_rfl)  (opv_move rfl) ?_
        refine th_take rfl rfl (by kernel_rfl)  (by first | exact opv_indexAddrA rfl rfl (by first | decide | omega) (by first | decide | omega) | exact opv_indexAddrSN rfl rfl (by omega) (by assumption) rfl | exact opv_indexAddrS rfl rfl (by omega) (by omega) (by assumption) rfl | exact opv_indexAddrE rfl (by assumption) (by omega) rfl (by first | decide | omega) (by first | decide | omega) | exact opv_indexAddrRN rfl rfl (by omega) | exact opv_indexAddrR rfl rfl (by omega) (by omega) | exact opv_indexAddrRA rfl (by omega) rfl (by first | decide | omega) (by first | decide | omega)) ?_
        refine th_take rfl rfl (by kernel_rfl)  (by first | exact opv_load1 rfl rfl rfl | exact opv_loadA rfl rfl rfl | exact opv_loadE1 rfl (by assumption) rfl (by omega) rfl rfl | exact opv_loadEA rfl (by assumption) rfl (by omega) rfl rfl | exact opv_loadRX1 rfl rfl (by omega) rfl rfl | exact opv_loadRXA rfl rfl (by omega) rfl rfl rfl | exact opv_loadIX rfl rfl (by omega) | exact opv_loadR1 rfl rfl rfl | exact opv_loadRA rfl rfl rfl rfl) ?_
        refine th_take rfl rfl (by kernel_rfl)  (by first | exact opv_fieldAddr rfl rfl | exact opv_fieldAddrE rfl (by assumption) (by omega) rfl | exact opv_fieldAddrR rfl (by omega) rfl) ?_
        refine th_take rfl rfl (by kernel_rfl)  (by first | exact opv_load1 rfl rfl rfl | exact opv_loadA rfl rfl rfl | exact opv_loadE1 rfl (by assumption) rfl (by omega) rfl rfl | exact opv_loadEA rfl (by assumption) rfl (by omega) rfl rfl | exact opv_loadRX1 rfl rfl (by omega) rfl rfl | exact opv_loadRXA rfl rfl (by omega) rfl rfl rfl | exact opv_loadIX rfl rfl (by omega) | exact opv_loadR1 rfl rfl rfl | exact opv_loadRA rfl rfl rfl rfl) ?_
        refine th_take rfl rfl (by kernel_rfl)  (opv_len rfl) ?_
        refine th_take rfl rfl (by kernel_rfl)  (opv_max2 rfl rfl) ?_
        refine th_one (by kernel_rfl) (step_m rfl rfl (opg_call (xs := [_, _]) rfl (law06_pick hrp.1 hrp.2 (by split <;> omega))) ?_)
        rintro v1 _ _ ⟨hv1, rfl, rfl⟩
        refine ⟨Suf.h, fun _ h => h, ?_⟩
        obtain ⟨x, hx⟩ : ∃ x, v1 = .int .i64 x := ⟨_, hv1⟩
        clear hv1
        subst hx
        refine th_one (by kernel_rfl) (step_m rfl rfl (opg_buildSlice rfl rfl rfl rfl) ?_)
        rintro _ _ _ ⟨b167, rfl, rfl, rfl⟩
        refine ⟨Suf.h, (by first | exact fun _ h => h | assumption | exact fun _ h => (by assumption : _ ⊆ _) ((by assumption : _ ⊆ _) h)), ?_⟩
        refine th_one (by kernel_rfl) (step_m rfl rfl (opg_appendB rfl rfl rfl rfl (by omega) rfl) ?_)
        rintro _ _ _ ⟨a5, c5, rfl, rfl, rfl⟩
        refine ⟨Suf.h, fun _ h => h, ?_⟩
        refine th_take rfl rfl (by kernel_rfl)  (opv_assign rfl) ?_
        refine th_done (by kernel_rfl) ?_
        refine tri_inBlock ?_
        refine tT (tR (tM rfl rfl ?_))
        refine tri_v (by first | exact opv_add rfl rfl (w64 (by omega) (by omega))) rfl ?_
        refine tA rfl rfl (tN (tT ?_))
        refine tri_drop ?_
        refine tri_rowEq (len' := (ins ++ [x]).length) (cells' := encs (ins ++ [x])) (by simp) (by rw [encs_append]; rfl) ?_
        refine tri_sub ?_ (hK4 (p + 1, a5, c5, ins ++ [x]) ⟨by simp only; omega, by simp only [List.length_append, List.length_singleton]; omega⟩ (by simp only; omega))
        exact ⟨rfl, rfl, rfl, rfl, rfl, rfl, rfl, rfl, rfl, by simp only [List.length_append]; rfl, rfl, trivial⟩
       ·refine tri_exit ?_
        refine tri_then_exit ?_
        refine tri_then_exit ?_
        refine tri_inBlock_hit rfl ?_
        refine tri_freezeRow (α := Int) rfl fun I7 hI7 hsi => ?_
        exact tri_cutEnd _ ⟨aI, cI, ins, rfl, rfl, hsi, by omega, hI7⟩ ⟨rfl, rfl, rfl, rfl, rfl, rfl, rfl, rfl, rfl, rfl, trivial⟩
      ·refine tri_guard_skip rfl rfl rfl rfl (tri_guard_skip rfl rfl rfl rfl ?_)
       refine tri_v (by first | exact opv_pick_t rfl rfl | exact opv_pick_f rfl rfl | exact opv_pick_bool rfl rfl rfl | exact opv_pick rfl rfl rfl) rfl ?_
       refine tN (tT ?_)
       refine tri_cond_false rfl ?_
       refine tri_exit ?_
       refine tri_then_exit ?_
       refine tri_then_exit ?_
       refine tri_inBlock_hit rfl ?_
       refine tri_freezeRow (α := Int) rfl fun I7 hI7 hsi => ?_
       exact tri_cutEnd _ ⟨aI, cI, ins, rfl, rfl, hsi, by omega, hI7⟩ ⟨rfl, rfl, rfl, rfl, rfl, rfl, rfl, rfl, rfl, rfl, trivial⟩
     rintro _ _ I7 ⟨aI, cI, ins, rfl, rfl, hsi, hil, hI7⟩
     skip
     have hs4' : StA I7 a4 cap4 roots := ((((((hs4.mono hI34).mono hJ0).mono hI5).mono hJ1).mono hI6).mono hJ2).mono hI7
     obtain ⟨mk, hmk⟩ : ∃ mk : Int, mk = if (5 : Int) < (roots.length : Int) then 5 else (roots.length : Int) := ⟨_, rfl⟩
     have hmk1 : 0 ≤ mk ∧ mk ≤ roots.length ∧ mk ≤ 5 := by rw [hmk]; split <;> omega
     refine tT (tS (tR (tM rfl rfl (tM rfl rfl (tM rfl rfl ?_)))))
     refine tri_v (opv_len rfl) rfl ?_
     refine tri_v (opv_min2 rfl rfl) rfl ?_
     rw [← hmk]
     refine tri_v (opv_sliceHi rfl rfl hmk1.1 hmk1.2.1 hs4' rfl) rfl ?_
     have htl : (roots.take mk.toNat).length ≤ 5 := by rw [List.length_take]; omega
     refine tri_g (opg_buildSlice rfl rfl rfl rfl) rfl ?_
     rintro _ _ _ ⟨b175, rfl, rfl, rfl⟩
     refine tri_v (opv_len rfl) rfl ?_
     refine tM rfl rfl (tN (tT (tri_block ?_)))
     refine tri_freezeBoxS [(⟨aI, ins.length, cI⟩ : Sl), ⟨a4, (roots.take mk.toNat).length, cap4⟩, ⟨none, 0, 0⟩] rfl fun I8 hI8 hs8 => ?_
     have hll : ∀ p, p < 3 → ∃ l : List Int, SlAt I8 (([(⟨aI, ins.length, cI⟩ : Sl), ⟨a4, (roots.take mk.toNat).length, cap4⟩, ⟨none, 0, 0⟩] : List Sl).getD p default).a l ∧ (([(⟨aI, ins.length, cI⟩ : Sl), ⟨a4, (roots.take mk.toNat).length, cap4⟩, ⟨none, 0, 0⟩] : List Sl).getD p default).len = l.length ∧ l.length ≤ 5 := by
      intro p hp
      rcases (by omega : p = 0 ∨ p = 1 ∨ p = 2) with rfl | rfl | rfl
      ·exact ⟨ins, hsi.mono hI8, rfl, hil⟩
      ·exact ⟨roots.take mk.toNat, (hs4'.sl.take mk.toNat).mono hI8, rfl, htl⟩
      ·exact ⟨[], SlAt.nil, rfl, by simp⟩
     generalize hsl : ([(⟨aI, ins.length, cI⟩ : Sl), ⟨a4, (roots.take mk.toNat).length, cap4⟩, ⟨none, 0, 0⟩] : List Sl) = sl at *
     have hsl3 : sl.length = 3 := by rw [← hsl]; rfl
     skip
     refine tri_sub (F' := [(5, .int .i64 level), (6, .slice a4 roots.length cap4), (15, .bool true), (10, pt b10 0), (11, pt b11 0), (17, pt b17 0), (55, .slice (some ⟨b55, 0, none⟩) ss.length 2), (56, .int .i64 (2 : Nat)), (57, .int .i64 (i : Nat)), (175, .slice (some ⟨b175, 0, none⟩) sl.length 3), (176, .int .i64 (3 : Nat)), (177, .int .i64 (0 : Nat))]) ⟨rfl, rfl, rfl, rfl, rfl, rfl, rfl, rfl, rfl, by rw [hsl3]; rfl, rfl, rfl, trivial⟩ ?_
     refine loop_ind (G := Nat × List Chunk) (fun g => 3 - g.1) (fun g => g.1 ≤ 3 ∧ I8 ⊆ g.2) (fun g => [(5, .int .i64 level), (6, .slice a4 roots.length cap4), (15, .bool true), (10, pt b10 0), (11, pt b11 0), (17, pt b17 0), (55, .slice (some ⟨b55, 0, none⟩) ss.length 2), (56, .int .i64 (2 : Nat)), (57, .int .i64 (i : Nat)), (175, .slice (some ⟨b175, 0, none⟩) sl.length 3), (176, .int .i64 (3 : Nat)), (177, .int .i64 (g.1 : Nat))]) (fun _ => Box b17 [.slice (ss.getD i default).a ns.length (ss.getD i default).cap, .int .i64 (ss.getD i default).room] 25 :: Box b11 [.int .i64 some_.r0, .int .i64 some_.r1, .int .i64 some_.r2, .int .i64 some_.r3, .int .i64 some_.r4] 27 :: Box b10 [.int .i64 ks.r0, .int .i64 ks.r1, .int .i64 ks.r2, .int .i64 ks.r3] 26 :: Box b9 [.slice a3 os.length cap3, .int .i64 rm] 25 :: A) (fun g => g.2) ?_ (0, I8) ⟨by omega, fun _ h => h⟩
     rintro ⟨p, J3⟩ ⟨hp, hJ3⟩ K4 hK4
     simp only at hp hJ3 hK4 ⊢
     have hns3 := ((hns2.mono hI7).mono hI8).mono hJ3
     have hs8' := hs8.mono hJ3
     skip
     refine tS (tR ?_)
     refine tri_v (opv_lss rfl rfl) rfl ?_
     refine tN (tT (tS ?_))
     refine tri_cond_dec rfl (fun h7 => ?_) (fun h7 => ?_)
     ·obtain ⟨l, hl1, hl2, hl3⟩ := hll p (by omega)
      have hl1 := hl1.mono hJ3
      refine tri_skip (tT (tS (tri_block (tS (tR ?_)))))
      refine tri_v (by first | exact opv_indexAddrA rfl rfl (by first | decide | omega) (by first | decide | omega) | exact opv_indexAddrSN rfl rfl (by omega) (by assumption) rfl | exact opv_indexAddrS rfl rfl (by omega) (by omega) (by assumption) rfl | exact opv_indexAddrE rfl (by assumption) (by omega) rfl (by first | decide | omega) (by first | decide | omega) | exact opv_indexAddrRN rfl rfl (by omega) | exact opv_indexAddrR rfl rfl (by omega) (by omega) | exact opv_indexAddrRA rfl (by omega) rfl (by first | decide | omega) (by first | decide | omega)) rfl ?_
      refine tri_v (by first | exact opv_load1 rfl rfl rfl | exact opv_loadA rfl rfl rfl | exact opv_loadE1 rfl (by assumption) rfl (by omega) rfl rfl | exact opv_loadEA rfl (by assumption) rfl (by omega) rfl rfl | exact opv_loadRX1 rfl rfl (by omega) rfl rfl | exact opv_loadRXA rfl rfl (by omega) rfl rfl rfl | exact opv_loadIX rfl rfl (by omega) | exact opv_loadR1 rfl rfl rfl | exact opv_loadRA rfl rfl rfl rfl) rfl ?_
      refine tA rfl rfl (tN (tT (tS ?_)))
      rw [hl2]
      have hln := R6.live_len ns (ss.getD i default).room l
      refine tR ?_
      refine tri_v (by first | exact opv_load1 rfl rfl rfl | exact opv_loadA rfl rfl rfl | exact opv_loadE1 rfl (by assumption) rfl (by omega) rfl rfl | exact opv_loadEA rfl (by assumption) rfl (by omega) rfl rfl | exact opv_loadRX1 rfl rfl (by omega) rfl rfl | exact opv_loadRXA rfl rfl (by omega) rfl rfl rfl | exact opv_loadIX rfl rfl (by omega) | exact opv_loadR1 rfl rfl rfl | exact opv_loadRA rfl rfl rfl rfl) rfl ?_
      refine tM rfl rfl ?_
      refine tri_g (opg_call (xs := [_, _]) rfl (node_liveR (room := (ss.getD i default).room) hns3 (by omega) hl1 (by omega) rfl)) rfl ?_
      rintro _ _ J4 ⟨u0, v0, u1, v1, rfl, g0, g1, rfl, hJ4⟩
      refine tM rfl rfl ?_
      refine tri_v (opv_extract rfl rfl) rfl ?_
      refine tri_v (opv_extract rfl rfl) rfl ?_
      refine tri_v (opv_extract rfl rfl) rfl ?_
      refine tri_g opg_alloc rfl ?_
      rintro _ _ _ ⟨b38, rfl, rfl, rfl⟩
      refine tri_g (opg_store rfl rfl rfl rfl rfl rfl) rfl ?_
      rintro _ _ _ ⟨rfl, rfl⟩
      refine tA rfl rfl (tA rfl rfl (tN (tT (tS (tR ?_)))))
      refine tri_v (by first | exact opv_load1 rfl rfl rfl | exact opv_loadA rfl rfl rfl | exact opv_loadE1 rfl (by assumption) rfl (by omega) rfl rfl | exact opv_loadEA rfl (by assumption) rfl (by omega) rfl rfl | exact opv_loadRX1 rfl rfl (by omega) rfl rfl | exact opv_loadRXA rfl rfl (by omega) rfl rfl rfl | exact opv_loadIX rfl rfl (by omega) | exact opv_loadR1 rfl rfl rfl | exact opv_loadRA rfl rfl rfl rfl) rfl ?_
      refine tM rfl rfl ?_
      refine tri_g (opg_call (xs := [_, _]) rfl (ref06_live (room := (ss.getD i default).room) (hns3.mono hJ4) (by omega) hrr (hl1.mono hJ4) (by omega))) rfl ?_
      rintro _ _ J5 ⟨u2, v2, u3, v3, rfl, g2, g3, rfl, hJ5⟩
      refine tM rfl rfl ?_
      refine tri_v (opv_extract rfl rfl) rfl ?_
      refine tri_v (opv_extract rfl rfl) rfl ?_
      refine tri_v (opv_extract rfl rfl) rfl ?_
      refine tri_g opg_alloc rfl ?_
      rintro _ _ _ ⟨b41, rfl, rfl, rfl⟩
      refine tri_g (opg_store rfl rfl rfl rfl rfl rfl) rfl ?_
      rintro _ _ _ ⟨rfl, rfl⟩
      refine tA rfl rfl (tA rfl rfl (tN (tT (tS (tR ?_)))))
      refine tri_v (by first | exact opv_load1 rfl rfl rfl | exact opv_loadA rfl rfl rfl | exact opv_loadE1 rfl (by assumption) rfl (by omega) rfl rfl | exact opv_loadEA rfl (by assumption) rfl (by omega) rfl rfl | exact opv_loadRX1 rfl rfl (by omega) rfl rfl | exact opv_loadRXA rfl rfl (by omega) rfl rfl rfl | exact opv_loadIX rfl rfl (by omega) | exact opv_loadR1 rfl rfl rfl | exact opv_loadRA rfl rfl rfl rfl) rfl ?_
      refine tri_v (by first | exact opv_load1 rfl rfl rfl | exact opv_loadA rfl rfl rfl | exact opv_loadE1 rfl (by assumption) rfl (by omega) rfl rfl | exact opv_loadEA rfl (by assumption) rfl (by omega) rfl rfl | exact opv_loadRX1 rfl rfl (by omega) rfl rfl | exact opv_loadRXA rfl rfl (by omega) rfl rfl rfl | exact opv_loadIX rfl rfl (by omega) | exact opv_loadR1 rfl rfl rfl | exact opv_loadRA rfl rfl rfl rfl) rfl ?_
      refine tri_g (opg_call (xs := [_, _]) rfl (ref06_same (g0.mono hJ5).sl g2.sl (by omega))) rfl ?_
      rintro _ _ _ ⟨rfl, rfl, rfl⟩
      refine tri_v (by first | exact opv_notD rfl | exact opv_not rfl) rfl ?_
      refine tM rfl rfl ?_
      refine tri_false rfl rfl ((fun h => h ⟨rfl, rfl⟩)) ?_
      refine tri_guard_run rfl rfl rfl (tM rfl rfl (tri_guard_run rfl rfl rfl (tM rfl rfl (tri_guard_run rfl rfl rfl ?_))))
      refine tri_g (opg_call (xs := [_, _]) rfl (ref03_ints (g1.mono hJ5) g3 (by have := R6.live_len2 ns (ss.getD i default).room l; omega))) rfl ?_
      rintro _ _ _ ⟨rfl, rfl, rfl⟩
      refine tri_guard_run rfl rfl rfl ?_
      refine tri_v (by first | exact opv_notD rfl | exact opv_not rfl) rfl ?_
      refine tri_v (by first | exact opv_pick_t rfl rfl | exact opv_pick_f rfl rfl | exact opv_pick_bool rfl rfl rfl | exact opv_pick rfl rfl rfl) rfl ?_
      refine tM rfl rfl ?_
      refine tri_false rfl rfl ((fun h => h rfl)) ?_
      refine tri_guard_run rfl rfl rfl (tM rfl rfl (tri_guard_run rfl rfl rfl (tM rfl rfl (tri_guard_run rfl rfl rfl ?_))))
      refine tri_v (by first | exact opv_neq rfl rfl | exact opv_neqI rfl rfl rfl rfl rfl rfl | exact opv_neqB rfl rfl) rfl ?_
      refine tri_v (by first | exact opv_pick_t rfl rfl | exact opv_pick_f rfl rfl | exact opv_pick_bool rfl rfl rfl | exact opv_pick rfl rfl rfl) rfl ?_
      refine tN (tT ?_)
      refine tri_cond_not rfl ((fun h => h rfl)) ?_
      refine tri_skip ?_
      refine tri_inBlock ?_
      refine tT (tR ?_)
      refine tri_v (by first | exact opv_add rfl rfl (w64 (by omega) (by omega))) rfl ?_
      refine tM rfl rfl (tN (tT ?_))
      refine tri_drop (tri_drop ?_)
      refine tri_sub ?_ (hK4 (p + 1, J5) ⟨by simp only; omega, fun _ h => hJ5 (hJ4 (hJ3 h))⟩ (by simp only; omega))
      exact ⟨rfl, rfl, rfl, rfl, rfl, rfl, rfl, rfl, rfl, rfl, rfl, rfl, trivial⟩
     ·refine tri_exit ?_
      refine tri_then_exit ?_
      refine tri_then_exit ?_
      refine tri_inBlock_hit rfl ?_
      refine tri_inBlock ?_
      refine tT (tR ?_)
      refine tri_v (by first | exact opv_add rfl rfl (w64 (by omega) (by omega))) rfl ?_
      refine tM rfl rfl (tN (tT ?_))
      refine tri_drop ?_
      refine tri_sub ?_ (hK (i + 1, J3) ⟨by simp only; omega, fun _ h => hJ3 (hI8 (hI7 (hJ2 (hI6 (hJ1 (hI5 (hJ0 h)))))))⟩ (by simp only; omega))
      exact ⟨rfl, rfl, rfl, rfl, rfl, rfl, rfl, rfl, trivial⟩
 ·refine tri_exit ?_
  refine tri_then_exit ?_
  refine tri_then_exit ?_
  refine tri_inBlock_hit rfl ?_
  refine tT (tS (tR (tM rfl rfl (tA rfl rfl (tN (tT (tri_ret ?_)))))))
  refine tri_end A Suf.h rfl (.cons (rv_tmp rfl) .nil) ⟨rfl, rfl, fun _ h => hJ0 (hI34 h)⟩
end Go.GL

set_option linter.unusedVariables false
namespace Go.GL
open Go.Proofs
theorem num_int : NumTy Try.prog 3 1 := NumTy.int
theorem num_p4 : NumTy Try.prog 26 4 := NumTy.arr num_int (by decide)
theorem num_5 : NumTy Try.prog 27 5 := NumTy.arr num_int (by decide)
theorem num_p5 : NumTy Try.prog 27 5 := num_5
theorem num_node : NumTy Try.prog 49 6 := NumTy.str (ns := [1, 4, 1]) (by exact ⟨num_int, num_p4, num_int, trivial⟩) (by decide)
theorem laid : laidOutB Try.prog = true := by kernel_rfl
theorem own : ownKnob Try.prog.godebug = none := by kernel_rfl
theorem ints_ok {l : List Int} (h : ∀ y ∈ l, DecOk y) : ∀ i, i < l.length → I64 (l.getD i default) := fun i hi => by
 have hm : l.getD i default ∈ l := by
  rw [List.getD_eq_getElem?_getD, List.getElem?_eq_getElem hi]
  exact List.getElem_mem hi
 obtain ⟨zs, h1, h2, h3⟩ := h _ hm
 rw [h3]
 match zs, h1 with
 | [a], _ => exact h2 a (by simp)
end Go.GL
