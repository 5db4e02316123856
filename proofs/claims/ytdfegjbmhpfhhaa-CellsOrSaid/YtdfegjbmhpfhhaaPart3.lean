/- Part 3: contracts of the functions that the law reaches: each answers as its model does. No condition beyond those that each theorem states. -/
import Derived.Test.YtdfegjbmhpfhhaaPart2
set_option linter.unusedVariables false
namespace Go.GL
theorem nodup_le {α : Type} [DecidableEq α] : ∀ (a b : List α), a.Nodup → (∀ x ∈ a, x ∈ b) → a.length ≤ b.length
 | [], _, _, _ => Nat.zero_le _
 | x :: a, b, hn, hs => by
  obtain ⟨h1, h2⟩ := List.nodup_cons.1 hn
  have hx := hs x List.mem_cons_self
  have h3 := nodup_le a (b.erase x) h2 fun y hy => by
   have : y ≠ x := fun e => h1 (e ▸ hy)
   exact (List.mem_erase_of_ne this).2 (hs y (List.mem_cons_of_mem _ hy))
  have h4 := List.length_erase_of_mem hx
  have h5 : 0 < b.length := List.length_pos_of_mem hx
  rw [List.length_cons]
  omega
/-- The numbers below n. -/
def upto (n : Nat) : List Int := (List.range n).map fun (i : Nat) => (i : Int)
theorem mem_upto {n : Nat} {x : Int} : x ∈ upto n ↔ 0 ≤ x ∧ x < n := by
 unfold upto
 rw [List.mem_map]
 constructor
 ·rintro ⟨i, hi, rfl⟩
  have := List.mem_range.1 hi
  omega
 ·intro h
  exact ⟨x.toNat, List.mem_range.2 (by omega), by omega⟩
theorem upto_nd (n : Nat) : (upto n).Nodup := by
 unfold upto
 rw [List.Nodup, List.pairwise_map]
 exact (List.nodup_range (n := n)).imp fun h e => h (by omega)
theorem upto_len (n : Nat) : (upto n).length = n := by simp [upto]
namespace R19
variable {p v : List Int}
/-! ### Kids -/
theorem mem_kids {t : Nat} {x : Int} : x ∈ kids p t ↔ 0 ≤ x ∧ x < p.length ∧ p.getD x.toNat default = (t : Int) := by
 unfold kids kidsTo
 rw [List.mem_map]
 constructor
 ·rintro ⟨i, hi, rfl⟩
  obtain ⟨h1, h2⟩ := List.mem_filter.1 hi
  have := List.mem_range.1 h1
  exact ⟨by omega, by omega, of_decide_eq_true h2⟩
 ·rintro ⟨h0, h1, h2⟩
  exact ⟨x.toNat, List.mem_filter.2 ⟨List.mem_range.2 (by omega), decide_eq_true h2⟩, by omega⟩
theorem kids_nd (p : List Int) (t : Nat) : (kids p t).Nodup := by
 unfold kids kidsTo
 rw [List.Nodup, List.pairwise_map]
 exact ((List.nodup_range (n := p.length)).filter _).imp fun h e => h (by omega)
theorem kid_gt (hr : right p) {t : Nat} {x : Int} (h : x ∈ kids p t) : (t : Int) < x := by
 obtain ⟨h0, h1, h2⟩ := mem_kids.1 h
 obtain ⟨h3, h4⟩ := hr.2 x.toNat (by omega)
 by_cases e : x.toNat = 0
 ·have := h3 e
  omega
 ·have := h4 (by omega)
  omega
theorem par_lt (hr : right p) {x : Nat} (h : x < p.length) : p.getD x default < (x : Int) ∧ -1 ≤ p.getD x default ∧ (p.getD x default < 0 ↔ x = 0) := by
 obtain ⟨h3, h4⟩ := hr.2 x h
 by_cases e : x = 0
 ·have := h3 e
  omega
 ·have := h4 (by omega)
  omega
/-! ### Deques -/
theorem flat_set {D : List (List Int)} {k : Nat} (h : k < D.length) : ∃ r, D.flatten.Perm (D.getD k default ++ r) ∧ ∀ l, (D.set k l).flatten.Perm (l ++ r) := by
 refine ⟨(D.take k).flatten ++ (D.drop (k + 1)).flatten, ?_, fun l => ?_⟩
 ·have e : D = D.take k ++ D.getD k default :: D.drop (k + 1) := by
   have e1 : D.getD k default = D[k] := by simp [h]
   rw [e1, ← List.drop_eq_getElem_cons h, List.take_append_drop]
  have e2 : D.flatten = (D.take k).flatten ++ (D.getD k default ++ (D.drop (k + 1)).flatten) := by
   conv => lhs; rw [e]
   rw [List.flatten_append, List.flatten_cons]
  rw [e2, ← List.append_assoc, ← List.append_assoc]
  exact List.Perm.append_right _ List.perm_append_comm
 ·rw [List.set_eq_take_append_cons_drop, if_pos h, List.flatten_append, List.flatten_cons, ← List.append_assoc, ← List.append_assoc]
  exact List.Perm.append_right _ List.perm_append_comm
theorem findF_none {D : List (List Int)} {w : Nat} : ∀ (f j : Nat), findF D w f j = none → ∀ i, j ≤ i → i < j + f → (D.getD ((w + i) % D.length) default).length = 0
 | 0, j, _, i, h1, h2 => by omega
 | f + 1, j, h, i, h1, h2 => by
  unfold findF at h
  split at h
  ·rename_i h0
   by_cases e : i = j
   ·rw [e]; exact h0
   ·exact findF_none f (j + 1) h i (by omega) (by omega)
  ·exact nomatch h
theorem findF_lt' {D : List (List Int)} {w : Nat} (h0 : 0 < D.length) : ∀ (f j : Nat) {k : Nat}, findF D w f j = some k → k < D.length ∧ 0 < (D.getD k default).length
 | 0, _, _, h => nomatch h
 | f + 1, j, k, h => by
  unfold findF at h
  split at h
  ·exact findF_lt' h0 f (j + 1) h
  ·rename_i h1
   injection h with h
   subst h
   exact ⟨Nat.mod_lt _ h0, by omega⟩
/-- What is taken, and what is left: all that there was. -/
theorem takeM_perm {D : List (List Int)} {w : Nat} (hw : w < D.length) (hn : D.flatten ≠ []) : D.flatten.Perm ((takeM D w).1 :: (takeM D w).2.flatten) ∧ (takeM D w).2.length = D.length := by
 unfold takeM
 split
 ·rename_i h
  obtain ⟨r, h1, h2⟩ := flat_set hw
  refine ⟨?_, by rw [List.length_set]⟩
  refine h1.trans (List.Perm.trans ?_ ((h2 _).symm.cons _))
  generalize D.getD w default = l at *
  have e : l.take (l.length - 1) ++ [l.getD (l.length - 1) default] = l := by
   have e1 : l.getD (l.length - 1) default = l[l.length - 1]'(by omega) := by rw [List.getD_eq_getElem?_getD, List.getElem?_eq_getElem (by omega)]; rfl
   rw [e1]
   have e2 := List.take_append_getElem (l := l) (i := l.length - 1) (by omega)
   rw [e2, List.take_of_length_le (by omega)]
  show (l ++ r).Perm (l.getD (l.length - 1) default :: (l.take (l.length - 1) ++ r))
  conv => lhs; rw [← e]
  rw [List.append_assoc]
  exact List.perm_middle
 ·split
  ·rename_i k hk
   obtain ⟨h3, h4⟩ := findF_lt' (by omega) _ _ hk
   obtain ⟨r, h1, h2⟩ := flat_set h3
   refine ⟨?_, by rw [List.length_set]⟩
   refine h1.trans (List.Perm.trans ?_ ((h2 _).symm.cons _))
   generalize D.getD k default = l at *
   match l, h4 with
   | x :: l, _ => exact List.Perm.refl _
  ·rename_i h hk
   exfalso
   apply hn
   rw [List.flatten_eq_nil_iff]
   intro l hl
   obtain ⟨i, hi, rfl⟩ := List.getElem_of_mem hl
   apply List.eq_nil_of_length_eq_zero
   by_cases hiw : w ≤ i
   ·have := findF_none _ _ hk (i - w) (by omega) (by omega)
    rw [show w + (i - w) = i by omega, Nat.mod_eq_of_lt hi] at this
    simpa [hi] using this
   ·have := findF_none _ _ hk (i + D.length - w) (by omega) (by omega)
    rw [show w + (i + D.length - w) = i + D.length by omega, Nat.add_mod_right, Nat.mod_eq_of_lt hi] at this
    simpa [hi] using this
/-! ### The machine of deques -/
/-- Who is next. -/
def nxt (picks : List Int) (nw n : Nat) (last : Int) : Int := R11.next picks n (List.replicate nw 1) last
theorem nxt_ok {picks : List Int} {nw n : Nat} {last : Int} (h : 1 ≤ nw) : 0 ≤ nxt picks nw n last ∧ nxt picks nw n last < nw := by
 have hne : ¬ R11.next picks n (List.replicate nw 1) last < 0 := fun h1 => by
  have h2 := R11.next_none h1
  have : (0 : Int) ∈ R11.all (List.replicate nw 1) := R11.mem_all.2 ⟨by omega, by rw [List.length_replicate]; omega, by
   rw [List.getD_eq_getElem?_getD, List.getElem?_replicate, if_pos (by exact h)]; decide⟩
  rw [h2] at this
  exact nomatch this
 obtain ⟨h1, h2, _⟩ := R11.next_ok hne
 rw [List.length_replicate] at h2
 exact ⟨h1, h2⟩
structure Mc where
 D : List (List Int)
 order : List Int
 who : List Int
 last : Int
def mstep (p picks : List Int) (nw : Nat) (m : Mc) : Mc :=
 { D := (takeM m.D (nxt picks nw m.order.length m.last).toNat).2.set (nxt picks nw m.order.length m.last).toNat ((takeM m.D (nxt picks nw m.order.length m.last).toNat).2.getD (nxt picks nw m.order.length m.last).toNat default ++ kids p (takeM m.D (nxt picks nw m.order.length m.last).toNat).1.toNat), order := m.order ++ [(takeM m.D (nxt picks nw m.order.length m.last).toNat).1], who := m.who ++ [nxt picks nw m.order.length m.last], last := nxt picks nw m.order.length m.last }
def mst (p picks : List Int) (nw : Nat) : Nat → Mc
 | 0 => ⟨[0] :: List.replicate (nw - 1) [], [], [], -1⟩
 | n + 1 => mstep p picks nw (mst p picks nw n)
/-- What is known of the machine. -/
structure MOk (p : List Int) (nw n : Nat) (m : Mc) : Prop where
 dl : m.D.length = nw
 ol : m.order.length = n
 wl : m.who.length = n
 nd : (m.order ++ m.D.flatten).Nodup
 mem : ∀ t : Int, t ∈ m.order ++ m.D.flatten ↔ (0 ≤ t ∧ t < p.length ∧ (t = 0 ∨ p.getD t.toNat default ∈ m.order))
 who : ∀ w ∈ m.who, 0 ≤ w ∧ w < nw
theorem MOk.all_le {nw n : Nat} {m : Mc} (h : MOk p nw n m) : (m.order ++ m.D.flatten).length ≤ p.length := by
 have := nodup_le _ (upto p.length) h.nd fun x hx => mem_upto.2 ⟨((h.mem x).1 hx).1, ((h.mem x).1 hx).2.1⟩
 rwa [upto_len] at this
/-- No deque has a task: all are run. -/
theorem MOk.full {nw n : Nat} {m : Mc} (hr : right p) (h : MOk p nw n m) (e : m.D.flatten = []) : ∀ t : Nat, t < p.length → (t : Int) ∈ m.order := by
 have hm := h.mem
 rw [e, List.append_nil] at hm
 intro t
 induction t using Nat.strongRecOn with
 | _ t ih =>
  intro ht
  refine (hm t).2 ⟨by omega, by omega, ?_⟩
  obtain ⟨h1, h2, h3⟩ := par_lt hr ht
  by_cases e0 : t = 0
  ·exact .inl (by omega)
  ·right
   have := ih (p.getD t default).toNat (by omega) (by omega)
   rw [Int.toNat_natCast]
   rwa [Int.toNat_of_nonneg (by omega)] at this
/-- All tasks are run behind so many steps. -/
theorem MOk.done {nw : Nat} {m : Mc} (hr : right p) (h : MOk p nw p.length m) : ∀ t : Nat, t < p.length → (t : Int) ∈ m.order := by
 have h1 := h.all_le
 rw [List.length_append, h.ol] at h1
 exact h.full hr (List.eq_nil_of_length_eq_zero (by omega))
/-- While a task is not run, some deque is not empty. -/
theorem MOk.busy {nw n : Nat} {m : Mc} (hr : right p) (h : MOk p nw n m) (hn : n < p.length) : m.D.flatten ≠ [] := by
 intro e
 have hall := h.full hr e
 have := nodup_le (upto p.length) m.order (upto_nd _) fun x hx => by
  obtain ⟨h1, h2⟩ := mem_upto.1 hx
  have := hall x.toNat (by omega)
  rwa [Int.toNat_of_nonneg h1] at this
 rw [upto_len, h.ol] at this
 omega
theorem MOk.start (hr : right p) {picks : List Int} {nw : Nat} (h : 1 ≤ nw) : MOk p nw 0 (mst p picks nw 0) := by
 have e : (mst p picks nw 0).D.flatten = [0] := by
  show ([0] :: List.replicate (nw - 1) ([] : List Int)).flatten = [0]
  rw [List.flatten_cons, List.flatten_replicate_nil]
  rfl
 have hn := hr.1.1
 refine ⟨?_, rfl, rfl, ?_, fun t => ?_, fun w hw => nomatch hw⟩
 ·show ([0] :: List.replicate (nw - 1) ([] : List Int)).length = nw
  rw [List.length_cons, List.length_replicate]
  omega
 ·rw [e]; exact List.pairwise_singleton _ _
 ·rw [e]
  show t ∈ [(0 : Int)] ↔ _ ∧ _ ∧ (_ ∨ _ ∈ ([] : List Int))
  simp only [List.mem_singleton, List.not_mem_nil, or_false]
  omega
/-- What a step takes. -/
theorem MOk.take {nw n : Nat} {m : Mc} (hr : right p) (h : MOk p nw n m) (hn : n < p.length) {w : Nat} (hw : w < nw) :
  ∃ T : Nat, (takeM m.D w).1 = (T : Int) ∧ T < p.length ∧ (T : Int) ∉ m.order ∧ (T = 0 ∨ p.getD T default ∈ m.order) ∧ m.D.flatten.Perm ((T : Int) :: (takeM m.D w).2.flatten) ∧ (takeM m.D w).2.length = nw := by
 obtain ⟨h1, h2⟩ := takeM_perm (D := m.D) (w := w) (by rw [h.dl]; exact hw) (h.busy hr hn)
 have h3 : (takeM m.D w).1 ∈ m.D.flatten := h1.mem_iff.2 List.mem_cons_self
 obtain ⟨h4, h5, h6⟩ := (h.mem _).1 (List.mem_append_right _ h3)
 have h7 : (takeM m.D w).1 ∉ m.order := fun hc => (List.nodup_append.1 h.nd).2.2 _ hc _ h3 rfl
 obtain ⟨T, hT⟩ : ∃ T : Nat, (takeM m.D w).1 = (T : Int) := ⟨(takeM m.D w).1.toNat, by omega⟩
 rw [hT] at h4 h5 h6 h7 h1
 exact ⟨T, hT, by omega, h7, h6.imp (by omega) fun h => by rwa [Int.toNat_natCast] at h, h1, by rw [h2, h.dl]⟩
theorem MOk.step {nw n : Nat} {m : Mc} (hr : right p) (h : MOk p nw n m) (hn : n < p.length) (hw : 1 ≤ nw) (picks : List Int) : MOk p nw (n + 1) (mstep p picks nw m) := by
 unfold mstep
 obtain ⟨hx0, hx1⟩ := nxt_ok (picks := picks) (nw := nw) (n := m.order.length) (last := m.last) hw
 obtain ⟨w, ew⟩ : ∃ w : Nat, nxt picks nw m.order.length m.last = (w : Int) := ⟨(nxt picks nw m.order.length m.last).toNat, by omega⟩
 rw [ew] at hx0 hx1 ⊢
 rw [Int.toNat_natCast]
 obtain ⟨T, hT, hTl, hTo, hTp, hp, hl⟩ := h.take hr hn (w := w) (by omega)
 rw [hT, Int.toNat_natCast]
 obtain ⟨r, hr1, hr2⟩ := flat_set (D := (takeM m.D w).2) (k := w) (by omega)
 have hper : (m.order ++ [(T : Int)] ++ ((takeM m.D w).2.set w ((takeM m.D w).2.getD w default ++ kids p T)).flatten).Perm (kids p T ++ (m.order ++ m.D.flatten)) := by
  have e1 : ((takeM m.D w).2.set w ((takeM m.D w).2.getD w default ++ kids p T)).flatten.Perm (kids p T ++ (takeM m.D w).2.flatten) := by
   refine (hr2 _).trans ?_
   rw [List.append_assoc]
   refine List.Perm.trans ?_ (hr1.symm.append_left _)
   rw [← List.append_assoc, ← List.append_assoc]
   exact List.perm_append_comm.append_right _
  refine (e1.append_left _).trans ?_
  rw [List.append_assoc]
  refine List.Perm.trans ?_ ((hp.symm.append_left m.order).append_left (kids p T))
  show (m.order ++ (T : Int) :: (kids p T ++ (takeM m.D w).2.flatten)).Perm (kids p T ++ (m.order ++ ([(T : Int)] ++ (takeM m.D w).2.flatten)))
  have a1 : (m.order ++ (T : Int) :: (kids p T ++ (takeM m.D w).2.flatten)) = (m.order ++ [(T : Int)] ++ kids p T) ++ (takeM m.D w).2.flatten := by simp
  have a2 : (kids p T ++ (m.order ++ ([(T : Int)] ++ (takeM m.D w).2.flatten))) = (kids p T ++ (m.order ++ [(T : Int)])) ++ (takeM m.D w).2.flatten := by simp
  rw [a1, a2]
  exact List.perm_append_comm.append_right _
 have hk0 : ∀ x ∈ kids p T, x ∉ m.order ++ m.D.flatten := fun x hx hc => by
  have hgt := kid_gt hr hx
  obtain ⟨_, _, h3⟩ := mem_kids.1 hx
  obtain ⟨_, _, h6⟩ := (h.mem x).1 hc
  rcases h6 with h6 | h6
  ·omega
  ·rw [h3] at h6
   exact hTo h6
 refine ⟨by rw [List.length_set, hl], by simp [h.ol], by simp [h.wl], ?_, fun t => ?_, fun x hx => ?_⟩
 ·rw [hper.nodup_iff, List.nodup_append]
  exact ⟨kids_nd p T, h.nd, fun a ha b hb e => hk0 a ha (e ▸ hb)⟩
 ·rw [hper.mem_iff, List.mem_append, h.mem t, mem_kids, List.mem_append, List.mem_singleton]
  constructor
  ·rintro (⟨h1, h2, h3⟩ | ⟨h1, h2, h3⟩)
   ·exact ⟨h1, h2, .inr (.inr h3)⟩
   ·exact ⟨h1, h2, h3.imp id .inl⟩
  ·rintro ⟨h1, h2, h3 | h3 | h3⟩
   ·exact .inr ⟨h1, h2, .inl h3⟩
   ·exact .inr ⟨h1, h2, .inr h3⟩
   ·exact .inl ⟨h1, h2, h3⟩
 ·rcases List.mem_append.1 hx with hx | hx
  ·exact h.who x hx
  ·rw [List.mem_singleton] at hx
   omega
theorem MOk.run (hr : right p) {picks : List Int} {nw : Nat} (h : 1 ≤ nw) : ∀ n, n ≤ p.length → MOk p nw n (mst p picks nw n)
 | 0, _ => .start hr h
 | n + 1, hn => (MOk.run hr h n (by omega)).step hr (by omega) h picks
end R19
end Go.GL


set_option linter.unusedVariables false
namespace Go.GL
/-! ### What chapter 2's laws do with sets -/
namespace R2
def rot (c : Cell) : Cell := ⟨-c.y, c.x⟩
def rotN : Nat → Cell → Cell
 | 0, c => c
 | n + 1, c => rot (rotN n c)
def flipC (k : Int) (c : Cell) : Cell := if 4 ≤ k then ⟨-c.x, c.y⟩ else c
def turnC (way : Int) (c : Cell) : Cell := rotN ((pk way 8).toNat % 4) (flipC (pk way 8) c)
def turned (way : Int) (l : List Cell) : List Cell := R1.puts (l.map (turnC way))
end R2
end Go.GL


set_option linter.unusedVariables false
namespace Go.GL
/-! ### Generations of planes: where they stand, how they are turned, what is far apart, how fast they grow -/
namespace R2
open R9 (gen gens pl)
open R8 (b2i)
def shF (p q : Int) (f : Int → Int → Bool) : Int → Int → Bool := fun x y => f (x - p) (y - q)
def rotF (f : Int → Int → Bool) : Int → Int → Bool := fun x y => f y (-x)
def flipF (f : Int → Int → Bool) : Int → Int → Bool := fun x y => f (-x) y
def orF (f g : Int → Int → Bool) : Int → Int → Bool := fun x y => f x y || g x y
def noF : Int → Int → Bool := fun _ _ => false
def rotFN : Nat → (Int → Int → Bool) → Int → Int → Bool
 | 0, f => f
 | k + 1, f => rotF (rotFN k f)
def turnF (way : Int) (f : Int → Int → Bool) : Int → Int → Bool := rotFN ((pk way 8).toNat % 4) (if 4 ≤ pk way 8 then flipF f else f)
end R2
end Go.GL


set_option linter.unusedVariables false
namespace Go.GL
/-! ### What runs of sets answer -/
namespace R2
open R9 (gen gens pl)
/-! #### Sixteen by sixteen, behind at most twelve generations: at most 816 cells -/
def octP (x y : Int) : Prop := 2 * x + y ≤ 33 ∧ 2 * x - y ≤ 34 ∧ -2 * x + y ≤ 35 ∧ -2 * x - y ≤ 36 ∧ x + 2 * y ≤ 33 ∧ x - 2 * y ≤ 35 ∧ -x + 2 * y ≤ 34 ∧ -x - 2 * y ≤ 36
instance (x y : Int) : Decidable (octP x y) := inferInstanceAs (Decidable (_ ∧ _))
def octL : List Cell := ((List.range 60).flatMap fun i : Nat => (List.range 60).map fun j : Nat => (⟨(i : Int) - 30, (j : Int) - 30⟩ : Cell)).filter fun c => decide (octP c.x c.y)
end R2
end Go.GL


set_option linter.unusedVariables false
set_option linter.unusedSimpArgs false
namespace Go.GL
/-! ### 'm[k] += d': an entry is made or found, and written through its stamp -/
/-- As MapA; hh is the stamp of the entry that ks has. -/
def MapE (P : Program) (kt : TypeId) (b : Nat) (es : KVs) (ks : List Int) (hh : Int) : Asrt := fun c => ∃ ents clock, c = [(b, .map ents clock)] ∧ ents.toList.map (fun e => (e.key, e.val)) = es.map (fun p => (mkv P kt p.1, p.2)) ∧ (∀ p ∈ es, ∃ k, intAt P 9 kt = some k ∧ p.1.length = k) ∧ Stm ents clock ∧ ∃ i e v, ents[i]? = some e ∧ (e.born : Int) = hh ∧ mpos es ks 0 = some (i, v)
theorem MapE.a {P : Program} {kt : TypeId} {b : Nat} {es : KVs} {ks : List Int} {hh : Int} {c : List Chunk} (h : MapE P kt b es ks hh c) : MapA P kt b es c := by
 obtain ⟨ents, clock, h1, h2, h3, h4, _⟩ := h
 exact ⟨ents, clock, h1, h2, h3, h4⟩
section
variable {w0 : World} {n : Nat} {F : Frm} {A : List Asrt} {I : List Chunk} {P : Program}
variable {dst : Option Tmp} {ty : TypeId} {pos : String} {af : Array Edge} {gd : Option (Nat × Bool)}
variable {t e kt : TypeId} {d d' : TypeDesc} {s by_ s' by' : Nat} {z z' : List Value} {x y ix : Operand} {b : Nat} {es : KVs} {u : KVs → List Asrt} {k : Nat}
end
end Go.GL


set_option linter.unusedVariables false
namespace Go.GL
/-! ### How many neighbours cells have, as a map; a cell itself counts ten -/
abbrev NM := List (Cell × Int)
namespace R2
def keyOf (c : Cell) : List Int := [c.x, c.y]
def kvs (nm : NM) : KVs := nm.map fun p => (keyOf p.1, .int .i64 p.2)
def get : NM → Cell → Int
 | [], _ => 0
 | p :: nm, c => if p.1 = c then p.2 else get nm c
def bump : NM → Cell → Int → NM
 | [], c, d => [(c, d)]
 | p :: nm, c, d => if p.1 = c then (c, p.2 + d) :: nm else p :: bump nm c d
/-- The first k of the nine about a cell count one each. -/
def nines (c : Cell) : Nat → NM → NM
 | 0, nm => nm
 | k + 1, nm => bump (nines c k nm) (nb c k) 1
def one (c : Cell) (nm : NM) : NM := bump (nines c 9 nm) c 9
def counts (l : List Cell) : NM := l.foldl (fun nm c => one c nm) []
/-- What lives on of a map of counts. -/
def outOf (p : List Int × Value) : Option Cell :=
 match p with
 | ([x, y], .int .i64 n) => if lives (decide (10 ≤ n)) (n % 10) then some ⟨x, y⟩ else none
 | _ => none
end R2
end Go.GL


set_option linter.unusedVariables false
namespace Go.GL
namespace R2
open R9 (gen gens pl)
/-! #### Boxes -/
theorem lo_mem {l : List Cell} (h : l.length ≠ 0) : (∃ e ∈ l, (R1.lo l (R1.g l 0)).x = e.x) ∧ ∃ e ∈ l, (R1.lo l (R1.g l 0)).y = e.y := by
 have h0 : R1.g l 0 ∈ l := by unfold R1.g; simp [show 0 < l.length by omega]
 obtain ⟨h1, h2⟩ := R1.lo_at (l := l) (c := R1.g l 0)
 exact ⟨h1.elim (fun e => ⟨_, h0, e⟩) id, h2.elim (fun e => ⟨_, h0, e⟩) id⟩
theorem hi_mem {l : List Cell} (h : l.length ≠ 0) : (∃ e ∈ l, (R1.hi l (R1.g l 0)).x = e.x) ∧ ∃ e ∈ l, (R1.hi l (R1.g l 0)).y = e.y := by
 have h0 : R1.g l 0 ∈ l := by unfold R1.g; simp [show 0 < l.length by omega]
 obtain ⟨h1, h2⟩ := R1.hi_at (l := l) (c := R1.g l 0)
 exact ⟨h1.elim (fun e => ⟨_, h0, e⟩) id, h2.elim (fun e => ⟨_, h0, e⟩) id⟩
theorem box_some {l : List Cell} (h : l.length ≠ 0) (hr : R1.right l) : R1.box l = (⟨(R1.lo l (R1.g l 0)).x, (R1.lo l (R1.g l 0)).y, (R1.hi l (R1.g l 0)).x - (R1.lo l (R1.g l 0)).x + 1, (R1.hi l (R1.g l 0)).y - (R1.lo l (R1.g l 0)).y + 1⟩, true) := if_neg (by rw [not_or, Decidable.not_not]; exact ⟨h, hr⟩)
/-- No more than this. -/
structure RBd (r : R1.Rect) : Prop where
 x1 : -1099511627776 ≤ r.x
 x2 : r.x ≤ 1099511627776
 y1 : -1099511627776 ≤ r.y
 y2 : r.y ≤ 1099511627776
 w1 : 0 ≤ r.w
 w2 : r.w ≤ 2199023255553
 h1 : 0 ≤ r.h
 h2 : r.h ≤ 2199023255553
/-! #### Few cells, and how many more there may be -/
def nine (l : List Cell) (c : Cell) : Nat := (l.filter fun d => decide (near c d ∨ d = c)).length
theorem right_sub {l m : List Cell} (h : R1.right l) (hs : List.Sublist m l) : R1.right m := R1.right_of ((R1.right_srt h).sublist hs) (fun c hc => R1.right_inB h c (hs.subset hc)) (by
 have := hs.length_le
 have := h.2
 omega)
end R2
end Go.GL


set_option linter.unusedVariables false
namespace Go.GL
open Go.Proofs
attribute [local irreducible] wpList Code.wp Exit.then Exit.inBlock Ends Tri TriH OpV OpG FnC epf wpAnyH
variable {A : List Asrt} {I : List Chunk}
theorem R1.first_y {l : List Cell} (hs : R1.Srt l) (h : 0 < l.length) : (R1.lo l (R1.g l 0)).y = (R1.g l 0).y := by
 have h1 := (R1.lo_le (l := l) (c := R1.g l 0)).1
 obtain ⟨e, he, hy⟩ := (R2.lo_mem (l := l) (by omega)).2
 obtain ⟨j, hj, rfl⟩ := List.getElem_of_mem he
 have e1 : R1.g l j = l[j] := by unfold R1.g; simp [hj]
 by_cases hj0 : j = 0
 ·subst hj0
  rw [hy, e1]
 ·have := R1.srt_lt hs (i := 0) (j := j) (by omega) hj
  rw [e1] at this
  unfold R1.less at this
  omega
theorem R1.last_y {l : List Cell} (hs : R1.Srt l) (h : 0 < l.length) : (R1.hi l (R1.g l 0)).y = (R1.g l (l.length - 1)).y := by
 have h1 := (R1.hi_ge (l := l) (c := R1.g l 0)).2 (R1.g l (l.length - 1)) (by unfold R1.g; simp [show l.length - 1 < l.length by omega])
 obtain ⟨e, he, hy⟩ := (R2.hi_mem (l := l) (by omega)).2
 obtain ⟨j, hj, rfl⟩ := List.getElem_of_mem he
 have e1 : R1.g l j = l[j] := by unfold R1.g; simp [hj]
 by_cases hj0 : j = l.length - 1
 ·rw [hy, ← hj0, e1]
 ·have := R1.srt_lt hs (i := j) (j := l.length - 1) (by omega) (by omega)
  rw [e1] at this
  unfold R1.less at this
  omega
set_option maxHeartbeats 2000000 in
set_option maxRecDepth 100000 in
theorem cells_box {l : List Cell} {a : Option Addr} {cap : Nat} (hs : SlAt I a l) (hn : l.length ≤ 1000000000) :
  FnC Try.prog 16 [.slice a l.length cap].toArray A I (fun v A' I' => v = .tuple [rectV (R1.box l).1, .bool (R1.box l).2].toArray ∧ A = A' ∧ I ⊆ I') := by
 skip
 skip
 refine fn_enter1 Try.func16 rfl Try.ntmps16 rfl fun w0 => ?_
 refine tS (tR ?_)
 refine tri_g opg_alloc rfl ?_
 rintro _ _ _ ⟨b2, rfl, rfl, rfl⟩
 refine tA rfl rfl (tN (tT (tS (tS (tR (tM rfl rfl ?_))))))
 refine tri_v (opv_len rfl) rfl ?_
 refine tri_v (by first | exact opv_eql rfl rfl | exact opv_eqlI rfl rfl rfl rfl rfl rfl | exact opv_eqlB rfl rfl | exact opv_eqlNil rfl rfl) rfl ?_
 refine tM rfl rfl ?_
 refine tri_split rfl rfl (fun h0 => ?_) (fun h0 => ?_)
 ·have h0 : l.length = 0 := by omega
  refine tri_guard_skip rfl rfl rfl rfl (tri_guard_skip rfl rfl rfl rfl (tri_guard_skip rfl rfl rfl rfl ?_))
  refine tri_v (by first | exact opv_pick_t rfl rfl | exact opv_pick_f rfl rfl | exact opv_pick_bool rfl rfl rfl | exact opv_pick rfl rfl rfl) rfl ?_
  refine tN (tT ?_)
  refine tri_cond_true rfl ?_
  refine tS (tR ?_)
  refine tri_v (by first | exact opv_buildS rfl rfl | exact opv_buildA rfl rfl) rfl ?_
  refine tri_g (opg_store rfl rfl rfl rfl rfl rfl) rfl ?_
  rintro _ _ _ ⟨rfl, rfl⟩
  refine tA rfl rfl (tN (tT (tri_ret (tri_then_ret ?_))))
  refine tri_end A Suf.h rfl (.cons (rv_cellA rfl rfl rfl) (.cons (rv_tmp rfl) .nil)) ?_
  rw [show R1.box l = (⟨0, 0, 0, 0⟩, false) from if_pos (.inl h0)]
  exact ⟨rfl, rfl, fun _ h => h⟩
 ·have h0 : l.length ≠ 0 := by omega
  refine tri_guard_run rfl rfl rfl (tM rfl rfl (tri_guard_run rfl rfl rfl ?_))
  refine tri_g (opg_call (xs := [_]) rfl (cells_right hs hn)) rfl ?_
  rintro _ _ I1 ⟨rfl, rfl, hI1⟩
  refine tri_guard_run rfl rfl rfl ?_
  refine tri_v (by first | exact opv_notD rfl | exact opv_not rfl) rfl ?_
  refine tri_v (by first | exact opv_pick_t rfl rfl | exact opv_pick_f rfl rfl | exact opv_pick_bool rfl rfl rfl | exact opv_pick rfl rfl rfl) rfl ?_
  refine tN (tT ?_)
  refine tri_cond_dec rfl (fun h1 => ?_) (fun h1 => ?_)
  ·refine tS (tR ?_)
   refine tri_v (by first | exact opv_buildS rfl rfl | exact opv_buildA rfl rfl) rfl ?_
   refine tri_g (opg_store rfl rfl rfl rfl rfl rfl) rfl ?_
   rintro _ _ _ ⟨rfl, rfl⟩
   refine tA rfl rfl (tN (tT (tri_ret (tri_then_ret ?_))))
   refine tri_end A Suf.h rfl (.cons (rv_cellA rfl rfl rfl) (.cons (rv_tmp rfl) .nil)) ?_
   rw [show R1.box l = (⟨0, 0, 0, 0⟩, false) from if_pos (.inr h1)]
   exact ⟨rfl, rfl, hI1⟩
  ·have hr : R1.right l := Decidable.not_not.1 h1
   have hsrt := R1.right_srt hr
   have hbx := R2.box_some h0 hr
   rw [R1.first_y hsrt (by omega), R1.last_y hsrt (by omega)] at hbx
   have hin : ∀ d ∈ l, R1.inB d := R1.right_inB hr
   have h00 : R1.inB (R1.g l 0) := (hr.1 0 (by omega)).1
   have hll : R1.inB (R1.g l (l.length - 1)) := (hr.1 _ (by omega)).1
   have hs := hs.mono hI1
   have hl2 := hr.2
   refine tri_skip (tT (tS ?_))
   refine tri_draw [0, 1, 2, 3, 4, 5, 6, 7, 8, 9] rfl [] rfl mixed ?_
   refine th_take rfl rfl (by kernel_rfl)  (opv_move rfl) ?_
   refine th_take rfl rfl (by kernel_rfl)  (by first | exact opv_indexAddrA rfl rfl (by first | decide | omega) (by first | decide | omega) | exact opv_indexAddrSN rfl rfl (by omega) (by assumption) rfl | exact opv_indexAddrS rfl rfl (by omega) (by omega) (by assumption) rfl | exact opv_indexAddrE rfl (by assumption) (by omega) rfl (by first | decide | omega) (by first | decide | omega) | exact opv_indexAddrRN rfl rfl (by omega) | exact opv_indexAddrR rfl rfl (by omega) (by omega) | exact opv_indexAddrRA rfl (by omega) rfl (by first | decide | omega) (by first | decide | omega) | exact opv_indexAddrSP rfl rfl (by omega) (by omega) | exact opv_indexAddrSN rfl rfl (by omega) (by assumption) (by omega) | exact opv_indexAddrS rfl rfl (by omega) (by omega) (by assumption) (by omega)) ?_
   refine th_take rfl rfl (by kernel_rfl)  (by first | exact opv_fieldAddr rfl rfl | exact opv_fieldAddrE rfl (by assumption) (by omega) rfl | exact opv_fieldAddrR rfl (by omega) rfl | exact opv_fieldAddrP rfl rfl rfl) ?_
   refine th_take rfl rfl (by kernel_rfl)  (by first | exact opv_load1 rfl rfl rfl | exact opv_loadA rfl rfl rfl | exact opv_loadE1 rfl (by assumption) rfl (by omega) rfl rfl | exact opv_loadEA rfl (by assumption) rfl (by omega) rfl rfl | exact opv_loadRX1 rfl rfl (by omega) rfl rfl | exact opv_loadRXA rfl rfl (by omega) rfl rfl rfl | exact opv_loadIX rfl rfl (by omega) | exact opv_loadR1 rfl rfl rfl | exact opv_loadRA rfl rfl rfl rfl) ?_
   refine th_take rfl rfl (by kernel_rfl)  (opv_move rfl) ?_
   refine th_take rfl rfl (by kernel_rfl)  (by first | exact opv_indexAddrA rfl rfl (by first | decide | omega) (by first | decide | omega) | exact opv_indexAddrSN rfl rfl (by omega) (by assumption) rfl | exact opv_indexAddrS rfl rfl (by omega) (by omega) (by assumption) rfl | exact opv_indexAddrE rfl (by assumption) (by omega) rfl (by first | decide | omega) (by first | decide | omega) | exact opv_indexAddrRN rfl rfl (by omega) | exact opv_indexAddrR rfl rfl (by omega) (by omega) | exact opv_indexAddrRA rfl (by omega) rfl (by first | decide | omega) (by first | decide | omega) | exact opv_indexAddrSP rfl rfl (by omega) (by omega) | exact opv_indexAddrSN rfl rfl (by omega) (by assumption) (by omega) | exact opv_indexAddrS rfl rfl (by omega) (by omega) (by assumption) (by omega)) ?_
   refine th_take rfl rfl (by kernel_rfl)  (by first | exact opv_fieldAddr rfl rfl | exact opv_fieldAddrE rfl (by assumption) (by omega) rfl | exact opv_fieldAddrR rfl (by omega) rfl | exact opv_fieldAddrP rfl rfl rfl) ?_
   refine th_take rfl rfl (by kernel_rfl)  (by first | exact opv_load1 rfl rfl rfl | exact opv_loadA rfl rfl rfl | exact opv_loadE1 rfl (by assumption) rfl (by omega) rfl rfl | exact opv_loadEA rfl (by assumption) rfl (by omega) rfl rfl | exact opv_loadRX1 rfl rfl (by omega) rfl rfl | exact opv_loadRXA rfl rfl (by omega) rfl rfl rfl | exact opv_loadIX rfl rfl (by omega) | exact opv_loadR1 rfl rfl rfl | exact opv_loadRA rfl rfl rfl rfl) ?_
   refine th_take rfl rfl (by kernel_rfl)  (opv_assign rfl) ?_
   refine th_take rfl rfl (by kernel_rfl)  (opv_assign rfl) ?_
   refine th_done (by kernel_rfl) ?_
   refine tT (tS (tS (tR (tM rfl rfl ?_))))
   refine tri_v (opv_len rfl) rfl ?_
   refine tM rfl rfl (tN (tT (tri_block ?_)))
   refine tri_sub (F' := [(0, .slice a l.length cap), (2, pt b2 0), (4, .int .i64 (R1.lo (l.take 0) (R1.g l 0)).x), (5, .int .i64 (R1.hi (l.take 0) (R1.g l 0)).x), (27, .slice a l.length cap), (28, .int .i64 (l.length : Nat)), (29, .int .i64 ((0 : Nat) : Int))]) ⟨rfl, rfl, rfl, rfl, rfl, rfl, rfl, trivial⟩ ?_
   refine loop_ind (G := Nat) (fun i => l.length - i) (fun i => i ≤ l.length) (fun i => [(0, .slice a l.length cap), (2, pt b2 0), (4, .int .i64 (R1.lo (l.take i) (R1.g l 0)).x), (5, .int .i64 (R1.hi (l.take i) (R1.g l 0)).x), (27, .slice a l.length cap), (28, .int .i64 (l.length : Nat)), (29, .int .i64 (i : Nat))]) (fun i => Box b2 [.int .i64 0, .int .i64 0, .int .i64 0, .int .i64 0] 35 :: A) (fun _ => _) ?_ 0 (by omega)
   rintro i hi K hK
   skip
   refine tS (tR ?_)
   refine tri_v (opv_lss rfl rfl) rfl ?_
   refine tN (tT (tS ?_))
   refine tri_cond_dec rfl (fun h => ?_) (fun h => ?_)
   ·have hlt : i < l.length := by omega
    have elo := R1.lo_take l (R1.g l 0) hlt
    have ehi := R1.hi_take l (R1.g l 0) hlt
    have := hK (i + 1) (by omega) (by omega)
    rw [elo, ehi] at this
    refine tri_skip (tT (tS (tri_block (tS (tR ?_)))))
    refine tri_v (by first | exact opv_indexAddrA rfl rfl (by first | decide | omega) (by first | decide | omega) | exact opv_indexAddrSN rfl rfl (by omega) (by assumption) rfl | exact opv_indexAddrS rfl rfl (by omega) (by omega) (by assumption) rfl | exact opv_indexAddrE rfl (by assumption) (by omega) rfl (by first | decide | omega) (by first | decide | omega) | exact opv_indexAddrRN rfl rfl (by omega) | exact opv_indexAddrR rfl rfl (by omega) (by omega) | exact opv_indexAddrRA rfl (by omega) rfl (by first | decide | omega) (by first | decide | omega) | exact opv_indexAddrSP rfl rfl (by omega) (by omega) | exact opv_indexAddrSN rfl rfl (by omega) (by assumption) (by omega) | exact opv_indexAddrS rfl rfl (by omega) (by omega) (by assumption) (by omega)) rfl ?_
    refine tri_v (by first | exact opv_load1 rfl rfl rfl | exact opv_loadA rfl rfl rfl | exact opv_loadE1 rfl (by assumption) rfl (by omega) rfl rfl | exact opv_loadEA rfl (by assumption) rfl (by omega) rfl rfl | exact opv_loadRX1 rfl rfl (by omega) rfl rfl | exact opv_loadRXA rfl rfl (by omega) rfl rfl rfl | exact opv_loadIX rfl rfl (by omega) | exact opv_loadR1 rfl rfl rfl | exact opv_loadRA rfl rfl rfl rfl) rfl ?_
    refine tri_g opg_alloc rfl ?_
    rintro _ _ _ ⟨b7, rfl, rfl, rfl⟩
    refine tri_g (opg_store rfl rfl rfl rfl rfl rfl) rfl ?_
    rintro _ _ _ ⟨rfl, rfl⟩
    refine tN (tT ?_)
    refine tri_draw [0, 1, 2, 3, 4, 5, 6, 7, 8, 9] rfl [] rfl mixed ?_
    refine th_take rfl rfl (by kernel_rfl)  (opv_move rfl) ?_
    refine th_take rfl rfl (by kernel_rfl)  (by first | exact opv_fieldAddr rfl rfl | exact opv_fieldAddrE rfl (by assumption) (by omega) rfl | exact opv_fieldAddrR rfl (by omega) rfl | exact opv_fieldAddrP rfl rfl rfl) ?_
    refine th_take rfl rfl (by kernel_rfl)  (by first | exact opv_load1 rfl rfl rfl | exact opv_loadA rfl rfl rfl | exact opv_loadE1 rfl (by assumption) rfl (by omega) rfl rfl | exact opv_loadEA rfl (by assumption) rfl (by omega) rfl rfl | exact opv_loadRX1 rfl rfl (by omega) rfl rfl | exact opv_loadRXA rfl rfl (by omega) rfl rfl rfl | exact opv_loadIX rfl rfl (by omega) | exact opv_loadR1 rfl rfl rfl | exact opv_loadRA rfl rfl rfl rfl) ?_
    refine th_take rfl rfl (by kernel_rfl)  (opv_min2 rfl rfl) ?_
    refine th_take rfl rfl (by kernel_rfl)  (opv_move rfl) ?_
    refine th_take rfl rfl (by kernel_rfl)  (by first | exact opv_fieldAddr rfl rfl | exact opv_fieldAddrE rfl (by assumption) (by omega) rfl | exact opv_fieldAddrR rfl (by omega) rfl | exact opv_fieldAddrP rfl rfl rfl) ?_
    refine th_take rfl rfl (by kernel_rfl)  (by first | exact opv_load1 rfl rfl rfl | exact opv_loadA rfl rfl rfl | exact opv_loadE1 rfl (by assumption) rfl (by omega) rfl rfl | exact opv_loadEA rfl (by assumption) rfl (by omega) rfl rfl | exact opv_loadRX1 rfl rfl (by omega) rfl rfl | exact opv_loadRXA rfl rfl (by omega) rfl rfl rfl | exact opv_loadIX rfl rfl (by omega) | exact opv_loadR1 rfl rfl rfl | exact opv_loadRA rfl rfl rfl rfl) ?_
    refine th_take rfl rfl (by kernel_rfl)  (opv_max2 rfl rfl) ?_
    refine th_take rfl rfl (by kernel_rfl)  (opv_assign rfl) ?_
    refine th_take rfl rfl (by kernel_rfl)  (opv_assign rfl) ?_
    refine th_done (by kernel_rfl) ?_
    refine tri_inBlock ?_
    refine tT (tR ?_)
    refine tri_v (by first | exact opv_add rfl rfl (w64 (by omega) (by omega))) rfl ?_
    refine tM rfl rfl (tN (tT ?_))
    refine tri_drop ?_
    refine tri_sub ?_ this
    exact ⟨rfl, rfl, rfl, rfl, rfl, rfl, rfl, trivial⟩
   ·have e : l.take i = l := List.take_of_length_le (by omega)
    rw [e]
    have blo := R1.lo_bd h00 hin
    have bhi := R1.hi_bd h00 hin
    have e2 : l.getD ((l.length : Int) - 1).toNat default = R1.g l (l.length - 1) := by rw [show ((l.length : Int) - 1).toNat = l.length - 1 by omega]; rfl
    have hll2 := hll
    rw [← e2] at hll2
    have h002 : R1.inB (l.getD (Int.toNat 0) default) := h00
    unfold R1.inB at blo bhi hll2 h002
    clear hK
    refine tri_exit ?_
    refine tri_then_exit ?_
    refine tri_then_exit ?_
    refine tri_inBlock_hit rfl ?_
    refine tT (tS ?_)
    refine tri_draw [0, 1, 2, 3, 4, 5, 6, 7, 8, 9, 10, 11, 12] rfl [] rfl mixed ?_
    refine th_take rfl rfl (by kernel_rfl)  (opv_move rfl) ?_
    refine th_take rfl rfl (by kernel_rfl)  (by first | exact opv_indexAddrA rfl rfl (by first | decide | omega) (by first | decide | omega) | exact opv_indexAddrSN rfl rfl (by omega) (by assumption) rfl | exact opv_indexAddrS rfl rfl (by omega) (by omega) (by assumption) rfl | exact opv_indexAddrE rfl (by assumption) (by omega) rfl (by first | decide | omega) (by first | decide | omega) | exact opv_indexAddrRN rfl rfl (by omega) | exact opv_indexAddrR rfl rfl (by omega) (by omega) | exact opv_indexAddrRA rfl (by omega) rfl (by first | decide | omega) (by first | decide | omega) | exact opv_indexAddrSP rfl rfl (by omega) (by omega) | exact opv_indexAddrSN rfl rfl (by omega) (by assumption) (by omega) | exact opv_indexAddrS rfl rfl (by omega) (by omega) (by assumption) (by omega)) ?_
    refine th_take rfl rfl (by kernel_rfl)  (by first | exact opv_fieldAddr rfl rfl | exact opv_fieldAddrE rfl (by assumption) (by omega) rfl | exact opv_fieldAddrR rfl (by omega) rfl | exact opv_fieldAddrP rfl rfl rfl) ?_
    refine th_take rfl rfl (by kernel_rfl)  (by first | exact opv_load1 rfl rfl rfl | exact opv_loadA rfl rfl rfl | exact opv_loadE1 rfl (by assumption) rfl (by omega) rfl rfl | exact opv_loadEA rfl (by assumption) rfl (by omega) rfl rfl | exact opv_loadRX1 rfl rfl (by omega) rfl rfl | exact opv_loadRXA rfl rfl (by omega) rfl rfl rfl | exact opv_loadIX rfl rfl (by omega) | exact opv_loadR1 rfl rfl rfl | exact opv_loadRA rfl rfl rfl rfl) ?_
    refine th_take rfl rfl (by kernel_rfl)  (opv_move rfl) ?_
    refine th_take rfl rfl (by kernel_rfl)  (opv_move rfl) ?_
    refine th_take rfl rfl (by kernel_rfl)  (opv_len rfl) ?_
    refine th_take rfl rfl (by kernel_rfl)  (by first | exact opv_sub rfl rfl (w64 (by omega) (by omega)) | exact opv_sub rfl rfl rfl) ?_
    refine th_take rfl rfl (by kernel_rfl)  (by first | exact opv_indexAddrA rfl rfl (by first | decide | omega) (by first | decide | omega) | exact opv_indexAddrSN rfl rfl (by omega) (by assumption) rfl | exact opv_indexAddrS rfl rfl (by omega) (by omega) (by assumption) rfl | exact opv_indexAddrE rfl (by assumption) (by omega) rfl (by first | decide | omega) (by first | decide | omega) | exact opv_indexAddrRN rfl rfl (by omega) | exact opv_indexAddrR rfl rfl (by omega) (by omega) | exact opv_indexAddrRA rfl (by omega) rfl (by first | decide | omega) (by first | decide | omega) | exact opv_indexAddrSP rfl rfl (by omega) (by omega) | exact opv_indexAddrSN rfl rfl (by omega) (by assumption) (by omega) | exact opv_indexAddrS rfl rfl (by omega) (by omega) (by assumption) (by omega)) ?_
    refine th_take rfl rfl (by kernel_rfl)  (by first | exact opv_fieldAddr rfl rfl | exact opv_fieldAddrE rfl (by assumption) (by omega) rfl | exact opv_fieldAddrR rfl (by omega) rfl | exact opv_fieldAddrP rfl rfl rfl) ?_
    refine th_take rfl rfl (by kernel_rfl)  (by first | exact opv_load1 rfl rfl rfl | exact opv_loadA rfl rfl rfl | exact opv_loadE1 rfl (by assumption) rfl (by omega) rfl rfl | exact opv_loadEA rfl (by assumption) rfl (by omega) rfl rfl | exact opv_loadRX1 rfl rfl (by omega) rfl rfl | exact opv_loadRXA rfl rfl (by omega) rfl rfl rfl | exact opv_loadIX rfl rfl (by omega) | exact opv_loadR1 rfl rfl rfl | exact opv_loadRA rfl rfl rfl rfl) ?_
    refine th_take rfl rfl (by kernel_rfl)  (opv_assign rfl) ?_
    refine th_take rfl rfl (by kernel_rfl)  (opv_assign rfl) ?_
    refine th_done (by kernel_rfl) ?_
    refine tT (tS (tR (tM rfl rfl (tM rfl rfl (tM rfl rfl (tM rfl rfl ?_))))))
    refine tri_v (by first | exact opv_sub rfl rfl (w64 (by omega) (by omega)) | exact opv_sub rfl rfl rfl) rfl ?_
    refine tri_v (by first | exact opv_add rfl rfl (w64 (by omega) (by omega))) rfl ?_
    refine tM rfl rfl (tM rfl rfl ?_)
    refine tri_v (by first | exact opv_sub rfl rfl (w64 (by omega) (by omega)) | exact opv_sub rfl rfl rfl) rfl ?_
    refine tri_v (by first | exact opv_add rfl rfl (w64 (by omega) (by omega))) rfl ?_
    refine tri_v (by first | exact opv_buildS rfl rfl | exact opv_buildA rfl rfl) rfl ?_
    refine tri_g (opg_store rfl rfl rfl rfl rfl rfl) rfl ?_
    rintro _ _ _ ⟨rfl, rfl⟩
    refine tA rfl rfl (tN (tT (tri_ret ?_)))
    refine tri_end A Suf.h rfl (.cons (rv_cellA rfl rfl rfl) (.cons (rv_tmp rfl) .nil)) ?_
    rw [hbx]
    refine ⟨?_, rfl, hI1⟩
    rw [e2]
    rfl
end Go.GL


set_option linter.unusedVariables false
namespace Go.GL
open Go.Proofs
attribute [local irreducible] wpList Code.wp Exit.then Exit.inBlock Ends Tri TriH OpV OpG FnC epf wpAnyH
variable {A : List Asrt} {I : List Chunk}
end Go.GL


set_option linter.unusedVariables false
namespace Go.GL
open Go.Proofs
attribute [local irreducible] wpList Code.wp Exit.then Exit.inBlock Ends Tri TriH OpV OpG FnC epf wpAnyH
variable {A : List Asrt} {I : List Chunk}
end Go.GL


set_option linter.unusedVariables false
namespace Go.GL
open Go.Proofs
attribute [local irreducible] wpList Code.wp Exit.then Exit.inBlock Ends Tri TriH OpV OpG FnC epf wpAnyH
variable {A : List Asrt} {I : List Chunk}
set_option maxRecDepth 100000 in
theorem law01_pick {c n : Int} (h0 : -9223372036854775808 ≤ c) (h1 : c ≤ 9223372036854775807) (hn : 0 < n) : FnC Try.prog 18 [.int .i64 c, .int .i64 n].toArray A I (fun v A' I' => v = .int .i64 (pk c n) ∧ A = A' ∧ I = I') := by
 refine fn_enter2 Try.func18 rfl Try.ntmps18 rfl fun w0 => ?_
 refine tS (tR (tA rfl rfl (tN (tT (tS (tS (tR ?_)))))))
 refine tM rfl rfl ?_
 refine tri_v (opv_lss rfl rfl) rfl ?_
 refine tN (tT ?_)
 refine tri_cond_dec rfl (fun h => ?_) (fun h => ?_)
 ·refine tR (tM rfl rfl ?_)
  refine tri_v (by first | exact opv_add rfl rfl (w64 (by omega) (by omega))) rfl ?_
  refine tri_v (by first | exact opv_negE rfl (by omega) (by omega)) rfl ?_
  refine tA rfl rfl (tN (tT (tS (tR (tM rfl rfl (tM rfl rfl ?_))))))
  refine tri_v (by first | exact opv_remE rfl rfl (by omega) (by omega) | exact opv_rem rfl rfl (by omega) rfl) rfl ?_
  refine tA rfl rfl (tN (tT (tri_ret ?_)))
  refine tri_end A Suf.h rfl (.cons (rv_tmp rfl) .nil) ⟨?_, rfl, rfl⟩
  rw [pk, if_pos h]; rfl
 ·refine tri_skip (tT (tS (tR (tM rfl rfl (tM rfl rfl ?_)))))
  refine tri_v (by first | exact opv_remE rfl rfl (by omega) (by omega) | exact opv_rem rfl rfl (by omega) rfl) rfl ?_
  refine tA rfl rfl (tN (tT (tri_ret ?_)))
  refine tri_end A Suf.h rfl (.cons (rv_tmp rfl) .nil) ⟨?_, rfl, rfl⟩
  rw [pk, if_neg h]; rfl
set_option maxRecDepth 100000 in
theorem law01_setA {l : List Cell} {a : Option Addr} {cap : Nat} (hs : SlAt I a l) (hc : RL.Cs l) :
  FnC Try.prog 10 [.slice a l.length cap].toArray A I (fun v A' I' => ∃ a' cap', v = .slice a' (RL.set l).length cap' ∧ StA I' a' cap' (RL.set l) ∧ A = A' ∧ I ⊆ I') := by
 refine fn_enter1 Try.func10 rfl Try.ntmps10 rfl fun w0 => ?_
 refine tS (tR (tA rfl rfl (tN (tT (tS (tR (tA rfl rfl ?_)))))))
 refine tN (tT (tS (tS (tR (tA rfl rfl (tN (tT ?_)))))))
 refine tri_block ?_
 refine tri_sub (F' := [(0, .slice a l.length cap), (3, .slice none 0 0), (4, .int .i64 (0 : Nat))]) ⟨rfl, rfl, rfl, trivial⟩ ?_
 refine loop_ind (G := Nat × Option Addr × Nat × List Chunk) (fun g => 60 - g.1) (fun g => g.1 ≤ l.length ∧ g.1 ≤ 60 ∧ StA g.2.2.2 g.2.1 g.2.2.1 (R1.puts ((l.take g.1).map RL.cell16)) ∧ I ⊆ g.2.2.2) (fun g => [(0, .slice a l.length cap), (3, .slice g.2.1 (R1.puts ((l.take g.1).map RL.cell16)).length g.2.2.1), (4, .int .i64 (g.1 : Nat))]) (fun _ => A) (fun g => g.2.2.2) ?_ (0, none, 0, I) ⟨by omega, by omega, StA.nil, fun _ h => h⟩
 rintro ⟨i, a1, cap1, I1⟩ ⟨hi, hi6, hs1, hI1⟩ K hK
 simp only at hi hi6 hs1 hI1 hK ⊢
 have hsm : SlAt I1 a l := hs.mono hI1
 have fin : i = l.length ∨ i = 60 → RL.set l = R1.puts ((l.take i).map RL.cell16) := by
  rintro (rfl | rfl)
  ·unfold RL.set
   rw [List.take_length, List.take_of_length_le (by omega)]
  ·rfl
 skip
 refine tS (tS (tR (tM rfl rfl (tM rfl rfl ?_))))
 refine tri_v (opv_len rfl) rfl ?_
 refine tri_v (opv_lss rfl rfl) rfl ?_
 refine tM rfl rfl ?_
 refine tri_split rfl rfl (fun h => ?_) (fun h => ?_)
 ·refine tri_guard_run rfl rfl rfl (tM rfl rfl (tri_guard_run rfl rfl rfl ?_))
  refine tri_v (opv_lss rfl rfl) rfl ?_
  refine tri_v (by first | exact opv_pick_t rfl rfl | exact opv_pick_f rfl rfl | exact opv_pick_bool rfl rfl rfl | exact opv_pick rfl rfl rfl) rfl ?_
  refine tN (tT ?_)
  refine tri_cond_dec rfl (fun h2 => ?_) (fun h2 => ?_)
  ·refine tri_skip (tT (tS (tri_block ?_)))
   refine tri_draw [0, 1, 2, 3, 4, 5, 8, 9, 10, 11, 12, 6, 7, 13, 14, 15, 16, 17] rfl [] rfl mixed ?_
   refine th_take rfl rfl (by kernel_rfl)  (opv_move rfl) ?_
   refine th_take rfl rfl (by kernel_rfl)  (opv_move rfl) ?_
   refine th_take rfl rfl (by kernel_rfl)  (opv_move rfl) ?_
   refine th_take rfl rfl (by kernel_rfl)  (by first | exact opv_indexAddrA rfl rfl (by first | decide | omega) (by first | decide | omega) | exact opv_indexAddrSN rfl rfl (by omega) (by assumption) rfl | exact opv_indexAddrS rfl rfl (by omega) (by omega) (by assumption) rfl | exact opv_indexAddrE rfl (by assumption) (by omega) rfl (by first | decide | omega) (by first | decide | omega) | exact opv_indexAddrRN rfl rfl (by omega) | exact opv_indexAddrR rfl rfl (by omega) (by omega) | exact opv_indexAddrRA rfl (by omega) rfl (by first | decide | omega) (by first | decide | omega) | exact opv_indexAddrSP rfl rfl (by omega) (by omega) | exact opv_indexAddrSN rfl rfl (by omega) (by assumption) (by omega) | exact opv_indexAddrS rfl rfl (by omega) (by omega) (by assumption) (by omega)) ?_
   refine th_take rfl rfl (by kernel_rfl)  (by first | exact opv_indexAddrA rfl rfl (by first | decide | omega) (by first | decide | omega) | exact opv_indexAddrSN rfl rfl (by omega) (by assumption) rfl | exact opv_indexAddrS rfl rfl (by omega) (by omega) (by assumption) rfl | exact opv_indexAddrE rfl (by assumption) (by omega) rfl (by first | decide | omega) (by first | decide | omega) | exact opv_indexAddrRN rfl rfl (by omega) | exact opv_indexAddrR rfl rfl (by omega) (by omega) | exact opv_indexAddrRA rfl (by omega) rfl (by first | decide | omega) (by first | decide | omega) | exact opv_indexAddrSP rfl rfl (by omega) (by omega) | exact opv_indexAddrSN rfl rfl (by omega) (by assumption) (by omega) | exact opv_indexAddrS rfl rfl (by omega) (by omega) (by assumption) (by omega)) ?_
   refine th_take rfl rfl (by kernel_rfl)  (by first | exact opv_load1 rfl rfl rfl | exact opv_loadA rfl rfl rfl | exact opv_loadE1 rfl (by assumption) rfl (by omega) rfl rfl | exact opv_loadEA rfl (by assumption) rfl (by omega) rfl rfl | exact opv_loadRX1 rfl rfl (by omega) rfl rfl | exact opv_loadRXA rfl rfl (by omega) rfl rfl rfl | exact opv_loadIX rfl rfl (by omega) | exact opv_loadR1 rfl rfl rfl | exact opv_loadRA rfl rfl rfl rfl) ?_
   refine th_take rfl rfl (by kernel_rfl)  (opv_move rfl) ?_
   refine th_take rfl rfl (by kernel_rfl)  (opv_move rfl) ?_
   refine th_take rfl rfl (by kernel_rfl)  (by first | exact opv_indexAddrA rfl rfl (by first | decide | omega) (by first | decide | omega) | exact opv_indexAddrSN rfl rfl (by omega) (by assumption) rfl | exact opv_indexAddrS rfl rfl (by omega) (by omega) (by assumption) rfl | exact opv_indexAddrE rfl (by assumption) (by omega) rfl (by first | decide | omega) (by first | decide | omega) | exact opv_indexAddrRN rfl rfl (by omega) | exact opv_indexAddrR rfl rfl (by omega) (by omega) | exact opv_indexAddrRA rfl (by omega) rfl (by first | decide | omega) (by first | decide | omega) | exact opv_indexAddrSP rfl rfl (by omega) (by omega) | exact opv_indexAddrSN rfl rfl (by omega) (by assumption) (by omega) | exact opv_indexAddrS rfl rfl (by omega) (by omega) (by assumption) (by omega)) ?_
   refine th_take rfl rfl (by kernel_rfl)  (by first | exact opv_indexAddrA rfl rfl (by first | decide | omega) (by first | decide | omega) | exact opv_indexAddrSN rfl rfl (by omega) (by assumption) rfl | exact opv_indexAddrS rfl rfl (by omega) (by omega) (by assumption) rfl | exact opv_indexAddrE rfl (by assumption) (by omega) rfl (by first | decide | omega) (by first | decide | omega) | exact opv_indexAddrRN rfl rfl (by omega) | exact opv_indexAddrR rfl rfl (by omega) (by omega) | exact opv_indexAddrRA rfl (by omega) rfl (by first | decide | omega) (by first | decide | omega) | exact opv_indexAddrSP rfl rfl (by omega) (by omega) | exact opv_indexAddrSN rfl rfl (by omega) (by assumption) (by omega) | exact opv_indexAddrS rfl rfl (by omega) (by omega) (by assumption) (by omega)) ?_
   refine th_take rfl rfl (by kernel_rfl)  (by first | exact opv_load1 rfl rfl rfl | exact opv_loadA rfl rfl rfl | exact opv_loadE1 rfl (by assumption) rfl (by omega) rfl rfl | exact opv_loadEA rfl (by assumption) rfl (by omega) rfl rfl | exact opv_loadRX1 rfl rfl (by omega) rfl rfl | exact opv_loadRXA rfl rfl (by omega) rfl rfl rfl | exact opv_loadIX rfl rfl (by omega) | exact opv_loadR1 rfl rfl rfl | exact opv_loadRA rfl rfl rfl rfl) ?_
   have hlt : i < l.length := by omega
   have hci := hc i hlt
   have hcx := hci.1
   have hcy := hci.2
   have px := pk_bd (c := (l.getD i default).x) (n := 16) (by omega)
   have py := pk_bd (c := (l.getD i default).y) (n := 16) (by omega)
   have hl1 := R1.puts_len ((l.take i).map RL.cell16)
   rw [List.length_map, List.length_take] at hl1
   refine th_one (by kernel_rfl) (step_m rfl rfl (opg_call (xs := [_, _]) rfl (law01_pick (c := (l.getD i default).x) hcx.1 hcx.2 (by decide))) ?_)
   rintro _ _ _ ⟨rfl, rfl, rfl⟩
   refine ⟨Suf.h, (by first | exact fun _ h => h | assumption | exact fun _ h => (by assumption : _ ⊆ _) ((by assumption : _ ⊆ _) h)), ?_⟩
   refine th_take rfl rfl (by kernel_rfl)  (by first | exact opv_sub rfl rfl (w64 (by omega) (by omega)) | exact opv_sub rfl rfl rfl) ?_
   refine th_one (by kernel_rfl) (step_m rfl rfl (opg_call (xs := [_, _]) rfl (law01_pick (c := (l.getD i default).y) hcy.1 hcy.2 (by decide))) ?_)
   rintro _ _ _ ⟨rfl, rfl, rfl⟩
   refine ⟨Suf.h, (by first | exact fun _ h => h | assumption | exact fun _ h => (by assumption : _ ⊆ _) ((by assumption : _ ⊆ _) h)), ?_⟩
   refine th_take rfl rfl (by kernel_rfl)  (by first | exact opv_sub rfl rfl (w64 (by omega) (by omega)) | exact opv_sub rfl rfl rfl) ?_
   refine th_take rfl rfl (by kernel_rfl)  (by first | exact opv_buildS rfl rfl | exact opv_buildA rfl rfl) ?_
   refine th_one (by kernel_rfl) (step_m rfl rfl (opg_call (xs := [_, _]) rfl (ref01_putA (c := RL.cell16 (l.getD i default)) hs1.sl (by omega))) ?_)
   rintro _ _ I2 ⟨a2, cap2, rfl, hs2, rfl, hI2⟩
   refine ⟨Suf.h, (by first | exact fun _ h => h | assumption | exact fun _ h => (by assumption : _ ⊆ _) ((by assumption : _ ⊆ _) h)), ?_⟩
   refine th_take rfl rfl (by kernel_rfl)  (opv_assign rfl) ?_
   refine th_done (by kernel_rfl) ?_
   refine tri_inBlock ?_
   refine tT (tR (tM rfl rfl ?_))
   refine tri_v (by first | exact opv_add rfl rfl (w64 (by omega) (by omega))) rfl ?_
   refine tA rfl rfl (tN (tT ?_))
   have e : R1.puts ((l.take (i + 1)).map RL.cell16) = R1.put (R1.puts ((l.take i).map RL.cell16)) (RL.cell16 (l.getD i default)) := by
    rw [← R1.puts_snoc, List.take_succ_eq_append_getElem hlt, List.map_append, show l.getD i default = l[i] by simp [hlt]]; rfl
   refine tri_sub ?_ (hK (i + 1, a2, cap2, I2) ⟨by simp only; omega, by simp only; omega, by simp only [e]; exact hs2, fun _ h => hI2 (hI1 h)⟩ (by simp only; omega))
   simp only [e]
   exact ⟨rfl, rfl, rfl, trivial⟩
  ·refine tri_exit ?_
   refine tri_then_exit ?_
   refine tri_then_exit ?_
   refine tri_inBlock_hit rfl ?_
   refine tT (tS (tR (tM rfl rfl (tA rfl rfl (tN (tT (tri_ret ?_)))))))
   refine tri_end A Suf.h rfl (.cons (rv_tmp rfl) .nil) ⟨a1, cap1, ?_, ?_, rfl, hI1⟩
   ·rw [fin (by omega)]; rfl
   ·rw [fin (by omega)]; exact hs1
 ·refine tri_guard_skip rfl rfl rfl rfl (tri_guard_skip rfl rfl rfl rfl ?_)
  refine tri_v (by first | exact opv_pick_t rfl rfl | exact opv_pick_f rfl rfl | exact opv_pick_bool rfl rfl rfl | exact opv_pick rfl rfl rfl) rfl ?_
  refine tN (tT ?_)
  refine tri_cond_false rfl ?_
  refine tri_exit ?_
  refine tri_then_exit ?_
  refine tri_then_exit ?_
  refine tri_inBlock_hit rfl ?_
  refine tT (tS (tR (tM rfl rfl (tA rfl rfl (tN (tT (tri_ret ?_)))))))
  refine tri_end A Suf.h rfl (.cons (rv_tmp rfl) .nil) ⟨a1, cap1, ?_, ?_, rfl, hI1⟩
  ·rw [fin (by omega)]; rfl
  ·rw [fin (by omega)]; exact hs1
theorem law01_set {l : List Cell} {a : Option Addr} {cap : Nat} (hs : SlAt I a l) (hc : RL.Cs l) :
  FnC Try.prog 10 [.slice a l.length cap].toArray A I (fun v A' I' => ∃ a' cap', v = .slice a' (RL.set l).length cap' ∧ SlAt I' a' (RL.set l) ∧ A = A' ∧ I ⊆ I') :=
 (law01_setA hs hc).mono fun v A' I' ⟨a', c', h1, h2, h3, h4⟩ => ⟨a', c', h1, h2.sl, h3, h4⟩
end Go.GL


set_option linter.unusedVariables false
namespace Go.GL
open Go.Proofs
attribute [local irreducible] wpList Code.wp Exit.then Exit.inBlock Ends Tri TriH OpV OpG FnC epf wpAnyH
variable {A : List Asrt} {I : List Chunk}
set_option maxHeartbeats 4000000 in
set_option maxRecDepth 100000 in
theorem law01_awake : FnC Try.prog 9 [].toArray A I (fun v A' I' => v = .bool true ∧ A = A' ∧ I ⊆ I') := by
 obtain ⟨l1, hl1⟩ : ∃ l1 : List Cell, l1 = [⟨1, 0⟩, ⟨0, 1⟩] := ⟨_, rfl⟩
 have e1 : (R1.of [⟨1, 0⟩, ⟨0, 1⟩, ⟨1, 0⟩]).1 = l1 := by subst hl1; decide +kernel
 have e2 : (R1.of [⟨1, 0⟩, ⟨0, 1⟩, ⟨1, 0⟩]).2 = 0 := by decide +kernel
 have n1 : l1.length = 2 := by subst hl1; rfl
 have n2 : l1.getD 0 default = ⟨1, 0⟩ := by subst hl1; rfl
 have b1 : (R1.box l1).1 = ⟨0, 0, 2, 2⟩ := by subst hl1; decide +kernel
 have b2 : (R1.box l1).2 = true := by subst hl1; decide +kernel
 have w1 : (R1.wth l1 ⟨1, 0⟩ false).2 = 0 := by subst hl1; decide +kernel
 have w2 : (R1.wth l1 ⟨1, 0⟩ false).1.length = 1 := by subst hl1; decide +kernel
 have w3 : (R1.wth l1 ⟨1, 0⟩ false).1.getD 0 default = ⟨0, 1⟩ := by subst hl1; decide +kernel
 have s1 : (R1.shift l1 5 (-5)).2 = 0 := by subst hl1; decide +kernel
 have s2 : (R1.shift l1 5 (-5)).1.length = 2 := by subst hl1; decide +kernel
 have s3 : (R1.shift l1 5 (-5)).1.getD 0 default = ⟨6, -5⟩ := by subst hl1; decide +kernel
 have r1 : R1.right l1 := by subst hl1; decide +kernel
 have r2 : ¬ R1.right [⟨0, 0⟩, ⟨0, 0⟩] := by decide +kernel
 have h1 : (⟨0, 1⟩ : Cell) ∈ l1 := by subst hl1; decide
 have h2 : (⟨0, 0⟩ : Cell) ∉ l1 := by subst hl1; decide
 have f1 : (R1.of [⟨1099511627777, 0⟩]).2 = 2 := by decide +kernel
 have z1 : (R1.box []).2 = false := by decide +kernel
 clear hl1
 skip
 skip
 refine fn_enter0 Try.func9 rfl Try.ntmps9 rfl fun w0 => ?_
 refine tS (tR (tA rfl rfl (tN (tT (tS (tR ?_))))))
 refine tri_v (by first | exact opv_buildS rfl rfl | exact opv_buildA rfl rfl) rfl ?_
 refine tri_v (by first | exact opv_buildS rfl rfl | exact opv_buildA rfl rfl) rfl ?_
 refine tri_v (by first | exact opv_buildS rfl rfl | exact opv_buildA rfl rfl) rfl ?_
 refine tri_g (opg_buildSlice rfl rfl rfl rfl) rfl ?_
 rintro _ _ _ ⟨b17, rfl, rfl, rfl⟩
 refine tri_freezeBoxS ([⟨1, 0⟩, ⟨0, 1⟩, ⟨1, 0⟩] : List Cell) rfl fun J1 hJ1 hs1 => ?_
 refine tri_g (opg_call (xs := [_]) rfl (cells_of hs1 (by decide))) rfl ?_
 rintro _ _ I1 ⟨a1, c1, rfl, hr1, rfl, hI1⟩
 rw [e1] at hr1
 rw [e1, e2]
 refine tM rfl rfl ?_
 refine tri_v (opv_extract rfl rfl) rfl ?_
 refine tri_v (opv_extract rfl rfl) rfl ?_
 refine tA rfl rfl (tA rfl rfl (tN (tT (tS (tR (tM rfl rfl ?_))))))
 refine tri_g (opg_call (xs := [_]) rfl (cells_box hr1 (by omega))) rfl ?_
 rintro _ _ I2 ⟨rfl, rfl, hI2⟩
 rw [b1, b2]
 refine tM rfl rfl ?_
 refine tri_v (opv_extract rfl rfl) rfl ?_
 refine tri_v (opv_extract rfl rfl) rfl ?_
 refine tri_g opg_alloc rfl ?_
 rintro _ _ _ ⟨b3, rfl, rfl, rfl⟩
 refine tri_g (opg_store rfl rfl rfl rfl rfl rfl) rfl ?_
 rintro _ _ _ ⟨rfl, rfl⟩
 refine tA rfl rfl (tN (tT (tS (tR ?_))))
 refine tri_v (by first | exact opv_buildS rfl rfl | exact opv_buildA rfl rfl) rfl ?_
 refine tri_g (opg_buildSlice rfl rfl rfl rfl) rfl ?_
 rintro _ _ _ ⟨b28, rfl, rfl, rfl⟩
 refine tri_freezeBoxS ([⟨1099511627777, 0⟩] : List Cell) rfl fun J2 hJ2 hs2 => ?_
 refine tri_g (opg_call (xs := [_]) rfl (cells_of hs2 (by decide))) rfl ?_
 rintro _ _ I3 ⟨a3, c3, rfl, hr3, rfl, hI3⟩
 rw [f1]
 have hr1 := hr1.mono fun _ h => hI3 (hJ2 (hI2 h))
 refine tM rfl rfl ?_
 refine tri_v (opv_extract rfl rfl) rfl ?_
 refine tri_v (opv_extract rfl rfl) rfl ?_
 refine tA rfl rfl (tA rfl rfl (tN (tT (tS (tR (tM rfl rfl ?_))))))
 refine tri_v (by first | exact opv_buildS rfl rfl | exact opv_buildA rfl rfl) rfl ?_
 refine tri_g (opg_call (xs := [_, _, _]) rfl (cells_with (c := (⟨1, 0⟩ : Cell)) (alive := false) hr1 (by omega))) rfl ?_
 rintro _ _ I4 ⟨a4, c4, rfl, hr4, rfl, hI4⟩
 rw [w1]
 have hr1 := hr1.mono hI4
 refine tM rfl rfl ?_
 refine tri_v (opv_extract rfl rfl) rfl ?_
 refine tri_v (opv_extract rfl rfl) rfl ?_
 refine tA rfl rfl (tA rfl rfl (tN (tT (tS (tR (tM rfl rfl ?_))))))
 refine tri_g (opg_call (xs := [_, _, _]) rfl (cells_shift hr1 (by omega) ⟨by decide, by decide⟩ ⟨by decide, by decide⟩)) rfl ?_
 rintro _ _ I5 ⟨a5, c5, rfl, hr5, rfl, hI5⟩
 rw [s1]
 have hr1 := hr1.mono hI5
 have hr4 := hr4.mono hI5
 refine tM rfl rfl ?_
 refine tri_v (opv_extract rfl rfl) rfl ?_
 refine tri_v (opv_extract rfl rfl) rfl ?_
 refine tA rfl rfl (tA rfl rfl (tN (tT (tS (tR ?_)))))
 refine tri_g (opg_call (xs := [_]) rfl (cells_box (l := []) SlAt.nil (by decide))) rfl ?_
 rintro _ _ I6 ⟨rfl, rfl, hI6⟩
 rw [z1]
 have hr1 := hr1.mono hI6
 have hr4 := hr4.mono hI6
 have hr5 := hr5.mono hI6
 have I06 : I ⊆ I6 := fun _ h => hI6 (hI5 (hI4 (hI3 (hJ2 (hI2 (hI1 (hJ1 h)))))))
 generalize R1.wth l1 ⟨1, 0⟩ false = wt at *
 generalize R1.shift l1 5 (-5) = sh at *
 refine tM rfl rfl ?_
 refine tri_v (opv_extract rfl rfl) rfl ?_
 refine tri_v (opv_extract rfl rfl) rfl ?_
 refine tri_g opg_alloc rfl ?_
 rintro _ _ _ ⟨b11, rfl, rfl, rfl⟩
 refine tri_g (opg_store rfl rfl rfl rfl rfl rfl) rfl ?_
 rintro _ _ _ ⟨rfl, rfl⟩
 refine tA rfl rfl (tN (tT (tS (tS (tR (tM rfl rfl ?_))))))
 refine tri_v (opv_len rfl) rfl ?_
 refine tri_v (by first | exact opv_neq rfl rfl | exact opv_neqI rfl rfl rfl rfl rfl rfl | exact opv_neqB rfl rfl) rfl ?_
 refine tM rfl rfl ?_
 refine tri_false rfl rfl ((by omega)) ?_
 refine tri_guard_run rfl rfl rfl (tM rfl rfl (tri_guard_run rfl rfl rfl ?_))
 refine tri_v (opv_len rfl) rfl ?_
 refine tri_guard_run rfl rfl rfl ?_
 refine tri_v (by first | exact opv_neq rfl rfl | exact opv_neqI rfl rfl rfl rfl rfl rfl | exact opv_neqB rfl rfl) rfl ?_
 refine tri_v (by first | exact opv_pick_t rfl rfl | exact opv_pick_f rfl rfl | exact opv_pick_bool rfl rfl rfl | exact opv_pick rfl rfl rfl) rfl ?_
 refine tM rfl rfl ?_
 refine tri_false rfl rfl ((by omega)) ?_
 refine tri_guard_run rfl rfl rfl (tM rfl rfl (tri_guard_run rfl rfl rfl ?_))
 refine tri_v (opv_len rfl) rfl ?_
 refine tri_guard_run rfl rfl rfl ?_
 refine tri_v (by first | exact opv_neq rfl rfl | exact opv_neqI rfl rfl rfl rfl rfl rfl | exact opv_neqB rfl rfl) rfl ?_
 refine tri_v (by first | exact opv_pick_t rfl rfl | exact opv_pick_f rfl rfl | exact opv_pick_bool rfl rfl rfl | exact opv_pick rfl rfl rfl) rfl ?_
 refine tN (tT ?_)
 refine tri_cond_not rfl ((by omega)) ?_
 refine tri_skip (tT (tS (tR (tM rfl rfl ?_))))
 refine tri_v (by first | exact opv_eql rfl rfl | exact opv_eqlI rfl rfl rfl rfl rfl rfl | exact opv_eqlB rfl rfl | exact opv_eqlNil rfl rfl) rfl ?_
 refine tM rfl rfl ?_
 refine tri_true rfl rfl (rfl) ?_
 refine tri_guard_run rfl rfl rfl (tM rfl rfl (tri_guard_run rfl rfl rfl ?_))
 refine tri_v (by first | exact opv_indexAddrA rfl rfl (by first | decide | omega) (by first | decide | omega) | exact opv_indexAddrSN rfl rfl (by omega) (by assumption) rfl | exact opv_indexAddrS rfl rfl (by omega) (by omega) (by assumption) rfl | exact opv_indexAddrE rfl (by assumption) (by omega) rfl (by first | decide | omega) (by first | decide | omega) | exact opv_indexAddrRN rfl rfl (by omega) | exact opv_indexAddrR rfl rfl (by omega) (by omega) | exact opv_indexAddrRA rfl (by omega) rfl (by first | decide | omega) (by first | decide | omega) | exact opv_indexAddrSP rfl rfl (by omega) (by omega) | exact opv_indexAddrSN rfl rfl (by omega) (by assumption) (by omega) | exact opv_indexAddrS rfl rfl (by omega) (by omega) (by assumption) (by omega)) rfl ?_
 refine tri_guard_run rfl rfl rfl ?_
 refine tri_v (by first | exact opv_load1 rfl rfl rfl | exact opv_loadA rfl rfl rfl | exact opv_loadE1 rfl (by assumption) rfl (by omega) rfl rfl | exact opv_loadEA rfl (by assumption) rfl (by omega) rfl rfl | exact opv_loadRX1 rfl rfl (by omega) rfl rfl | exact opv_loadRXA rfl rfl (by omega) rfl rfl rfl | exact opv_loadIX rfl rfl (by omega) | exact opv_loadR1 rfl rfl rfl | exact opv_loadRA rfl rfl rfl rfl) rfl ?_
 refine tri_guard_run rfl rfl rfl ?_
 refine tri_v (by first | exact opv_buildS rfl rfl | exact opv_buildA rfl rfl) rfl ?_
 refine tri_guard_run rfl rfl rfl ?_
 refine tri_v (by first | exact opv_eql rfl rfl | exact opv_eqlI rfl rfl rfl rfl rfl rfl | exact opv_eqlB rfl rfl | exact opv_eqlNil rfl rfl) rfl ?_
 refine tri_v (by first | exact opv_pick_t rfl rfl | exact opv_pick_f rfl rfl | exact opv_pick_bool rfl rfl rfl | exact opv_pick rfl rfl rfl) rfl ?_
 refine tM rfl rfl ?_
 refine tri_true rfl rfl ((by show [(l1.getD 0 default).x, (l1.getD 0 default).y] = _; rw [n2])) ?_
 refine tri_guard_run rfl rfl rfl ?_
 refine tri_v (by first | exact opv_load1 rfl rfl rfl | exact opv_loadA rfl rfl rfl | exact opv_loadE1 rfl (by assumption) rfl (by omega) rfl rfl | exact opv_loadEA rfl (by assumption) rfl (by omega) rfl rfl | exact opv_loadRX1 rfl rfl (by omega) rfl rfl | exact opv_loadRXA rfl rfl (by omega) rfl rfl rfl | exact opv_loadIX rfl rfl (by omega) | exact opv_loadR1 rfl rfl rfl | exact opv_loadRA rfl rfl rfl rfl) rfl ?_
 refine tri_guard_run rfl rfl rfl ?_
 refine tri_v (by first | exact opv_buildS rfl rfl | exact opv_buildA rfl rfl) rfl ?_
 refine tri_guard_run rfl rfl rfl ?_
 refine tri_v (by first | exact opv_eql rfl rfl | exact opv_eqlI rfl rfl rfl rfl rfl rfl | exact opv_eqlB rfl rfl | exact opv_eqlNil rfl rfl) rfl ?_
 refine tri_v (by first | exact opv_pick_t rfl rfl | exact opv_pick_f rfl rfl | exact opv_pick_bool rfl rfl rfl | exact opv_pick rfl rfl rfl) rfl ?_
 refine tM rfl rfl ?_
 refine tri_true rfl rfl (rfl) ?_
 refine tri_guard_run rfl rfl rfl (tM rfl rfl ?_)
 refine tri_v (by first | exact opv_pick_t rfl rfl | exact opv_pick_f rfl rfl | exact opv_pick_bool rfl rfl rfl | exact opv_pick rfl rfl rfl) rfl ?_
 refine tM rfl rfl ?_
 refine tri_bool 77 rfl (fun _ => ?_) (fun h => absurd h (by decide))
 refine tri_guard_run rfl rfl rfl (tM rfl rfl (tri_guard_run rfl rfl rfl ?_))
 refine tri_v (by first | exact opv_eql rfl rfl | exact opv_eqlI rfl rfl rfl rfl rfl rfl | exact opv_eqlB rfl rfl | exact opv_eqlNil rfl rfl) rfl ?_
 refine tri_v (by first | exact opv_pick_t rfl rfl | exact opv_pick_f rfl rfl | exact opv_pick_bool rfl rfl rfl | exact opv_pick rfl rfl rfl) rfl ?_
 refine tM rfl rfl ?_
 refine tri_true rfl rfl (rfl) ?_
 refine tri_guard_run rfl rfl rfl (tM rfl rfl (tri_guard_run rfl rfl rfl ?_))
 refine tri_v (by first | exact opv_eql rfl rfl | exact opv_eqlI rfl rfl rfl rfl rfl rfl | exact opv_eqlB rfl rfl | exact opv_eqlNil rfl rfl) rfl ?_
 refine tri_v (by first | exact opv_pick_t rfl rfl | exact opv_pick_f rfl rfl | exact opv_pick_bool rfl rfl rfl | exact opv_pick rfl rfl rfl) rfl ?_
 refine tM rfl rfl ?_
 refine tri_true rfl rfl (rfl) ?_
 refine tri_guard_run rfl rfl rfl (tM rfl rfl (tri_guard_run rfl rfl rfl ?_))
 refine tri_v (by first | exact opv_indexAddrA rfl rfl (by first | decide | omega) (by first | decide | omega) | exact opv_indexAddrSN rfl rfl (by omega) (by assumption) rfl | exact opv_indexAddrS rfl rfl (by omega) (by omega) (by assumption) rfl | exact opv_indexAddrE rfl (by assumption) (by omega) rfl (by first | decide | omega) (by first | decide | omega) | exact opv_indexAddrRN rfl rfl (by omega) | exact opv_indexAddrR rfl rfl (by omega) (by omega) | exact opv_indexAddrRA rfl (by omega) rfl (by first | decide | omega) (by first | decide | omega) | exact opv_indexAddrSP rfl rfl (by omega) (by omega) | exact opv_indexAddrSN rfl rfl (by omega) (by assumption) (by omega) | exact opv_indexAddrS rfl rfl (by omega) (by omega) (by assumption) (by omega)) rfl ?_
 refine tri_guard_run rfl rfl rfl ?_
 refine tri_v (by first | exact opv_load1 rfl rfl rfl | exact opv_loadA rfl rfl rfl | exact opv_loadE1 rfl (by assumption) rfl (by omega) rfl rfl | exact opv_loadEA rfl (by assumption) rfl (by omega) rfl rfl | exact opv_loadRX1 rfl rfl (by omega) rfl rfl | exact opv_loadRXA rfl rfl (by omega) rfl rfl rfl | exact opv_loadIX rfl rfl (by omega) | exact opv_loadR1 rfl rfl rfl | exact opv_loadRA rfl rfl rfl rfl) rfl ?_
 refine tri_guard_run rfl rfl rfl ?_
 refine tri_v (by first | exact opv_buildS rfl rfl | exact opv_buildA rfl rfl) rfl ?_
 refine tri_guard_run rfl rfl rfl ?_
 refine tri_v (by first | exact opv_eql rfl rfl | exact opv_eqlI rfl rfl rfl rfl rfl rfl | exact opv_eqlB rfl rfl | exact opv_eqlNil rfl rfl) rfl ?_
 refine tri_v (by first | exact opv_pick_t rfl rfl | exact opv_pick_f rfl rfl | exact opv_pick_bool rfl rfl rfl | exact opv_pick rfl rfl rfl) rfl ?_
 refine tM rfl rfl ?_
 refine tri_true rfl rfl ((by show [(wt.1.getD 0 default).x, (wt.1.getD 0 default).y] = _; rw [w3])) ?_
 refine tri_guard_run rfl rfl rfl (tM rfl rfl (tri_guard_run rfl rfl rfl ?_))
 refine tri_v (by first | exact opv_eql rfl rfl | exact opv_eqlI rfl rfl rfl rfl rfl rfl | exact opv_eqlB rfl rfl | exact opv_eqlNil rfl rfl) rfl ?_
 refine tri_v (by first | exact opv_pick_t rfl rfl | exact opv_pick_f rfl rfl | exact opv_pick_bool rfl rfl rfl | exact opv_pick rfl rfl rfl) rfl ?_
 refine tM rfl rfl ?_
 refine tri_true rfl rfl (rfl) ?_
 refine tri_guard_run rfl rfl rfl (tM rfl rfl (tri_guard_run rfl rfl rfl ?_))
 refine tri_v (by first | exact opv_indexAddrA rfl rfl (by first | decide | omega) (by first | decide | omega) | exact opv_indexAddrSN rfl rfl (by omega) (by assumption) rfl | exact opv_indexAddrS rfl rfl (by omega) (by omega) (by assumption) rfl | exact opv_indexAddrE rfl (by assumption) (by omega) rfl (by first | decide | omega) (by first | decide | omega) | exact opv_indexAddrRN rfl rfl (by omega) | exact opv_indexAddrR rfl rfl (by omega) (by omega) | exact opv_indexAddrRA rfl (by omega) rfl (by first | decide | omega) (by first | decide | omega) | exact opv_indexAddrSP rfl rfl (by omega) (by omega) | exact opv_indexAddrSN rfl rfl (by omega) (by assumption) (by omega) | exact opv_indexAddrS rfl rfl (by omega) (by omega) (by assumption) (by omega)) rfl ?_
 refine tri_guard_run rfl rfl rfl ?_
 refine tri_v (by first | exact opv_load1 rfl rfl rfl | exact opv_loadA rfl rfl rfl | exact opv_loadE1 rfl (by assumption) rfl (by omega) rfl rfl | exact opv_loadEA rfl (by assumption) rfl (by omega) rfl rfl | exact opv_loadRX1 rfl rfl (by omega) rfl rfl | exact opv_loadRXA rfl rfl (by omega) rfl rfl rfl | exact opv_loadIX rfl rfl (by omega) | exact opv_loadR1 rfl rfl rfl | exact opv_loadRA rfl rfl rfl rfl) rfl ?_
 refine tri_guard_run rfl rfl rfl ?_
 refine tri_v (by first | exact opv_buildS rfl rfl | exact opv_buildA rfl rfl) rfl ?_
 refine tri_guard_run rfl rfl rfl ?_
 refine tri_v (by first | exact opv_eql rfl rfl | exact opv_eqlI rfl rfl rfl rfl rfl rfl | exact opv_eqlB rfl rfl | exact opv_eqlNil rfl rfl) rfl ?_
 refine tri_v (by first | exact opv_pick_t rfl rfl | exact opv_pick_f rfl rfl | exact opv_pick_bool rfl rfl rfl | exact opv_pick rfl rfl rfl) rfl ?_
 refine tM rfl rfl ?_
 refine tri_true rfl rfl ((by show [(sh.1.getD 0 default).x, (sh.1.getD 0 default).y] = _; rw [s3])) ?_
 refine tri_guard_run rfl rfl rfl (tM rfl rfl (tri_guard_run rfl rfl rfl ?_))
 refine tri_v (by first | exact opv_notD rfl | exact opv_not rfl) rfl ?_
 refine tri_v (by first | exact opv_pick_t rfl rfl | exact opv_pick_f rfl rfl | exact opv_pick_bool rfl rfl rfl | exact opv_pick rfl rfl rfl) rfl ?_
 refine tM rfl rfl ?_
 refine tri_bool 107 rfl (fun _ => ?_) (fun h => absurd h (by decide))
 refine tri_guard_run rfl rfl rfl (tM rfl rfl (tri_guard_run rfl rfl rfl ?_))
 refine tri_g (opg_call (xs := [_]) rfl (cells_right hr1 (by omega))) rfl ?_
 rintro _ _ I7 ⟨rfl, rfl, hI7⟩
 have hr1 := hr1.mono hI7
 refine tri_v (by first | exact opv_pick_t rfl rfl | exact opv_pick_f rfl rfl | exact opv_pick_bool rfl rfl rfl | exact opv_pick rfl rfl rfl) rfl ?_
 refine tM rfl rfl ?_
 refine tri_true rfl rfl (r1) ?_
 refine tri_guard_run rfl rfl rfl ?_
 refine tri_v (by first | exact opv_buildS rfl rfl | exact opv_buildA rfl rfl) rfl ?_
 refine tri_guard_run rfl rfl rfl ?_
 refine tri_v (by first | exact opv_buildS rfl rfl | exact opv_buildA rfl rfl) rfl ?_
 refine tri_guard_run rfl rfl rfl ?_
 refine tri_g (opg_buildSlice rfl rfl rfl rfl) rfl ?_
 rintro _ _ _ ⟨b114, rfl, rfl, rfl⟩
 refine tri_freezeBoxS ([⟨0, 0⟩, ⟨0, 0⟩] : List Cell) rfl fun J8 hJ8 hs8 => ?_
 refine tri_guard_run rfl rfl rfl ?_
 refine tri_g (opg_call (xs := [_]) rfl (cells_right hs8 (by decide))) rfl ?_
 rintro _ _ I8 ⟨rfl, rfl, hI8⟩
 have hr1 := hr1.mono fun _ h => hI8 (hJ8 h)
 refine tri_guard_run rfl rfl rfl ?_
 refine tri_v (by first | exact opv_notD rfl | exact opv_not rfl) rfl ?_
 refine tri_v (by first | exact opv_pick_t rfl rfl | exact opv_pick_f rfl rfl | exact opv_pick_bool rfl rfl rfl | exact opv_pick rfl rfl rfl) rfl ?_
 refine tM rfl rfl ?_
 refine tri_true rfl rfl (r2) ?_
 refine tri_guard_run rfl rfl rfl (tM rfl rfl (tri_guard_run rfl rfl rfl ?_))
 refine tri_v (by first | exact opv_buildS rfl rfl | exact opv_buildA rfl rfl) rfl ?_
 refine tri_guard_run rfl rfl rfl ?_
 refine tri_g (opg_call (xs := [_, _]) rfl (cells_has (c := (⟨0, 1⟩ : Cell)) hr1 (by omega))) rfl ?_
 rintro _ _ _ ⟨rfl, rfl, rfl⟩
 refine tri_v (by first | exact opv_pick_t rfl rfl | exact opv_pick_f rfl rfl | exact opv_pick_bool rfl rfl rfl | exact opv_pick rfl rfl rfl) rfl ?_
 refine tM rfl rfl ?_
 refine tri_true rfl rfl (h1) ?_
 refine tri_guard_run rfl rfl rfl (tM rfl rfl (tri_guard_run rfl rfl rfl ?_))
 refine tri_v (by first | exact opv_buildS rfl rfl | exact opv_buildA rfl rfl) rfl ?_
 refine tri_guard_run rfl rfl rfl ?_
 refine tri_g (opg_call (xs := [_, _]) rfl (cells_has (c := (⟨0, 0⟩ : Cell)) hr1 (by omega))) rfl ?_
 rintro _ _ _ ⟨rfl, rfl, rfl⟩
 refine tri_guard_run rfl rfl rfl ?_
 refine tri_v (by first | exact opv_notD rfl | exact opv_not rfl) rfl ?_
 refine tri_v (by first | exact opv_pick_t rfl rfl | exact opv_pick_f rfl rfl | exact opv_pick_bool rfl rfl rfl | exact opv_pick rfl rfl rfl) rfl ?_
 refine tA rfl rfl (tN (tT (tri_ret ?_)))
 refine tri_end A Suf.h rfl (.cons (rv_tmp rfl) .nil) ⟨?_, rfl, fun _ h => hI8 (hJ8 (hI7 (I06 h)))⟩
 exact congrArg Value.bool (decide_eq_true h2)
end Go.GL


set_option linter.unusedVariables false
namespace Go.GL
namespace R6
/-- A store behind what was made in it, or as it was. -/
def told (ns : List Node) (room : Int) (r : List Node × Int × Int) : List Node × Int × Int := if right ns room then (if r.2.2 ≠ 0 then (ns, 0, r.2.2) else r) else (ns, 0, 1)
def emptyT (ns : List Node) (room lv : Int) : List Node × Int × Int := if lv < 0 ∨ 42 < lv then (ns, 0, 1) else told ns room (R7.empty ns room lv.toNat)
/-! #### what is live -/
def keepKids (keep : List Bool) (x : Node) : List Bool := (((keep.set x.k0.toNat true).set x.k1.toNat true).set x.k2.toNat true).set x.k3.toNat true
/-- From the node m + 1 down. -/
def keepDown (ns : List Node) : Nat → List Bool → List Bool
 | 0, keep => keep
 | m + 1, keep => keepDown ns m (if keep.getD (m + 2) default = true then keepKids keep (ns.getD (m + 2) default) else keep)
def keepRoots (n : Nat) (roots : List Int) : List Bool := roots.foldl (fun keep r => keep.set r.toNat true) (((List.replicate n false).set 0 true).set 1 true)
def kept (ns : List Node) (roots : List Int) : List Bool := keepDown ns (ns.length - 2) (keepRoots ns.length roots)
def mapKids (to : List Int) (x : Node) : Node := ⟨x.lv, to.getD x.k0.toNat default, to.getD x.k1.toNat default, to.getD x.k2.toNat default, to.getD x.k3.toNat default, x.pop⟩
def liveStep (ns : List Node) (keep : List Bool) (s : List Int × List Node) (i : Nat) : List Int × List Node := if keep.getD i default = true then (s.1.set i (s.2.length : Nat), s.2 ++ [mapKids s.1 (ns.getD i default)]) else s
def liveAll (ns : List Node) (keep : List Bool) : List Int × List Node := (List.range ns.length).foldl (liveStep ns keep) (List.replicate ns.length 0, [])
/-- A store, places, an error. -/
def live (ns : List Node) (room : Int) (roots : List Int) : List Node × List Int × Int :=
 if right ns room ∧ ∀ i, i < roots.length → inS ns (roots.getD i default) then ((liveAll ns (kept ns roots)).2, roots.map fun r => (liveAll ns (kept ns roots)).1.getD r.toNat default, 0) else (ns, [], 1)
end R6
end Go.GL
namespace Go.GL
namespace R6
theorem right.kid {ns : List Node} {room : Int} (h : right ns room) {i : Nat} (hi : i < ns.length) :
  (0 ≤ (ns.getD i default).k0 ∧ (ns.getD i default).k0 < ns.length ∧ (2 ≤ i → (ns.getD i default).k0 < i)) ∧ (0 ≤ (ns.getD i default).k1 ∧ (ns.getD i default).k1 < ns.length ∧ (2 ≤ i → (ns.getD i default).k1 < i)) ∧
  (0 ≤ (ns.getD i default).k2 ∧ (ns.getD i default).k2 < ns.length ∧ (2 ≤ i → (ns.getD i default).k2 < i)) ∧ (0 ≤ (ns.getD i default).k3 ∧ (ns.getD i default).k3 < ns.length ∧ (2 ≤ i → (ns.getD i default).k3 < i)) := by
 have h2 := h.1.2.2.1
 by_cases hi2 : 2 ≤ i
 ·obtain ⟨⟨a0, b0, _⟩, ⟨a1, b1, _⟩, ⟨a2, b2, _⟩, ⟨a3, b3, _⟩, _⟩ := h.2 i hi hi2
  refine ⟨⟨a0, by omega, fun _ => b0⟩, ⟨a1, by omega, fun _ => b1⟩, ⟨a2, by omega, fun _ => b2⟩, ⟨a3, by omega, fun _ => b3⟩⟩
 ·rcases (by omega : i = 0 ∨ i = 1) with rfl | rfl
  ·rw [h.1.2.2.2.2.1]
   refine ⟨⟨?_, ?_, ?_⟩, ⟨?_, ?_, ?_⟩, ⟨?_, ?_, ?_⟩, ⟨?_, ?_, ?_⟩⟩ <;> simp [n0] <;> omega
  ·rw [h.1.2.2.2.2.2]
   refine ⟨⟨?_, ?_, ?_⟩, ⟨?_, ?_, ?_⟩, ⟨?_, ?_, ?_⟩, ⟨?_, ?_, ?_⟩⟩ <;> simp [n1] <;> omega
end R6
/-- What a function that tells a store, places and an error comes to. -/
def LiveR (r : List Node × List Int × Int) (room : Int) (A : List Asrt) (I : List Chunk) : Value → List Asrt → List Chunk → Prop :=
 fun v A' I' => ∃ a' c' a2 c2, v = .tuple [storeV a' r.1.length c' room, .slice a2 r.2.1.length c2, .int .i64 r.2.2].toArray ∧ StA I' a' c' r.1 ∧ SlAt I' a2 r.2.1 ∧ A = A' ∧ I ⊆ I'
end Go.GL


set_option linter.unusedVariables false
namespace Go.GL
/-- A store's head. -/
structure Sto where
 a : Option Addr
 len : Nat
 cap : Nat
 room : Int
 deriving Inhabited
instance : Enc Sto := ⟨fun s => [.slice s.a s.len s.cap, .int .i64 s.room], 2, fun _ => rfl, fun _ => rfl⟩
/-- A slice's head. -/
structure Sl where
 a : Option Addr
 len : Nat
 cap : Nat
 deriving Inhabited
instance : Enc Sl := ⟨fun s => [.slice s.a s.len s.cap], 1, fun _ => rfl, fun _ => rfl⟩
/-- Four numbers. -/
structure Four where
 r0 : Int
 r1 : Int
 r2 : Int
 r3 : Int
 deriving DecidableEq, Inhabited
instance : Enc Four := ⟨fun x => [.int .i64 x.r0, .int .i64 x.r1, .int .i64 x.r2, .int .i64 x.r3], 4, fun _ => rfl, fun _ => rfl⟩
instance : Dec Four := ⟨fun xs => ⟨xs.getD 0 0, xs.getD 1 0, xs.getD 2 0, xs.getD 3 0⟩, fun xs h => by
 match xs, h with
 | [a, b, c, d], _ => rfl⟩
namespace R6
end R6
end Go.GL


set_option linter.unusedVariables false
namespace Go.GL
/-- Slices that are read, side by side. -/
def SlsG {α : Type} [Enc α] (I : List Chunk) (LS : List Sl) (LL : List (List α)) : Prop := LS.length = LL.length ∧ ∀ i, i < LL.length → SlAt I (LS.getD i default).a (LL.getD i []) ∧ (LS.getD i default).len = (LL.getD i []).length
section
variable {α : Type} [Enc α] {I J : List Chunk} {LS : List Sl} {LL : List (List α)}
theorem SlsG.mono (h : SlsG I LS LL) (hI : I ⊆ J) : SlsG J LS LL := ⟨h.1, fun i hi => ⟨(h.2 i hi).1.mono hI, (h.2 i hi).2⟩⟩
theorem SlsG.nil : SlsG I [] ([] : List (List α)) := ⟨rfl, fun i hi => absurd hi (Nat.not_lt_zero _)⟩
theorem SlsG.cons {s : Sl} {l : List α} (h : SlsG I LS LL) (hs : SlAt I s.a l) (hl : s.len = l.length) : SlsG I (s :: LS) (l :: LL) := by
 refine ⟨by rw [List.length_cons, List.length_cons, h.1], fun i hi => ?_⟩
 cases i with
 | zero => exact ⟨hs, hl⟩
 | succ i => exact h.2 i (by rw [List.length_cons] at hi; omega)
end
end Go.GL


set_option linter.unusedVariables false
namespace Go.GL
open Go.Proofs
attribute [local irreducible] wpList Code.wp Exit.then Exit.inBlock Ends Tri TriH OpV OpG FnC epf wpAnyH
variable {A : List Asrt} {I : List Chunk}
end Go.GL


set_option linter.unusedVariables false
namespace Go.GL
open Go.Proofs
theorem num_int : NumTy Try.prog 3 1 := NumTy.int
theorem num_2 : NumTy Try.prog 42 2 := NumTy.arr num_int (by decide)
theorem laid : laidOutB Try.prog = true := by kernel_rfl
theorem own : ownKnob Try.prog.godebug = none := by kernel_rfl
end Go.GL


set_option linter.unusedVariables false
namespace Go.GL
namespace R1
theorem right_iff {l : List Cell} : right l ↔ Srt l ∧ (∀ c ∈ l, inB c) ∧ l.length ≤ 2000 := ⟨fun h => ⟨right_srt h, right_inB h, h.2⟩, fun h => right_of h.1 h.2.1 h.2.2⟩
theorem wth_t {l : List Cell} (h : right l) {c : Cell} (hc : inB c) (hl : (put l c).length ≤ 2000) : wth l c true = (put l c, 0) ∧ right (put l c) := by
 refine ⟨?_, right_of (put_srt (right_srt h) c) (fun d hd => ?_) hl⟩
 ·unfold wth outW
  rw [if_pos h, if_pos hc, if_pos rfl, if_neg (by omega)]
 ·rcases (mem_put (right_srt h)).1 hd with rfl | hd
  ·exact hc
  ·exact right_inB h d hd
theorem wth_f {l : List Cell} (h : right l) {c : Cell} (hc : inB c) : wth l c false = (l.filter fun d => decide (d ≠ c), 0) ∧ right (l.filter fun d => decide (d ≠ c)) := by
 have hl := List.length_filter_le (fun d => decide (d ≠ c)) l
 have h2 := h.2
 refine ⟨?_, R2.right_sub h List.filter_sublist⟩
 unfold wth outW
 rw [if_pos h, if_pos hc]
 simp only [Bool.false_eq_true, if_false]
 rw [if_neg (by omega)]
theorem filter_len {l : List Cell} (h : l.Nodup) {c : Cell} (hc : c ∈ l) : (l.filter fun d => decide (d ≠ c)).length = l.length - 1 := by
 induction l with
 | nil => cases hc
 | cons a l ih =>
  obtain ⟨h1, h2⟩ := List.nodup_cons.1 h
  rw [List.filter_cons]
  by_cases e : a = c
  ·subst e
   have e2 : (l.filter fun d => decide (d ≠ a)) = l := List.filter_eq_self.2 (fun d hd => decide_eq_true fun e : d = a => h1 (e ▸ hd))
   rw [if_neg (by simp), e2, List.length_cons]
   omega
  ·have hc : c ∈ l := (List.mem_cons.1 hc).resolve_left fun k => e k.symm
   rw [if_pos (by simpa using e), List.length_cons, ih h2 hc, List.length_cons]
   have := List.length_pos_of_mem hc
   omega
/-! #### Shifts -/
end R1
end Go.GL


set_option linter.unusedVariables false
namespace Go.GL
open Go.Proofs
attribute [local irreducible] wpList Code.wp Exit.then Exit.inBlock Ends Tri TriH OpV OpG FnC epf wpAnyH
variable {A : List Asrt} {I : List Chunk}
theorem R1.puts_right (raw : List Cell) (i : Nat) (hi : i ≤ 60) : R1.right (R1.puts ((raw.take i).map RL.cell16)) ∧ (R1.puts ((raw.take i).map RL.cell16)).length ≤ i := by
 have h1 := R1.puts_len ((raw.take i).map RL.cell16)
 rw [List.length_map, List.length_take] at h1
 refine ⟨R1.right_of (R1.puts_srt _) (fun c hc => ?_) (by omega), by omega⟩
 obtain ⟨d, hd, rfl⟩ := List.mem_map.1 (R1.mem_puts.1 hc)
 have a := pk_bd (c := d.x) (n := 16) (by omega)
 have b := pk_bd (c := d.y) (n := 16) (by omega)
 unfold R1.inB RL.cell16
 simp only
 omega
set_option maxHeartbeats 8000000 in
set_option maxRecDepth 100000 in
theorem law01_or {raw : List Cell} {at_ : Int} {a1 : Option Addr} {cap1 : Nat} (hs : SlAt I a1 raw) (hc : RL.Cs raw) (h1 : I64 at_) :
  FnC Try.prog 7 [.slice a1 raw.length cap1, .int .i64 at_].toArray A I (fun v A' I' => v = .bool true ∧ A = A' ∧ I ⊆ I') := by
 have hset := RL.set_le raw
 skip
 skip
 refine fn_enter2 Try.func7 rfl Try.ntmps7 rfl fun w0 => ?_
 refine tS (tR (tA rfl rfl (tN (tT (tS (tR ?_))))))
 refine tri_g (opg_call (xs := []) rfl (law01_awake)) rfl ?_
 rintro _ _ I0 ⟨rfl, rfl, hI0⟩
 have hs := hs.mono hI0
 refine tA rfl rfl (tN (tT (tS (tR (tM rfl rfl ?_)))))
 refine tri_g (opg_call (xs := [_]) rfl (law01_set hs hc)) rfl ?_
 rintro _ _ I1 ⟨b1, c1, rfl, hs1, rfl, hI1⟩
 have hs := hs.mono hI1
 have I01 : I ⊆ I1 := fun _ h => hI1 (hI0 h)
 refine tA rfl rfl (tN (tT (tS (tR (tA rfl rfl (tN (tT ?_)))))))
 refine tS (tS (tR (tA rfl rfl (tN (tT ?_)))))
 refine tri_cut (fun F' A' J => ∃ (b2 : Option Addr) (q2 : Nat), (SlAt J b2 (RL.set raw) ∧ I1 ⊆ J) ∧ F' = [(1, .int .i64 at_), (5, .bool true), (6, .slice b1 (RL.set raw).length c1), (7, .slice b2 (RL.set raw).length q2)] ∧ A = A') ?_ ?_
 ·refine tri_block ?_
  refine tri_sub (F' := [(0, .slice a1 raw.length cap1), (1, .int .i64 at_), (5, .bool true), (6, .slice b1 (RL.set raw).length c1), (7, .slice none 0 0), (8, .int .i64 ((0 : Nat) : Int))]) ⟨rfl, rfl, rfl, rfl, rfl, rfl, trivial⟩ ?_
  refine loop_ind (G := Nat × Option Addr × Nat × List Chunk) (fun g => 60 - g.1) (fun g => g.1 ≤ raw.length ∧ g.1 ≤ 60 ∧ SlAt g.2.2.2 g.2.1 (R1.puts ((raw.take g.1).map RL.cell16)) ∧ I1 ⊆ g.2.2.2) (fun g => [(0, .slice a1 raw.length cap1), (1, .int .i64 at_), (5, .bool true), (6, .slice b1 (RL.set raw).length c1), (7, .slice g.2.1 (R1.puts ((raw.take g.1).map RL.cell16)).length g.2.2.1), (8, .int .i64 (g.1 : Nat))]) (fun _ => A) (fun g => g.2.2.2) ?_ (0, none, 0, I1) ⟨Nat.zero_le _, Nat.zero_le _, SlAt.nil, fun _ h => h⟩
  rintro ⟨i, b3, q3, J⟩ ⟨hi, hi6, hs3, hJ⟩ K hK
  simp only at hi hi6 hs3 hJ hK ⊢
  have hsm := hs.mono hJ
  have fin : i = raw.length ∨ i = 60 → R1.puts ((raw.take i).map RL.cell16) = RL.set raw := by
   rintro (rfl | rfl)
   ·unfold RL.set
    rw [List.take_length, List.take_of_length_le (l := raw) (i := 60) (by omega)]
   ·rfl
  skip
  refine tS (tS (tR (tM rfl rfl (tM rfl rfl ?_))))
  refine tri_v (opv_len rfl) rfl ?_
  refine tri_v (opv_lss rfl rfl) rfl ?_
  refine tM rfl rfl ?_
  refine tri_split rfl rfl (fun h => ?_) (fun h => ?_)
  ·refine tri_guard_run rfl rfl rfl (tM rfl rfl (tri_guard_run rfl rfl rfl ?_))
   refine tri_v (opv_lss rfl rfl) rfl ?_
   refine tri_v (by first | exact opv_pick_t rfl rfl | exact opv_pick_f rfl rfl | exact opv_pick_bool rfl rfl rfl | exact opv_pick rfl rfl rfl) rfl ?_
   refine tN (tT ?_)
   refine tri_cond_dec rfl (fun h5 => ?_) (fun h5 => ?_)
   ·have hlt : i < raw.length := by omega
    have hci := hc i hlt
    have hcx := hci.1
    have hcy := hci.2
    have px := pk_bd (c := (raw.getD i default).x) (n := 16) (by omega)
    have py := pk_bd (c := (raw.getD i default).y) (n := 16) (by omega)
    have e : R1.puts ((raw.take (i + 1)).map RL.cell16) = R1.put (R1.puts ((raw.take i).map RL.cell16)) (RL.cell16 (raw.getD i default)) := by
     rw [← R1.puts_snoc, List.take_succ_eq_append_getElem hlt, List.map_append, show raw.getD i default = raw[i] by simp [hlt]]; rfl
    obtain ⟨hr, hl⟩ := R1.puts_right raw i hi6
    have hin : R1.inB (RL.cell16 (raw.getD i default)) := by unfold R1.inB RL.cell16; simp only; omega
    have hpl := R1.put_len (R1.puts ((raw.take i).map RL.cell16)) (RL.cell16 (raw.getD i default))
    obtain ⟨hw, _⟩ := R1.wth_t hr hin (by omega)
    have hwa : (R1.wth (R1.puts ((raw.take i).map RL.cell16)) (RL.cell16 (raw.getD i default)) true).1 = R1.puts ((raw.take (i + 1)).map RL.cell16) := by rw [hw, e]
    have hwb : (R1.wth (R1.puts ((raw.take i).map RL.cell16)) (RL.cell16 (raw.getD i default)) true).2 = 0 := by rw [hw]
    refine tri_skip (tT (tS (tri_block (tS ?_))))
    refine tri_draw [0, 1, 2, 3, 4, 5, 8, 9, 10, 11, 12, 6, 7, 13, 14, 15, 16, 17, 18, 19, 20, 21] rfl [] rfl mixed ?_
    refine th_take rfl rfl (by kernel_rfl)  (opv_move rfl) ?_
    refine th_take rfl rfl (by kernel_rfl)  (opv_move rfl) ?_
    refine th_take rfl rfl (by kernel_rfl)  (opv_move rfl) ?_
    refine th_take rfl rfl (by kernel_rfl)  (by first | exact opv_indexAddrA rfl rfl (by first | decide | omega) (by first | decide | omega) | exact opv_indexAddrSN rfl rfl (by omega) (by assumption) rfl | exact opv_indexAddrS rfl rfl (by omega) (by omega) (by assumption) rfl | exact opv_indexAddrE rfl (by assumption) (by omega) rfl (by first | decide | omega) (by first | decide | omega) | exact opv_indexAddrRN rfl rfl (by omega) | exact opv_indexAddrR rfl rfl (by omega) (by omega) | exact opv_indexAddrRA rfl (by omega) rfl (by first | decide | omega) (by first | decide | omega) | exact opv_indexAddrSP rfl rfl (by omega) (by omega) | exact opv_indexAddrSN rfl rfl (by omega) (by assumption) (by omega) | exact opv_indexAddrS rfl rfl (by omega) (by omega) (by assumption) (by omega)) ?_
    refine th_take rfl rfl (by kernel_rfl)  (by first | exact opv_indexAddrA rfl rfl (by first | decide | omega) (by first | decide | omega) | exact opv_indexAddrSN rfl rfl (by omega) (by assumption) rfl | exact opv_indexAddrS rfl rfl (by omega) (by omega) (by assumption) rfl | exact opv_indexAddrE rfl (by assumption) (by omega) rfl (by first | decide | omega) (by first | decide | omega) | exact opv_indexAddrRN rfl rfl (by omega) | exact opv_indexAddrR rfl rfl (by omega) (by omega) | exact opv_indexAddrRA rfl (by omega) rfl (by first | decide | omega) (by first | decide | omega) | exact opv_indexAddrSP rfl rfl (by omega) (by omega) | exact opv_indexAddrSN rfl rfl (by omega) (by assumption) (by omega) | exact opv_indexAddrS rfl rfl (by omega) (by omega) (by assumption) (by omega)) ?_
    refine th_take rfl rfl (by kernel_rfl)  (by first | exact opv_load1 rfl rfl rfl | exact opv_loadA rfl rfl rfl | exact opv_loadE1 rfl (by assumption) rfl (by omega) rfl rfl | exact opv_loadEA rfl (by assumption) rfl (by omega) rfl rfl | exact opv_loadRX1 rfl rfl (by omega) rfl rfl | exact opv_loadRXA rfl rfl (by omega) rfl rfl rfl | exact opv_loadIX rfl rfl (by omega) | exact opv_loadR1 rfl rfl rfl | exact opv_loadRA rfl rfl rfl rfl) ?_
    refine th_take rfl rfl (by kernel_rfl)  (opv_move rfl) ?_
    refine th_take rfl rfl (by kernel_rfl)  (opv_move rfl) ?_
    refine th_take rfl rfl (by kernel_rfl)  (by first | exact opv_indexAddrA rfl rfl (by first | decide | omega) (by first | decide | omega) | exact opv_indexAddrSN rfl rfl (by omega) (by assumption) rfl | exact opv_indexAddrS rfl rfl (by omega) (by omega) (by assumption) rfl | exact opv_indexAddrE rfl (by assumption) (by omega) rfl (by first | decide | omega) (by first | decide | omega) | exact opv_indexAddrRN rfl rfl (by omega) | exact opv_indexAddrR rfl rfl (by omega) (by omega) | exact opv_indexAddrRA rfl (by omega) rfl (by first | decide | omega) (by first | decide | omega) | exact opv_indexAddrSP rfl rfl (by omega) (by omega) | exact opv_indexAddrSN rfl rfl (by omega) (by assumption) (by omega) | exact opv_indexAddrS rfl rfl (by omega) (by omega) (by assumption) (by omega)) ?_
    refine th_take rfl rfl (by kernel_rfl)  (by first | exact opv_indexAddrA rfl rfl (by first | decide | omega) (by first | decide | omega) | exact opv_indexAddrSN rfl rfl (by omega) (by assumption) rfl | exact opv_indexAddrS rfl rfl (by omega) (by omega) (by assumption) rfl | exact opv_indexAddrE rfl (by assumption) (by omega) rfl (by first | decide | omega) (by first | decide | omega) | exact opv_indexAddrRN rfl rfl (by omega) | exact opv_indexAddrR rfl rfl (by omega) (by omega) | exact opv_indexAddrRA rfl (by omega) rfl (by first | decide | omega) (by first | decide | omega) | exact opv_indexAddrSP rfl rfl (by omega) (by omega) | exact opv_indexAddrSN rfl rfl (by omega) (by assumption) (by omega) | exact opv_indexAddrS rfl rfl (by omega) (by omega) (by assumption) (by omega)) ?_
    refine th_take rfl rfl (by kernel_rfl)  (by first | exact opv_load1 rfl rfl rfl | exact opv_loadA rfl rfl rfl | exact opv_loadE1 rfl (by assumption) rfl (by omega) rfl rfl | exact opv_loadEA rfl (by assumption) rfl (by omega) rfl rfl | exact opv_loadRX1 rfl rfl (by omega) rfl rfl | exact opv_loadRXA rfl rfl (by omega) rfl rfl rfl | exact opv_loadIX rfl rfl (by omega) | exact opv_loadR1 rfl rfl rfl | exact opv_loadRA rfl rfl rfl rfl) ?_
    refine th_one (by kernel_rfl) (step_m rfl rfl (opg_call (xs := [_, _]) rfl (law01_pick (c := (raw.getD i default).x) hcx.1 hcx.2 (by decide))) ?_)
    rintro _ _ _ ⟨rfl, rfl, rfl⟩
    refine ⟨Suf.h, (by first | exact fun _ h => h | assumption | exact fun _ h => (by assumption : _ ⊆ _) ((by assumption : _ ⊆ _) h)), ?_⟩
    refine th_take rfl rfl (by kernel_rfl)  (by first | exact opv_sub rfl rfl (w64 (by omega) (by omega)) | exact opv_sub rfl rfl rfl) ?_
    refine th_one (by kernel_rfl) (step_m rfl rfl (opg_call (xs := [_, _]) rfl (law01_pick (c := (raw.getD i default).y) hcy.1 hcy.2 (by decide))) ?_)
    rintro _ _ _ ⟨rfl, rfl, rfl⟩
    refine ⟨Suf.h, (by first | exact fun _ h => h | assumption | exact fun _ h => (by assumption : _ ⊆ _) ((by assumption : _ ⊆ _) h)), ?_⟩
    refine th_take rfl rfl (by kernel_rfl)  (by first | exact opv_sub rfl rfl (w64 (by omega) (by omega)) | exact opv_sub rfl rfl rfl) ?_
    refine th_take rfl rfl (by kernel_rfl)  (by first | exact opv_buildS rfl rfl | exact opv_buildA rfl rfl) ?_
    refine th_one (by kernel_rfl) (step_m rfl rfl (opg_call (xs := [_, _, _]) rfl (cells_with (c := RL.cell16 (raw.getD i default)) (alive := true) hs3 (by omega))) ?_)
    rintro _ _ J2 ⟨b4, q4, rfl, hs4, rfl, hJ2⟩
    refine ⟨Suf.h, (by first | exact fun _ h => h | assumption | exact fun _ h => (by assumption : _ ⊆ _) ((by assumption : _ ⊆ _) h)), ?_⟩
    rw [hwa] at hs4
    rw [hwa, hwb]
    refine th_take rfl rfl (by kernel_rfl)  (opv_move rfl) ?_
    refine th_take rfl rfl (by kernel_rfl)  (opv_extract rfl rfl) ?_
    refine th_take rfl rfl (by kernel_rfl)  (opv_extract rfl rfl) ?_
    refine th_take rfl rfl (by kernel_rfl)  (opv_assign rfl) ?_
    refine th_take rfl rfl (by kernel_rfl)  (opv_assign rfl) ?_
    refine th_done (by kernel_rfl) ?_
    refine tT (tS (tS (tR (tM rfl rfl ?_))))
    refine tri_v (by first | exact opv_neq rfl rfl | exact opv_neqI rfl rfl rfl rfl rfl rfl | exact opv_neqB rfl rfl) rfl ?_
    refine tN (tT ?_)
    refine tri_cond_not rfl ((by decide)) ?_
    refine tri_skip (tT (tR (tM rfl rfl (tA rfl rfl (tN ?_)))))
    refine tri_inBlock ?_
    refine tT (tR (tM rfl rfl ?_))
    refine tri_v (by first | exact opv_add rfl rfl (w64 (by omega) (by omega))) rfl ?_
    refine tA rfl rfl (tN (tT ?_))
    refine tri_sub ?_ (hK (i + 1, b4, q4, J2) ⟨by simp only; omega, by simp only; omega, hs4, fun _ h => hJ2 (hJ h)⟩ (by simp only; omega))
    exact ⟨rfl, rfl, rfl, rfl, rfl, rfl, trivial⟩
   ·have fin := fin (by omega)
    rw [fin] at hs3 ⊢
    refine tri_exit ?_
    refine tri_then_exit ?_
    refine tri_then_exit ?_
    refine tri_inBlock_hit rfl ?_
    exact tri_cutEnd _ ⟨b3, q3, ⟨hs3, hJ⟩, rfl, rfl⟩ ⟨rfl, rfl, rfl, rfl, trivial⟩
  ·have fin := fin (by omega)
   rw [fin] at hs3 ⊢
   refine tri_guard_skip rfl rfl rfl rfl (tri_guard_skip rfl rfl rfl rfl ?_)
   refine tri_v (by first | exact opv_pick_t rfl rfl | exact opv_pick_f rfl rfl | exact opv_pick_bool rfl rfl rfl | exact opv_pick rfl rfl rfl) rfl ?_
   refine tN (tT ?_)
   refine tri_cond_false rfl ?_
   refine tri_exit ?_
   refine tri_then_exit ?_
   refine tri_then_exit ?_
   refine tri_inBlock_hit rfl ?_
   exact tri_cutEnd _ ⟨b3, q3, ⟨hs3, hJ⟩, rfl, rfl⟩ ⟨rfl, rfl, rfl, rfl, trivial⟩
 rintro _ _ J ⟨b2, q2, ⟨hs2, hJ⟩, rfl, rfl⟩
 have hr := RL.set_right raw
 clear hc hs
 generalize RL.set raw = st at *
 refine tT (tS (tS (tR (tM rfl rfl (tM rfl rfl ?_)))))
 refine tri_g (opg_call (xs := [_, _]) rfl (ref01_same hs2 (hs1.mono hJ) (by omega))) rfl ?_
 rintro _ _ _ ⟨rfl, rfl, rfl⟩
 refine tri_v (by first | exact opv_notD rfl | exact opv_not rfl) rfl ?_
 refine tN (tT ?_)
 refine tri_cond_not rfl ((fun h => h rfl)) ?_
 refine tri_skip (tT (tS (tS (tR (tA rfl rfl (tN (tT ?_)))))))
 refine tri_block ?_
 refine tri_sub (F' := [(1, .int .i64 at_), (5, .bool true), (7, .slice b2 st.length q2), (11, .int .i64 ((0 : Nat) : Int))]) ⟨rfl, rfl, rfl, rfl, trivial⟩ ?_
 refine loop_ind (G := Nat × List Cell × Option Addr × Nat × List Chunk) (fun g => 60 - g.1) (fun g => g.2.1.length + g.1 = st.length ∧ R1.right g.2.1 ∧ SlAt g.2.2.2.2 g.2.2.1 g.2.1 ∧ J ⊆ g.2.2.2.2) (fun g => [(1, .int .i64 at_), (5, .bool true), (7, .slice g.2.2.1 g.2.1.length g.2.2.2.1), (11, .int .i64 (g.1 : Nat))]) (fun _ => A) (fun g => g.2.2.2.2) ?_ (0, st, b2, q2, J) ⟨rfl, hr, hs2, fun _ h => h⟩
 rintro ⟨i, m, b3, q3, J3⟩ ⟨hi, hrm, hs3, hJ3⟩ K hK
 simp only at hi hrm hs3 hJ3 hK ⊢
 have I03 : I ⊆ J3 := fun _ h => hJ3 (hJ (I01 h))
 skip
 refine tS (tS (tR (tM rfl rfl ?_)))
 refine tri_v (opv_len rfl) rfl ?_
 refine tri_v (opv_gtr rfl rfl) rfl ?_
 refine tM rfl rfl ?_
 refine tri_split rfl rfl (fun h => ?_) (fun h => ?_)
 ·refine tri_guard_run rfl rfl rfl (tM rfl rfl (tri_guard_run rfl rfl rfl ?_))
  refine tri_v (opv_lss rfl rfl) rfl ?_
  refine tri_v (by first | exact opv_pick_t rfl rfl | exact opv_pick_f rfl rfl | exact opv_pick_bool rfl rfl rfl | exact opv_pick rfl rfl rfl) rfl ?_
  refine tN (tT ?_)
  refine tri_cond_dec rfl (fun h5 => ?_) (fun h5 => ?_)
  ·have hml : 0 < m.length := by omega
   have hp := pk_bd (c := at_) (n := m.length) (by omega)
   refine tri_skip (tT (tS (tri_block (tS (tR (tM rfl rfl (tM rfl rfl ?_)))))))
   refine tM rfl rfl (tM rfl rfl ?_)
   refine tri_v (opv_len rfl) rfl ?_
   refine tri_g (opg_call (xs := [_, _]) rfl (law01_pick h1.1 h1.2 (by omega))) rfl ?_
   rintro _ _ _ ⟨rfl, rfl, rfl⟩
   generalize pk at_ (m.length : Int) = k at *
   have hkm : m.getD k.toNat default ∈ m := by simp [show k.toNat < m.length by omega]
   obtain ⟨hw, hrw⟩ := R1.wth_f hrm (R1.right_inB hrm _ hkm)
   have hfl := R1.filter_len (R1.srt_nodup (R1.right_srt hrm)) hkm
   have hwa : (R1.wth m (m.getD k.toNat default) false).1 = m.filter fun d => decide (d ≠ m.getD k.toNat default) := by rw [hw]
   have hwb : (R1.wth m (m.getD k.toNat default) false).2 = 0 := by rw [hw]
   refine tri_v (by first | exact opv_indexAddrA rfl rfl (by first | decide | omega) (by first | decide | omega) | exact opv_indexAddrSN rfl rfl (by omega) (by assumption) rfl | exact opv_indexAddrS rfl rfl (by omega) (by omega) (by assumption) rfl | exact opv_indexAddrE rfl (by assumption) (by omega) rfl (by first | decide | omega) (by first | decide | omega) | exact opv_indexAddrRN rfl rfl (by omega) | exact opv_indexAddrR rfl rfl (by omega) (by omega) | exact opv_indexAddrRA rfl (by omega) rfl (by first | decide | omega) (by first | decide | omega) | exact opv_indexAddrSP rfl rfl (by omega) (by omega) | exact opv_indexAddrSN rfl rfl (by omega) (by assumption) (by omega) | exact opv_indexAddrS rfl rfl (by omega) (by omega) (by assumption) (by omega)) rfl ?_
   refine tri_v (by first | exact opv_load1 rfl rfl rfl | exact opv_loadA rfl rfl rfl | exact opv_loadE1 rfl (by assumption) rfl (by omega) rfl rfl | exact opv_loadEA rfl (by assumption) rfl (by omega) rfl rfl | exact opv_loadRX1 rfl rfl (by omega) rfl rfl | exact opv_loadRXA rfl rfl (by omega) rfl rfl rfl | exact opv_loadIX rfl rfl (by omega) | exact opv_loadR1 rfl rfl rfl | exact opv_loadRA rfl rfl rfl rfl) rfl ?_
   refine tri_g (opg_call (xs := [_, _, _]) rfl (cells_with (c := m.getD k.toNat default) (alive := false) hs3 (by omega))) rfl ?_
   rintro _ _ J4 ⟨b4, q4, rfl, hs4, rfl, hJ4⟩
   rw [hwa] at hs4
   rw [hwa, hwb]
   generalize m.filter (fun d => decide (d ≠ m.getD k.toNat default)) = N at *
   refine tM rfl rfl ?_
   refine tri_v (opv_extract rfl rfl) rfl ?_
   refine tri_v (opv_extract rfl rfl) rfl ?_
   refine tA rfl rfl (tA rfl rfl (tN (tT (tS (tS (tR (tM rfl rfl ?_)))))))
   refine tri_v (by first | exact opv_neq rfl rfl | exact opv_neqI rfl rfl rfl rfl rfl rfl | exact opv_neqB rfl rfl) rfl ?_
   refine tM rfl rfl ?_
   refine tri_false rfl rfl ((by decide)) ?_
   refine tri_guard_run rfl rfl rfl (tM rfl rfl (tri_guard_run rfl rfl rfl ?_))
   refine tri_v (opv_len rfl) rfl ?_
   refine tri_guard_run rfl rfl rfl (tM rfl rfl (tri_guard_run rfl rfl rfl ?_))
   refine tri_v (opv_len rfl) rfl ?_
   refine tri_guard_run rfl rfl rfl ?_
   refine tri_v (by first | exact opv_sub rfl rfl (w64 (by omega) (by omega)) | exact opv_sub rfl rfl rfl) rfl ?_
   refine tri_guard_run rfl rfl rfl ?_
   refine tri_v (by first | exact opv_neq rfl rfl | exact opv_neqI rfl rfl rfl rfl rfl rfl | exact opv_neqB rfl rfl) rfl ?_
   refine tri_v (by first | exact opv_pick_t rfl rfl | exact opv_pick_f rfl rfl | exact opv_pick_bool rfl rfl rfl | exact opv_pick rfl rfl rfl) rfl ?_
   refine tM rfl rfl ?_
   refine tri_false rfl rfl ((by omega)) ?_
   refine tri_guard_run rfl rfl rfl (tM rfl rfl (tri_guard_run rfl rfl rfl ?_))
   refine tri_g (opg_call (xs := [_]) rfl (cells_right hs4 (by omega))) rfl ?_
   rintro _ _ J5 ⟨rfl, rfl, hJ5⟩
   refine tri_guard_run rfl rfl rfl ?_
   refine tri_v (by first | exact opv_notD rfl | exact opv_not rfl) rfl ?_
   refine tri_v (by first | exact opv_pick_t rfl rfl | exact opv_pick_f rfl rfl | exact opv_pick_bool rfl rfl rfl | exact opv_pick rfl rfl rfl) rfl ?_
   refine tN (tT ?_)
   refine tri_cond_not rfl ((fun h => h hrw)) ?_
   refine tri_skip (tT (tR (tM rfl rfl (tA rfl rfl (tN ?_)))))
   refine tri_inBlock ?_
   refine tT (tR (tM rfl rfl ?_))
   refine tri_v (by first | exact opv_add rfl rfl (w64 (by omega) (by omega))) rfl ?_
   refine tA rfl rfl (tN (tT ?_))
   refine tri_sub ?_ (hK (i + 1, N, b4, q4, J5) ⟨by simp only; omega, hrw, hs4.mono hJ5, fun _ h => hJ5 (hJ4 (hJ3 h))⟩ (by simp only; omega))
   exact ⟨rfl, rfl, rfl, rfl, trivial⟩
  ·have h0 : m.length = 0 := by omega
   clear hK
   refine tri_exit ?_
   refine tri_then_exit ?_
   refine tri_then_exit ?_
   refine tri_inBlock_hit rfl ?_
   refine tT (tS (tR (tM rfl rfl (tM rfl rfl ?_))))
   refine tri_bool 92 rfl (fun _ => ?_) (fun h => absurd h (by decide))
   refine tri_guard_run rfl rfl rfl (tM rfl rfl (tri_guard_run rfl rfl rfl ?_))
   refine tri_v (opv_len rfl) rfl ?_
   refine tri_guard_run rfl rfl rfl ?_
   refine tri_v (by first | exact opv_eql rfl rfl | exact opv_eqlI rfl rfl rfl rfl rfl rfl | exact opv_eqlB rfl rfl | exact opv_eqlNil rfl rfl) rfl ?_
   refine tri_v (by first | exact opv_pick_t rfl rfl | exact opv_pick_f rfl rfl | exact opv_pick_bool rfl rfl rfl | exact opv_pick rfl rfl rfl) rfl ?_
   refine tA rfl rfl (tN (tT (tri_ret ?_)))
   refine tri_end A Suf.h rfl (.cons (rv_tmp rfl) .nil) ⟨?_, rfl, I03⟩
   exact congrArg Value.bool (decide_eq_true (by omega))
 ·have h0 : m.length = 0 := by omega
  clear hK
  refine tri_guard_skip rfl rfl rfl rfl (tri_guard_skip rfl rfl rfl rfl ?_)
  refine tri_v (by first | exact opv_pick_t rfl rfl | exact opv_pick_f rfl rfl | exact opv_pick_bool rfl rfl rfl | exact opv_pick rfl rfl rfl) rfl ?_
  refine tN (tT ?_)
  refine tri_cond_false rfl ?_
  refine tri_exit ?_
  refine tri_then_exit ?_
  refine tri_then_exit ?_
  refine tri_inBlock_hit rfl ?_
  refine tT (tS (tR (tM rfl rfl (tM rfl rfl ?_))))
  refine tri_bool 92 rfl (fun _ => ?_) (fun h => absurd h (by decide))
  refine tri_guard_run rfl rfl rfl (tM rfl rfl (tri_guard_run rfl rfl rfl ?_))
  refine tri_v (opv_len rfl) rfl ?_
  refine tri_guard_run rfl rfl rfl ?_
  refine tri_v (by first | exact opv_eql rfl rfl | exact opv_eqlI rfl rfl rfl rfl rfl rfl | exact opv_eqlB rfl rfl | exact opv_eqlNil rfl rfl) rfl ?_
  refine tri_v (by first | exact opv_pick_t rfl rfl | exact opv_pick_f rfl rfl | exact opv_pick_bool rfl rfl rfl | exact opv_pick rfl rfl rfl) rfl ?_
  refine tA rfl rfl (tN (tT (tri_ret ?_)))
  refine tri_end A Suf.h rfl (.cons (rv_tmp rfl) .nil) ⟨?_, rfl, I03⟩
  exact congrArg Value.bool (decide_eq_true (by omega))
end Go.GL

