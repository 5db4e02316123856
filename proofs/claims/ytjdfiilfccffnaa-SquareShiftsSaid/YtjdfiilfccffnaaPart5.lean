/- Part 5: contracts of the functions that the law reaches: each answers as its model does. No condition beyond those that each theorem states. -/
import Derived.Test.YtjdfiilfccffnaaPart4
set_option linter.unusedVariables false
namespace Go.GL
namespace R7
open R6 R9
/-! ### Cells got and set -/
def loc : Nat → Cell → Cell
 | 0, _ => ⟨0, 0⟩
 | m + 1, c => ⟨c.x + 2 ^ m, c.y + 2 ^ m⟩
structure Stp7 (m : Nat) (c : Cell) (a b : Int) : Prop where
 ha : a = 0 ∨ a = 1
 hb : b = 0 ∨ b = 1
 k : ((qk c : Nat) : Int) = 2 * b + a
 x : (loc (m + 1) c).x = (loc m (qd (qh (m + 1)) c)).x + a * 2 ^ m
 y : (loc (m + 1) c).y = (loc m (qd (qh (m + 1)) c)).y + b * 2 ^ m
 q : inQ m (loc m (qd (qh (m + 1)) c)).x (loc m (qd (qh (m + 1)) c)).y
theorem loc_step {m : Nat} {c : Cell} (h : inQ (m + 1) (loc (m + 1) c).x (loc (m + 1) c).y) : ∃ a b, Stp7 m c a b := by
 refine ⟨if 0 ≤ c.x then 1 else 0, if 0 ≤ c.y then 1 else 0, by split <;> simp, by split <;> simp, ?_, ?_, ?_, ?_⟩
 ·unfold qk
  split <;> split <;> rfl
 all_goals unfold inQ at *
 all_goals simp only [loc] at *
 all_goals rw [p2s] at h
 all_goals cases m with
  | zero =>
   simp only at *
   simp only [Int.pow_zero] at *
   repeat' split
   all_goals omega
  | succ m =>
   simp only [loc, qd, p2h] at *
   rw [p2s] at *
   have hp := p2pos m
   generalize (2:Int) ^ m = w at *
   repeat' split
   all_goals omega
theorem kidx_kid (ns : List Node) (n : Int) {k : Nat} {a b : Int} (ha : a = 0 ∨ a = 1) (hb : b = 0 ∨ b = 1) (hk : (k : Int) = 2 * b + a) : kidx (nd ns n) k = kid ns n (2 * b + a) := by
 rcases ha with rfl | rfl <;> rcases hb with rfl | rfl
 ·obtain rfl : k = 0 := by omega
  rfl
 ·obtain rfl : k = 2 := by omega
  rfl
 ·obtain rfl : k = 1 := by omega
  rfl
 ·obtain rfl : k = 3 := by omega
  rfl
theorem kid_is {ns : List Node} (h : Wf ns) {lv : Nat} {n : Int} (hn : IsN ns (lv + 1) n) {a b : Int} (ha : a = 0 ∨ a = 1) (hb : b = 0 ∨ b = 1) : IsN ns lv (kid ns n (2 * b + a)) := by
 obtain ⟨k0, k1, k2, k3⟩ := kids4 h hn
 rcases ha with rfl | rfl <;> rcases hb with rfl | rfl
 ·exact k0
 ·exact k2
 ·exact k1
 ·exact k3
theorem getL_al {ns : List Node} (h : Wf ns) : ∀ (lv : Nat) (n : Int) (c : Cell), IsN ns lv n → inQ lv (loc lv c).x (loc lv c).y → getL ns lv n c = al ns lv n (loc lv c).x (loc lv c).y
 | 0, n, c, hn, hq => by
  rcases isN0 h hn with rfl | rfl
  ·unfold getL al; rw [h.nd0]; rfl
  ·unfold getL al; rw [h.nd1]; rfl
 | lv + 1, n, c, hn, hq => by
  obtain ⟨a, b, s⟩ := loc_step hq
  unfold getL
  rw [s.x, s.y, al_kid ns s.q s.ha s.hb, kidx_kid ns n s.ha s.hb s.k]
  exact getL_al h lv _ _ (kid_is h hn s.ha s.hb) s.q
theorem inQ_loc {lv : Nat} {c : Cell} : inQ (lv + 1) (loc (lv + 1) c).x (loc (lv + 1) c).y ↔ inL ((lv + 1 : Nat) : Int) c := by
 unfold inQ inL loc
 rw [side_succ, p2s]
 simp only
 omega
theorem Sd.get {ns : List Node} {room : Int} (h : R6.right ns room) {lv : Nat} {n : Int} {l : List Cell} (s : Sd ns lv n l) (c : Cell) : getM ns room n c = (decide (c ∈ l), 0) := by
 have hw := (R6.right_iff.1 h).2
 unfold getM
 rw [if_pos (s.may h), s.is.2]
 have e3 : ((lv + 1 : Nat) : Int).toNat = lv + 1 := by omega
 rw [e3]
 by_cases hc : inL ((lv + 1 : Nat) : Int) c
 ·rw [decide_eq_true hc, Bool.true_and, getL_al hw _ _ _ s.is (inQ_loc.2 hc)]
  have := s.std c hc
  rw [← this]
  rfl
 ·rw [decide_eq_false hc, Bool.false_and, decide_eq_false (fun k => hc (s.bd c k))]
/-! ### Puts in the plane -/
theorem std_uniq {ns : List Node} (h : Wf ns) {lv : Nat} {n m : Int} {f : Int → Int → Bool} {ox oy : Int} (a : Std ns lv n f ox oy) (b : Std ns lv m f ox oy) : n = m :=
 al_inj h lv n m a.1 b.1 fun x y hq => by rw [a.2 x y hq, b.2 x y hq]
theorem std_congr {ns : List Node} {lv : Nat} {n : Int} {f g : Int → Int → Bool} {ox oy : Int} (a : Std ns lv n f ox oy) (h : ∀ x y, inQ lv x y → f (x + ox) (y + oy) = g (x + ox) (y + oy)) : Std ns lv n g ox oy :=
 ⟨a.1, fun x y hq => by rw [a.2 x y hq, h x y hq]⟩
theorem put_found {ns : List Node} (h : Wf ns) {room q0 q1 q2 q3 p : Int} {lv : Nat} {f : Int → Int → Bool} {ox oy : Int} (h0 : Std ns lv q0 f ox oy) (h1 : Std ns lv q1 f (ox + 2 ^ lv) oy) (h2 : Std ns lv q2 f ox (oy + 2 ^ lv)) (h3 : Std ns lv q3 f (ox + 2 ^ lv) (oy + 2 ^ lv)) (hp : Std ns (lv + 1) p f ox oy) :
  put ns room q0 q1 q2 q3 = (ns, p, 0) := by
 have hl := h.lvb hp.1.1
 rw [hp.1.2] at hl
 have k0 := std_kids h hp (q := 0) (by omega)
 have k1 := std_kids h hp (q := 1) (by omega)
 have k2 := std_kids h hp (q := 2) (by omega)
 have k3 := std_kids h hp (q := 3) (by omega)
 have e0 : q0 = (nd ns p).k0 := std_uniq h h0 (k0.at (by omega) (by omega))
 have e1 : q1 = (nd ns p).k1 := std_uniq h h1 (k1.at (by omega) (by omega))
 have e2 : q2 = (nd ns p).k2 := std_uniq h h2 (k2.at (by omega) (by omega))
 have e3 : q3 = (nd ns p).k3 := std_uniq h h3 (k3.at (by omega) (by omega))
 refine put_again h (fit4_of (by omega) h0.1 h1.1 h2.1 h3.1) hp.1.1 (by rw [hp.1.2]; omega) ?_
 rw [e0, e1, e2, e3]
 rfl
structure New (ns : List Node) (cost lv : Nat) (f : Int → Int → Bool) (ox oy : Int) (ms : List Node) (m : Int) : Prop where
 wf : Wf ms
 pre : ns <+: ms
 len : ms.length ≤ ns.length + cost
 std : Std ms lv m f ox oy
theorem put_new {ns : List Node} (h : Wf ns) {room q0 q1 q2 q3 : Int} {lv : Nat} (hl : lv + 1 ≤ 42) {f : Int → Int → Bool} {ox oy : Int} (h0 : Std ns lv q0 f ox oy) (h1 : Std ns lv q1 f (ox + 2 ^ lv) oy) (h2 : Std ns lv q2 f ox (oy + 2 ^ lv)) (h3 : Std ns lv q3 f (ox + 2 ^ lv) (oy + 2 ^ lv)) (hr : (ns.length : Int) < room) :
  ∃ ms m, put ns room q0 q1 q2 q3 = (ms, m, 0) ∧ New ns 1 (lv + 1) f ox oy ms m := by
 obtain ⟨ms, m, e, ok⟩ := put_ok h (fit4_of hl h0.1 h1.1 h2.1 h3.1) (.inr hr)
 have s := std_put (room := room) h h0 h1 h2 h3 (by rw [e])
 rw [e] at s
 exact ⟨ms, m, e, ⟨ok.wf, ok.pre, by have := ok.len; omega, s⟩⟩
/-! ### Set -/
def upd (f : Int → Int → Bool) (u v : Int) (b : Bool) : Int → Int → Bool := fun x y => if x = u ∧ y = v then b else f x y
theorem put1_eq (ns : List Node) (room : Int) (x : Node) (k : Nat) (m : Int) : put1 ns room x k m = R6.put ns room (if k = 0 then m else x.kids.getD 0 default) (if k = 1 then m else x.kids.getD 1 default) (if k = 2 then m else x.kids.getD 2 default) (if k = 3 then m else x.kids.getD 3 default) := rfl
theorem upd_kids {ns ms : List Node} (h : Wf ns) (hp : ns <+: ms) {lv : Nat} {n : Int} {f : Int → Int → Bool} {ox oy : Int} {c : Cell} {a b : Int} {m : Int} {v : Bool} (hs : Std ns (lv + 1) n f ox oy) (s : Stp7 lv c a b)
  (hm : Std ms lv m (upd f ((loc (lv + 1) c).x + ox) ((loc (lv + 1) c).y + oy) v) (ox + a * 2 ^ lv) (oy + b * 2 ^ lv)) {i : Nat} (hi : i < 4) :
  Std ms lv (if qk c = i then m else (nd ns n).kids.getD i default) (upd f ((loc (lv + 1) c).x + ox) ((loc (lv + 1) c).y + oy) v) (ox + ((i % 2 : Nat) : Int) * 2 ^ lv) (oy + ((i / 2 : Nat) : Int) * 2 ^ lv) := by
 have hk := s.k
 split
 ·rename_i e
  rw [e] at hk
  have e1 : a = ((i % 2 : Nat) : Int) := by rcases s.ha with h | h <;> rcases s.hb with h' | h' <;> omega
  have e2 : b = ((i / 2 : Nat) : Int) := by rcases s.ha with h | h <;> rcases s.hb with h' | h' <;> omega
  rw [← e1, ← e2]
  exact hm
 ·rename_i e
  refine std_congr ((std_kids h hs hi).pre h hp) fun x y hq => ?_
  unfold upd
  rw [if_neg]
  rintro ⟨k1, k2⟩
  rw [s.x] at k1
  rw [s.y] at k2
  have q := s.q
  unfold inQ at q hq
  have hw := p2pos lv
  generalize (2:Int) ^ lv = w at *
  generalize loc lv (qd (qh (lv + 1)) c) = p at *
  rcases s.ha with rfl | rfl <;> rcases s.hb with rfl | rfl <;> rcases (by omega : i = 0 ∨ i = 1 ∨ i = 2 ∨ i = 3) with rfl | rfl | rfl | rfl <;> simp only [Nat.reduceDiv, Nat.reduceMod] at * <;> omega
theorem setL_std {room to : Int} {v : Bool} (ht : (to = 0 ∧ v = false) ∨ (to = 1 ∧ v = true)) : ∀ (lv : Nat) (ns : List Node) (n : Int) (c : Cell) (f : Int → Int → Bool) (ox oy : Int), Wf ns → lv ≤ 42 → Std ns lv n f ox oy → inQ lv (loc lv c).x (loc lv c).y →
  (((ns.length + lv : Nat) : Int) ≤ room → ∃ ms m, setL room to lv ns n c = (ms, m, 0) ∧ New ns lv lv (upd f ((loc lv c).x + ox) ((loc lv c).y + oy) v) ox oy ms m) ∧
  (∀ p, Std ns lv p (upd f ((loc lv c).x + ox) ((loc lv c).y + oy) v) ox oy → setL room to lv ns n c = (ns, p, 0))
 | 0, ns, n, c, f, ox, oy, h, hl, hs, hq => by
  have st : Std ns 0 to (upd f ((loc 0 c).x + ox) ((loc 0 c).y + oy) v) ox oy := by
   refine ⟨?_, fun x y hxy => ?_⟩
   ·rcases ht with ⟨rfl, _⟩ | ⟨rfl, _⟩
    ·exact ⟨h.in0, by rw [h.nd0]; rfl⟩
    ·exact ⟨h.in1, by rw [h.nd1]; rfl⟩
   ·unfold inQ at hxy
    rw [Int.pow_zero] at hxy
    unfold upd loc
    rw [if_pos ⟨by simp only; omega, by simp only; omega⟩]
    unfold al
    rcases ht with ⟨rfl, rfl⟩ | ⟨rfl, rfl⟩ <;> rfl
  refine ⟨fun _ => ⟨ns, to, rfl, h, List.prefix_refl _, Nat.le_refl _, st⟩, fun p hp => ?_⟩
  rw [std_uniq h hp st]
  rfl
 | lv + 1, ns, n, c, f, ox, oy, h, hl, hs, hq => by
  obtain ⟨a, b, s⟩ := loc_step hq
  have hkid : Std ns lv (kidx (nd ns n) (qk c)) f (ox + a * 2 ^ lv) (oy + b * 2 ^ lv) := by
   rw [kidx_kid ns n s.ha s.hb s.k]
   refine ⟨kid_is h hs.1 s.ha s.hb, fun x y hxy => ?_⟩
   rw [← al_kid ns hxy s.ha s.hb, hs.2]
   ·congr 1 <;> omega
   ·have hw := p2pos lv
    unfold inQ at hxy ⊢
    rw [p2s]
    rcases s.ha with rfl | rfl <;> rcases s.hb with rfl | rfl <;> omega
  obtain ⟨i1, i2⟩ := setL_std (room := room) ht lv ns _ (qd (qh (lv + 1)) c) f _ _ h (by omega) hkid s.q
  have el : ∀ w, (loc lv (qd (qh (lv + 1)) c)).x + (ox + a * 2 ^ lv) = w → w = (loc (lv + 1) c).x + ox := fun w e => by rw [s.x]; omega
  have ex' : (loc lv (qd (qh (lv + 1)) c)).x + (ox + a * 2 ^ lv) = (loc (lv + 1) c).x + ox := by rw [s.x]; omega
  have ey : (loc lv (qd (qh (lv + 1)) c)).y + (oy + b * 2 ^ lv) = (loc (lv + 1) c).y + oy := by rw [s.y]; omega
  rw [ex', ey] at i1 i2
  constructor
  ·intro hr
   obtain ⟨ms, m, e, ok⟩ := i1 (by omega)
   have ks := fun {i : Nat} (hi : i < 4) => upd_kids h ok.pre hs s ok.std hi
   have k0 := ks (i := 0) (by omega)
   have k1 := ks (i := 1) (by omega)
   have k2 := ks (i := 2) (by omega)
   have k3 := ks (i := 3) (by omega)
   simp only [Nat.reduceDiv, Nat.reduceMod] at k0 k1 k2 k3
   obtain ⟨ms2, m2, e2, ok2⟩ := put_new (room := room) ok.wf (lv := lv) (ox := ox) (oy := oy) (by omega) (k0.at (by omega) (by omega)) (k1.at (by omega) (by omega)) (k2.at (by omega) (by omega)) (k3.at (by omega) (by omega)) (by have := ok.len; omega)
   refine ⟨ms2, m2, ?_, ok2.wf, ok.pre.trans ok2.pre, by have := ok.len; have := ok2.len; omega, ok2.std⟩
   simp only [setL, e]
   rw [if_neg (by omega), put1_eq]
   exact e2
  ·intro p hp
   have hm : Std ns lv ((nd ns p).kids.getD (qk c) default) (upd f ((loc (lv + 1) c).x + ox) ((loc (lv + 1) c).y + oy) v) (ox + a * 2 ^ lv) (oy + b * 2 ^ lv) := by
    have hk := s.k
    rcases s.ha with rfl | rfl <;> rcases s.hb with rfl | rfl
    ·rw [show qk c = 0 by omega]; exact (std_kids h hp (q := 0) (by omega)).at (by omega) (by omega)
    ·rw [show qk c = 2 by omega]; exact (std_kids h hp (q := 2) (by omega)).at (by omega) (by omega)
    ·rw [show qk c = 1 by omega]; exact (std_kids h hp (q := 1) (by omega)).at (by omega) (by omega)
    ·rw [show qk c = 3 by omega]; exact (std_kids h hp (q := 3) (by omega)).at (by omega) (by omega)
   have e := i2 _ hm
   have ks := fun {i : Nat} (hi : i < 4) => upd_kids h (List.prefix_refl _) hs s hm hi
   have k0 := ks (i := 0) (by omega)
   have k1 := ks (i := 1) (by omega)
   have k2 := ks (i := 2) (by omega)
   have k3 := ks (i := 3) (by omega)
   simp only [Nat.reduceDiv, Nat.reduceMod] at k0 k1 k2 k3
   have e2 := put_found (room := room) (ox := ox) (oy := oy) h (k0.at (by omega) (by omega)) (k1.at (by omega) (by omega)) (k2.at (by omega) (by omega)) (k3.at (by omega) (by omega)) hp
   simp only [setL, e]
   rw [if_neg (by omega), put1_eq]
   exact e2
end R7
end Go.GL


set_option linter.unusedVariables false
namespace Go.GL
namespace R7
open R6 R9
theorem Sd.of' {ns : List Node} {lv : Nat} {n : Int} {l : List Cell} (hs : R1.Srt l) (hb : ∀ c ∈ l, inL ((lv + 1 : Nat) : Int) c) (s : Std ns (lv + 1) n (pl l) (-2 ^ lv) (-2 ^ lv)) : Sd ns lv n l := by
 refine ⟨s.1, hs, hb, fun c hc => ?_⟩
 rw [s.2 _ _ (by unfold inL at hc; rw [side_succ] at hc; unfold inQ; rw [p2s]; omega)]
 unfold pl
 rw [show c.x + 2 ^ lv + -2 ^ lv = c.x by omega, show c.y + 2 ^ lv + -2 ^ lv = c.y by omega]
theorem upd_pl {l : List Cell} (h : R1.Srt l) (c : Cell) (v : Bool) : upd (pl l) c.x c.y v = pl (R1.outW l c v) := by
 funext x y
 unfold upd pl
 have hm := R1.mem_outW h (c := c) (d := ⟨x, y⟩) (alive := v)
 by_cases e : x = c.x ∧ y = c.y
 ·rw [if_pos e]
  have e2 : (⟨x, y⟩ : Cell) = c := by cases c; simp only at e; rw [e.1, e.2]
  rw [e2] at hm ⊢
  cases v
  ·rw [decide_eq_false]; rw [hm]; simp
  ·rw [decide_eq_true]; rw [hm]; simp
 ·rw [if_neg e]
  have e2 : (⟨x, y⟩ : Cell) ≠ c := fun k => e (by rw [← k]; exact ⟨rfl, rfl⟩)
  refine decide_eq_decide.2 ?_
  rw [hm]
  constructor
  ·intro k; exact .inr ⟨e2, k⟩
  ·rintro (k | k)
   ·exact absurd k.1 e2
   ·exact k.2
theorem outW_bd {lv : Int} {l : List Cell} (hs : R1.Srt l) (hb : ∀ c ∈ l, inL lv c) {c : Cell} (hc : inL lv c) (v : Bool) : ∀ d ∈ R1.outW l c v, inL lv d := fun d hd => by
 rcases (R1.mem_outW hs).1 hd with k | k
 ·rw [k.1]; exact hc
 ·exact hb d k.2
/-- What 'Set' comes to. -/
theorem Sd.set {ns : List Node} {room : Int} (h : R6.right ns room) {lv : Nat} (hl : lv + 1 ≤ 42) {n : Int} {l : List Cell} (s : Sd ns lv n l) {c : Cell} (hc : inL ((lv + 1 : Nat) : Int) c) (v : Bool) :
  (((ns.length + (lv + 1) : Nat) : Int) ≤ room → ∃ ms m, setM ns room n c v = (ms, m, 0) ∧ Wf ms ∧ ns <+: ms ∧ ms.length ≤ ns.length + (lv + 1) ∧ Sd ms lv m (R1.outW l c v)) ∧
  (∀ p, Sd ns lv p (R1.outW l c v) → setM ns room n c v = (ns, p, 0)) := by
 have hw := (R6.right_iff.1 h).2
 have e3 : ((lv + 1 : Nat) : Int).toNat = lv + 1 := by omega
 have hq := inQ_loc.2 hc
 have ht : ((if v = true then (1:Int) else 0) = 0 ∧ v = false) ∨ ((if v = true then (1:Int) else 0) = 1 ∧ v = true) := by cases v <;> simp
 have key := setL_std (room := room) ht (lv + 1) ns n c (pl l) (-2 ^ lv) (-2 ^ lv) hw hl s.std' hq
 have ex' : (loc (lv + 1) c).x + -2 ^ lv = c.x := by unfold loc; simp only; omega
 have ey : (loc (lv + 1) c).y + -2 ^ lv = c.y := by unfold loc; simp only; omega
 rw [ex', ey, upd_pl s.srt] at key
 have em : setM ns room n c v = if (setL room (if v then 1 else 0) (lv + 1) ns n c).2.2 ≠ 0 then (ns, 0, (setL room (if v then 1 else 0) (lv + 1) ns n c).2.2) else setL room (if v then 1 else 0) (lv + 1) ns n c := by
  unfold setM
  rw [if_pos (s.may h), s.is.2, if_pos hc, e3]
 refine ⟨fun hr => ?_, fun p hp => ?_⟩
 ·obtain ⟨ms, m, e, ok⟩ := key.1 hr
  refine ⟨ms, m, ?_, ok.wf, ok.pre, ok.len, Sd.of' (R1.outW_srt s.srt c v) (outW_bd s.srt s.bd hc v) ok.std⟩
  rw [em, e]; rfl
 ·rw [em, key.2 p hp.std']; rfl
/-! ### Grow -/
theorem pop_of_al {ns : List Node} (h : Wf ns) {lv : Nat} {n : Int} (hn : IsN ns lv n) (hd : (nd ns n).pop = 0) : Std ns lv n nil2 0 0 := ⟨hn, fun x y _ => al_dead h lv n x y hn hd⟩
structure Big (ns : List Node) (lv : Nat) (f : Int → Int → Bool) (H : Int) (ms : List Node) (m : Int) : Prop where
 wf : Wf ms
 pre : ns <+: ms
 len : ms.length + E ms 42 ≤ ns.length + E ns 42 + 5
 std : Std ms (lv + 2) m f (-(2 * H)) (-(2 * H))
theorem larger_ok {ns : List Node} (h : Wf ns) {room : Int} {lv : Nat} (hl : lv + 2 ≤ 42) {n : Int} {f : Int → Int → Bool} {H : Int} (hH : (2:Int) ^ lv = H) (hs : Std ns (lv + 1) n f (-H) (-H)) (hf : Supp f H) (hr : ((ns.length + E ns 42 + 5 : Nat) : Int) ≤ room) :
  ∃ ms m, larger ns room n = (ms, m, 0) ∧ Big ns lv f H ms m := by
 have hpos := p2pos lv
 rw [hH] at hpos
 have e3 : ((nd ns n).lv - 1).toNat = lv := by rw [hs.1.2]; omega
 obtain ⟨d1, dm, ed, dok, dp⟩ := empty_ok (room := room) (L := 42) (lv := lv) (by omega) h (by omega) (by omega)
 have sd := pop_of_al dok.wf dok.is dp
 have kd := fun {q : Nat} (hq : q < 4) => (std_kids h hs hq).pre h dok.pre
 have k0 := kd (q := 0) (by omega)
 have k1 := kd (q := 1) (by omega)
 have k2 := kd (q := 2) (by omega)
 have k3 := kd (q := 3) (by omega)
 simp only [Nat.reduceDiv, Nat.reduceMod, hH] at k0 k1 k2 k3
 have dd : ∀ {ms : List Node} (u v : Int), d1 <+: ms → Wf ms → (u ≤ -(2 * H) ∨ H ≤ u ∨ v ≤ -(2 * H) ∨ H ≤ v) → Std ms lv dm f u v := fun u v hp hw ho => by
  refine (std_dead sd fun x y hq => ?_).pre dok.wf hp
  unfold inQ at hq
  rw [hH] at hq
  refine Bool.eq_false_iff.2 fun ht => ?_
  have := hf _ _ ht
  omega
 have dl := dok.len
 have el1 := E_pre dok.pre 42
 obtain ⟨m0, p0, e0, o0⟩ := put_new (room := room) dok.wf (lv := lv) (by omega) (ox := -(2 * H)) (oy := -(2 * H)) (f := f) (dd _ _ (List.prefix_refl _) dok.wf (by omega)) (dd _ _ (List.prefix_refl _) dok.wf (by omega)) (dd _ _ (List.prefix_refl _) dok.wf (by omega)) (k0.at (by omega) (by omega)) (by omega)
 obtain ⟨m1, p1, e1, o1⟩ := put_new (room := room) o0.wf (lv := lv) (by omega) (ox := 0) (oy := -(2 * H)) (f := f) (dd _ _ o0.pre o0.wf (by omega)) (dd _ _ o0.pre o0.wf (by omega)) ((k1.pre dok.wf o0.pre).at (by omega) (by omega)) (dd _ _ o0.pre o0.wf (by omega)) (by have := o0.len; omega)
 have q1 := o0.pre.trans o1.pre
 obtain ⟨m2, p2, e2, o2⟩ := put_new (room := room) o1.wf (lv := lv) (by omega) (ox := -(2 * H)) (oy := 0) (f := f) (dd _ _ q1 o1.wf (by omega)) ((k2.pre dok.wf q1).at (by omega) (by omega)) (dd _ _ q1 o1.wf (by omega)) (dd _ _ q1 o1.wf (by omega)) (by have := o0.len; have := o1.len; omega)
 have q2 := q1.trans o2.pre
 obtain ⟨m3, p3, e3', o3⟩ := put_new (room := room) o2.wf (lv := lv) (by omega) (ox := 0) (oy := 0) (f := f) ((k3.pre dok.wf q2).at (by omega) (by omega)) (dd _ _ q2 o2.wf (by omega)) (dd _ _ q2 o2.wf (by omega)) (dd _ _ q2 o2.wf (by omega)) (by have := o0.len; have := o1.len; have := o2.len; omega)
 have q3 := q2.trans o3.pre
 have hH2 : (2:Int) ^ (lv + 1) = 2 * H := by rw [p2s, hH]; omega
 obtain ⟨m4, p4, e4, o4⟩ := put_new (room := room) o3.wf (lv := lv + 1) (by omega) (ox := -(2 * H)) (oy := -(2 * H)) (f := f) (((o0.std.pre o0.wf o1.pre).pre o1.wf o2.pre).pre o2.wf o3.pre) ((((o1.std.pre o1.wf o2.pre).pre o2.wf o3.pre)).at (by omega) (by omega)) ((o2.std.pre o2.wf o3.pre).at (by omega) (by omega)) (o3.std.at (by omega) (by omega)) (by have := o0.len; have := o1.len; have := o2.len; have := o3.len; omega)
 refine ⟨m4, p4, ?_, o4.wf, dok.pre.trans (q3.trans o4.pre), ?_, o4.std⟩
 ·rw [larger_eq (d := (d1, dm, 0)) (r0 := (m0, p0, 0)) (r1 := (m1, p1, 0)) (r2 := (m2, p2, 0)) (r3 := (m3, p3, 0)) (r4 := (m4, p4, 0)) (by rw [e3]; exact ed) e0 e1 e2 e3' e4]
  simp
 ·have := E_pre (q3.trans o4.pre) 42
  have := o0.len
  have := o1.len
  have := o2.len
  have := o3.len
  have := o4.len
  omega
theorem inL_mono {a b : Nat} (h : a ≤ b) {c : Cell} (hc : inL ((a + 1 : Nat) : Int) c) : inL ((b + 1 : Nat) : Int) c := by
 have := R9.pow_le2 h
 unfold inL at *
 rw [side_succ] at *
 omega
theorem supp_pl {lv : Nat} {l : List Cell} (h : ∀ c ∈ l, inL ((lv + 1 : Nat) : Int) c) : Supp (pl l) (2 ^ lv) := fun x y ht => by
 have := h _ (of_decide_eq_true ht)
 unfold inL at this
 rw [side_succ] at this
 simp only at this
 omega
/-- What 'Grow' comes to. -/
theorem Sd.grow {ns : List Node} {room : Int} (h : R6.right ns room) {lv : Nat} (hl : lv + 2 ≤ 42) {n : Int} {l : List Cell} (s : Sd ns lv n l) (hr : ((ns.length + E ns 42 + 5 : Nat) : Int) ≤ room) :
  ∃ ms m, growM ns room n = (ms, m, 0) ∧ Wf ms ∧ ns <+: ms ∧ ms.length + E ms 42 ≤ ns.length + E ns 42 + 5 ∧ Sd ms (lv + 1) m l := by
 have hw := (R6.right_iff.1 h).2
 obtain ⟨ms, m, e, ok⟩ := larger_ok hw (room := room) hl rfl s.std' (supp_pl s.bd) hr
 refine ⟨ms, m, ?_, ok.wf, ok.pre, ok.len, Sd.of' s.srt (fun c hc => inL_mono (by omega) (s.bd c hc)) (ok.std.at ?_ ?_)⟩
 ·unfold growM
  rw [if_pos ⟨s.may h, by rw [s.is.2]; omega⟩]
  exact e
 all_goals (rw [p2s]; omega)
end R7
end Go.GL


set_option linter.unusedVariables false
namespace Go.GL
namespace R7
open R6 R9
/-! ### Made again -/
theorem dead_of {ns : List Node} (h : Wf ns) {lv : Nat} {p : Int} (hp : IsN ns lv p) (hd : ∀ x y, inQ lv x y → al ns lv p x y = false) : (nd ns p).pop = 0 := by
 apply Decidable.byContradiction
 intro hne
 obtain ⟨x, y, hq, ha⟩ := R9.alive h lv p hp hne
 rw [hd x y hq] at ha
 cases ha
/-- What 'Make' comes to. -/
theorem Sd.make {ns : List Node} {room : Int} (h : R6.right ns room) {l : List Cell} {lv L : Nat} (hL : L ≤ 42) (hlv : lv + 1 ≤ L) (hl : R1.right l) (hb : ∀ c ∈ l, inL ((lv + 1 : Nat) : Int) c) (hr : ((ns.length + E ns L + l.length * (lv + 1) : Nat) : Int) ≤ room) :
  ∃ ms m, make ns room l ((lv + 1 : Nat) : Int) = (ms, m, 0) ∧ Wf ms ∧ ns <+: ms ∧ ms.length + E ms L ≤ ns.length + E ns L + l.length * (lv + 1) ∧ Sd ms lv m l := by
 obtain ⟨ms, m, e, ok, s⟩ := make_ok hL hlv h hl hb hr
 exact ⟨ms, m, e, ok.wf, ok.pre, ok.len, ok.is, R1.right_srt hl, hb, s⟩
/-- Of one level the same set is the same node. -/
theorem Sd.uniq {ns : List Node} (h : Wf ns) {lv : Nat} {n m : Int} {l : List Cell} (a : Sd ns lv n l) (b : Sd ns lv m l) : n = m := std_uniq h a.std' b.std'
theorem Sd.same {ns : List Node} (h : Wf ns) {lv : Nat} {n : Int} {l k : List Cell} (a : Sd ns lv n l) (b : Sd ns lv n k) : l = k := by
 rw [← a.puts h, ← b.puts h]
/-! ### Box -/
/-- The edge of what is alive. -/
structure EdOf (P : Int → Prop) (e : Cell) : Prop where
 bd : ∀ t, P t → e.x ≤ t ∧ t < e.y
 at_ : (∃ t, P t) → P e.x ∧ P (e.y - 1)
 no : (¬ ∃ t, P t) → e.x = e.y
theorem EdOf.some {P : Int → Prop} {e : Cell} (h : EdOf P e) : e.x ≠ e.y ↔ ∃ t, P t := by
 constructor
 ·intro hne; exact Classical.byContradiction fun hn => hne (h.no hn)
 ·rintro ⟨t, ht⟩; have := h.bd t ht; omega
theorem EdOf.congr {P Q : Int → Prop} {e : Cell} (h : EdOf P e) (hpq : ∀ t, P t ↔ Q t) : EdOf Q e := by
 have : P = Q := funext fun t => propext (hpq t)
 rwa [← this]
theorem EdOf.jn {P Q : Int → Prop} {a b : Cell} (ha : EdOf P a) (hb : EdOf Q b) (d : Int) : EdOf (fun t => P t ∨ Q (t - d)) (R7.jn a b d) := by
 unfold R7.jn
 by_cases h1 : b.x = b.y
 ·rw [if_pos h1]
  have hn : ¬ ∃ t, Q t := fun k => hb.some.2 k h1
  exact ha.congr fun t => ⟨.inl, fun k => k.resolve_right fun q => hn ⟨_, q⟩⟩
 rw [if_neg h1]
 have hq := hb.at_ (hb.some.1 h1)
 by_cases h2 : a.x = a.y
 ·rw [if_pos h2]
  have hn : ¬ ∃ t, P t := fun k => ha.some.2 k h2
  refine ⟨fun t k => ?_, fun _ => ⟨.inr ?_, .inr ?_⟩, fun k => absurd ⟨b.x + d, .inr ?_⟩ k⟩
  ·have := hb.bd _ (k.resolve_left fun q => hn ⟨_, q⟩)
   simp only
   omega
  ·show Q (b.x + d - d)
   rw [show b.x + d - d = b.x by omega]; exact hq.1
  ·show Q (b.y + d - 1 - d)
   rw [show b.y + d - 1 - d = b.y - 1 by omega]; exact hq.2
  ·show Q (b.x + d - d)
   rw [show b.x + d - d = b.x by omega]; exact hq.1
 rw [if_neg h2]
 have hp := ha.at_ (ha.some.1 h2)
 refine ⟨fun t k => ?_, fun _ => ⟨?_, ?_⟩, fun k => absurd ⟨a.x, .inl hp.1⟩ k⟩
 ·simp only
  rcases k with k | k
  ·have := ha.bd _ k
   constructor <;> split <;> omega
  ·have := hb.bd _ k
   constructor <;> split <;> omega
 ·simp only
  split
  ·exact .inr (by rw [show b.x + d - d = b.x by omega]; exact hq.1)
  ·exact .inl hp.1
 ·simp only
  split
  ·exact .inr (by rw [show b.y + d - 1 - d = b.y - 1 by omega]; exact hq.2)
  ·exact .inl hp.2
def liveAx (ns : List Node) (ax : Bool) (lv : Nat) (n t : Int) : Prop := ∃ x y, inQ lv x y ∧ al ns lv n x y = true ∧ t = if ax then x else y
theorem ex_ed {ns : List Node} (h : Wf ns) (ax : Bool) : ∀ (lv : Nat) (n : Int), IsN ns lv n → EdOf (liveAx ns ax lv n) (ex ns ax lv n)
 | 0, n, hn => by
  unfold ex
  rcases isN0 h hn with rfl | rfl
  ·rw [h.nd0]
   have hno : ¬ ∃ t, liveAx ns ax 0 0 t := by
    rintro ⟨t, x, y, _, ha, _⟩
    cases ha
   exact ⟨fun t ht => absurd ⟨t, ht⟩ hno, fun k => absurd k hno, fun _ => rfl⟩
  ·rw [h.nd1]
   have h0 : liveAx ns ax 0 1 0 := ⟨0, 0, by unfold inQ; simp, rfl, by cases ax <;> rfl⟩
   refine ⟨fun t ht => ?_, fun _ => ⟨h0, h0⟩, fun k => absurd ⟨0, h0⟩ k⟩
   obtain ⟨x, y, hq, _, rfl⟩ := ht
   unfold inQ at hq
   simp only [Int.pow_zero] at hq
   show 0 ≤ (if ax = true then x else y) ∧ (if ax = true then x else y) < 1
   split <;> omega
 | m + 1, n, hn => by
  obtain ⟨a, b, c, d⟩ := kids4 h hn
  have ea := ex_ed h ax m _ a
  have eb := ex_ed h ax m _ b
  have ec := ex_ed h ax m _ c
  have ed := ex_ed h ax m _ d
  have z : EdOf (fun _ => False) ⟨0, 0⟩ := ⟨fun _ k => k.elim, fun ⟨_, k⟩ => k.elim, fun _ => rfl⟩
  have w := p2pos m
  have key := (((z.jn ea 0).jn eb (if ax then 2 ^ m else 0)).jn ec (if ax then 0 else 2 ^ m)).jn ed (2 ^ m)
  unfold ex
  refine key.congr fun t => ?_
  have fw : ∀ (p q : Int), (p = 0 ∨ p = 1) → (q = 0 ∨ q = 1) → ∀ dd : Int, dd = (if ax then p * 2 ^ m else q * 2 ^ m) → liveAx ns ax m (R7.kid ns n (2 * q + p)) (t - dd) → liveAx ns ax (m + 1) n t := by
   rintro p q hp hq dd hd ⟨x, y, hxy, ha, ht⟩
   refine ⟨x + p * 2 ^ m, y + q * 2 ^ m, ?_, by rw [al_kid ns hxy hp hq]; exact ha, ?_⟩
   ·unfold inQ at hxy ⊢
    rw [p2s]
    rcases hp with rfl | rfl <;> rcases hq with rfl | rfl <;> omega
   ·cases ax <;> simp at ht hd ⊢ <;> omega
  constructor
  ·rintro ((((k | k) | k) | k) | k)
   ·exact k.elim
   ·exact fw 0 0 (.inl rfl) (.inl rfl) 0 (by simp) k
   ·exact fw 1 0 (.inr rfl) (.inl rfl) _ (by simp) k
   ·exact fw 0 1 (.inl rfl) (.inr rfl) _ (by simp) k
   ·exact fw 1 1 (.inr rfl) (.inr rfl) _ (by simp) k
  ·rintro ⟨x, y, hxy, ha, rfl⟩
   have bw : ∀ (p q : Int), (p = 0 ∨ p = 1) → (q = 0 ∨ q = 1) → inQ m (x - p * 2 ^ m) (y - q * 2 ^ m) → ∀ dd : Int, dd = (if ax then p * 2 ^ m else q * 2 ^ m) → liveAx ns ax m (R7.kid ns n (2 * q + p)) ((if ax then x else y) - dd) := by
    intro p q hp hq hin dd hd
    refine ⟨x - p * 2 ^ m, y - q * 2 ^ m, hin, ?_, ?_⟩
    ·rw [← al_kid ns hin hp hq, show x - p * 2 ^ m + p * 2 ^ m = x by omega, show y - q * 2 ^ m + q * 2 ^ m = y by omega]; exact ha
    ·cases ax <;> simp at hd ⊢ <;> omega
   obtain ⟨q0, q1, q2, q3⟩ := inQ_succ hxy
   by_cases hy : y < 2 ^ m
   ·by_cases hx : x < 2 ^ m
    ·exact .inl (.inl (.inl (.inr (bw 0 0 (.inl rfl) (.inl rfl) (by simpa using q0 hy hx) 0 (by simp)))))
    ·exact .inl (.inl (.inr (bw 1 0 (.inr rfl) (.inl rfl) (by simpa using q1 hy hx) _ (by simp))))
   ·by_cases hx : x < 2 ^ m
    ·exact .inl (.inr (bw 0 1 (.inl rfl) (.inr rfl) (by simpa using q2 hy hx) _ (by simp)))
    ·exact .inr (bw 1 1 (.inr rfl) (.inr rfl) (by simpa using q3 hy hx) _ (by simp))
theorem Sd.live {ns : List Node} {lv : Nat} {n : Int} {l : List Cell} (s : Sd ns lv n l) (ax : Bool) (t : Int) : liveAx ns ax (lv + 1) n t ↔ ∃ c ∈ l, t = (if ax then c.x else c.y) + 2 ^ lv := by
 constructor
 ·rintro ⟨x, y, hq, ha, rfl⟩
  have hin : inL ((lv + 1 : Nat) : Int) ⟨x - 2 ^ lv, y - 2 ^ lv⟩ := by
   unfold inQ at hq
   rw [p2s] at hq
   unfold inL
   rw [side_succ]
   simp only
   omega
  have := s.std _ hin
  simp only at this
  rw [show x - 2 ^ lv + 2 ^ lv = x by omega, show y - 2 ^ lv + 2 ^ lv = y by omega, ha] at this
  exact ⟨_, of_decide_eq_true this.symm, by cases ax <;> simp <;> omega⟩
 ·rintro ⟨c, hc, rfl⟩
  have hin := s.bd c hc
  refine ⟨c.x + 2 ^ lv, c.y + 2 ^ lv, ?_, by rw [s.std c hin]; exact decide_eq_true hc, by cases ax <;> rfl⟩
  unfold inL at hin
  rw [side_succ] at hin
  unfold inQ
  rw [p2s]
  omega
/-- What 'Box' comes to. -/
theorem Sd.box {ns : List Node} {room : Int} (h : R6.right ns room) {lv : Nat} (hl : lv + 1 ≤ 30) {n : Int} {l : List Cell} (s : Sd ns lv n l) (hr : R1.right l) : boxM ns room n = R1.box l := by
 have hw := (R6.right_iff.1 h).2
 have hp := s.pop hw hl
 have e3 : ((lv + 1 : Nat) : Int).toNat = lv + 1 := by omega
 unfold boxM
 by_cases h0 : l.length = 0
 ·rw [if_neg (by rw [hp]; omega)]
  unfold R1.box
  rw [if_pos (.inl h0)]
 ·rw [if_pos ⟨s.may h, by rw [hp]; omega⟩, R2.box_some h0 hr, s.is.2, e3, side_succ]
  have hx := (ex_ed hw true (lv + 1) n s.is).congr (s.live true)
  have hy := (ex_ed hw false (lv + 1) n s.is).congr (s.live false)
  obtain ⟨⟨a1, ha1, ea1⟩, a2, ha2, ea2⟩ := R2.lo_mem h0
  obtain ⟨⟨b1, hb1, eb1⟩, b2, hb2, eb2⟩ := R2.hi_mem h0
  have hlo := (R1.lo_le (l := l) (c := R1.g l 0)).2
  have hhi := (R1.hi_ge (l := l) (c := R1.g l 0)).2
  generalize R1.lo l (R1.g l 0) = lo at *
  generalize R1.hi l (R1.g l 0) = hi at *
  generalize ex ns true (lv + 1) n = X at *
  generalize ex ns false (lv + 1) n = Y at *
  obtain ⟨⟨c1, hc1, ec1⟩, c2, hc2, ec2⟩ := hx.at_ ⟨_, a1, ha1, rfl⟩
  obtain ⟨⟨d1, hd1, ed1⟩, d2, hd2, ed2⟩ := hy.at_ ⟨_, a1, ha1, rfl⟩
  have u1 := hx.bd _ ⟨a1, ha1, rfl⟩
  have u2 := hx.bd _ ⟨b1, hb1, rfl⟩
  have u3 := hy.bd _ ⟨a2, ha2, rfl⟩
  have u4 := hy.bd _ ⟨b2, hb2, rfl⟩
  have v1 := hlo c1 hc1
  have v2 := hhi c2 hc2
  have v3 := hlo d1 hd1
  have v4 := hhi d2 hd2
  simp only [if_true, Bool.false_eq_true, if_false] at ec1 ec2 ed1 ed2 u1 u2 u3 u4
  have w1 : X.x - 2 ^ lv = lo.x := by omega
  have w2 : Y.x - 2 ^ lv = lo.y := by omega
  have w3 : X.y - X.x = hi.x - lo.x + 1 := by omega
  have w4 : Y.y - Y.x = hi.y - lo.y + 1 := by omega
  rw [w1, w2, w3, w4]
end R7
end Go.GL


set_option linter.unusedVariables false
namespace Go.GL
namespace RL
open R6 R7
theorem Sq.sd {c : Int} {nodes : List Five} {raw : List Cell} {level : Int} {lv : Nat} {ms : List Node} {m : Int} (h : Sq c nodes raw level lv ms m) : Sd ms lv m (set raw) :=
 ⟨h.is, R1.puts_srt _, fun d hd => by
  have h8 := p8 h.lv3.1
  have := mem_set hd
  unfold inL
  rw [side_succ]
  omega, h.sem⟩
theorem Sq.at {c : Int} {nodes : List Five} {raw : List Cell} {level : Int} {lv : Nat} {ms : List Node} {m : Int} (h : Sq c nodes raw level lv ms m) : 0 ≤ m ∧ m < ms.length ∧ (ms.getD m.toNat default).lv = ((lv + 1 : Nat) : Int) ∧ (ms.getD m.toNat default).pop = (set raw).length := by
 refine ⟨h.is.1.1, h.is.1.2, h.is.2, h.sd.pop h.wf (by have := h.lv3; omega)⟩
end RL
namespace R7
theorem inL_pow {lv : Nat} {c : Cell} : inL ((lv + 1 : Nat) : Int) c ↔ -2 ^ lv ≤ c.x ∧ c.x < 2 ^ lv ∧ -2 ^ lv ≤ c.y ∧ c.y < 2 ^ lv := by
 unfold inL
 rw [side_succ]
theorem right_of_wf {ns ms : List Node} {room : Int} (h : R6.right ns room) (hw : R6.Wf ms) (hl : (ms.length : Int) ≤ room) : R6.right ms room := by
 have h1 := (R6.right_iff.1 h).1
 exact R6.right_iff.2 ⟨⟨h1.1, h1.2.1, hl⟩, hw⟩
end R7
end Go.GL


set_option linter.unusedVariables false
namespace Go.GL
open Go.Proofs
section
variable {w0 : World} {n : Nat} {F : Frm} {A : List Asrt} {I : List Chunk} {P : Program}
variable {dst : Option Tmp} {ty : TypeId} {pos : String} {af : Array Edge} {gd : Option (Nat × Bool)}
variable {x y : Operand} {xt yt : TypeId}
end
attribute [local irreducible] wpList Code.wp Exit.then Exit.inBlock Ends Tri TriH OpV OpG FnC epf wpAnyH
variable {A : List Asrt} {I : List Chunk}
end Go.GL


set_option linter.unusedVariables false
namespace Go.GL
namespace RL
open R6 R7 R9
theorem store_right {c : Int} (nodes : List Five) {k : Int} (h0 : 0 ≤ k) (h1 : k ≤ 1000) : R6.right (store (room c) nodes) (room c + k) := by
 have hrm := room_bd c
 obtain ⟨hw, hl⟩ := store_ok (rm := room c) (by omega) (by omega) nodes
 exact right_iff.2 ⟨⟨by omega, by omega, by omega⟩, hw⟩
/-- Made, another made, made again. -/
structure Back (c : Int) (nodes : List Five) (raw other : List Cell) (v : Int) (a : List Node) (n : Int) (b : List Node) (j : Int) : Prop where
 e1 : make (store (room c) nodes) (room c + 900) (set raw) v = (a, n, 0)
 e2 : make a (room c + 900) (set other) v = (b, j, 0)
 e3 : make b (room c + 900) (set raw) v = (b, n, 0)
 c1 : cells b (room c + 900) n = (set raw, 0)
 c2 : cells b (room c + 900) j = (set other, 0)
 rb : R6.right b (room c + 900)
 la : a.length ≤ 1000000000
 ra : R6.right a (room c + 900)
 eq : decide (n = j) = decide (set raw = set other)
/-! ### A quarter, shifted -/
structure Shf (c : Int) (nodes : List Five) (raw : List Cell) (k : Int) (a : List Node) (n : Int) (b : List Node) (m : Int) : Prop where
 es : R1.shift (set raw) (8 * (2 * (k % 2) - 1)) (8 * (2 * (k / 2) - 1)) = ((set raw).map (R1.mv (8 * (2 * (k % 2) - 1)) (8 * (2 * (k / 2) - 1))), 0)
 e1 : make (store (room c) nodes) (room c + 900) (set raw) 4 = (a, n, 0)
 e2 : make a (room c + 900) ((set raw).map (R1.mv (8 * (2 * (k % 2) - 1)) (8 * (2 * (k / 2) - 1)))) 5 = (b, m, 0)
 ra : R6.right a (room c + 900)
 rb : R6.right b (room c + 900)
 m0 : 0 ≤ m
 mb : m < b.length
 kid : ∀ i : Nat, i < 4 → 0 ≤ (nd b m).kids.getD i default ∧ (nd b m).kids.getD i default < b.length ∧ ((i : Int) = k → (nd b m).kids.getD i default = n) ∧ ((i : Int) ≠ k → (nd b ((nd b m).kids.getD i default)).pop = 0)
 pop : (nd b m).pop = (set raw).length
theorem shift_ok (c : Int) (nodes : List Five) (raw : List Cell) {k : Int} (hk : 0 ≤ k ∧ k < 4) : ∃ a n b m, Shf c nodes raw k a n b m := by
 have hrm := room_bd c
 obtain ⟨hw, hl⟩ := store_ok (rm := room c) (by omega) (by omega) nodes
 have hr := store_right (c := c) nodes (k := 900) (by omega) (by omega)
 have hE := E_le (store (room c) nodes) 7
 have m1 : (set raw).length * (3 + 1) ≤ 60 * 4 := Nat.mul_le_mul (set_le raw) (by omega)
 have m2 : (set raw).length * (4 + 1) ≤ 60 * 5 := Nat.mul_le_mul (set_le raw) (by omega)
 obtain ⟨u, hu⟩ : ∃ u, 8 * (2 * (k % 2) - 1) = u := ⟨_, rfl⟩
 obtain ⟨w, hv⟩ : ∃ u, 8 * (2 * (k / 2) - 1) = u := ⟨_, rfl⟩
 have hmem := fun d hd => mem_set (raw := raw) (c := d) hd
 have hsr := set_right raw
 have hpl := R2.pl_mv (set raw) u w
 have hfl : ((set raw).map (R1.mv u w)).length = (set raw).length := List.length_map ..
 generalize hset : set raw = l at *
 have hfb : ∀ d ∈ l.map (R1.mv u w), ∃ e ∈ l, d = ⟨e.x + u, e.y + w⟩ := fun d hd => by
  obtain ⟨e, he, rfl⟩ := List.mem_map.1 hd
  exact ⟨e, he, rfl⟩
 have hfs : R1.Srt (l.map (R1.mv u w)) := by
  refine List.Pairwise.map _ (fun p q hpq => ?_) (R1.right_srt hsr)
  unfold R1.less R1.mv at *
  simp only
  omega
 have hfr : R1.right (l.map (R1.mv u w)) := R1.right_of hfs (fun d hd => by
  obtain ⟨e, he, rfl⟩ := hfb d hd
  have := hmem e he
  unfold R1.inB
  simp only
  omega) (by rw [hfl]; exact hsr.2)
 obtain ⟨a, n, e1, wa, pa, la, sa⟩ := Sd.make (L := 7) (lv := 3) hr (by omega) (by omega) hsr (fun d hd => by
  have := hmem d hd
  rw [inL_pow]
  simp only [Int.reducePow]
  omega) (by omega)
 have ra := right_of_wf hr wa (by omega)
 have hfin : ∀ d ∈ l.map (R1.mv u w), inL ((4 + 1 : Nat) : Int) d := fun d hd => by
  obtain ⟨e, he, rfl⟩ := hfb d hd
  have := hmem e he
  rw [inL_pow]
  simp only [Int.reducePow]
  omega
 obtain ⟨b, m, e2, wb, pb, lb, sb⟩ := Sd.make (L := 7) (lv := 4) ra (by omega) (by omega) hfr hfin (by rw [hfl]; omega)
 rw [hfl] at lb
 have rb := right_of_wf ra wb (by omega)
 have sn := (sa.pre wa pb).std'
 refine ⟨a, n, b, m, ?_⟩
 refine ⟨?_, ?_, ?_, ra, rb, sb.is.1.1, sb.is.1.2, fun i hi => ?_, ?_⟩
 ·rw [hu, hv, hset]
  unfold R1.shift
  rw [if_pos hsr, if_pos (fun i hi => by
   have e4 : R1.g l i = l[i] := by simp [R1.g, hi]
   have := hmem _ (List.getElem_mem hi)
   rw [e4]
   unfold R1.mv R1.inB
   simp only
   omega)]
 ·rw [hset]; exact e1
 ·rw [hu, hv, hset]; exact e2
 ·have hkid := std_kids wb sb.std' hi
  refine ⟨hkid.1.1.1, hkid.1.1.2, fun e => ?_, fun e => ?_⟩
  ·refine std_uniq wb hkid ⟨sn.1, fun x y hq => ?_⟩
   rw [sn.2 x y hq, hpl]
   unfold R2.shF
   congr 1
   ·simp only [Int.reducePow]; omega
   ·simp only [Int.reducePow]; omega
  ·refine dead_of wb hkid.1 fun x y hq => ?_
   rw [hkid.2 x y hq]
   refine Bool.eq_false_iff.2 fun ht => ?_
   obtain ⟨e', he, ee⟩ := hfb _ (of_decide_eq_true ht)
   have := hmem e' he
   unfold inQ at hq
   simp only [Int.reducePow, Cell.mk.injEq] at hq ee
   rcases (by omega : i = 0 ∨ i = 1 ∨ i = 2 ∨ i = 3) with rfl | rfl | rfl | rfl <;> omega
 ·have := sb.pop wb (by omega)
  rw [this, hfl, hset]
end RL
end Go.GL


set_option linter.unusedVariables false
namespace Go.GL
open Go.Proofs
theorem num_int : NumTy Try.prog 3 1 := NumTy.int
theorem num_2 : NumTy Try.prog 70 2 := NumTy.arr num_int (by decide)
theorem num_5 : NumTy Try.prog 104 5 := NumTy.arr num_int (by decide)
theorem laid : laidOutB Try.prog = true := by kernel_rfl
theorem own : ownKnob Try.prog.godebug = none := by kernel_rfl
end Go.GL


set_option linter.unusedVariables false
namespace Go.GL
open Go.Proofs
attribute [local irreducible] wpList Code.wp Exit.then Exit.inBlock Ends Tri TriH OpV OpG FnC epf wpAnyH
variable {A : List Asrt} {I : List Chunk}
set_option maxHeartbeats 2000000 in
set_option maxRecDepth 100000 in
theorem ref01_shift {l : List Cell} {a : Option Addr} {cap : Nat} {dx dy : Int} (hs : SlAt I a l) (hn : l.length ≤ 1000000000) :
  FnC Try.prog 33 [.slice a l.length cap, .int .i64 dx, .int .i64 dy].toArray A I (fun v A' I' => ∃ a' cap', v = .tuple [.slice a' (R1.shift l dx dy).1.length cap', .int .i64 (R1.shift l dx dy).2].toArray ∧ SlAt I' a' (R1.shift l dx dy).1 ∧ A = A' ∧ I ⊆ I') := by
 skip
 skip
 refine fn_enter3 Try.func33 rfl Try.ntmps33 rfl fun w0 => ?_
 refine tS (tR (tA rfl rfl (tA rfl rfl (tN (tT (tS (tS ?_)))))))
 refine tR (tM rfl rfl ?_)
 refine tri_g (opg_call (xs := [_]) rfl (ref01_right hs hn)) rfl ?_
 rintro _ _ _ ⟨rfl, rfl, rfl⟩
 refine tri_v (opv_notD rfl) rfl ?_
 refine tN (tT ?_)
 refine tri_cond_dec rfl (fun h1 => ?_) (fun h1 => ?_)
 ·refine tS (tR (tA rfl rfl (tA rfl rfl (tN (tT (tri_ret (tri_then_ret ?_)))))))
  refine tri_end A Suf.h rfl (.cons (rv_tmp rfl) (.cons (rv_tmp rfl) .nil)) ?_
  rw [show R1.shift l dx dy = ([], 1) from if_neg h1]
  exact ⟨none, 0, rfl, SlAt.nil, rfl, fun _ h => h⟩
 ·have hr : R1.right l := Decidable.not_not.1 h1
  have hsh : R1.shift l dx dy = if ∀ i, i < l.length → R1.inB (R1.mv dx dy (R1.g l i)) then (l.map (R1.mv dx dy), 0) else ([], 2) := if_pos hr
  have hin : ∀ i, i < l.length → R1.inB (R1.g l i) := fun i hi => (hr.1 i hi).1
  have bad : ∀ i, i < l.length → ¬ R1.inB (R1.mv dx dy (R1.g l i)) → ∃ a' cap', Value.tuple [.slice none 0 0, .int .i64 2].toArray = .tuple [.slice a' (R1.shift l dx dy).1.length cap', .int .i64 (R1.shift l dx dy).2].toArray ∧ SlAt I a' (R1.shift l dx dy).1 ∧ A = A ∧ I ⊆ I := fun i hi h => by
   rw [hsh, if_neg (fun k => h (k i hi))]
   exact ⟨none, 0, rfl, SlAt.nil, rfl, fun _ h => h⟩
  refine tri_skip (tT (tS (tR (tA rfl rfl (tN (tT (tS ?_)))))))
  refine tR (tA rfl rfl (tN (tT (tS (tS (tR (tA rfl rfl ?_)))))))
  refine tN (tT (tri_block ?_))
  refine tri_nilRow (E := 28) (sz := 2) ?_
  refine tri_sub (F' := [(0, .slice a l.length cap), (1, .int .i64 dx), (2, .int .i64 dy), (8, .int .i64 2199023255552), (9, .slice none 0 0), (10, .int .i64 (0 : Nat))]) ⟨rfl, rfl, rfl, rfl, rfl, rfl, trivial⟩ ?_
  refine loop_ind (G := Nat × Option Addr × Nat) (fun g => l.length - g.1) (fun g => g.1 ≤ l.length ∧ ∀ j, j < g.1 → R1.inB (R1.mv dx dy (R1.g l j))) (fun g => [(0, .slice a l.length cap), (1, .int .i64 dx), (2, .int .i64 dy), (8, .int .i64 2199023255552), (9, .slice g.2.1 ((l.take g.1).map (R1.mv dx dy)).length g.2.2), (10, .int .i64 (g.1 : Nat))]) (fun g => Row g.2.1 g.2.2 ((l.take g.1).map (R1.mv dx dy)).length 28 2 (encs ((l.take g.1).map (R1.mv dx dy))) :: A) (fun _ => I) ?_ (0, none, 0) ⟨by simp only; omega, fun j h => absurd h (by simp only; omega)⟩
  rintro ⟨i, a1, cap1⟩ ⟨hi, hok⟩ K hK
  simp only at hi hok hK ⊢
  skip
  refine tS (tS (tR (tM rfl rfl (tM rfl rfl ?_))))
  refine tri_v (opv_len rfl) rfl ?_
  refine tri_v (opv_lss rfl rfl) rfl ?_
  refine tN (tT ?_)
  refine tri_cond_dec rfl (fun h => ?_) (fun h => ?_)
  ·have hlt : i < l.length := by omega
   have hci := hin i hlt
   have hi1 : R1.g l i = l.getD i default := rfl
   rw [hi1] at hci
   have bx := hci.1
   have bx2 := hci.2.1
   have by1 := hci.2.2.1
   have by2 := hci.2.2.2
   have bad2 : ¬ R1.inB ⟨(l.getD i default).x + dx, (l.getD i default).y + dy⟩ → _ := fun h => bad i hlt h
   have off : ∀ {p : Prop}, (p → dx < -2199023255552 ∨ 2199023255552 < dx ∨ dy < -2199023255552 ∨ 2199023255552 < dy) → p → ¬ R1.inB ⟨(l.getD i default).x + dx, (l.getD i default).y + dy⟩ := fun h hp => by
    have := h hp
    unfold R1.inB
    simp only
    omega
   refine tri_skip (tT (tS (tri_block (tS (tS ?_)))))
   refine tri_draw [0, 1, 2, 3, 4, 5, 6, 7, 8, 9, 10, 11, 12, 13, 14, 15, 16, 17, 18, 19, 20, 21, 22, 23, 24, 25, 26, 27, 28, 29, 30, 31, 32, 33, 34, 35, 36, 37, 38] rfl [] rfl mixed ?_
   refine th_take rfl rfl (by kernel_rfl)  (opv_move rfl) ?_
   refine th_take rfl rfl (by kernel_rfl)  (opv_move rfl) ?_
   refine th_take rfl rfl (by kernel_rfl)  (opv_negE rfl (by omega) (by omega)) ?_
   refine th_take rfl rfl (by kernel_rfl)  (opv_lss rfl rfl) ?_
   refine th_take rfl rfl (by kernel_rfl)  (opv_move rfl) ?_
   refine th_split rfl rfl rfl (fun h2 => ?_) (fun h2 => ?_)
   ·refine th_skip rfl rfl rfl rfl rfl (by kernel_rfl)  ?_
    refine th_skip rfl rfl rfl rfl rfl (by kernel_rfl)  ?_
    refine th_skip rfl rfl rfl rfl rfl (by kernel_rfl)  ?_
    refine th_take rfl rfl (by kernel_rfl)  (opv_pick_t rfl rfl) ?_
    refine th_take rfl rfl (by kernel_rfl)  (opv_move rfl) ?_
    refine th_skip rfl rfl rfl rfl rfl (by kernel_rfl)  ?_
    refine th_skip rfl rfl rfl rfl rfl (by kernel_rfl)  ?_
    refine th_skip rfl rfl rfl rfl rfl (by kernel_rfl)  ?_
    refine th_skip rfl rfl rfl rfl rfl (by kernel_rfl)  ?_
    refine th_take rfl rfl (by kernel_rfl)  (opv_pick_t rfl rfl) ?_
    refine th_take rfl rfl (by kernel_rfl)  (opv_move rfl) ?_
    refine th_skip rfl rfl rfl rfl rfl (by kernel_rfl)  ?_
    refine th_skip rfl rfl rfl rfl rfl (by kernel_rfl)  ?_
    refine th_skip rfl rfl rfl rfl rfl (by kernel_rfl)  ?_
    refine th_take rfl rfl (by kernel_rfl)  (opv_pick_t rfl rfl) ?_
    refine th_take rfl rfl (by kernel_rfl)  (opv_move rfl) ?_
    refine th_skip rfl rfl rfl rfl rfl (by kernel_rfl)  ?_
    refine th_skip rfl rfl rfl rfl rfl (by kernel_rfl)  ?_
    refine th_skip rfl rfl rfl rfl rfl (by kernel_rfl)  ?_
    refine th_skip rfl rfl rfl rfl rfl (by kernel_rfl)  ?_
    refine th_skip rfl rfl rfl rfl rfl (by kernel_rfl)  ?_
    refine th_skip rfl rfl rfl rfl rfl (by kernel_rfl)  ?_
    refine th_skip rfl rfl rfl rfl rfl (by kernel_rfl)  ?_
    refine th_skip rfl rfl rfl rfl rfl (by kernel_rfl)  ?_
    refine th_skip rfl rfl rfl rfl rfl (by kernel_rfl)  ?_
    refine th_skip rfl rfl rfl rfl rfl (by kernel_rfl)  ?_
    refine th_skip rfl rfl rfl rfl rfl (by kernel_rfl)  ?_
    refine th_skip rfl rfl rfl rfl rfl (by kernel_rfl)  ?_
    refine th_skip rfl rfl rfl rfl rfl (by kernel_rfl)  ?_
    refine th_skip rfl rfl rfl rfl rfl (by kernel_rfl)  ?_
    refine th_skip rfl rfl rfl rfl rfl (by kernel_rfl)  ?_
    refine th_one (by kernel_rfl) (step_skip rfl rfl rfl rfl rfl ?_)
    refine th_skip rfl rfl rfl rfl rfl (by kernel_rfl)  ?_
    refine th_take rfl rfl (by kernel_rfl)  (opv_pick_t rfl rfl) ?_
    refine th_done (by kernel_rfl) ?_
    refine tT ?_
    refine tri_cond_true rfl ?_
    refine tS (tR (tA rfl rfl (tA rfl rfl (tN (tT (tri_ret (tri_then_ret ?_)))))))
    refine tri_inBlock_ret ?_
    refine tri_then_ret (tri_then_ret ?_)
    refine tri_inBlock_ret ?_
    refine tri_then_ret ?_
    refine tri_end A Suf.h rfl (.cons (rv_tmp rfl) (.cons (rv_tmp rfl) .nil)) (bad2 (off (fun h => .inl h) h2))
   ·refine th_take_g rfl rfl rfl rfl rfl (by kernel_rfl)  (opv_move rfl) ?_
    refine th_take_g rfl rfl rfl rfl rfl (by kernel_rfl)  (opv_move rfl) ?_
    refine th_take_g rfl rfl rfl rfl rfl (by kernel_rfl)  (opv_gtr rfl rfl) ?_
    refine th_take rfl rfl (by kernel_rfl)  (opv_pick_f rfl rfl) ?_
    refine th_take rfl rfl (by kernel_rfl)  (opv_move rfl) ?_
    refine th_split rfl rfl rfl (fun h3 => ?_) (fun h3 => ?_)
    ·refine th_skip rfl rfl rfl rfl rfl (by kernel_rfl)  ?_
     refine th_skip rfl rfl rfl rfl rfl (by kernel_rfl)  ?_
     refine th_skip rfl rfl rfl rfl rfl (by kernel_rfl)  ?_
     refine th_skip rfl rfl rfl rfl rfl (by kernel_rfl)  ?_
     refine th_take rfl rfl (by kernel_rfl)  (opv_pick_t rfl rfl) ?_
     refine th_take rfl rfl (by kernel_rfl)  (opv_move rfl) ?_
     refine th_skip rfl rfl rfl rfl rfl (by kernel_rfl)  ?_
     refine th_skip rfl rfl rfl rfl rfl (by kernel_rfl)  ?_
     refine th_skip rfl rfl rfl rfl rfl (by kernel_rfl)  ?_
     refine th_take rfl rfl (by kernel_rfl)  (opv_pick_t rfl rfl) ?_
     refine th_take rfl rfl (by kernel_rfl)  (opv_move rfl) ?_
     refine th_skip rfl rfl rfl rfl rfl (by kernel_rfl)  ?_
     refine th_skip rfl rfl rfl rfl rfl (by kernel_rfl)  ?_
     refine th_skip rfl rfl rfl rfl rfl (by kernel_rfl)  ?_
     refine th_skip rfl rfl rfl rfl rfl (by kernel_rfl)  ?_
     refine th_skip rfl rfl rfl rfl rfl (by kernel_rfl)  ?_
     refine th_skip rfl rfl rfl rfl rfl (by kernel_rfl)  ?_
     refine th_skip rfl rfl rfl rfl rfl (by kernel_rfl)  ?_
     refine th_skip rfl rfl rfl rfl rfl (by kernel_rfl)  ?_
     refine th_skip rfl rfl rfl rfl rfl (by kernel_rfl)  ?_
     refine th_skip rfl rfl rfl rfl rfl (by kernel_rfl)  ?_
     refine th_skip rfl rfl rfl rfl rfl (by kernel_rfl)  ?_
     refine th_skip rfl rfl rfl rfl rfl (by kernel_rfl)  ?_
     refine th_skip rfl rfl rfl rfl rfl (by kernel_rfl)  ?_
     refine th_skip rfl rfl rfl rfl rfl (by kernel_rfl)  ?_
     refine th_skip rfl rfl rfl rfl rfl (by kernel_rfl)  ?_
     refine th_one (by kernel_rfl) (step_skip rfl rfl rfl rfl rfl ?_)
     refine th_skip rfl rfl rfl rfl rfl (by kernel_rfl)  ?_
     refine th_take rfl rfl (by kernel_rfl)  (opv_pick_t rfl rfl) ?_
     refine th_done (by kernel_rfl) ?_
     refine tT ?_
     refine tri_cond_true rfl ?_
     refine tS (tR (tA rfl rfl (tA rfl rfl (tN (tT (tri_ret (tri_then_ret ?_)))))))
     refine tri_inBlock_ret ?_
     refine tri_then_ret (tri_then_ret ?_)
     refine tri_inBlock_ret ?_
     refine tri_then_ret ?_
     refine tri_end A Suf.h rfl (.cons (rv_tmp rfl) (.cons (rv_tmp rfl) .nil)) (bad2 (off (fun h => .inr (.inl h)) h3))
    ·refine th_take_g rfl rfl rfl rfl rfl (by kernel_rfl)  (opv_move rfl) ?_
     refine th_take_g rfl rfl rfl rfl rfl (by kernel_rfl)  (opv_move rfl) ?_
     refine th_take_g rfl rfl rfl rfl rfl (by kernel_rfl)  (opv_negE rfl (by omega) (by omega)) ?_
     refine th_take_g rfl rfl rfl rfl rfl (by kernel_rfl)  (opv_lss rfl rfl) ?_
     refine th_take rfl rfl (by kernel_rfl)  (opv_pick_f rfl rfl) ?_
     refine th_take rfl rfl (by kernel_rfl)  (opv_move rfl) ?_
     refine th_split rfl rfl rfl (fun h4 => ?_) (fun h4 => ?_)
     ·refine th_skip rfl rfl rfl rfl rfl (by kernel_rfl)  ?_
      refine th_skip rfl rfl rfl rfl rfl (by kernel_rfl)  ?_
      refine th_skip rfl rfl rfl rfl rfl (by kernel_rfl)  ?_
      refine th_take rfl rfl (by kernel_rfl)  (opv_pick_t rfl rfl) ?_
      refine th_take rfl rfl (by kernel_rfl)  (opv_move rfl) ?_
      refine th_skip rfl rfl rfl rfl rfl (by kernel_rfl)  ?_
      refine th_skip rfl rfl rfl rfl rfl (by kernel_rfl)  ?_
      refine th_skip rfl rfl rfl rfl rfl (by kernel_rfl)  ?_
      refine th_skip rfl rfl rfl rfl rfl (by kernel_rfl)  ?_
      refine th_skip rfl rfl rfl rfl rfl (by kernel_rfl)  ?_
      refine th_skip rfl rfl rfl rfl rfl (by kernel_rfl)  ?_
      refine th_skip rfl rfl rfl rfl rfl (by kernel_rfl)  ?_
      refine th_skip rfl rfl rfl rfl rfl (by kernel_rfl)  ?_
      refine th_skip rfl rfl rfl rfl rfl (by kernel_rfl)  ?_
      refine th_skip rfl rfl rfl rfl rfl (by kernel_rfl)  ?_
      refine th_skip rfl rfl rfl rfl rfl (by kernel_rfl)  ?_
      refine th_skip rfl rfl rfl rfl rfl (by kernel_rfl)  ?_
      refine th_skip rfl rfl rfl rfl rfl (by kernel_rfl)  ?_
      refine th_skip rfl rfl rfl rfl rfl (by kernel_rfl)  ?_
      refine th_skip rfl rfl rfl rfl rfl (by kernel_rfl)  ?_
      refine th_one (by kernel_rfl) (step_skip rfl rfl rfl rfl rfl ?_)
      refine th_skip rfl rfl rfl rfl rfl (by kernel_rfl)  ?_
      refine th_take rfl rfl (by kernel_rfl)  (opv_pick_t rfl rfl) ?_
      refine th_done (by kernel_rfl) ?_
      refine tT ?_
      refine tri_cond_true rfl ?_
      refine tS (tR (tA rfl rfl (tA rfl rfl (tN (tT (tri_ret (tri_then_ret ?_)))))))
      refine tri_inBlock_ret ?_
      refine tri_then_ret (tri_then_ret ?_)
      refine tri_inBlock_ret ?_
      refine tri_then_ret ?_
      refine tri_end A Suf.h rfl (.cons (rv_tmp rfl) (.cons (rv_tmp rfl) .nil)) (bad2 (off (fun h => .inr (.inr (.inl h))) h4))
     ·refine th_take_g rfl rfl rfl rfl rfl (by kernel_rfl)  (opv_move rfl) ?_
      refine th_take_g rfl rfl rfl rfl rfl (by kernel_rfl)  (opv_move rfl) ?_
      refine th_take_g rfl rfl rfl rfl rfl (by kernel_rfl)  (opv_gtr rfl rfl) ?_
      refine th_take rfl rfl (by kernel_rfl)  (opv_pick_f rfl rfl) ?_
      refine th_take rfl rfl (by kernel_rfl)  (opv_move rfl) ?_
      refine th_split rfl rfl rfl (fun h5 => ?_) (fun h5 => ?_)
      ·refine th_skip rfl rfl rfl rfl rfl (by kernel_rfl)  ?_
       refine th_skip rfl rfl rfl rfl rfl (by kernel_rfl)  ?_
       refine th_skip rfl rfl rfl rfl rfl (by kernel_rfl)  ?_
       refine th_skip rfl rfl rfl rfl rfl (by kernel_rfl)  ?_
       refine th_skip rfl rfl rfl rfl rfl (by kernel_rfl)  ?_
       refine th_skip rfl rfl rfl rfl rfl (by kernel_rfl)  ?_
       refine th_skip rfl rfl rfl rfl rfl (by kernel_rfl)  ?_
       refine th_skip rfl rfl rfl rfl rfl (by kernel_rfl)  ?_
       refine th_skip rfl rfl rfl rfl rfl (by kernel_rfl)  ?_
       refine th_skip rfl rfl rfl rfl rfl (by kernel_rfl)  ?_
       refine th_skip rfl rfl rfl rfl rfl (by kernel_rfl)  ?_
       refine th_skip rfl rfl rfl rfl rfl (by kernel_rfl)  ?_
       refine th_skip rfl rfl rfl rfl rfl (by kernel_rfl)  ?_
       refine th_skip rfl rfl rfl rfl rfl (by kernel_rfl)  ?_
       refine th_skip rfl rfl rfl rfl rfl (by kernel_rfl)  ?_
       refine th_one (by kernel_rfl) (step_skip rfl rfl rfl rfl rfl ?_)
       refine th_skip rfl rfl rfl rfl rfl (by kernel_rfl)  ?_
       refine th_take rfl rfl (by kernel_rfl)  (opv_pick_t rfl rfl) ?_
       refine th_done (by kernel_rfl) ?_
       refine tT ?_
       refine tri_cond_true rfl ?_
       refine tS (tR (tA rfl rfl (tA rfl rfl (tN (tT (tri_ret (tri_then_ret ?_)))))))
       refine tri_inBlock_ret ?_
       refine tri_then_ret (tri_then_ret ?_)
       refine tri_inBlock_ret ?_
       refine tri_then_ret ?_
       refine tri_end A Suf.h rfl (.cons (rv_tmp rfl) (.cons (rv_tmp rfl) .nil)) (bad2 (off (fun h => .inr (.inr (.inr h))) h5))
      ·refine th_take_g rfl rfl rfl rfl rfl (by kernel_rfl)  (opv_move rfl) ?_
       refine th_take_g rfl rfl rfl rfl rfl (by kernel_rfl)  (opv_move rfl) ?_
       refine th_take_g rfl rfl rfl rfl rfl (by kernel_rfl)  (opv_indexAddrSN rfl rfl (by omega) (by assumption) rfl) ?_
       refine th_take_g rfl rfl rfl rfl rfl (by kernel_rfl)  (opv_fieldAddrE rfl (by assumption) (by omega) rfl) ?_
       refine th_take_g rfl rfl rfl rfl rfl (by kernel_rfl)  (opv_loadE1 rfl (by assumption) rfl (by omega) rfl rfl) ?_
       refine th_take_g rfl rfl rfl rfl rfl (by kernel_rfl)  (opv_move rfl) ?_
       refine th_take_g rfl rfl rfl rfl rfl (by kernel_rfl)  (opv_add rfl rfl (w64 (by omega) (by omega))) ?_
       refine th_take_g rfl rfl rfl rfl rfl (by kernel_rfl)  (opv_move rfl) ?_
       refine th_take_g rfl rfl rfl rfl rfl (by kernel_rfl)  (opv_move rfl) ?_
       refine th_take_g rfl rfl rfl rfl rfl (by kernel_rfl)  (opv_indexAddrSN rfl rfl (by omega) (by assumption) rfl) ?_
       refine th_take_g rfl rfl rfl rfl rfl (by kernel_rfl)  (opv_fieldAddrE rfl (by assumption) (by omega) rfl) ?_
       refine th_take_g rfl rfl rfl rfl rfl (by kernel_rfl)  (opv_loadE1 rfl (by assumption) rfl (by omega) rfl rfl) ?_
       refine th_take_g rfl rfl rfl rfl rfl (by kernel_rfl)  (opv_move rfl) ?_
       refine th_take_g rfl rfl rfl rfl rfl (by kernel_rfl)  (opv_add rfl rfl (w64 (by omega) (by omega))) ?_
       refine th_take_g rfl rfl rfl rfl rfl (by kernel_rfl)  (opv_buildS rfl rfl) ?_
       refine th_one (by kernel_rfl) (step_mg rfl rfl rfl rfl rfl (opg_call (xs := [_]) rfl (ref01_in (c := (⟨(l.getD i default).x + dx, (l.getD i default).y + dy⟩ : Cell)))) ?_)
       rintro _ _ _ ⟨rfl, rfl, rfl⟩
       refine ⟨Suf.h, (fun _ h => h), ?_⟩
       refine th_take_g rfl rfl rfl rfl rfl (by kernel_rfl)  (opv_notD rfl) ?_
       refine th_take rfl rfl (by kernel_rfl)  (opv_pick_f rfl rfl) ?_
       refine th_done (by kernel_rfl) ?_
       refine tT ?_
       refine tri_cond_dec rfl (fun h6 => ?_) (fun h6 => ?_)
       ·refine tS (tR (tA rfl rfl (tA rfl rfl (tN (tT (tri_ret (tri_then_ret ?_)))))))
        refine tri_inBlock_ret ?_
        refine tri_then_ret (tri_then_ret ?_)
        refine tri_inBlock_ret ?_
        refine tri_then_ret ?_
        refine tri_end A Suf.h rfl (.cons (rv_tmp rfl) (.cons (rv_tmp rfl) .nil)) (bad2 h6)
       ·have h6 : R1.inB (R1.mv dx dy (R1.g l i)) := Decidable.not_not.1 h6
        have e : (l.take (i + 1)).map (R1.mv dx dy) = (l.take i).map (R1.mv dx dy) ++ [R1.mv dx dy (l.getD i default)] := by
         rw [List.take_succ_eq_append_getElem hlt, List.map_append]
         simp [hlt]
        have hal : ((l.take i).map (R1.mv dx dy)).length ≤ l.length := by rw [List.length_map, List.length_take]; omega
        generalize (l.take i).map (R1.mv dx dy) = acc at *
        skip
        refine tri_skip (tT ?_)
        refine tri_draw [0, 1, 2, 3, 4, 5, 6, 7, 8, 9, 10, 11, 12, 13, 14, 15, 16, 17, 18] rfl [_] rfl mixed ?_
        refine th_take rfl rfl (by kernel_rfl)  (opv_move rfl) ?_
        refine th_take rfl rfl (by kernel_rfl)  (opv_move rfl) ?_
        refine th_take rfl rfl (by kernel_rfl)  (opv_move rfl) ?_
        refine th_take rfl rfl (by kernel_rfl)  (opv_indexAddrSN rfl rfl (by omega) (by assumption) rfl) ?_
        refine th_take rfl rfl (by kernel_rfl)  (opv_fieldAddrE rfl (by assumption) (by omega) rfl) ?_
        refine th_take rfl rfl (by kernel_rfl)  (opv_loadE1 rfl (by assumption) rfl (by omega) rfl rfl) ?_
        refine th_take rfl rfl (by kernel_rfl)  (opv_move rfl) ?_
        refine th_take rfl rfl (by kernel_rfl)  (opv_add rfl rfl (w64 (by omega) (by omega))) ?_
        refine th_take rfl rfl (by kernel_rfl)  (opv_move rfl) ?_
        refine th_take rfl rfl (by kernel_rfl)  (opv_move rfl) ?_
        refine th_take rfl rfl (by kernel_rfl)  (opv_indexAddrSN rfl rfl (by omega) (by assumption) rfl) ?_
        refine th_take rfl rfl (by kernel_rfl)  (opv_fieldAddrE rfl (by assumption) (by omega) rfl) ?_
        refine th_take rfl rfl (by kernel_rfl)  (opv_loadE1 rfl (by assumption) rfl (by omega) rfl rfl) ?_
        refine th_take rfl rfl (by kernel_rfl)  (opv_move rfl) ?_
        refine th_take rfl rfl (by kernel_rfl)  (opv_add rfl rfl (w64 (by omega) (by omega))) ?_
        refine th_take rfl rfl (by kernel_rfl)  (opv_buildS rfl rfl) ?_
        refine th_one (by kernel_rfl) (step_m rfl rfl (opg_buildSlice rfl rfl rfl rfl) ?_)
        rintro _ _ _ ⟨b75, rfl, rfl, rfl⟩
        refine ⟨Suf.h, (fun _ h => h), ?_⟩
        refine th_one (by kernel_rfl) (step_m rfl rfl (opg_appendB rfl rfl rfl rfl (by omega) rfl) ?_)
        rintro _ _ _ ⟨a2, cap2, rfl, rfl, rfl⟩
        refine ⟨Suf.h, (fun _ h => h), ?_⟩
        refine th_take rfl rfl (by kernel_rfl)  (opv_assign rfl) ?_
        refine th_done (by kernel_rfl) ?_
        refine tri_inBlock ?_
        refine tT (tR (tM rfl rfl ?_))
        refine tU rfl rfl (by omega) (by omega) rfl ?_
        refine tA rfl rfl (tN (tT ?_))
        refine tri_drop ?_
        refine tri_rowEq (len' := (acc ++ [R1.mv dx dy (l.getD i default)]).length) (cells' := encs (acc ++ [R1.mv dx dy (l.getD i default)])) (by simp) (by rw [encs_append]; rfl) ?_
        have := hK (i + 1, a2, cap2) ⟨by simp only; omega, fun j hj => ?_⟩ (by simp only; omega)
        ·simp only [e] at this
         refine tri_sub ?_ this
         rw [List.length_append]
         exact ⟨rfl, rfl, rfl, rfl, rfl, rfl, trivial⟩
        ·by_cases e : j = i
         ·subst e; exact h6
         ·exact hok j (by simp only at hj; omega)
  ·refine tri_exit ?_
   refine tri_then_exit ?_
   refine tri_then_exit ?_
   refine tri_inBlock_hit rfl ?_
   refine tT (tS (tR (tM rfl rfl (tA rfl rfl (tA rfl rfl (tN (tT ?_)))))))
   refine tri_ret ?_
   have e : l.take i = l := List.take_of_length_le (by omega)
   rw [e]
   refine tri_freezeRow (α := Cell) rfl fun J hJ hs2 => ?_
   refine tri_end A Suf.h rfl (.cons (rv_tmp rfl) (.cons (rv_tmp rfl) .nil)) ?_
   rw [hsh, if_pos (fun j hj => hok j (by omega))]
   exact ⟨a1, cap1, rfl, hs2, rfl, hJ⟩
end Go.GL


set_option linter.unusedVariables false
namespace Go.GL
open Go.Proofs
attribute [local irreducible] wpList Code.wp Exit.then Exit.inBlock Ends Tri TriH OpV OpG FnC epf wpAnyH
variable {A : List Asrt} {I : List Chunk}
set_option maxHeartbeats 4000000 in
set_option maxRecDepth 100000 in
theorem law07_shifts {nodes : List Five} {raw : List Cell} {a a2 : Option Addr} {cap cap2 : Nat} {c which : Int} (h0 : I64 c) (hs : SlAt I a nodes) (hf : RL.Fs nodes) (hs2 : SlAt I a2 raw) (hc : RL.Cs raw) (hl : I64 which) :
  FnC Try.prog 7 [.int .i64 c, .slice a nodes.length cap, .slice a2 raw.length cap2, .int .i64 which].toArray A I (fun v A' I' => v = .bool true ∧ A = A' ∧ I ⊆ I') := by
 have hpk := pk_bd (c := which) (n := 4) (by decide)
 obtain ⟨ns, n, ms, m, B⟩ := RL.shift_ok c nodes raw hpk
 have hrm := RL.room_bd c
 have hg := RL.store_good7 (rm := RL.room c) (by omega) (by omega) nodes
 have hsl := RL.set_len7 raw
 have hnl : ns.length ≤ 1000000000 := by have := (R6.right_iff.1 B.ra).1; omega
 have hml : ms.length ≤ 1000000000 := by have := (R6.right_iff.1 B.rb).1; omega
 obtain ⟨R, hR⟩ : ∃ R, RL.room c + 900 = R := ⟨_, rfl⟩
 obtain ⟨es, e1, e2, ra, rb, m0, mb, kid, pop⟩ := B
 rw [hR] at e1 e2 ra rb
 skip
 skip
 refine fn_enter4 Try.func7 rfl Try.ntmps7 rfl fun w0 => ?_
 refine tS (tR (tA rfl rfl (tN (tT (tS (tR ?_))))))
 refine tri_g (opg_call (xs := []) rfl (law07_awake)) rfl ?_
 rintro _ _ I0 ⟨rfl, rfl, hI0⟩
 refine tA rfl rfl (tN (tT (tS (tR (tM rfl rfl (tM rfl rfl ?_))))))
 refine tri_g (opg_call (xs := [_, _]) rfl (law06_store h0 (hs.mono hI0) hf)) rfl ?_
 rintro _ _ I1 ⟨a4, cap4, rfl, hs4, rfl, hI1⟩
 have hs2 := hs2.mono fun _ h => hI1 (hI0 h)
 refine tri_g opg_alloc rfl ?_
 rintro _ _ _ ⟨b10, rfl, rfl, rfl⟩
 refine tri_g (opg_store rfl rfl rfl rfl rfl rfl) rfl ?_
 rintro _ _ _ ⟨rfl, rfl⟩
 refine tN (tT (tS (tR ?_)))
 refine tri_v (opv_fieldAddr rfl rfl) rfl ?_
 refine tri_v (opv_load1 rfl rfl rfl) rfl ?_
 refine tU rfl rfl (by omega) (by omega) rfl ?_
 refine tri_v (opv_fieldAddr rfl rfl) rfl ?_
 refine tri_g (opg_store rfl rfl rfl rfl rfl rfl) rfl ?_
 rintro _ _ _ ⟨rfl, rfl⟩
 refine tN (tT (tS (tR (tM rfl rfl ?_))))
 rw [hR]
 refine tri_g (opg_call (xs := [_]) rfl (law01_set hs2 hc)) rfl ?_
 rintro _ _ I2 ⟨a5, cap5, rfl, hs5, rfl, hI2⟩
 have hs4 := hs4.mono hI2
 refine tA rfl rfl (tN (tT (tS (tR (tM rfl rfl ?_)))))
 refine tri_g (opg_call (xs := [_, _]) rfl (law07_pick hl.1 hl.2 (by decide))) rfl ?_
 rintro _ _ _ ⟨rfl, rfl, rfl⟩
 obtain ⟨k, hk⟩ : ∃ k, pk which 4 = k := ⟨_, rfl⟩
 rw [hk] at es e2 kid hpk ⊢
 refine tA rfl rfl (tN (tT (tS (tR (tM rfl rfl (tM rfl rfl ?_))))))
 refine tri_v (opv_remE rfl rfl (by omega) (by omega)) rfl ?_
 refine tri_v (opv_mul rfl rfl (w64 (by omega) (by omega))) rfl ?_
 refine tri_v (opv_sub rfl rfl (w64 (by omega) (by omega))) rfl ?_
 refine tri_v (opv_mul rfl rfl (w64 (by omega) (by omega))) rfl ?_
 refine tM rfl rfl ?_
 refine tri_v (opv_quoE rfl rfl (by omega) (by omega) (by omega)) rfl ?_
 refine tri_v (opv_mul rfl rfl (w64 (by omega) (by omega))) rfl ?_
 refine tri_v (opv_sub rfl rfl (w64 (by omega) (by omega))) rfl ?_
 refine tri_v (opv_mul rfl rfl (w64 (by omega) (by omega))) rfl ?_
 refine tri_g (opg_call (xs := [_, _, _]) rfl (ref01_shift (dx := 8 * (2 * (k % 2) - 1)) (dy := 8 * (2 * (k / 2) - 1)) hs5 (by omega))) rfl ?_
 rintro _ _ I3 ⟨a6, cap6, rfl, hs6, rfl, hI3⟩
 rw [es] at hs6 ⊢
 simp only at hs6 ⊢
 have hs4 := hs4.mono hI3
 have hs5 := hs5.mono hI3
 have hfl : ((RL.set raw).map (R1.mv (8 * (2 * (k % 2) - 1)) (8 * (2 * (k / 2) - 1)))).length = (RL.set raw).length := List.length_map ..
 generalize (RL.set raw).map (R1.mv (8 * (2 * (k % 2) - 1)) (8 * (2 * (k / 2) - 1))) = far at *
 generalize RL.set raw = l at *
 refine tM rfl rfl ?_
 refine tri_v (opv_extract rfl rfl) rfl ?_
 refine tri_v (opv_extract rfl rfl) rfl ?_
 refine tA rfl rfl (tA rfl rfl (tN (tT (tS (tR ?_)))))
 refine tri_v (opv_loadA rfl rfl rfl) rfl ?_
 refine tM rfl rfl ?_
 refine tri_g (opg_call (xs := [_, _, _]) rfl (square_make hs4 hg.len hs5 (by omega))) rfl ?_
 rintro _ _ I4 ⟨a7, cap7, rfl, hs7, rfl, hI4⟩
 rw [e1] at hs7 ⊢
 simp only at hs7 ⊢
 have hs6 := hs6.mono hI4
 refine tM rfl rfl ?_
 refine tri_v (opv_extract rfl rfl) rfl ?_
 refine tri_v (opv_extract rfl rfl) rfl ?_
 refine tri_v (opv_extract rfl rfl) rfl ?_
 refine tri_g opg_alloc rfl ?_
 rintro _ _ _ ⟨b15, rfl, rfl, rfl⟩
 refine tri_g (opg_store rfl rfl rfl rfl rfl rfl) rfl ?_
 rintro _ _ _ ⟨rfl, rfl⟩
 refine tA rfl rfl (tA rfl rfl (tN (tT (tS (tR ?_)))))
 refine tri_v (opv_loadA rfl rfl rfl) rfl ?_
 refine tM rfl rfl ?_
 refine tri_g (opg_call (xs := [_, _, _]) rfl (square_make hs7 hnl hs6 (by omega))) rfl ?_
 rintro _ _ I5 ⟨a8, cap8, rfl, hs8, rfl, hI5⟩
 rw [e2] at hs8 ⊢
 simp only at hs8 ⊢
 have hsl8 := hs8.sl
 have hI05 : I ⊆ I5 := fun _ h => hI5 (hI4 (hI3 (hI2 (hI1 (hI0 h)))))
 refine tM rfl rfl ?_
 refine tri_v (opv_extract rfl rfl) rfl ?_
 refine tri_v (opv_extract rfl rfl) rfl ?_
 refine tri_v (opv_extract rfl rfl) rfl ?_
 refine tri_g opg_alloc rfl ?_
 rintro _ _ _ ⟨b18, rfl, rfl, rfl⟩
 refine tri_g (opg_store rfl rfl rfl rfl rfl rfl) rfl ?_
 rintro _ _ _ ⟨rfl, rfl⟩
 refine tA rfl rfl (tA rfl rfl (tN (tT (tS (tS (tR (tM rfl rfl ?_)))))))
 refine tri_v (opv_neq rfl rfl) rfl ?_
 refine tM rfl rfl ?_
 refine tri_false rfl rfl (by decide) ?_
 refine tri_guard_run rfl rfl rfl (tM rfl rfl (tri_guard_run rfl rfl rfl ?_))
 refine tri_v (opv_neq rfl rfl) rfl ?_
 refine tri_v (opv_pick_f rfl rfl) rfl ?_
 refine tM rfl rfl ?_
 refine tri_false rfl rfl (by decide) ?_
 refine tri_guard_run rfl rfl rfl (tM rfl rfl (tri_guard_run rfl rfl rfl ?_))
 refine tri_v (opv_fieldAddr rfl rfl) rfl ?_
 refine tri_guard_run rfl rfl rfl ?_
 refine tri_v (opv_load1 rfl rfl rfl) rfl ?_
 refine tri_guard_run rfl rfl rfl ?_
 refine tri_v (opv_len rfl) rfl ?_
 refine tri_guard_run rfl rfl rfl ?_
 refine tri_v (opv_geq rfl rfl) rfl ?_
 refine tri_v (opv_pick_f rfl rfl) rfl ?_
 refine tN (tT ?_)
 refine tri_cond_not rfl (by omega) ?_
 refine tri_skip (tT (tS (tS (tR (tA rfl rfl (tN (tT ?_)))))))
 refine tri_block ?_
 have hs5 := hs5.mono fun _ h => hI5 (hI4 h)
 refine tri_sub (F' := [(9, .bool true), (11, .slice a5 l.length cap5), (12, .int .i64 k), (16, .int .i64 n), (18, pt b18 0), (19, .int .i64 m), (21, .int .i64 (0 : Nat))]) ⟨rfl, rfl, rfl, rfl, rfl, rfl, rfl, trivial⟩ ?_
 refine loop_ind (G := Nat) (fun i => 4 - i) (fun i => i ≤ 4) (fun i => [(9, .bool true), (11, .slice a5 l.length cap5), (12, .int .i64 k), (16, .int .i64 n), (18, pt b18 0), (19, .int .i64 m), (21, .int .i64 (i : Nat))]) (fun _ => Box b18 [.slice a8 ms.length cap8, .int .i64 R] 26 :: Box b15 [.slice a7 ns.length cap7, .int .i64 R] 26 :: Box b10 [.slice a4 (RL.store (RL.room c) nodes).length cap4, .int .i64 R] 26 :: A) (fun _ => I5) ?_ 0 (by omega)
 rintro i hi KK hK
 skip
 refine tS (tS (tR (tM rfl rfl ?_)))
 refine tri_v (opv_lss rfl rfl) rfl ?_
 refine tN (tT ?_)
 refine tri_cond_dec rfl (fun h => ?_) (fun h => ?_)
 ·have hi4 : i = 0 ∨ i = 1 ∨ i = 2 ∨ i = 3 := by omega
  rcases hi4 with rfl | rfl | rfl | rfl
  ·obtain ⟨q0, q1, q2, q3⟩ : 0 ≤ (ms.getD m.toNat default).k0 ∧ (ms.getD m.toNat default).k0 < ms.length ∧ (((0 : Nat) : Int) = k → (ms.getD m.toNat default).k0 = n) ∧ (((0 : Nat) : Int) ≠ k → (ms.getD (ms.getD m.toNat default).k0.toNat default).pop = 0) := kid 0 (by omega)
   refine tri_skip (tT (tS (tri_block (tS (tR ?_)))))
   refine tri_v (opv_fieldAddr rfl rfl) rfl ?_
   refine tri_v (opv_load1 rfl rfl rfl) rfl ?_
   refine tM rfl rfl (tM rfl rfl ?_)
   refine tri_v (opv_indexAddrS rfl rfl (by omega) (by omega) (by assumption) rfl) rfl ?_
   refine tri_v (opv_fieldAddrE rfl (by assumption) (by omega) rfl) rfl ?_
   refine tri_v (opv_indexAddrE rfl (by assumption) (by omega) rfl (by decide) (by decide)) rfl ?_
   refine tri_v (opv_loadE1 rfl (by assumption) rfl (by omega) rfl rfl) rfl ?_
   refine tA rfl rfl (tN (tT (tS (tR (tM rfl rfl (tM rfl rfl ?_))))))
   refine tri_v (opv_eql rfl rfl) rfl ?_
   refine tM rfl rfl ?_
   refine tri_split rfl rfl (fun g1 => ?_) (fun g1 => ?_)
   ·refine tri_guard_run rfl rfl rfl (tM rfl rfl (tri_guard_run rfl rfl rfl (tM rfl rfl (tri_guard_run rfl rfl rfl ?_))))
    refine tri_v (opv_neq rfl rfl) rfl ?_
    refine tri_v (opv_pick_t rfl rfl) rfl ?_
    refine tM rfl rfl ?_
    refine tri_false rfl rfl (fun h => h (q2 g1)) ?_
    refine tri_guard_run rfl rfl rfl (tM rfl rfl (tri_guard_run rfl rfl rfl (tM rfl rfl (tri_guard_run rfl rfl rfl ?_))))
    refine tri_v (opv_neq rfl rfl) rfl ?_
    refine tri_guard_run rfl rfl rfl (tM rfl rfl ?_)
    refine tri_false rfl rfl (fun h => h g1) ?_
    refine tri_guard_skip rfl rfl rfl rfl (tri_guard_skip rfl rfl rfl rfl (tri_guard_skip rfl rfl rfl rfl (tri_guard_skip rfl rfl rfl rfl (tri_guard_skip rfl rfl rfl rfl (tri_guard_skip rfl rfl rfl rfl ?_)))))
    refine tri_guard_skip_u rfl rfl rfl ?_
    refine tri_guard_skip_u rfl rfl rfl ?_
    refine tri_guard_skip_u rfl rfl rfl ?_
    refine tri_guard_skip_u rfl rfl rfl ?_
    refine tri_guard_skip_u rfl rfl rfl ?_
    refine tri_guard_skip_u rfl rfl rfl ?_
    refine tri_guard_skip_u rfl rfl rfl ?_
    refine tri_guard_skip rfl rfl rfl rfl (tri_guard_run rfl rfl rfl ?_)
    refine tri_v (opv_pick_f rfl rfl) rfl ?_
    refine tri_v (opv_pick_f rfl rfl) rfl ?_
    refine tN (tT ?_)
    refine tri_cond_false rfl ?_
    refine tri_skip ?_
    refine tri_inBlock ?_
    refine tT (tR (tM rfl rfl ?_))
    refine tU rfl rfl (by omega) (by omega) rfl ?_
    refine tA rfl rfl (tN (tT ?_))
    refine tri_sub ?_ (hK 1 (by omega) (by omega))
    exact ⟨rfl, rfl, rfl, rfl, rfl, rfl, rfl, trivial⟩
   ·refine tri_guard_skip rfl rfl rfl rfl (tri_guard_skip rfl rfl rfl rfl (tri_guard_skip rfl rfl rfl rfl ?_))
    refine tri_v (opv_pick_f rfl rfl) rfl ?_
    refine tM rfl rfl (tri_guard_run rfl rfl rfl (tM rfl rfl (tri_guard_run rfl rfl rfl (tM rfl rfl (tri_guard_run rfl rfl rfl ?_)))))
    refine tri_v (opv_neq rfl rfl) rfl ?_
    refine tri_guard_run rfl rfl rfl (tM rfl rfl ?_)
    refine tri_true rfl rfl (g1) ?_
    refine tri_guard_run rfl rfl rfl (tM rfl rfl (tri_guard_run rfl rfl rfl ?_))
    refine tri_v (opv_fieldAddr rfl rfl) rfl ?_
    refine tri_guard_run rfl rfl rfl ?_
    refine tri_v (opv_load1 rfl rfl rfl) rfl ?_
    refine tri_guard_run rfl rfl rfl ?_
    refine tri_v (opv_len rfl) rfl ?_
    refine tri_guard_run rfl rfl rfl ?_
    refine tri_v (opv_geq rfl rfl) rfl ?_
    refine tri_guard_run rfl rfl rfl (tM rfl rfl ?_)
    refine tri_false rfl rfl (by omega) ?_
    refine tri_guard_run rfl rfl rfl ?_
    refine tri_v (opv_fieldAddr rfl rfl) rfl ?_
    refine tri_guard_run rfl rfl rfl ?_
    refine tri_v (opv_load1 rfl rfl rfl) rfl ?_
    refine tri_guard_run rfl rfl rfl (tM rfl rfl (tri_guard_run rfl rfl rfl ?_))
    refine tri_v (opv_indexAddrS rfl rfl (by omega) (by omega) (by assumption) rfl) rfl ?_
    refine tri_guard_run rfl rfl rfl ?_
    refine tri_v (opv_fieldAddrE rfl (by assumption) (by omega) rfl) rfl ?_
    refine tri_guard_run rfl rfl rfl ?_
    refine tri_v (opv_loadE1 rfl (by assumption) rfl (by omega) rfl rfl) rfl ?_
    refine tri_guard_run rfl rfl rfl ?_
    refine tri_v (opv_neq rfl rfl) rfl ?_
    refine tri_guard_run rfl rfl rfl ?_
    refine tri_v (opv_pick_f rfl rfl) rfl ?_
    refine tri_guard_run rfl rfl rfl ?_
    refine tri_v (opv_pick_t rfl rfl) rfl ?_
    refine tri_v (opv_pick_f rfl rfl) rfl ?_
    refine tN (tT ?_)
    refine tri_cond_not rfl (fun h => h (q3 g1)) ?_
    refine tri_skip ?_
    refine tri_inBlock ?_
    refine tT (tR (tM rfl rfl ?_))
    refine tU rfl rfl (by omega) (by omega) rfl ?_
    refine tA rfl rfl (tN (tT ?_))
    refine tri_sub ?_ (hK 1 (by omega) (by omega))
    exact ⟨rfl, rfl, rfl, rfl, rfl, rfl, rfl, trivial⟩
  ·obtain ⟨q0, q1, q2, q3⟩ : 0 ≤ (ms.getD m.toNat default).k1 ∧ (ms.getD m.toNat default).k1 < ms.length ∧ (((1 : Nat) : Int) = k → (ms.getD m.toNat default).k1 = n) ∧ (((1 : Nat) : Int) ≠ k → (ms.getD (ms.getD m.toNat default).k1.toNat default).pop = 0) := kid 1 (by omega)
   refine tri_skip (tT (tS (tri_block (tS (tR ?_)))))
   refine tri_v (opv_fieldAddr rfl rfl) rfl ?_
   refine tri_v (opv_load1 rfl rfl rfl) rfl ?_
   refine tM rfl rfl (tM rfl rfl ?_)
   refine tri_v (opv_indexAddrS rfl rfl (by omega) (by omega) (by assumption) rfl) rfl ?_
   refine tri_v (opv_fieldAddrE rfl (by assumption) (by omega) rfl) rfl ?_
   refine tri_v (opv_indexAddrE rfl (by assumption) (by omega) rfl (by decide) (by decide)) rfl ?_
   refine tri_v (opv_loadE1 rfl (by assumption) rfl (by omega) rfl rfl) rfl ?_
   refine tA rfl rfl (tN (tT (tS (tR (tM rfl rfl (tM rfl rfl ?_))))))
   refine tri_v (opv_eql rfl rfl) rfl ?_
   refine tM rfl rfl ?_
   refine tri_split rfl rfl (fun g1 => ?_) (fun g1 => ?_)
   ·refine tri_guard_run rfl rfl rfl (tM rfl rfl (tri_guard_run rfl rfl rfl (tM rfl rfl (tri_guard_run rfl rfl rfl ?_))))
    refine tri_v (opv_neq rfl rfl) rfl ?_
    refine tri_v (opv_pick_t rfl rfl) rfl ?_
    refine tM rfl rfl ?_
    refine tri_false rfl rfl (fun h => h (q2 g1)) ?_
    refine tri_guard_run rfl rfl rfl (tM rfl rfl (tri_guard_run rfl rfl rfl (tM rfl rfl (tri_guard_run rfl rfl rfl ?_))))
    refine tri_v (opv_neq rfl rfl) rfl ?_
    refine tri_guard_run rfl rfl rfl (tM rfl rfl ?_)
    refine tri_false rfl rfl (fun h => h g1) ?_
    refine tri_guard_skip rfl rfl rfl rfl (tri_guard_skip rfl rfl rfl rfl (tri_guard_skip rfl rfl rfl rfl (tri_guard_skip rfl rfl rfl rfl (tri_guard_skip rfl rfl rfl rfl (tri_guard_skip rfl rfl rfl rfl ?_)))))
    refine tri_guard_skip_u rfl rfl rfl ?_
    refine tri_guard_skip_u rfl rfl rfl ?_
    refine tri_guard_skip_u rfl rfl rfl ?_
    refine tri_guard_skip_u rfl rfl rfl ?_
    refine tri_guard_skip_u rfl rfl rfl ?_
    refine tri_guard_skip_u rfl rfl rfl ?_
    refine tri_guard_skip_u rfl rfl rfl ?_
    refine tri_guard_skip rfl rfl rfl rfl (tri_guard_run rfl rfl rfl ?_)
    refine tri_v (opv_pick_f rfl rfl) rfl ?_
    refine tri_v (opv_pick_f rfl rfl) rfl ?_
    refine tN (tT ?_)
    refine tri_cond_false rfl ?_
    refine tri_skip ?_
    refine tri_inBlock ?_
    refine tT (tR (tM rfl rfl ?_))
    refine tU rfl rfl (by omega) (by omega) rfl ?_
    refine tA rfl rfl (tN (tT ?_))
    refine tri_sub ?_ (hK 2 (by omega) (by omega))
    exact ⟨rfl, rfl, rfl, rfl, rfl, rfl, rfl, trivial⟩
   ·refine tri_guard_skip rfl rfl rfl rfl (tri_guard_skip rfl rfl rfl rfl (tri_guard_skip rfl rfl rfl rfl ?_))
    refine tri_v (opv_pick_f rfl rfl) rfl ?_
    refine tM rfl rfl (tri_guard_run rfl rfl rfl (tM rfl rfl (tri_guard_run rfl rfl rfl (tM rfl rfl (tri_guard_run rfl rfl rfl ?_)))))
    refine tri_v (opv_neq rfl rfl) rfl ?_
    refine tri_guard_run rfl rfl rfl (tM rfl rfl ?_)
    refine tri_true rfl rfl (g1) ?_
    refine tri_guard_run rfl rfl rfl (tM rfl rfl (tri_guard_run rfl rfl rfl ?_))
    refine tri_v (opv_fieldAddr rfl rfl) rfl ?_
    refine tri_guard_run rfl rfl rfl ?_
    refine tri_v (opv_load1 rfl rfl rfl) rfl ?_
    refine tri_guard_run rfl rfl rfl ?_
    refine tri_v (opv_len rfl) rfl ?_
    refine tri_guard_run rfl rfl rfl ?_
    refine tri_v (opv_geq rfl rfl) rfl ?_
    refine tri_guard_run rfl rfl rfl (tM rfl rfl ?_)
    refine tri_false rfl rfl (by omega) ?_
    refine tri_guard_run rfl rfl rfl ?_
    refine tri_v (opv_fieldAddr rfl rfl) rfl ?_
    refine tri_guard_run rfl rfl rfl ?_
    refine tri_v (opv_load1 rfl rfl rfl) rfl ?_
    refine tri_guard_run rfl rfl rfl (tM rfl rfl (tri_guard_run rfl rfl rfl ?_))
    refine tri_v (opv_indexAddrS rfl rfl (by omega) (by omega) (by assumption) rfl) rfl ?_
    refine tri_guard_run rfl rfl rfl ?_
    refine tri_v (opv_fieldAddrE rfl (by assumption) (by omega) rfl) rfl ?_
    refine tri_guard_run rfl rfl rfl ?_
    refine tri_v (opv_loadE1 rfl (by assumption) rfl (by omega) rfl rfl) rfl ?_
    refine tri_guard_run rfl rfl rfl ?_
    refine tri_v (opv_neq rfl rfl) rfl ?_
    refine tri_guard_run rfl rfl rfl ?_
    refine tri_v (opv_pick_f rfl rfl) rfl ?_
    refine tri_guard_run rfl rfl rfl ?_
    refine tri_v (opv_pick_t rfl rfl) rfl ?_
    refine tri_v (opv_pick_f rfl rfl) rfl ?_
    refine tN (tT ?_)
    refine tri_cond_not rfl (fun h => h (q3 g1)) ?_
    refine tri_skip ?_
    refine tri_inBlock ?_
    refine tT (tR (tM rfl rfl ?_))
    refine tU rfl rfl (by omega) (by omega) rfl ?_
    refine tA rfl rfl (tN (tT ?_))
    refine tri_sub ?_ (hK 2 (by omega) (by omega))
    exact ⟨rfl, rfl, rfl, rfl, rfl, rfl, rfl, trivial⟩
  ·obtain ⟨q0, q1, q2, q3⟩ : 0 ≤ (ms.getD m.toNat default).k2 ∧ (ms.getD m.toNat default).k2 < ms.length ∧ (((2 : Nat) : Int) = k → (ms.getD m.toNat default).k2 = n) ∧ (((2 : Nat) : Int) ≠ k → (ms.getD (ms.getD m.toNat default).k2.toNat default).pop = 0) := kid 2 (by omega)
   refine tri_skip (tT (tS (tri_block (tS (tR ?_)))))
   refine tri_v (opv_fieldAddr rfl rfl) rfl ?_
   refine tri_v (opv_load1 rfl rfl rfl) rfl ?_
   refine tM rfl rfl (tM rfl rfl ?_)
   refine tri_v (opv_indexAddrS rfl rfl (by omega) (by omega) (by assumption) rfl) rfl ?_
   refine tri_v (opv_fieldAddrE rfl (by assumption) (by omega) rfl) rfl ?_
   refine tri_v (opv_indexAddrE rfl (by assumption) (by omega) rfl (by decide) (by decide)) rfl ?_
   refine tri_v (opv_loadE1 rfl (by assumption) rfl (by omega) rfl rfl) rfl ?_
   refine tA rfl rfl (tN (tT (tS (tR (tM rfl rfl (tM rfl rfl ?_))))))
   refine tri_v (opv_eql rfl rfl) rfl ?_
   refine tM rfl rfl ?_
   refine tri_split rfl rfl (fun g1 => ?_) (fun g1 => ?_)
   ·refine tri_guard_run rfl rfl rfl (tM rfl rfl (tri_guard_run rfl rfl rfl (tM rfl rfl (tri_guard_run rfl rfl rfl ?_))))
    refine tri_v (opv_neq rfl rfl) rfl ?_
    refine tri_v (opv_pick_t rfl rfl) rfl ?_
    refine tM rfl rfl ?_
    refine tri_false rfl rfl (fun h => h (q2 g1)) ?_
    refine tri_guard_run rfl rfl rfl (tM rfl rfl (tri_guard_run rfl rfl rfl (tM rfl rfl (tri_guard_run rfl rfl rfl ?_))))
    refine tri_v (opv_neq rfl rfl) rfl ?_
    refine tri_guard_run rfl rfl rfl (tM rfl rfl ?_)
    refine tri_false rfl rfl (fun h => h g1) ?_
    refine tri_guard_skip rfl rfl rfl rfl (tri_guard_skip rfl rfl rfl rfl (tri_guard_skip rfl rfl rfl rfl (tri_guard_skip rfl rfl rfl rfl (tri_guard_skip rfl rfl rfl rfl (tri_guard_skip rfl rfl rfl rfl ?_)))))
    refine tri_guard_skip_u rfl rfl rfl ?_
    refine tri_guard_skip_u rfl rfl rfl ?_
    refine tri_guard_skip_u rfl rfl rfl ?_
    refine tri_guard_skip_u rfl rfl rfl ?_
    refine tri_guard_skip_u rfl rfl rfl ?_
    refine tri_guard_skip_u rfl rfl rfl ?_
    refine tri_guard_skip_u rfl rfl rfl ?_
    refine tri_guard_skip rfl rfl rfl rfl (tri_guard_run rfl rfl rfl ?_)
    refine tri_v (opv_pick_f rfl rfl) rfl ?_
    refine tri_v (opv_pick_f rfl rfl) rfl ?_
    refine tN (tT ?_)
    refine tri_cond_false rfl ?_
    refine tri_skip ?_
    refine tri_inBlock ?_
    refine tT (tR (tM rfl rfl ?_))
    refine tU rfl rfl (by omega) (by omega) rfl ?_
    refine tA rfl rfl (tN (tT ?_))
    refine tri_sub ?_ (hK 3 (by omega) (by omega))
    exact ⟨rfl, rfl, rfl, rfl, rfl, rfl, rfl, trivial⟩
   ·refine tri_guard_skip rfl rfl rfl rfl (tri_guard_skip rfl rfl rfl rfl (tri_guard_skip rfl rfl rfl rfl ?_))
    refine tri_v (opv_pick_f rfl rfl) rfl ?_
    refine tM rfl rfl (tri_guard_run rfl rfl rfl (tM rfl rfl (tri_guard_run rfl rfl rfl (tM rfl rfl (tri_guard_run rfl rfl rfl ?_)))))
    refine tri_v (opv_neq rfl rfl) rfl ?_
    refine tri_guard_run rfl rfl rfl (tM rfl rfl ?_)
    refine tri_true rfl rfl (g1) ?_
    refine tri_guard_run rfl rfl rfl (tM rfl rfl (tri_guard_run rfl rfl rfl ?_))
    refine tri_v (opv_fieldAddr rfl rfl) rfl ?_
    refine tri_guard_run rfl rfl rfl ?_
    refine tri_v (opv_load1 rfl rfl rfl) rfl ?_
    refine tri_guard_run rfl rfl rfl ?_
    refine tri_v (opv_len rfl) rfl ?_
    refine tri_guard_run rfl rfl rfl ?_
    refine tri_v (opv_geq rfl rfl) rfl ?_
    refine tri_guard_run rfl rfl rfl (tM rfl rfl ?_)
    refine tri_false rfl rfl (by omega) ?_
    refine tri_guard_run rfl rfl rfl ?_
    refine tri_v (opv_fieldAddr rfl rfl) rfl ?_
    refine tri_guard_run rfl rfl rfl ?_
    refine tri_v (opv_load1 rfl rfl rfl) rfl ?_
    refine tri_guard_run rfl rfl rfl (tM rfl rfl (tri_guard_run rfl rfl rfl ?_))
    refine tri_v (opv_indexAddrS rfl rfl (by omega) (by omega) (by assumption) rfl) rfl ?_
    refine tri_guard_run rfl rfl rfl ?_
    refine tri_v (opv_fieldAddrE rfl (by assumption) (by omega) rfl) rfl ?_
    refine tri_guard_run rfl rfl rfl ?_
    refine tri_v (opv_loadE1 rfl (by assumption) rfl (by omega) rfl rfl) rfl ?_
    refine tri_guard_run rfl rfl rfl ?_
    refine tri_v (opv_neq rfl rfl) rfl ?_
    refine tri_guard_run rfl rfl rfl ?_
    refine tri_v (opv_pick_f rfl rfl) rfl ?_
    refine tri_guard_run rfl rfl rfl ?_
    refine tri_v (opv_pick_t rfl rfl) rfl ?_
    refine tri_v (opv_pick_f rfl rfl) rfl ?_
    refine tN (tT ?_)
    refine tri_cond_not rfl (fun h => h (q3 g1)) ?_
    refine tri_skip ?_
    refine tri_inBlock ?_
    refine tT (tR (tM rfl rfl ?_))
    refine tU rfl rfl (by omega) (by omega) rfl ?_
    refine tA rfl rfl (tN (tT ?_))
    refine tri_sub ?_ (hK 3 (by omega) (by omega))
    exact ⟨rfl, rfl, rfl, rfl, rfl, rfl, rfl, trivial⟩
  ·obtain ⟨q0, q1, q2, q3⟩ : 0 ≤ (ms.getD m.toNat default).k3 ∧ (ms.getD m.toNat default).k3 < ms.length ∧ (((3 : Nat) : Int) = k → (ms.getD m.toNat default).k3 = n) ∧ (((3 : Nat) : Int) ≠ k → (ms.getD (ms.getD m.toNat default).k3.toNat default).pop = 0) := kid 3 (by omega)
   refine tri_skip (tT (tS (tri_block (tS (tR ?_)))))
   refine tri_v (opv_fieldAddr rfl rfl) rfl ?_
   refine tri_v (opv_load1 rfl rfl rfl) rfl ?_
   refine tM rfl rfl (tM rfl rfl ?_)
   refine tri_v (opv_indexAddrS rfl rfl (by omega) (by omega) (by assumption) rfl) rfl ?_
   refine tri_v (opv_fieldAddrE rfl (by assumption) (by omega) rfl) rfl ?_
   refine tri_v (opv_indexAddrE rfl (by assumption) (by omega) rfl (by decide) (by decide)) rfl ?_
   refine tri_v (opv_loadE1 rfl (by assumption) rfl (by omega) rfl rfl) rfl ?_
   refine tA rfl rfl (tN (tT (tS (tR (tM rfl rfl (tM rfl rfl ?_))))))
   refine tri_v (opv_eql rfl rfl) rfl ?_
   refine tM rfl rfl ?_
   refine tri_split rfl rfl (fun g1 => ?_) (fun g1 => ?_)
   ·refine tri_guard_run rfl rfl rfl (tM rfl rfl (tri_guard_run rfl rfl rfl (tM rfl rfl (tri_guard_run rfl rfl rfl ?_))))
    refine tri_v (opv_neq rfl rfl) rfl ?_
    refine tri_v (opv_pick_t rfl rfl) rfl ?_
    refine tM rfl rfl ?_
    refine tri_false rfl rfl (fun h => h (q2 g1)) ?_
    refine tri_guard_run rfl rfl rfl (tM rfl rfl (tri_guard_run rfl rfl rfl (tM rfl rfl (tri_guard_run rfl rfl rfl ?_))))
    refine tri_v (opv_neq rfl rfl) rfl ?_
    refine tri_guard_run rfl rfl rfl (tM rfl rfl ?_)
    refine tri_false rfl rfl (fun h => h g1) ?_
    refine tri_guard_skip rfl rfl rfl rfl (tri_guard_skip rfl rfl rfl rfl (tri_guard_skip rfl rfl rfl rfl (tri_guard_skip rfl rfl rfl rfl (tri_guard_skip rfl rfl rfl rfl (tri_guard_skip rfl rfl rfl rfl ?_)))))
    refine tri_guard_skip_u rfl rfl rfl ?_
    refine tri_guard_skip_u rfl rfl rfl ?_
    refine tri_guard_skip_u rfl rfl rfl ?_
    refine tri_guard_skip_u rfl rfl rfl ?_
    refine tri_guard_skip_u rfl rfl rfl ?_
    refine tri_guard_skip_u rfl rfl rfl ?_
    refine tri_guard_skip_u rfl rfl rfl ?_
    refine tri_guard_skip rfl rfl rfl rfl (tri_guard_run rfl rfl rfl ?_)
    refine tri_v (opv_pick_f rfl rfl) rfl ?_
    refine tri_v (opv_pick_f rfl rfl) rfl ?_
    refine tN (tT ?_)
    refine tri_cond_false rfl ?_
    refine tri_skip ?_
    refine tri_inBlock ?_
    refine tT (tR (tM rfl rfl ?_))
    refine tU rfl rfl (by omega) (by omega) rfl ?_
    refine tA rfl rfl (tN (tT ?_))
    refine tri_sub ?_ (hK 4 (by omega) (by omega))
    exact ⟨rfl, rfl, rfl, rfl, rfl, rfl, rfl, trivial⟩
   ·refine tri_guard_skip rfl rfl rfl rfl (tri_guard_skip rfl rfl rfl rfl (tri_guard_skip rfl rfl rfl rfl ?_))
    refine tri_v (opv_pick_f rfl rfl) rfl ?_
    refine tM rfl rfl (tri_guard_run rfl rfl rfl (tM rfl rfl (tri_guard_run rfl rfl rfl (tM rfl rfl (tri_guard_run rfl rfl rfl ?_)))))
    refine tri_v (opv_neq rfl rfl) rfl ?_
    refine tri_guard_run rfl rfl rfl (tM rfl rfl ?_)
    refine tri_true rfl rfl (g1) ?_
    refine tri_guard_run rfl rfl rfl (tM rfl rfl (tri_guard_run rfl rfl rfl ?_))
    refine tri_v (opv_fieldAddr rfl rfl) rfl ?_
    refine tri_guard_run rfl rfl rfl ?_
    refine tri_v (opv_load1 rfl rfl rfl) rfl ?_
    refine tri_guard_run rfl rfl rfl ?_
    refine tri_v (opv_len rfl) rfl ?_
    refine tri_guard_run rfl rfl rfl ?_
    refine tri_v (opv_geq rfl rfl) rfl ?_
    refine tri_guard_run rfl rfl rfl (tM rfl rfl ?_)
    refine tri_false rfl rfl (by omega) ?_
    refine tri_guard_run rfl rfl rfl ?_
    refine tri_v (opv_fieldAddr rfl rfl) rfl ?_
    refine tri_guard_run rfl rfl rfl ?_
    refine tri_v (opv_load1 rfl rfl rfl) rfl ?_
    refine tri_guard_run rfl rfl rfl (tM rfl rfl (tri_guard_run rfl rfl rfl ?_))
    refine tri_v (opv_indexAddrS rfl rfl (by omega) (by omega) (by assumption) rfl) rfl ?_
    refine tri_guard_run rfl rfl rfl ?_
    refine tri_v (opv_fieldAddrE rfl (by assumption) (by omega) rfl) rfl ?_
    refine tri_guard_run rfl rfl rfl ?_
    refine tri_v (opv_loadE1 rfl (by assumption) rfl (by omega) rfl rfl) rfl ?_
    refine tri_guard_run rfl rfl rfl ?_
    refine tri_v (opv_neq rfl rfl) rfl ?_
    refine tri_guard_run rfl rfl rfl ?_
    refine tri_v (opv_pick_f rfl rfl) rfl ?_
    refine tri_guard_run rfl rfl rfl ?_
    refine tri_v (opv_pick_t rfl rfl) rfl ?_
    refine tri_v (opv_pick_f rfl rfl) rfl ?_
    refine tN (tT ?_)
    refine tri_cond_not rfl (fun h => h (q3 g1)) ?_
    refine tri_skip ?_
    refine tri_inBlock ?_
    refine tT (tR (tM rfl rfl ?_))
    refine tU rfl rfl (by omega) (by omega) rfl ?_
    refine tA rfl rfl (tN (tT ?_))
    refine tri_sub ?_ (hK 4 (by omega) (by omega))
    exact ⟨rfl, rfl, rfl, rfl, rfl, rfl, rfl, trivial⟩
 ·refine tri_exit ?_
  refine tri_then_exit ?_
  refine tri_then_exit ?_
  refine tri_inBlock_hit rfl ?_
  refine tT (tS (tR (tM rfl rfl (tM rfl rfl ?_))))
  refine tri_bool 119 rfl (fun _ => ?_) (fun h => absurd h (by decide))
  refine tri_guard_run rfl rfl rfl ?_
  refine tri_v (opv_fieldAddr rfl rfl) rfl ?_
  refine tri_guard_run rfl rfl rfl ?_
  refine tri_v (opv_load1 rfl rfl rfl) rfl ?_
  refine tri_guard_run rfl rfl rfl (tM rfl rfl (tri_guard_run rfl rfl rfl ?_))
  refine tri_v (opv_indexAddrS rfl rfl (by omega) (by omega) (by assumption) rfl) rfl ?_
  refine tri_guard_run rfl rfl rfl ?_
  refine tri_v (opv_fieldAddrE rfl (by assumption) (by omega) rfl) rfl ?_
  refine tri_guard_run rfl rfl rfl ?_
  refine tri_v (opv_loadE1 rfl (by assumption) rfl (by omega) rfl rfl) rfl ?_
  refine tri_guard_run rfl rfl rfl (tM rfl rfl (tri_guard_run rfl rfl rfl ?_))
  refine tri_v (opv_len rfl) rfl ?_
  refine tri_guard_run rfl rfl rfl ?_
  refine tri_v (opv_eql rfl rfl) rfl ?_
  refine tri_v (opv_pick_t rfl rfl) rfl ?_
  refine tA rfl rfl (tN (tT (tri_ret ?_)))
  refine tri_end A Suf.h rfl (.cons (rv_tmp rfl) .nil) ⟨?_, rfl, hI05⟩
  exact congrArg Value.bool (decide_eq_true pop)
end Go.GL

