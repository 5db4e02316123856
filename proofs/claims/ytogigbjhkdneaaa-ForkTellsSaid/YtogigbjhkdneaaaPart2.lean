/- Part 2: contracts of the functions that the law reaches: each answers as its model does. No condition beyond those that each theorem states. -/
import Derived.Test.YtogigbjhkdneaaaPart1
import Derived.Test.YtogigbjhkdneaaaProg
set_option linter.unusedVariables false
namespace Go.GL
theorem wrap_ex (x : Int) : ∃ j : Int, IntKind.i64.wrap x = x + 18446744073709551616 * j := by
 have e : IntKind.i64.wrap x = if 9223372036854775808 ≤ x % 18446744073709551616 then x % 18446744073709551616 - 18446744073709551616 else x % 18446744073709551616 := by simp [IntKind.wrap, IntKind.signed, IntKind.bits]
 rw [e]
 split
 ·exact ⟨-(x / 18446744073709551616) - 1, by omega⟩
 ·exact ⟨-(x / 18446744073709551616), by omega⟩
theorem wrap_rng (x : Int) : -9223372036854775808 ≤ IntKind.i64.wrap x ∧ IntKind.i64.wrap x ≤ 9223372036854775807 := by
 have e : IntKind.i64.wrap x = if 9223372036854775808 ≤ x % 18446744073709551616 then x % 18446744073709551616 - 18446744073709551616 else x % 18446744073709551616 := by simp [IntKind.wrap, IntKind.signed, IntKind.bits]
 rw [e]
 split <;> omega
def sumTo (g : Nat → Int) : Nat → Int
 | 0 => 0
 | n + 1 => sumTo g n + g n
theorem sumTo_congr {g h : Nat → Int} : ∀ {n : Nat}, (∀ u, u < n → g u = h u) → sumTo g n = sumTo h n
 | 0, _ => rfl
 | n + 1, e => by
  show sumTo g n + g n = sumTo h n + h n
  rw [sumTo_congr fun u hu => e u (by omega), e n (by omega)]
theorem sumTo_one {g h : Nat → Int} {t : Nat} : ∀ {n : Nat}, t < n → (∀ u, u < n → u ≠ t → g u = h u) → sumTo g n = sumTo h n - h t + g t
 | 0, ht, _ => by omega
 | n + 1, ht, e => by
  show sumTo g n + g n = sumTo h n + h n - h t + g t
  by_cases en : t = n
  ·subst en
   rw [sumTo_congr (h := h) fun u hu => e u (by omega) (by omega)]
   omega
  ·rw [sumTo_one (by omega) fun u hu hne => e u (by omega) hne, e n (by omega) (by omega)]
   omega
namespace R19
variable {p v : List Int}
theorem getD_setF {l : List Frame} {i j : Nat} {x : Frame} (hi : i < l.length) : (l.set i x).getD j default = if j = i then x else l.getD j default := by
 rw [List.getD_eq_getElem?_getD, List.getElem?_set]
 by_cases e : i = j
 ·subst e
  rw [if_pos rfl, if_pos rfl, if_pos hi]
  rfl
 ·rw [if_neg e, if_neg (fun h => e h.symm), List.getD_eq_getElem?_getD]
/-- The parent's frame, when a kid is done. -/
def told (q t : Frame) : Frame := { q with sum := IntKind.i64.wrap (q.sum + t.sum), left := IntKind.i64.wrap (q.left - 1) }
theorem tell_at {fs : List Frame} {q t : Nat} (hq : q < fs.length) (u : Nat) : (less1 (add1 fs q t) q).getD u default = if u = q then told (fs.getD q default) (fs.getD t default) else fs.getD u default := by
 unfold less1 add1
 rw [getD_setF (by rw [List.length_set]; exact hq), getD_setF hq, if_pos rfl, getD_setF hq]
 split
 ·rfl
 ·rfl
theorem tell_len (fs : List Frame) (q t : Nat) : (less1 (add1 fs q t) q).length = fs.length := by simp [less1, add1]
/-- How many kids are not done. -/
def cnt (p : List Int) (dn : Nat → Bool) (t : Nat) : Nat := ((kids p t).filter fun c => !dn c.toNat).length
def amt (dn : Nat → Bool) (fs : List Frame) (t : Nat) : Int := if dn t = true ∧ t ≠ 0 then 0 else (fs.getD t default).sum
/-- What is known of the frames. -/
structure FOk (p v : List Int) (fs : List Frame) (order : List Int) (dn : Nat → Bool) (x : Option Nat) : Prop where
 len : fs.length = p.length
 par : ∀ t, t < p.length → (fs.getD t default).par = p.getD t default
 lft : ∀ t, t < p.length → (fs.getD t default).left = cnt p dn t
 dnr : ∀ t, t < p.length → some t ≠ x → (dn t = true ↔ ((t : Int) ∈ order ∧ (fs.getD t default).left = 0))
 rng : ∀ t, t < p.length → -9223372036854775808 ≤ (fs.getD t default).sum ∧ (fs.getD t default).sum ≤ 9223372036854775807
 tot : ∃ k : Int, sumTo (amt dn fs) p.length = sumTo (fun t => v.getD t default) p.length + 18446744073709551616 * k
theorem cnt_le (p : List Int) (dn : Nat → Bool) (t : Nat) : cnt p dn t ≤ p.length := Nat.le_trans (List.length_filter_le _ _) (by
 unfold kids
 exact kidsTo_len p t p.length)
def don (dn : Nat → Bool) (t : Nat) : Nat → Bool := fun u => if u = t then true else dn u
theorem cnt_other {dn : Nat → Bool} {t u : Nat} (h : p.getD t default ≠ (u : Int)) : cnt p (don dn t) u = cnt p dn u := by
 unfold cnt
 congr 1
 refine List.filter_congr fun c hc => ?_
 have h1 := (mem_kids.1 hc).2.2
 have : c.toNat ≠ t := fun e => h (by rw [← e, h1])
 show (!if c.toNat = t then true else dn c.toNat) = _
 rw [if_neg this]
theorem filter_one {l : List Int} (hn : l.Nodup) {x : Int} (hx : x ∈ l) {f g : Int → Bool} (h1 : f x = true) (h2 : g x = false) (h3 : ∀ y ∈ l, y ≠ x → f y = g y) : (l.filter f).length = (l.filter g).length + 1 := by
 induction l with
 | nil => exact nomatch hx
 | cons y l ih =>
  obtain ⟨hy, hl⟩ := List.nodup_cons.1 hn
  rcases List.mem_cons.1 hx with rfl | hx
  ·rw [List.filter_cons, List.filter_cons, if_pos h1, if_neg (by rw [h2]; decide), List.filter_congr fun z hz => h3 z (List.mem_cons_of_mem _ hz) fun e => hy (e ▸ hz)]
   rfl
  ·have hyx : y ≠ x := fun e => hy (e ▸ hx)
   have := ih hl hx fun z hz => h3 z (List.mem_cons_of_mem _ hz)
   rw [List.filter_cons, List.filter_cons, h3 y List.mem_cons_self hyx]
   split
   ·rw [List.length_cons, List.length_cons, this]
   ·exact this
theorem cnt_par {dn : Nat → Bool} {t u : Nat} (ht : t < p.length) (h : p.getD t default = (u : Int)) (hd : dn t = false) : cnt p dn u = cnt p (don dn t) u + 1 := by
 unfold cnt
 refine filter_one (kids_nd p u) (x := (t : Int)) (mem_kids.2 ⟨by omega, by omega, by rw [Int.toNat_natCast]; exact h⟩) (by rw [Int.toNat_natCast, hd]; rfl) (by
  rw [Int.toNat_natCast]
  show (!if t = t then true else dn t) = false
  rw [if_pos rfl]; rfl) fun y hy hne => ?_
 have := (mem_kids.1 hy).1
 have : y.toNat ≠ t := fun e => hne (by omega)
 show _ = (!if y.toNat = t then true else dn y.toNat)
 rw [if_neg this]
/-- The parents of what is run are run. -/
def Cl (p order : List Int) : Prop := ∀ t : Nat, t < p.length → 0 < t → (t : Int) ∈ order → p.getD t default ∈ order
theorem join_ok (hr : right p) {order : List Int} (hcl : Cl p order) : ∀ (f : Nat) {fs : List Frame} {t : Nat} {dn : Nat → Bool}, t < f → t < p.length → FOk p v fs order dn (some t) → (t : Int) ∈ order → (fs.getD t default).left = 0 → dn t = false →
  ∃ dn', FOk p v (joinM f fs t).1 order dn' none ∧ (dn 0 || (joinM f fs t).2) = dn' 0
 | 0, _, _, _, h, _, _, _, _, _ => by omega
 | f + 1, fs, t, dn, hf, ht, h, ho, hl, hd => by
  obtain ⟨h1, h2, h3, h4, hg, k, hk⟩ := h
  have hN := hr.1.2
  have hp := par_lt hr ht
  by_cases h0 : t = 0
  ·subst h0
   have em : joinM (f + 1) fs 0 = (fs, true) := by show (if _ then _ else _) = _; rw [if_pos (by rw [h2 0 ht]; omega)]
   rw [em]
   refine ⟨don dn 0, ⟨h1, h2, fun u hu => ?_, fun u hu _ => ?_, hg, k, ?_⟩, by rw [Bool.or_true]; rfl⟩
   ·rw [cnt_other (by omega)]
    exact h3 u hu
   ·by_cases e : u = 0
    ·subst e
     exact ⟨fun _ => ⟨ho, hl⟩, fun _ => rfl⟩
    ·show ((if u = 0 then true else dn u) = true ↔ _)
     rw [if_neg e]
     exact h4 u hu fun e2 => e (Option.some.inj e2)
   ·rw [← hk]
    refine sumTo_congr fun u hu => ?_
    unfold amt don
    by_cases e : u = 0
    ·rw [if_neg (by omega), if_neg (by omega)]
    ·rw [if_neg e]
  ·obtain ⟨q, hq⟩ : ∃ q : Nat, p.getD t default = (q : Int) := ⟨(p.getD t default).toNat, by omega⟩
   have hqt : q < t := by omega
   have hqN : q < p.length := by omega
   have hpar := h2 t ht
   rw [hq] at hpar
   have tq : (q : Int).toNat = q := rfl
   have hc := cnt_par ht hq hd
   have hcl1 := cnt_le p dn q
   have hlq := h3 q hqN
   have ha := tell_at (fs := fs) (q := q) (t := t) (by omega)
   have hlen := tell_len fs q t
   have hqo : (q : Int) ∈ order := by rw [← hq]; exact hcl t ht (by omega) ho
   have hdq : dn q = false := by
    by_cases e : dn q = true
    ·have := ((h4 q hqN fun e2 => by have := Option.some.inj e2; omega).1 e).2
     omega
    ·simpa using e
   have em : joinM (f + 1) fs t = if ((less1 (add1 fs q t) q).getD q default).left = 0 then joinM f (less1 (add1 fs q t) q) q else (less1 (add1 fs q t) q, false) := by
    show (if (fs.getD t default).par < 0 then _ else _) = _
    rw [if_neg (by omega), hpar, tq]
   generalize hfs : less1 (add1 fs q t) q = fs' at *
   have hq1 : (fs'.getD q default).left = (cnt p (don dn t) q : Int) := by
    rw [ha q, if_pos rfl]
    show IntKind.i64.wrap ((fs.getD q default).left - 1) = _
    rw [hlq, w64 (by omega) (by omega)]
    omega
   have hX : ∀ x, (x = some q ∨ (x = none ∧ (fs'.getD q default).left ≠ 0)) → FOk p v fs' order (don dn t) x := by
    intro x hx
    obtain ⟨j, hj⟩ := wrap_ex ((fs.getD q default).sum + (fs.getD t default).sum)
    refine ⟨by omega, fun u hu => ?_, fun u hu => ?_, fun u hu hne => ?_, fun u hu => (by
     rw [ha u]
     split
     ·exact wrap_rng _
     ·exact hg u hu), k + j, ?_⟩
    ·rw [ha u]
     split
     ·rename_i e
      rw [e]
      exact h2 q hqN
     ·exact h2 u hu
    ·by_cases e : u = q
     ·rw [e]
      exact hq1
     ·rw [ha u, if_neg e, cnt_other (by omega)]
      exact h3 u hu
    ·by_cases e : u = q
     ·rcases hx with hx | ⟨hx, hx2⟩
      ·rw [e, hx] at hne
       exact absurd rfl hne
      ·rw [e]
       show ((if q = t then true else dn q) = true ↔ _)
       rw [if_neg (by omega), hdq]
       exact ⟨fun h => (nomatch h), fun h => absurd h.2 hx2⟩
     ·rw [ha u, if_neg e]
      by_cases e2 : u = t
      ·subst e2
       exact ⟨fun _ => ⟨ho, hl⟩, fun _ => by show (if u = u then true else dn u) = true; rw [if_pos rfl]⟩
      ·show ((if u = t then true else dn u) = true ↔ _)
       rw [if_neg e2]
       exact h4 u hu fun e3 => e2 (Option.some.inj e3)
    ·have s1 := sumTo_one (g := amt (don dn t) fs') (h := fun u => if u = t then 0 else amt dn fs u) (t := q) hqN fun u hu hne => by
      unfold amt don
      rw [ha u, if_neg hne]
      by_cases e : u = t
      ·rw [if_pos e, if_pos e, if_pos ⟨rfl, by omega⟩]
      ·rw [if_neg e, if_neg e]
     have s2 := sumTo_one (g := fun u => if u = t then 0 else amt dn fs u) (h := amt dn fs) (t := t) ht fun u hu hne => if_neg hne
     have a1 : amt (don dn t) fs' q = (fs.getD q default).sum + (fs.getD t default).sum + 18446744073709551616 * j := by
      unfold amt don
      rw [if_neg (by rw [if_neg (by omega), hdq]; exact fun h => nomatch h.1), ha q, if_pos rfl, ← hj]
      rfl
     have a2 : amt dn fs q = (fs.getD q default).sum := by
      unfold amt
      rw [if_neg (by rw [hdq]; exact fun h => nomatch h.1)]
     have a3 : amt dn fs t = (fs.getD t default).sum := by
      unfold amt
      rw [if_neg (by rw [hd]; exact fun h => nomatch h.1)]
     rw [s1, s2, a1, if_pos rfl, if_neg (show ¬ q = t by omega), a2, a3, hk]
     omega
   have hd0 : don dn t 0 = dn 0 := if_neg (by omega)
   rw [em]
   by_cases hz : (fs'.getD q default).left = 0
   ·rw [if_pos hz]
    obtain ⟨dn', h5, h6⟩ := join_ok hr hcl f (t := q) (dn := don dn t) (by omega) hqN (hX _ (.inl rfl)) hqo hz (by show (if q = t then true else dn q) = false; rw [if_neg (by omega), hdq])
    exact ⟨dn', h5, by rw [← h6, hd0]⟩
   ·rw [if_neg hz]
    exact ⟨don dn t, hX _ (.inr ⟨rfl, hz⟩), by rw [hd0, Bool.or_false]⟩
/-- What a join does not touch. -/
theorem join_same : ∀ (f : Nat) (fs : List Frame) (t : Nat), (joinM f fs t).1.length = fs.length ∧ ∀ u, ((joinM f fs t).1.getD u default).a = (fs.getD u default).a ∧ ((joinM f fs t).1.getD u default).len = (fs.getD u default).len
 | 0, fs, t => ⟨rfl, fun _ => ⟨rfl, rfl⟩⟩
 | f + 1, fs, t => by
  have hs : ∀ q, (less1 (add1 fs q t) q).length = fs.length ∧ ∀ u, ((less1 (add1 fs q t) q).getD u default).a = (fs.getD u default).a ∧ ((less1 (add1 fs q t) q).getD u default).len = (fs.getD u default).len := fun q => by
   refine ⟨tell_len fs q t, fun u => ?_⟩
   by_cases hq : q < fs.length
   ·rw [tell_at hq u]
    split
    ·rename_i e
     rw [e]
     exact ⟨rfl, rfl⟩
    ·exact ⟨rfl, rfl⟩
   ·unfold less1 add1
    rw [List.set_eq_of_length_le (by rw [List.length_set]; omega), List.set_eq_of_length_le (by omega)]
    exact ⟨rfl, rfl⟩
  unfold joinM
  split
  ·exact ⟨rfl, fun _ => ⟨rfl, rfl⟩⟩
  ·split
   ·obtain ⟨h1, h2⟩ := join_same f (less1 (add1 fs (fs.getD t default).par.toNat t) (fs.getD t default).par.toNat) (fs.getD t default).par.toNat
    obtain ⟨h3, h4⟩ := hs (fs.getD t default).par.toNat
    exact ⟨h1.trans h3, fun u => ⟨(h2 u).1.trans (h4 u).1, (h2 u).2.trans (h4 u).2⟩⟩
   ·exact hs _
theorem cnt_none {dn : Nat → Bool} {t : Nat} (h : ∀ c ∈ kids p t, dn c.toNat = true) : cnt p dn t = 0 := by
 unfold cnt
 rw [List.length_eq_zero_iff, List.filter_eq_nil_iff]
 intro c hc
 rw [h c hc]
 decide
theorem cnt_zero {dn : Nat → Bool} {t : Nat} (h : cnt p dn t = 0) : ∀ c ∈ kids p t, dn c.toNat = true := by
 unfold cnt at h
 rw [List.length_eq_zero_iff, List.filter_eq_nil_iff] at h
 intro c hc
 have := h c hc
 simpa using this
/-- All are run: all are done. -/
theorem FOk.all {fs : List Frame} {order : List Int} {dn : Nat → Bool} (hr : right p) (h : FOk p v fs order dn none) (ha : ∀ t : Nat, t < p.length → (t : Int) ∈ order) : ∀ t, t < p.length → dn t = true := by
 have : ∀ m t : Nat, t < p.length → p.length ≤ t + m → dn t = true := by
  intro m
  induction m with
  | zero => intro t h1 h2; omega
  | succ m ih =>
   intro t h1 h2
   refine (h.dnr t h1 (fun e => nomatch e)).2 ⟨ha t h1, ?_⟩
   rw [h.lft t h1, cnt_none]
   ·rfl
   ·intro c hc
    have := kid_gt hr hc
    obtain ⟨h3, h4, _⟩ := mem_kids.1 hc
    exact ih c.toNat (by omega) (by omega)
 exact fun t ht => this p.length t ht (by omega)
/-- The first one is done: all are run. -/
theorem FOk.root {fs : List Frame} {order : List Int} {dn : Nat → Bool} (hr : right p) (h : FOk p v fs order dn none) (h0 : dn 0 = true) : ∀ t : Nat, t < p.length → dn t = true ∧ (t : Int) ∈ order := by
 intro t
 induction t using Nat.strongRecOn with
 | _ t ih =>
  intro ht
  have hd : dn t = true := by
   by_cases e0 : t = 0
   ·rw [e0]; exact h0
   ·have hp := par_lt hr ht
    obtain ⟨q, hq⟩ : ∃ q : Nat, p.getD t default = (q : Int) := ⟨(p.getD t default).toNat, by omega⟩
    have hq1 : q < p.length := by omega
    have h5 := ((h.dnr q hq1 (fun e => nomatch e)).1 (ih q (by omega) hq1).1).2
    rw [h.lft q hq1] at h5
    have := cnt_zero (p := p) (dn := dn) (t := q) (by omega) t (mem_kids.2 ⟨by omega, by omega, by rw [Int.toNat_natCast]; exact hq⟩)
    rwa [Int.toNat_natCast] at this
  exact ⟨hd, ((h.dnr t ht (fun e => nomatch e)).1 hd).1⟩
end R19
end Go.GL

namespace Go.GL
open Go.Proofs
instance : TyI Try.prog 1 (.func #[] #[] false) 1 8 [.nilFunc] := ⟨by kernel_rfl, ⟨.nilFunc, by kernel_rfl, rfl⟩, rfl⟩
instance : TyI Try.prog 2 (.int .i64) 1 8 [.int .i64 0] := ⟨by kernel_rfl, ⟨.int .i64 0, by kernel_rfl, rfl⟩, rfl⟩
instance : TyI Try.prog 3 (.int .i64) 1 8 [.int .i64 0] := ⟨by kernel_rfl, ⟨.int .i64 0, by kernel_rfl, rfl⟩, rfl⟩
instance : TyI Try.prog 4 (.bool) 1 1 [.bool false] := ⟨by kernel_rfl, ⟨.bool false, by kernel_rfl, rfl⟩, rfl⟩
instance : TyI Try.prog 5 (.int .u8) 1 1 [.int .u8 0] := ⟨by kernel_rfl, ⟨.int .u8 0, by kernel_rfl, rfl⟩, rfl⟩
instance : TyI Try.prog 6 (.int .u8) 1 1 [.int .u8 0] := ⟨by kernel_rfl, ⟨.int .u8 0, by kernel_rfl, rfl⟩, rfl⟩
instance : TyI Try.prog 7 (.struct #[⟨ "x", 2, 0, false, "", "runtime", 0⟩, ⟨ "y", 3, 1, false, "", "runtime", 8⟩, ⟨ "signed", 4, 2, false, "", "runtime", 16⟩, ⟨ "code", 6, 3, false, "", "runtime", 17⟩]) 4 24 [.int .i64 0, .int .i64 0, .bool false, .int .u8 0] := ⟨by kernel_rfl, ⟨.agg #[.int .i64 0, .int .i64 0, .bool false, .int .u8 0], by kernel_rfl, rfl⟩, rfl⟩
instance : TyI Try.prog 8 (.struct #[⟨ "x", 2, 0, false, "", "runtime", 0⟩, ⟨ "y", 3, 1, false, "", "runtime", 8⟩, ⟨ "signed", 4, 2, false, "", "runtime", 16⟩, ⟨ "code", 6, 3, false, "", "runtime", 17⟩]) 4 24 [.int .i64 0, .int .i64 0, .bool false, .int .u8 0] := ⟨by kernel_rfl, ⟨.agg #[.int .i64 0, .int .i64 0, .bool false, .int .u8 0], by kernel_rfl, rfl⟩, rfl⟩
instance : TyI Try.prog 9 (.string) 1 16 [.string ⟨#[]⟩] := ⟨by kernel_rfl, ⟨.string ⟨#[]⟩, by kernel_rfl, rfl⟩, rfl⟩
instance : TyI Try.prog 10 (.string) 1 16 [.string ⟨#[]⟩] := ⟨by kernel_rfl, ⟨.string ⟨#[]⟩, by kernel_rfl, rfl⟩, rfl⟩
instance : TyI Try.prog 11 (.string) 1 16 [.string ⟨#[]⟩] := ⟨by kernel_rfl, ⟨.string ⟨#[]⟩, by kernel_rfl, rfl⟩, rfl⟩
instance : TyI Try.prog 12 (.int .u64) 1 8 [.int .u64 0] := ⟨by kernel_rfl, ⟨.int .u64 0, by kernel_rfl, rfl⟩, rfl⟩
instance : TyI Try.prog 13 (.struct #[⟨ "msg", 9, 0, false, "", "runtime", 0⟩, ⟨ "addr", 12, 1, false, "", "runtime", 16⟩]) 2 24 [.string ⟨#[]⟩, .int .u64 0] := ⟨by kernel_rfl, ⟨.agg #[.string ⟨#[]⟩, .int .u64 0], by kernel_rfl, rfl⟩, rfl⟩
instance : TyI Try.prog 14 (.struct #[⟨ "msg", 9, 0, false, "", "runtime", 0⟩, ⟨ "addr", 12, 1, false, "", "runtime", 16⟩]) 2 24 [.string ⟨#[]⟩, .int .u64 0] := ⟨by kernel_rfl, ⟨.agg #[.string ⟨#[]⟩, .int .u64 0], by kernel_rfl, rfl⟩, rfl⟩
instance : TyI Try.prog 15 (.pointer 75) 1 8 [.pointer none] := ⟨by kernel_rfl, ⟨.pointer none, by kernel_rfl, rfl⟩, rfl⟩
instance : TyI Try.prog 16 (.pointer 78) 1 8 [.pointer none] := ⟨by kernel_rfl, ⟨.pointer none, by kernel_rfl, rfl⟩, rfl⟩
instance : TyI Try.prog 17 (.pointer 87) 1 8 [.pointer none] := ⟨by kernel_rfl, ⟨.pointer none, by kernel_rfl, rfl⟩, rfl⟩
instance : TyI Try.prog 18 (.struct #[⟨ "typ", 17, 0, false, "", "internal/runtime/maps", 0⟩]) 1 8 [.pointer none] := ⟨by kernel_rfl, ⟨.agg #[.pointer none], by kernel_rfl, rfl⟩, rfl⟩
instance : TyI Try.prog 19 (.struct #[⟨ "typ", 17, 0, false, "", "internal/runtime/maps", 0⟩]) 1 8 [.pointer none] := ⟨by kernel_rfl, ⟨.agg #[.pointer none], by kernel_rfl, rfl⟩, rfl⟩
instance : TyI Try.prog 21 (.int .i32) 1 4 [.int .i32 0] := ⟨by kernel_rfl, ⟨.int .i32 0, by kernel_rfl, rfl⟩, rfl⟩
instance : TyI Try.prog 22 (.slice 3) 1 24 [.slice none 0 0] := ⟨by kernel_rfl, ⟨.slice none 0 0, by kernel_rfl, rfl⟩, rfl⟩
instance : TyI Try.prog 23 (.func #[] #[4] false) 1 8 [.nilFunc] := ⟨by kernel_rfl, ⟨.nilFunc, by kernel_rfl, rfl⟩, rfl⟩
instance : TyI Try.prog 24 (.func #[22] #[22] false) 1 8 [.nilFunc] := ⟨by kernel_rfl, ⟨.nilFunc, by kernel_rfl, rfl⟩, rfl⟩
instance : TyI Try.prog 25 (.func #[3, 3] #[3] false) 1 8 [.nilFunc] := ⟨by kernel_rfl, ⟨.nilFunc, by kernel_rfl, rfl⟩, rfl⟩
instance : TyI Try.prog 26 (.slice 22) 1 24 [.slice none 0 0] := ⟨by kernel_rfl, ⟨.slice none 0 0, by kernel_rfl, rfl⟩, rfl⟩
instance : TyI Try.prog 27 (.func #[22] #[4] false) 1 8 [.nilFunc] := ⟨by kernel_rfl, ⟨.nilFunc, by kernel_rfl, rfl⟩, rfl⟩
instance : TyI Try.prog 28 (.func #[22, 3] #[22] false) 1 8 [.nilFunc] := ⟨by kernel_rfl, ⟨.nilFunc, by kernel_rfl, rfl⟩, rfl⟩
instance : TyI Try.prog 29 (.struct #[⟨ "Sum", 3, 0, false, "", "", 0⟩, ⟨ "Order", 22, 1, false, "", "", 8⟩, ⟨ "Who", 22, 2, false, "", "", 32⟩, ⟨ "Steps", 3, 3, false, "", "", 56⟩]) 4 64 [.int .i64 0, .slice none 0 0, .slice none 0 0, .int .i64 0] := ⟨by kernel_rfl, ⟨.agg #[.int .i64 0, .slice none 0 0, .slice none 0 0, .int .i64 0], by kernel_rfl, rfl⟩, rfl⟩
instance : TyI Try.prog 30 (.struct #[⟨ "Sum", 3, 0, false, "", "", 0⟩, ⟨ "Order", 22, 1, false, "", "", 8⟩, ⟨ "Who", 22, 2, false, "", "", 32⟩, ⟨ "Steps", 3, 3, false, "", "", 56⟩]) 4 64 [.int .i64 0, .slice none 0 0, .slice none 0 0, .int .i64 0] := ⟨by kernel_rfl, ⟨.agg #[.int .i64 0, .slice none 0 0, .slice none 0 0, .int .i64 0], by kernel_rfl, rfl⟩, rfl⟩
instance : TyI Try.prog 31 (.int .i64) 1 8 [.int .i64 0] := ⟨by kernel_rfl, ⟨.int .i64 0, by kernel_rfl, rfl⟩, rfl⟩
instance : TyI Try.prog 33 (.func #[22, 22, 3, 22] #[30, 31] true) 1 8 [.nilFunc] := ⟨by kernel_rfl, ⟨.nilFunc, by kernel_rfl, rfl⟩, rfl⟩
instance : TyI Try.prog 34 (.func #[22, 22, 3, 22] #[30, 31] false) 1 8 [.nilFunc] := ⟨by kernel_rfl, ⟨.nilFunc, by kernel_rfl, rfl⟩, rfl⟩
instance : TyI Try.prog 35 (.func #[30, 30] #[4] false) 1 8 [.nilFunc] := ⟨by kernel_rfl, ⟨.nilFunc, by kernel_rfl, rfl⟩, rfl⟩
instance : TyI Try.prog 36 (.func #[22, 22, 3, 22, 22, 3, 3] #[4] false) 1 8 [.nilFunc] := ⟨by kernel_rfl, ⟨.nilFunc, by kernel_rfl, rfl⟩, rfl⟩
instance : TyI Try.prog 37 (.func #[22, 22, 3, 22] #[4] false) 1 8 [.nilFunc] := ⟨by kernel_rfl, ⟨.nilFunc, by kernel_rfl, rfl⟩, rfl⟩
instance : TyI Try.prog 38 (.func #[22, 3, 22] #[4] false) 1 8 [.nilFunc] := ⟨by kernel_rfl, ⟨.nilFunc, by kernel_rfl, rfl⟩, rfl⟩
instance : TyI Try.prog 39 (.func #[22, 22] #[4] false) 1 8 [.nilFunc] := ⟨by kernel_rfl, ⟨.nilFunc, by kernel_rfl, rfl⟩, rfl⟩
instance : TyI Try.prog 40 (.func #[3, 3, 22] #[4] false) 1 8 [.nilFunc] := ⟨by kernel_rfl, ⟨.nilFunc, by kernel_rfl, rfl⟩, rfl⟩
instance : TyI Try.prog 41 (.func #[22, 22, 3, 22, 3] #[4] false) 1 8 [.nilFunc] := ⟨by kernel_rfl, ⟨.nilFunc, by kernel_rfl, rfl⟩, rfl⟩
instance : TyI Try.prog 42 (.func #[3] #[4] false) 1 8 [.nilFunc] := ⟨by kernel_rfl, ⟨.nilFunc, by kernel_rfl, rfl⟩, rfl⟩
instance : TyI Try.prog 43 (.func #[22, 42] #[4] false) 1 8 [.nilFunc] := ⟨by kernel_rfl, ⟨.nilFunc, by kernel_rfl, rfl⟩, rfl⟩
instance : TyI Try.prog 44 (.pointer 50) 1 8 [.pointer none] := ⟨by kernel_rfl, ⟨.pointer none, by kernel_rfl, rfl⟩, rfl⟩
instance : TyI Try.prog 45 (.slice 54) 1 24 [.slice none 0 0] := ⟨by kernel_rfl, ⟨.slice none 0 0, by kernel_rfl, rfl⟩, rfl⟩
instance : TyI Try.prog 46 (.struct #[⟨ "tasks", 45, 0, false, "", "gosper/fork", 0⟩, ⟨ "ends", 4, 1, false, "", "gosper/fork", 24⟩]) 2 32 [.slice none 0 0, .bool false] := ⟨by kernel_rfl, ⟨.agg #[.slice none 0 0, .bool false], by kernel_rfl, rfl⟩, rfl⟩
instance : TyI Try.prog 47 (.struct #[⟨ "tasks", 45, 0, false, "", "gosper/fork", 0⟩, ⟨ "ends", 4, 1, false, "", "gosper/fork", 24⟩]) 2 32 [.slice none 0 0, .bool false] := ⟨by kernel_rfl, ⟨.agg #[.slice none 0 0, .bool false], by kernel_rfl, rfl⟩, rfl⟩
instance : TyI Try.prog 48 (.func #[22, 22] #[47] false) 1 8 [.nilFunc] := ⟨by kernel_rfl, ⟨.nilFunc, by kernel_rfl, rfl⟩, rfl⟩
instance : TyI Try.prog 49 (.struct #[⟨ "frames", 47, 0, true, "", "gosper/fork", 0⟩, ⟨ "deques", 26, 2, false, "", "gosper/fork", 32⟩, ⟨ "Joined", 30, 3, true, "", "", 56⟩]) 7 120 [.slice none 0 0, .bool false, .slice none 0 0, .int .i64 0, .slice none 0 0, .slice none 0 0, .int .i64 0] := ⟨by kernel_rfl, ⟨.agg #[.slice none 0 0, .bool false, .slice none 0 0, .int .i64 0, .slice none 0 0, .slice none 0 0, .int .i64 0], by kernel_rfl, rfl⟩, rfl⟩
instance : TyI Try.prog 50 (.struct #[⟨ "frames", 47, 0, true, "", "gosper/fork", 0⟩, ⟨ "deques", 26, 2, false, "", "gosper/fork", 32⟩, ⟨ "Joined", 30, 3, true, "", "", 56⟩]) 7 120 [.slice none 0 0, .bool false, .slice none 0 0, .int .i64 0, .slice none 0 0, .slice none 0 0, .int .i64 0] := ⟨by kernel_rfl, ⟨.agg #[.slice none 0 0, .bool false, .slice none 0 0, .int .i64 0, .slice none 0 0, .slice none 0 0, .int .i64 0], by kernel_rfl, rfl⟩, rfl⟩
instance : TyI Try.prog 51 (.func #[22, 3, 22, 3] #[3] false) 1 8 [.nilFunc] := ⟨by kernel_rfl, ⟨.nilFunc, by kernel_rfl, rfl⟩, rfl⟩
instance : TyI Try.prog 52 (.func #[3] #[] false) 1 8 [.nilFunc] := ⟨by kernel_rfl, ⟨.nilFunc, by kernel_rfl, rfl⟩, rfl⟩
instance : TyI Try.prog 53 (.struct #[⟨ "parent", 3, 0, false, "", "gosper/fork", 0⟩, ⟨ "kids", 22, 1, false, "", "gosper/fork", 8⟩, ⟨ "sum", 3, 2, false, "", "gosper/fork", 32⟩, ⟨ "left", 3, 3, false, "", "gosper/fork", 40⟩]) 4 48 [.int .i64 0, .slice none 0 0, .int .i64 0, .int .i64 0] := ⟨by kernel_rfl, ⟨.agg #[.int .i64 0, .slice none 0 0, .int .i64 0, .int .i64 0], by kernel_rfl, rfl⟩, rfl⟩
instance : TyI Try.prog 54 (.struct #[⟨ "parent", 3, 0, false, "", "gosper/fork", 0⟩, ⟨ "kids", 22, 1, false, "", "gosper/fork", 8⟩, ⟨ "sum", 3, 2, false, "", "gosper/fork", 32⟩, ⟨ "left", 3, 3, false, "", "gosper/fork", 40⟩]) 4 48 [.int .i64 0, .slice none 0 0, .int .i64 0, .int .i64 0] := ⟨by kernel_rfl, ⟨.agg #[.int .i64 0, .slice none 0 0, .int .i64 0, .int .i64 0], by kernel_rfl, rfl⟩, rfl⟩
instance : TyI Try.prog 55 (.pointer 57) 1 8 [.pointer none] := ⟨by kernel_rfl, ⟨.pointer none, by kernel_rfl, rfl⟩, rfl⟩
instance : TyI Try.prog 56 (.struct #[⟨ "Parents", 22, 0, false, "", "", 0⟩, ⟨ "Deques", 26, 1, false, "", "", 24⟩, ⟨ "Sums", 22, 2, false, "", "", 48⟩, ⟨ "Left", 22, 3, false, "", "", 72⟩, ⟨ "Out", 30, 4, false, "", "", 96⟩, ⟨ "Done", 4, 8, false, "", "", 160⟩]) 9 168 [.slice none 0 0, .slice none 0 0, .slice none 0 0, .slice none 0 0, .int .i64 0, .slice none 0 0, .slice none 0 0, .int .i64 0, .bool false] := ⟨by kernel_rfl, ⟨.agg #[.slice none 0 0, .slice none 0 0, .slice none 0 0, .slice none 0 0, .int .i64 0, .slice none 0 0, .slice none 0 0, .int .i64 0, .bool false], by kernel_rfl, rfl⟩, rfl⟩
instance : TyI Try.prog 57 (.struct #[⟨ "Parents", 22, 0, false, "", "", 0⟩, ⟨ "Deques", 26, 1, false, "", "", 24⟩, ⟨ "Sums", 22, 2, false, "", "", 48⟩, ⟨ "Left", 22, 3, false, "", "", 72⟩, ⟨ "Out", 30, 4, false, "", "", 96⟩, ⟨ "Done", 4, 8, false, "", "", 160⟩]) 9 168 [.slice none 0 0, .slice none 0 0, .slice none 0 0, .slice none 0 0, .int .i64 0, .slice none 0 0, .slice none 0 0, .int .i64 0, .bool false] := ⟨by kernel_rfl, ⟨.agg #[.slice none 0 0, .slice none 0 0, .slice none 0 0, .slice none 0 0, .int .i64 0, .slice none 0 0, .slice none 0 0, .int .i64 0, .bool false], by kernel_rfl, rfl⟩, rfl⟩
instance : TyI Try.prog 58 (.func #[3] #[3] false) 1 8 [.nilFunc] := ⟨by kernel_rfl, ⟨.nilFunc, by kernel_rfl, rfl⟩, rfl⟩
instance : TyI Try.prog 59 (.func #[3, 3, 3] #[] false) 1 8 [.nilFunc] := ⟨by kernel_rfl, ⟨.nilFunc, by kernel_rfl, rfl⟩, rfl⟩
instance : TyI Try.prog 60 (.func #[22, 42] #[3] false) 1 8 [.nilFunc] := ⟨by kernel_rfl, ⟨.nilFunc, by kernel_rfl, rfl⟩, rfl⟩
instance : TyI Try.prog 61 (.int .u64) 1 8 [.int .u64 0] := ⟨by kernel_rfl, ⟨.int .u64 0, by kernel_rfl, rfl⟩, rfl⟩
instance : TyI Try.prog 63 (.func #[61, 61] #[61, 61] false) 1 8 [.nilFunc] := ⟨by kernel_rfl, ⟨.nilFunc, by kernel_rfl, rfl⟩, rfl⟩
instance : TyI Try.prog 64 (.func #[22] #[3] false) 1 8 [.nilFunc] := ⟨by kernel_rfl, ⟨.nilFunc, by kernel_rfl, rfl⟩, rfl⟩
instance : TyI Try.prog 65 (.int .u32) 1 4 [.int .u32 0] := ⟨by kernel_rfl, ⟨.int .u32 0, by kernel_rfl, rfl⟩, rfl⟩
instance : TyI Try.prog 67 (.func #[65, 65] #[65, 65] false) 1 8 [.nilFunc] := ⟨by kernel_rfl, ⟨.nilFunc, by kernel_rfl, rfl⟩, rfl⟩
instance : TyI Try.prog 68 (.int .u64) 1 8 [.int .u64 0] := ⟨by kernel_rfl, ⟨.int .u64 0, by kernel_rfl, rfl⟩, rfl⟩
instance : TyI Try.prog 70 (.func #[68, 68] #[68, 68] false) 1 8 [.nilFunc] := ⟨by kernel_rfl, ⟨.nilFunc, by kernel_rfl, rfl⟩, rfl⟩
instance : TyI Try.prog 71 (.pointer 47) 1 8 [.pointer none] := ⟨by kernel_rfl, ⟨.pointer none, by kernel_rfl, rfl⟩, rfl⟩
instance : TyI Try.prog 72 (.pointer 54) 1 8 [.pointer none] := ⟨by kernel_rfl, ⟨.pointer none, by kernel_rfl, rfl⟩, rfl⟩
instance : TyI Try.prog 73 (.func #[] #[9] false) 1 8 [.nilFunc] := ⟨by kernel_rfl, ⟨.nilFunc, by kernel_rfl, rfl⟩, rfl⟩
instance : TyI Try.prog 74 (.struct #[⟨ "_interface", 17, 0, false, "", "runtime", 0⟩, ⟨ "concrete", 17, 1, false, "", "runtime", 8⟩, ⟨ "asserted", 17, 2, false, "", "runtime", 16⟩, ⟨ "missingMethod", 9, 3, false, "", "runtime", 24⟩]) 4 40 [.pointer none, .pointer none, .pointer none, .string ⟨#[]⟩] := ⟨by kernel_rfl, ⟨.agg #[.pointer none, .pointer none, .pointer none, .string ⟨#[]⟩], by kernel_rfl, rfl⟩, rfl⟩
instance : TyI Try.prog 75 (.struct #[⟨ "_interface", 17, 0, false, "", "runtime", 0⟩, ⟨ "concrete", 17, 1, false, "", "runtime", 8⟩, ⟨ "asserted", 17, 2, false, "", "runtime", 16⟩, ⟨ "missingMethod", 9, 3, false, "", "runtime", 24⟩]) 4 40 [.pointer none, .pointer none, .pointer none, .string ⟨#[]⟩] := ⟨by kernel_rfl, ⟨.agg #[.pointer none, .pointer none, .pointer none, .string ⟨#[]⟩], by kernel_rfl, rfl⟩, rfl⟩
instance : TyI Try.prog 76 (.array 0 16) 0 0 [] := ⟨by kernel_rfl, ⟨.agg #[], by kernel_rfl, rfl⟩, rfl⟩
instance : TyI Try.prog 77 (.struct #[⟨ "_", 76, 0, false, "", "runtime", 0⟩]) 0 0 [] := ⟨by kernel_rfl, ⟨.agg #[], by kernel_rfl, rfl⟩, rfl⟩
instance : TyI Try.prog 78 (.struct #[⟨ "_", 76, 0, false, "", "runtime", 0⟩]) 0 0 [] := ⟨by kernel_rfl, ⟨.agg #[], by kernel_rfl, rfl⟩, rfl⟩
instance : TyI Try.prog 79 (.func #[] #[3] false) 1 8 [.nilFunc] := ⟨by kernel_rfl, ⟨.nilFunc, by kernel_rfl, rfl⟩, rfl⟩
instance : TyI Try.prog 80 (.int .u8) 1 1 [.int .u8 0] := ⟨by kernel_rfl, ⟨.int .u8 0, by kernel_rfl, rfl⟩, rfl⟩
instance : TyI Try.prog 81 (.int .u8) 1 1 [.int .u8 0] := ⟨by kernel_rfl, ⟨.int .u8 0, by kernel_rfl, rfl⟩, rfl⟩
instance : TyI Try.prog 82 (.func #[88, 88] #[4] false) 1 8 [.nilFunc] := ⟨by kernel_rfl, ⟨.nilFunc, by kernel_rfl, rfl⟩, rfl⟩
instance : TyI Try.prog 83 (.pointer 5) 1 8 [.pointer none] := ⟨by kernel_rfl, ⟨.pointer none, by kernel_rfl, rfl⟩, rfl⟩
instance : TyI Try.prog 84 (.int .i32) 1 4 [.int .i32 0] := ⟨by kernel_rfl, ⟨.int .i32 0, by kernel_rfl, rfl⟩, rfl⟩
instance : TyI Try.prog 85 (.int .i32) 1 4 [.int .i32 0] := ⟨by kernel_rfl, ⟨.int .i32 0, by kernel_rfl, rfl⟩, rfl⟩
instance : TyI Try.prog 86 (.struct #[⟨ "Size_", 12, 0, false, "", "", 0⟩, ⟨ "PtrBytes", 12, 1, false, "", "", 8⟩, ⟨ "Hash", 65, 2, false, "", "", 16⟩, ⟨ "TFlag", 80, 3, false, "", "", 20⟩, ⟨ "Align_", 5, 4, false, "", "", 21⟩, ⟨ "FieldAlign_", 5, 5, false, "", "", 22⟩, ⟨ "Kind_", 81, 6, false, "", "", 23⟩, ⟨ "Equal", 82, 7, false, "", "", 24⟩, ⟨ "GCData", 83, 8, false, "", "", 32⟩, ⟨ "Str", 84, 9, false, "", "", 40⟩, ⟨ "PtrToThis", 85, 10, false, "", "", 44⟩]) 11 48 [.int .u64 0, .int .u64 0, .int .u32 0, .int .u8 0, .int .u8 0, .int .u8 0, .int .u8 0, .nilFunc, .pointer none, .int .i32 0, .int .i32 0] := ⟨by kernel_rfl, ⟨.agg #[.int .u64 0, .int .u64 0, .int .u32 0, .int .u8 0, .int .u8 0, .int .u8 0, .int .u8 0, .nilFunc, .pointer none, .int .i32 0, .int .i32 0], by kernel_rfl, rfl⟩, rfl⟩
instance : TyI Try.prog 87 (.struct #[⟨ "Size_", 12, 0, false, "", "", 0⟩, ⟨ "PtrBytes", 12, 1, false, "", "", 8⟩, ⟨ "Hash", 65, 2, false, "", "", 16⟩, ⟨ "TFlag", 80, 3, false, "", "", 20⟩, ⟨ "Align_", 5, 4, false, "", "", 21⟩, ⟨ "FieldAlign_", 5, 5, false, "", "", 22⟩, ⟨ "Kind_", 81, 6, false, "", "", 23⟩, ⟨ "Equal", 82, 7, false, "", "", 24⟩, ⟨ "GCData", 83, 8, false, "", "", 32⟩, ⟨ "Str", 84, 9, false, "", "", 40⟩, ⟨ "PtrToThis", 85, 10, false, "", "", 44⟩]) 11 48 [.int .u64 0, .int .u64 0, .int .u32 0, .int .u8 0, .int .u8 0, .int .u8 0, .int .u8 0, .nilFunc, .pointer none, .int .i32 0, .int .i32 0] := ⟨by kernel_rfl, ⟨.agg #[.int .u64 0, .int .u64 0, .int .u32 0, .int .u8 0, .int .u8 0, .int .u8 0, .int .u8 0, .nilFunc, .pointer none, .int .i32 0, .int .i32 0], by kernel_rfl, rfl⟩, rfl⟩
instance : TyI Try.prog 88 (.unsafePointer) 1 8 [.pointer none] := ⟨by kernel_rfl, ⟨.pointer none, by kernel_rfl, rfl⟩, rfl⟩
instance : FldI Try.prog 7 0 0 2 := ⟨#[⟨ "x", 2, 0, false, "", "runtime", 0⟩, ⟨ "y", 3, 1, false, "", "runtime", 8⟩, ⟨ "signed", 4, 2, false, "", "runtime", 16⟩, ⟨ "code", 6, 3, false, "", "runtime", 17⟩], _, by kernel_rfl, rfl, rfl, rfl⟩
instance : FldI Try.prog 7 1 1 3 := ⟨#[⟨ "x", 2, 0, false, "", "runtime", 0⟩, ⟨ "y", 3, 1, false, "", "runtime", 8⟩, ⟨ "signed", 4, 2, false, "", "runtime", 16⟩, ⟨ "code", 6, 3, false, "", "runtime", 17⟩], _, by kernel_rfl, rfl, rfl, rfl⟩
instance : FldI Try.prog 7 2 2 4 := ⟨#[⟨ "x", 2, 0, false, "", "runtime", 0⟩, ⟨ "y", 3, 1, false, "", "runtime", 8⟩, ⟨ "signed", 4, 2, false, "", "runtime", 16⟩, ⟨ "code", 6, 3, false, "", "runtime", 17⟩], _, by kernel_rfl, rfl, rfl, rfl⟩
instance : FldI Try.prog 7 3 3 6 := ⟨#[⟨ "x", 2, 0, false, "", "runtime", 0⟩, ⟨ "y", 3, 1, false, "", "runtime", 8⟩, ⟨ "signed", 4, 2, false, "", "runtime", 16⟩, ⟨ "code", 6, 3, false, "", "runtime", 17⟩], _, by kernel_rfl, rfl, rfl, rfl⟩
instance : TyF Try.prog 7 [(0, 1), (1, 1), (2, 1), (3, 1)] := ⟨#[⟨ "x", 2, 0, false, "", "runtime", 0⟩, ⟨ "y", 3, 1, false, "", "runtime", 8⟩, ⟨ "signed", 4, 2, false, "", "runtime", 16⟩, ⟨ "code", 6, 3, false, "", "runtime", 17⟩], by kernel_rfl, by kernel_rfl⟩
instance : FldI Try.prog 8 0 0 2 := ⟨#[⟨ "x", 2, 0, false, "", "runtime", 0⟩, ⟨ "y", 3, 1, false, "", "runtime", 8⟩, ⟨ "signed", 4, 2, false, "", "runtime", 16⟩, ⟨ "code", 6, 3, false, "", "runtime", 17⟩], _, by kernel_rfl, rfl, rfl, rfl⟩
instance : FldI Try.prog 8 1 1 3 := ⟨#[⟨ "x", 2, 0, false, "", "runtime", 0⟩, ⟨ "y", 3, 1, false, "", "runtime", 8⟩, ⟨ "signed", 4, 2, false, "", "runtime", 16⟩, ⟨ "code", 6, 3, false, "", "runtime", 17⟩], _, by kernel_rfl, rfl, rfl, rfl⟩
instance : FldI Try.prog 8 2 2 4 := ⟨#[⟨ "x", 2, 0, false, "", "runtime", 0⟩, ⟨ "y", 3, 1, false, "", "runtime", 8⟩, ⟨ "signed", 4, 2, false, "", "runtime", 16⟩, ⟨ "code", 6, 3, false, "", "runtime", 17⟩], _, by kernel_rfl, rfl, rfl, rfl⟩
instance : FldI Try.prog 8 3 3 6 := ⟨#[⟨ "x", 2, 0, false, "", "runtime", 0⟩, ⟨ "y", 3, 1, false, "", "runtime", 8⟩, ⟨ "signed", 4, 2, false, "", "runtime", 16⟩, ⟨ "code", 6, 3, false, "", "runtime", 17⟩], _, by kernel_rfl, rfl, rfl, rfl⟩
instance : TyF Try.prog 8 [(0, 1), (1, 1), (2, 1), (3, 1)] := ⟨#[⟨ "x", 2, 0, false, "", "runtime", 0⟩, ⟨ "y", 3, 1, false, "", "runtime", 8⟩, ⟨ "signed", 4, 2, false, "", "runtime", 16⟩, ⟨ "code", 6, 3, false, "", "runtime", 17⟩], by kernel_rfl, by kernel_rfl⟩
instance : FldI Try.prog 13 0 0 9 := ⟨#[⟨ "msg", 9, 0, false, "", "runtime", 0⟩, ⟨ "addr", 12, 1, false, "", "runtime", 16⟩], _, by kernel_rfl, rfl, rfl, rfl⟩
instance : FldI Try.prog 13 1 1 12 := ⟨#[⟨ "msg", 9, 0, false, "", "runtime", 0⟩, ⟨ "addr", 12, 1, false, "", "runtime", 16⟩], _, by kernel_rfl, rfl, rfl, rfl⟩
instance : TyF Try.prog 13 [(0, 1), (1, 1)] := ⟨#[⟨ "msg", 9, 0, false, "", "runtime", 0⟩, ⟨ "addr", 12, 1, false, "", "runtime", 16⟩], by kernel_rfl, by kernel_rfl⟩
instance : FldI Try.prog 14 0 0 9 := ⟨#[⟨ "msg", 9, 0, false, "", "runtime", 0⟩, ⟨ "addr", 12, 1, false, "", "runtime", 16⟩], _, by kernel_rfl, rfl, rfl, rfl⟩
instance : FldI Try.prog 14 1 1 12 := ⟨#[⟨ "msg", 9, 0, false, "", "runtime", 0⟩, ⟨ "addr", 12, 1, false, "", "runtime", 16⟩], _, by kernel_rfl, rfl, rfl, rfl⟩
instance : TyF Try.prog 14 [(0, 1), (1, 1)] := ⟨#[⟨ "msg", 9, 0, false, "", "runtime", 0⟩, ⟨ "addr", 12, 1, false, "", "runtime", 16⟩], by kernel_rfl, by kernel_rfl⟩
instance : FldI Try.prog 18 0 0 17 := ⟨#[⟨ "typ", 17, 0, false, "", "internal/runtime/maps", 0⟩], _, by kernel_rfl, rfl, rfl, rfl⟩
instance : TyF Try.prog 18 [(0, 1)] := ⟨#[⟨ "typ", 17, 0, false, "", "internal/runtime/maps", 0⟩], by kernel_rfl, by kernel_rfl⟩
instance : FldI Try.prog 19 0 0 17 := ⟨#[⟨ "typ", 17, 0, false, "", "internal/runtime/maps", 0⟩], _, by kernel_rfl, rfl, rfl, rfl⟩
instance : TyF Try.prog 19 [(0, 1)] := ⟨#[⟨ "typ", 17, 0, false, "", "internal/runtime/maps", 0⟩], by kernel_rfl, by kernel_rfl⟩
instance : FldI Try.prog 29 0 0 3 := ⟨#[⟨ "Sum", 3, 0, false, "", "", 0⟩, ⟨ "Order", 22, 1, false, "", "", 8⟩, ⟨ "Who", 22, 2, false, "", "", 32⟩, ⟨ "Steps", 3, 3, false, "", "", 56⟩], _, by kernel_rfl, rfl, rfl, rfl⟩
instance : FldI Try.prog 29 1 1 22 := ⟨#[⟨ "Sum", 3, 0, false, "", "", 0⟩, ⟨ "Order", 22, 1, false, "", "", 8⟩, ⟨ "Who", 22, 2, false, "", "", 32⟩, ⟨ "Steps", 3, 3, false, "", "", 56⟩], _, by kernel_rfl, rfl, rfl, rfl⟩
instance : FldI Try.prog 29 2 2 22 := ⟨#[⟨ "Sum", 3, 0, false, "", "", 0⟩, ⟨ "Order", 22, 1, false, "", "", 8⟩, ⟨ "Who", 22, 2, false, "", "", 32⟩, ⟨ "Steps", 3, 3, false, "", "", 56⟩], _, by kernel_rfl, rfl, rfl, rfl⟩
instance : FldI Try.prog 29 3 3 3 := ⟨#[⟨ "Sum", 3, 0, false, "", "", 0⟩, ⟨ "Order", 22, 1, false, "", "", 8⟩, ⟨ "Who", 22, 2, false, "", "", 32⟩, ⟨ "Steps", 3, 3, false, "", "", 56⟩], _, by kernel_rfl, rfl, rfl, rfl⟩
instance : TyF Try.prog 29 [(0, 1), (1, 1), (2, 1), (3, 1)] := ⟨#[⟨ "Sum", 3, 0, false, "", "", 0⟩, ⟨ "Order", 22, 1, false, "", "", 8⟩, ⟨ "Who", 22, 2, false, "", "", 32⟩, ⟨ "Steps", 3, 3, false, "", "", 56⟩], by kernel_rfl, by kernel_rfl⟩
instance : FldI Try.prog 30 0 0 3 := ⟨#[⟨ "Sum", 3, 0, false, "", "", 0⟩, ⟨ "Order", 22, 1, false, "", "", 8⟩, ⟨ "Who", 22, 2, false, "", "", 32⟩, ⟨ "Steps", 3, 3, false, "", "", 56⟩], _, by kernel_rfl, rfl, rfl, rfl⟩
instance : FldI Try.prog 30 1 1 22 := ⟨#[⟨ "Sum", 3, 0, false, "", "", 0⟩, ⟨ "Order", 22, 1, false, "", "", 8⟩, ⟨ "Who", 22, 2, false, "", "", 32⟩, ⟨ "Steps", 3, 3, false, "", "", 56⟩], _, by kernel_rfl, rfl, rfl, rfl⟩
instance : FldI Try.prog 30 2 2 22 := ⟨#[⟨ "Sum", 3, 0, false, "", "", 0⟩, ⟨ "Order", 22, 1, false, "", "", 8⟩, ⟨ "Who", 22, 2, false, "", "", 32⟩, ⟨ "Steps", 3, 3, false, "", "", 56⟩], _, by kernel_rfl, rfl, rfl, rfl⟩
instance : FldI Try.prog 30 3 3 3 := ⟨#[⟨ "Sum", 3, 0, false, "", "", 0⟩, ⟨ "Order", 22, 1, false, "", "", 8⟩, ⟨ "Who", 22, 2, false, "", "", 32⟩, ⟨ "Steps", 3, 3, false, "", "", 56⟩], _, by kernel_rfl, rfl, rfl, rfl⟩
instance : TyF Try.prog 30 [(0, 1), (1, 1), (2, 1), (3, 1)] := ⟨#[⟨ "Sum", 3, 0, false, "", "", 0⟩, ⟨ "Order", 22, 1, false, "", "", 8⟩, ⟨ "Who", 22, 2, false, "", "", 32⟩, ⟨ "Steps", 3, 3, false, "", "", 56⟩], by kernel_rfl, by kernel_rfl⟩
instance : FldI Try.prog 46 0 0 45 := ⟨#[⟨ "tasks", 45, 0, false, "", "gosper/fork", 0⟩, ⟨ "ends", 4, 1, false, "", "gosper/fork", 24⟩], _, by kernel_rfl, rfl, rfl, rfl⟩
instance : FldI Try.prog 46 1 1 4 := ⟨#[⟨ "tasks", 45, 0, false, "", "gosper/fork", 0⟩, ⟨ "ends", 4, 1, false, "", "gosper/fork", 24⟩], _, by kernel_rfl, rfl, rfl, rfl⟩
instance : TyF Try.prog 46 [(0, 1), (1, 1)] := ⟨#[⟨ "tasks", 45, 0, false, "", "gosper/fork", 0⟩, ⟨ "ends", 4, 1, false, "", "gosper/fork", 24⟩], by kernel_rfl, by kernel_rfl⟩
instance : FldI Try.prog 47 0 0 45 := ⟨#[⟨ "tasks", 45, 0, false, "", "gosper/fork", 0⟩, ⟨ "ends", 4, 1, false, "", "gosper/fork", 24⟩], _, by kernel_rfl, rfl, rfl, rfl⟩
instance : FldI Try.prog 47 1 1 4 := ⟨#[⟨ "tasks", 45, 0, false, "", "gosper/fork", 0⟩, ⟨ "ends", 4, 1, false, "", "gosper/fork", 24⟩], _, by kernel_rfl, rfl, rfl, rfl⟩
instance : TyF Try.prog 47 [(0, 1), (1, 1)] := ⟨#[⟨ "tasks", 45, 0, false, "", "gosper/fork", 0⟩, ⟨ "ends", 4, 1, false, "", "gosper/fork", 24⟩], by kernel_rfl, by kernel_rfl⟩
instance : FldI Try.prog 49 0 0 47 := ⟨#[⟨ "frames", 47, 0, true, "", "gosper/fork", 0⟩, ⟨ "deques", 26, 2, false, "", "gosper/fork", 32⟩, ⟨ "Joined", 30, 3, true, "", "", 56⟩], _, by kernel_rfl, rfl, rfl, rfl⟩
instance : FldI Try.prog 49 1 2 26 := ⟨#[⟨ "frames", 47, 0, true, "", "gosper/fork", 0⟩, ⟨ "deques", 26, 2, false, "", "gosper/fork", 32⟩, ⟨ "Joined", 30, 3, true, "", "", 56⟩], _, by kernel_rfl, rfl, rfl, rfl⟩
instance : FldI Try.prog 49 2 3 30 := ⟨#[⟨ "frames", 47, 0, true, "", "gosper/fork", 0⟩, ⟨ "deques", 26, 2, false, "", "gosper/fork", 32⟩, ⟨ "Joined", 30, 3, true, "", "", 56⟩], _, by kernel_rfl, rfl, rfl, rfl⟩
instance : TyF Try.prog 49 [(0, 2), (2, 1), (3, 4)] := ⟨#[⟨ "frames", 47, 0, true, "", "gosper/fork", 0⟩, ⟨ "deques", 26, 2, false, "", "gosper/fork", 32⟩, ⟨ "Joined", 30, 3, true, "", "", 56⟩], by kernel_rfl, by kernel_rfl⟩
instance : FldI Try.prog 50 0 0 47 := ⟨#[⟨ "frames", 47, 0, true, "", "gosper/fork", 0⟩, ⟨ "deques", 26, 2, false, "", "gosper/fork", 32⟩, ⟨ "Joined", 30, 3, true, "", "", 56⟩], _, by kernel_rfl, rfl, rfl, rfl⟩
instance : FldI Try.prog 50 1 2 26 := ⟨#[⟨ "frames", 47, 0, true, "", "gosper/fork", 0⟩, ⟨ "deques", 26, 2, false, "", "gosper/fork", 32⟩, ⟨ "Joined", 30, 3, true, "", "", 56⟩], _, by kernel_rfl, rfl, rfl, rfl⟩
instance : FldI Try.prog 50 2 3 30 := ⟨#[⟨ "frames", 47, 0, true, "", "gosper/fork", 0⟩, ⟨ "deques", 26, 2, false, "", "gosper/fork", 32⟩, ⟨ "Joined", 30, 3, true, "", "", 56⟩], _, by kernel_rfl, rfl, rfl, rfl⟩
instance : TyF Try.prog 50 [(0, 2), (2, 1), (3, 4)] := ⟨#[⟨ "frames", 47, 0, true, "", "gosper/fork", 0⟩, ⟨ "deques", 26, 2, false, "", "gosper/fork", 32⟩, ⟨ "Joined", 30, 3, true, "", "", 56⟩], by kernel_rfl, by kernel_rfl⟩
instance : FldI Try.prog 53 0 0 3 := ⟨#[⟨ "parent", 3, 0, false, "", "gosper/fork", 0⟩, ⟨ "kids", 22, 1, false, "", "gosper/fork", 8⟩, ⟨ "sum", 3, 2, false, "", "gosper/fork", 32⟩, ⟨ "left", 3, 3, false, "", "gosper/fork", 40⟩], _, by kernel_rfl, rfl, rfl, rfl⟩
instance : FldI Try.prog 53 1 1 22 := ⟨#[⟨ "parent", 3, 0, false, "", "gosper/fork", 0⟩, ⟨ "kids", 22, 1, false, "", "gosper/fork", 8⟩, ⟨ "sum", 3, 2, false, "", "gosper/fork", 32⟩, ⟨ "left", 3, 3, false, "", "gosper/fork", 40⟩], _, by kernel_rfl, rfl, rfl, rfl⟩
instance : FldI Try.prog 53 2 2 3 := ⟨#[⟨ "parent", 3, 0, false, "", "gosper/fork", 0⟩, ⟨ "kids", 22, 1, false, "", "gosper/fork", 8⟩, ⟨ "sum", 3, 2, false, "", "gosper/fork", 32⟩, ⟨ "left", 3, 3, false, "", "gosper/fork", 40⟩], _, by kernel_rfl, rfl, rfl, rfl⟩
instance : FldI Try.prog 53 3 3 3 := ⟨#[⟨ "parent", 3, 0, false, "", "gosper/fork", 0⟩, ⟨ "kids", 22, 1, false, "", "gosper/fork", 8⟩, ⟨ "sum", 3, 2, false, "", "gosper/fork", 32⟩, ⟨ "left", 3, 3, false, "", "gosper/fork", 40⟩], _, by kernel_rfl, rfl, rfl, rfl⟩
instance : TyF Try.prog 53 [(0, 1), (1, 1), (2, 1), (3, 1)] := ⟨#[⟨ "parent", 3, 0, false, "", "gosper/fork", 0⟩, ⟨ "kids", 22, 1, false, "", "gosper/fork", 8⟩, ⟨ "sum", 3, 2, false, "", "gosper/fork", 32⟩, ⟨ "left", 3, 3, false, "", "gosper/fork", 40⟩], by kernel_rfl, by kernel_rfl⟩
instance : FldI Try.prog 54 0 0 3 := ⟨#[⟨ "parent", 3, 0, false, "", "gosper/fork", 0⟩, ⟨ "kids", 22, 1, false, "", "gosper/fork", 8⟩, ⟨ "sum", 3, 2, false, "", "gosper/fork", 32⟩, ⟨ "left", 3, 3, false, "", "gosper/fork", 40⟩], _, by kernel_rfl, rfl, rfl, rfl⟩
instance : FldI Try.prog 54 1 1 22 := ⟨#[⟨ "parent", 3, 0, false, "", "gosper/fork", 0⟩, ⟨ "kids", 22, 1, false, "", "gosper/fork", 8⟩, ⟨ "sum", 3, 2, false, "", "gosper/fork", 32⟩, ⟨ "left", 3, 3, false, "", "gosper/fork", 40⟩], _, by kernel_rfl, rfl, rfl, rfl⟩
instance : FldI Try.prog 54 2 2 3 := ⟨#[⟨ "parent", 3, 0, false, "", "gosper/fork", 0⟩, ⟨ "kids", 22, 1, false, "", "gosper/fork", 8⟩, ⟨ "sum", 3, 2, false, "", "gosper/fork", 32⟩, ⟨ "left", 3, 3, false, "", "gosper/fork", 40⟩], _, by kernel_rfl, rfl, rfl, rfl⟩
instance : FldI Try.prog 54 3 3 3 := ⟨#[⟨ "parent", 3, 0, false, "", "gosper/fork", 0⟩, ⟨ "kids", 22, 1, false, "", "gosper/fork", 8⟩, ⟨ "sum", 3, 2, false, "", "gosper/fork", 32⟩, ⟨ "left", 3, 3, false, "", "gosper/fork", 40⟩], _, by kernel_rfl, rfl, rfl, rfl⟩
instance : TyF Try.prog 54 [(0, 1), (1, 1), (2, 1), (3, 1)] := ⟨#[⟨ "parent", 3, 0, false, "", "gosper/fork", 0⟩, ⟨ "kids", 22, 1, false, "", "gosper/fork", 8⟩, ⟨ "sum", 3, 2, false, "", "gosper/fork", 32⟩, ⟨ "left", 3, 3, false, "", "gosper/fork", 40⟩], by kernel_rfl, by kernel_rfl⟩
instance : FldI Try.prog 56 0 0 22 := ⟨#[⟨ "Parents", 22, 0, false, "", "", 0⟩, ⟨ "Deques", 26, 1, false, "", "", 24⟩, ⟨ "Sums", 22, 2, false, "", "", 48⟩, ⟨ "Left", 22, 3, false, "", "", 72⟩, ⟨ "Out", 30, 4, false, "", "", 96⟩, ⟨ "Done", 4, 8, false, "", "", 160⟩], _, by kernel_rfl, rfl, rfl, rfl⟩
instance : FldI Try.prog 56 1 1 26 := ⟨#[⟨ "Parents", 22, 0, false, "", "", 0⟩, ⟨ "Deques", 26, 1, false, "", "", 24⟩, ⟨ "Sums", 22, 2, false, "", "", 48⟩, ⟨ "Left", 22, 3, false, "", "", 72⟩, ⟨ "Out", 30, 4, false, "", "", 96⟩, ⟨ "Done", 4, 8, false, "", "", 160⟩], _, by kernel_rfl, rfl, rfl, rfl⟩
instance : FldI Try.prog 56 2 2 22 := ⟨#[⟨ "Parents", 22, 0, false, "", "", 0⟩, ⟨ "Deques", 26, 1, false, "", "", 24⟩, ⟨ "Sums", 22, 2, false, "", "", 48⟩, ⟨ "Left", 22, 3, false, "", "", 72⟩, ⟨ "Out", 30, 4, false, "", "", 96⟩, ⟨ "Done", 4, 8, false, "", "", 160⟩], _, by kernel_rfl, rfl, rfl, rfl⟩
instance : FldI Try.prog 56 3 3 22 := ⟨#[⟨ "Parents", 22, 0, false, "", "", 0⟩, ⟨ "Deques", 26, 1, false, "", "", 24⟩, ⟨ "Sums", 22, 2, false, "", "", 48⟩, ⟨ "Left", 22, 3, false, "", "", 72⟩, ⟨ "Out", 30, 4, false, "", "", 96⟩, ⟨ "Done", 4, 8, false, "", "", 160⟩], _, by kernel_rfl, rfl, rfl, rfl⟩
instance : FldI Try.prog 56 4 4 30 := ⟨#[⟨ "Parents", 22, 0, false, "", "", 0⟩, ⟨ "Deques", 26, 1, false, "", "", 24⟩, ⟨ "Sums", 22, 2, false, "", "", 48⟩, ⟨ "Left", 22, 3, false, "", "", 72⟩, ⟨ "Out", 30, 4, false, "", "", 96⟩, ⟨ "Done", 4, 8, false, "", "", 160⟩], _, by kernel_rfl, rfl, rfl, rfl⟩
instance : FldI Try.prog 56 5 8 4 := ⟨#[⟨ "Parents", 22, 0, false, "", "", 0⟩, ⟨ "Deques", 26, 1, false, "", "", 24⟩, ⟨ "Sums", 22, 2, false, "", "", 48⟩, ⟨ "Left", 22, 3, false, "", "", 72⟩, ⟨ "Out", 30, 4, false, "", "", 96⟩, ⟨ "Done", 4, 8, false, "", "", 160⟩], _, by kernel_rfl, rfl, rfl, rfl⟩
instance : TyF Try.prog 56 [(0, 1), (1, 1), (2, 1), (3, 1), (4, 4), (8, 1)] := ⟨#[⟨ "Parents", 22, 0, false, "", "", 0⟩, ⟨ "Deques", 26, 1, false, "", "", 24⟩, ⟨ "Sums", 22, 2, false, "", "", 48⟩, ⟨ "Left", 22, 3, false, "", "", 72⟩, ⟨ "Out", 30, 4, false, "", "", 96⟩, ⟨ "Done", 4, 8, false, "", "", 160⟩], by kernel_rfl, by kernel_rfl⟩
instance : FldI Try.prog 57 0 0 22 := ⟨#[⟨ "Parents", 22, 0, false, "", "", 0⟩, ⟨ "Deques", 26, 1, false, "", "", 24⟩, ⟨ "Sums", 22, 2, false, "", "", 48⟩, ⟨ "Left", 22, 3, false, "", "", 72⟩, ⟨ "Out", 30, 4, false, "", "", 96⟩, ⟨ "Done", 4, 8, false, "", "", 160⟩], _, by kernel_rfl, rfl, rfl, rfl⟩
instance : FldI Try.prog 57 1 1 26 := ⟨#[⟨ "Parents", 22, 0, false, "", "", 0⟩, ⟨ "Deques", 26, 1, false, "", "", 24⟩, ⟨ "Sums", 22, 2, false, "", "", 48⟩, ⟨ "Left", 22, 3, false, "", "", 72⟩, ⟨ "Out", 30, 4, false, "", "", 96⟩, ⟨ "Done", 4, 8, false, "", "", 160⟩], _, by kernel_rfl, rfl, rfl, rfl⟩
instance : FldI Try.prog 57 2 2 22 := ⟨#[⟨ "Parents", 22, 0, false, "", "", 0⟩, ⟨ "Deques", 26, 1, false, "", "", 24⟩, ⟨ "Sums", 22, 2, false, "", "", 48⟩, ⟨ "Left", 22, 3, false, "", "", 72⟩, ⟨ "Out", 30, 4, false, "", "", 96⟩, ⟨ "Done", 4, 8, false, "", "", 160⟩], _, by kernel_rfl, rfl, rfl, rfl⟩
instance : FldI Try.prog 57 3 3 22 := ⟨#[⟨ "Parents", 22, 0, false, "", "", 0⟩, ⟨ "Deques", 26, 1, false, "", "", 24⟩, ⟨ "Sums", 22, 2, false, "", "", 48⟩, ⟨ "Left", 22, 3, false, "", "", 72⟩, ⟨ "Out", 30, 4, false, "", "", 96⟩, ⟨ "Done", 4, 8, false, "", "", 160⟩], _, by kernel_rfl, rfl, rfl, rfl⟩
instance : FldI Try.prog 57 4 4 30 := ⟨#[⟨ "Parents", 22, 0, false, "", "", 0⟩, ⟨ "Deques", 26, 1, false, "", "", 24⟩, ⟨ "Sums", 22, 2, false, "", "", 48⟩, ⟨ "Left", 22, 3, false, "", "", 72⟩, ⟨ "Out", 30, 4, false, "", "", 96⟩, ⟨ "Done", 4, 8, false, "", "", 160⟩], _, by kernel_rfl, rfl, rfl, rfl⟩
instance : FldI Try.prog 57 5 8 4 := ⟨#[⟨ "Parents", 22, 0, false, "", "", 0⟩, ⟨ "Deques", 26, 1, false, "", "", 24⟩, ⟨ "Sums", 22, 2, false, "", "", 48⟩, ⟨ "Left", 22, 3, false, "", "", 72⟩, ⟨ "Out", 30, 4, false, "", "", 96⟩, ⟨ "Done", 4, 8, false, "", "", 160⟩], _, by kernel_rfl, rfl, rfl, rfl⟩
instance : TyF Try.prog 57 [(0, 1), (1, 1), (2, 1), (3, 1), (4, 4), (8, 1)] := ⟨#[⟨ "Parents", 22, 0, false, "", "", 0⟩, ⟨ "Deques", 26, 1, false, "", "", 24⟩, ⟨ "Sums", 22, 2, false, "", "", 48⟩, ⟨ "Left", 22, 3, false, "", "", 72⟩, ⟨ "Out", 30, 4, false, "", "", 96⟩, ⟨ "Done", 4, 8, false, "", "", 160⟩], by kernel_rfl, by kernel_rfl⟩
instance : FldI Try.prog 74 0 0 17 := ⟨#[⟨ "_interface", 17, 0, false, "", "runtime", 0⟩, ⟨ "concrete", 17, 1, false, "", "runtime", 8⟩, ⟨ "asserted", 17, 2, false, "", "runtime", 16⟩, ⟨ "missingMethod", 9, 3, false, "", "runtime", 24⟩], _, by kernel_rfl, rfl, rfl, rfl⟩
instance : FldI Try.prog 74 1 1 17 := ⟨#[⟨ "_interface", 17, 0, false, "", "runtime", 0⟩, ⟨ "concrete", 17, 1, false, "", "runtime", 8⟩, ⟨ "asserted", 17, 2, false, "", "runtime", 16⟩, ⟨ "missingMethod", 9, 3, false, "", "runtime", 24⟩], _, by kernel_rfl, rfl, rfl, rfl⟩
instance : FldI Try.prog 74 2 2 17 := ⟨#[⟨ "_interface", 17, 0, false, "", "runtime", 0⟩, ⟨ "concrete", 17, 1, false, "", "runtime", 8⟩, ⟨ "asserted", 17, 2, false, "", "runtime", 16⟩, ⟨ "missingMethod", 9, 3, false, "", "runtime", 24⟩], _, by kernel_rfl, rfl, rfl, rfl⟩
instance : FldI Try.prog 74 3 3 9 := ⟨#[⟨ "_interface", 17, 0, false, "", "runtime", 0⟩, ⟨ "concrete", 17, 1, false, "", "runtime", 8⟩, ⟨ "asserted", 17, 2, false, "", "runtime", 16⟩, ⟨ "missingMethod", 9, 3, false, "", "runtime", 24⟩], _, by kernel_rfl, rfl, rfl, rfl⟩
instance : TyF Try.prog 74 [(0, 1), (1, 1), (2, 1), (3, 1)] := ⟨#[⟨ "_interface", 17, 0, false, "", "runtime", 0⟩, ⟨ "concrete", 17, 1, false, "", "runtime", 8⟩, ⟨ "asserted", 17, 2, false, "", "runtime", 16⟩, ⟨ "missingMethod", 9, 3, false, "", "runtime", 24⟩], by kernel_rfl, by kernel_rfl⟩
instance : FldI Try.prog 75 0 0 17 := ⟨#[⟨ "_interface", 17, 0, false, "", "runtime", 0⟩, ⟨ "concrete", 17, 1, false, "", "runtime", 8⟩, ⟨ "asserted", 17, 2, false, "", "runtime", 16⟩, ⟨ "missingMethod", 9, 3, false, "", "runtime", 24⟩], _, by kernel_rfl, rfl, rfl, rfl⟩
instance : FldI Try.prog 75 1 1 17 := ⟨#[⟨ "_interface", 17, 0, false, "", "runtime", 0⟩, ⟨ "concrete", 17, 1, false, "", "runtime", 8⟩, ⟨ "asserted", 17, 2, false, "", "runtime", 16⟩, ⟨ "missingMethod", 9, 3, false, "", "runtime", 24⟩], _, by kernel_rfl, rfl, rfl, rfl⟩
instance : FldI Try.prog 75 2 2 17 := ⟨#[⟨ "_interface", 17, 0, false, "", "runtime", 0⟩, ⟨ "concrete", 17, 1, false, "", "runtime", 8⟩, ⟨ "asserted", 17, 2, false, "", "runtime", 16⟩, ⟨ "missingMethod", 9, 3, false, "", "runtime", 24⟩], _, by kernel_rfl, rfl, rfl, rfl⟩
instance : FldI Try.prog 75 3 3 9 := ⟨#[⟨ "_interface", 17, 0, false, "", "runtime", 0⟩, ⟨ "concrete", 17, 1, false, "", "runtime", 8⟩, ⟨ "asserted", 17, 2, false, "", "runtime", 16⟩, ⟨ "missingMethod", 9, 3, false, "", "runtime", 24⟩], _, by kernel_rfl, rfl, rfl, rfl⟩
instance : TyF Try.prog 75 [(0, 1), (1, 1), (2, 1), (3, 1)] := ⟨#[⟨ "_interface", 17, 0, false, "", "runtime", 0⟩, ⟨ "concrete", 17, 1, false, "", "runtime", 8⟩, ⟨ "asserted", 17, 2, false, "", "runtime", 16⟩, ⟨ "missingMethod", 9, 3, false, "", "runtime", 24⟩], by kernel_rfl, by kernel_rfl⟩
instance : FldI Try.prog 77 0 0 76 := ⟨#[⟨ "_", 76, 0, false, "", "runtime", 0⟩], _, by kernel_rfl, rfl, rfl, rfl⟩
instance : TyF Try.prog 77 [(0, 0)] := ⟨#[⟨ "_", 76, 0, false, "", "runtime", 0⟩], by kernel_rfl, by kernel_rfl⟩
instance : FldI Try.prog 78 0 0 76 := ⟨#[⟨ "_", 76, 0, false, "", "runtime", 0⟩], _, by kernel_rfl, rfl, rfl, rfl⟩
instance : TyF Try.prog 78 [(0, 0)] := ⟨#[⟨ "_", 76, 0, false, "", "runtime", 0⟩], by kernel_rfl, by kernel_rfl⟩
instance : FldI Try.prog 86 0 0 12 := ⟨#[⟨ "Size_", 12, 0, false, "", "", 0⟩, ⟨ "PtrBytes", 12, 1, false, "", "", 8⟩, ⟨ "Hash", 65, 2, false, "", "", 16⟩, ⟨ "TFlag", 80, 3, false, "", "", 20⟩, ⟨ "Align_", 5, 4, false, "", "", 21⟩, ⟨ "FieldAlign_", 5, 5, false, "", "", 22⟩, ⟨ "Kind_", 81, 6, false, "", "", 23⟩, ⟨ "Equal", 82, 7, false, "", "", 24⟩, ⟨ "GCData", 83, 8, false, "", "", 32⟩, ⟨ "Str", 84, 9, false, "", "", 40⟩, ⟨ "PtrToThis", 85, 10, false, "", "", 44⟩], _, by kernel_rfl, rfl, rfl, rfl⟩
instance : FldI Try.prog 86 1 1 12 := ⟨#[⟨ "Size_", 12, 0, false, "", "", 0⟩, ⟨ "PtrBytes", 12, 1, false, "", "", 8⟩, ⟨ "Hash", 65, 2, false, "", "", 16⟩, ⟨ "TFlag", 80, 3, false, "", "", 20⟩, ⟨ "Align_", 5, 4, false, "", "", 21⟩, ⟨ "FieldAlign_", 5, 5, false, "", "", 22⟩, ⟨ "Kind_", 81, 6, false, "", "", 23⟩, ⟨ "Equal", 82, 7, false, "", "", 24⟩, ⟨ "GCData", 83, 8, false, "", "", 32⟩, ⟨ "Str", 84, 9, false, "", "", 40⟩, ⟨ "PtrToThis", 85, 10, false, "", "", 44⟩], _, by kernel_rfl, rfl, rfl, rfl⟩
instance : FldI Try.prog 86 2 2 65 := ⟨#[⟨ "Size_", 12, 0, false, "", "", 0⟩, ⟨ "PtrBytes", 12, 1, false, "", "", 8⟩, ⟨ "Hash", 65, 2, false, "", "", 16⟩, ⟨ "TFlag", 80, 3, false, "", "", 20⟩, ⟨ "Align_", 5, 4, false, "", "", 21⟩, ⟨ "FieldAlign_", 5, 5, false, "", "", 22⟩, ⟨ "Kind_", 81, 6, false, "", "", 23⟩, ⟨ "Equal", 82, 7, false, "", "", 24⟩, ⟨ "GCData", 83, 8, false, "", "", 32⟩, ⟨ "Str", 84, 9, false, "", "", 40⟩, ⟨ "PtrToThis", 85, 10, false, "", "", 44⟩], _, by kernel_rfl, rfl, rfl, rfl⟩
instance : FldI Try.prog 86 3 3 80 := ⟨#[⟨ "Size_", 12, 0, false, "", "", 0⟩, ⟨ "PtrBytes", 12, 1, false, "", "", 8⟩, ⟨ "Hash", 65, 2, false, "", "", 16⟩, ⟨ "TFlag", 80, 3, false, "", "", 20⟩, ⟨ "Align_", 5, 4, false, "", "", 21⟩, ⟨ "FieldAlign_", 5, 5, false, "", "", 22⟩, ⟨ "Kind_", 81, 6, false, "", "", 23⟩, ⟨ "Equal", 82, 7, false, "", "", 24⟩, ⟨ "GCData", 83, 8, false, "", "", 32⟩, ⟨ "Str", 84, 9, false, "", "", 40⟩, ⟨ "PtrToThis", 85, 10, false, "", "", 44⟩], _, by kernel_rfl, rfl, rfl, rfl⟩
instance : FldI Try.prog 86 4 4 5 := ⟨#[⟨ "Size_", 12, 0, false, "", "", 0⟩, ⟨ "PtrBytes", 12, 1, false, "", "", 8⟩, ⟨ "Hash", 65, 2, false, "", "", 16⟩, ⟨ "TFlag", 80, 3, false, "", "", 20⟩, ⟨ "Align_", 5, 4, false, "", "", 21⟩, ⟨ "FieldAlign_", 5, 5, false, "", "", 22⟩, ⟨ "Kind_", 81, 6, false, "", "", 23⟩, ⟨ "Equal", 82, 7, false, "", "", 24⟩, ⟨ "GCData", 83, 8, false, "", "", 32⟩, ⟨ "Str", 84, 9, false, "", "", 40⟩, ⟨ "PtrToThis", 85, 10, false, "", "", 44⟩], _, by kernel_rfl, rfl, rfl, rfl⟩
instance : FldI Try.prog 86 5 5 5 := ⟨#[⟨ "Size_", 12, 0, false, "", "", 0⟩, ⟨ "PtrBytes", 12, 1, false, "", "", 8⟩, ⟨ "Hash", 65, 2, false, "", "", 16⟩, ⟨ "TFlag", 80, 3, false, "", "", 20⟩, ⟨ "Align_", 5, 4, false, "", "", 21⟩, ⟨ "FieldAlign_", 5, 5, false, "", "", 22⟩, ⟨ "Kind_", 81, 6, false, "", "", 23⟩, ⟨ "Equal", 82, 7, false, "", "", 24⟩, ⟨ "GCData", 83, 8, false, "", "", 32⟩, ⟨ "Str", 84, 9, false, "", "", 40⟩, ⟨ "PtrToThis", 85, 10, false, "", "", 44⟩], _, by kernel_rfl, rfl, rfl, rfl⟩
instance : FldI Try.prog 86 6 6 81 := ⟨#[⟨ "Size_", 12, 0, false, "", "", 0⟩, ⟨ "PtrBytes", 12, 1, false, "", "", 8⟩, ⟨ "Hash", 65, 2, false, "", "", 16⟩, ⟨ "TFlag", 80, 3, false, "", "", 20⟩, ⟨ "Align_", 5, 4, false, "", "", 21⟩, ⟨ "FieldAlign_", 5, 5, false, "", "", 22⟩, ⟨ "Kind_", 81, 6, false, "", "", 23⟩, ⟨ "Equal", 82, 7, false, "", "", 24⟩, ⟨ "GCData", 83, 8, false, "", "", 32⟩, ⟨ "Str", 84, 9, false, "", "", 40⟩, ⟨ "PtrToThis", 85, 10, false, "", "", 44⟩], _, by kernel_rfl, rfl, rfl, rfl⟩
instance : FldI Try.prog 86 7 7 82 := ⟨#[⟨ "Size_", 12, 0, false, "", "", 0⟩, ⟨ "PtrBytes", 12, 1, false, "", "", 8⟩, ⟨ "Hash", 65, 2, false, "", "", 16⟩, ⟨ "TFlag", 80, 3, false, "", "", 20⟩, ⟨ "Align_", 5, 4, false, "", "", 21⟩, ⟨ "FieldAlign_", 5, 5, false, "", "", 22⟩, ⟨ "Kind_", 81, 6, false, "", "", 23⟩, ⟨ "Equal", 82, 7, false, "", "", 24⟩, ⟨ "GCData", 83, 8, false, "", "", 32⟩, ⟨ "Str", 84, 9, false, "", "", 40⟩, ⟨ "PtrToThis", 85, 10, false, "", "", 44⟩], _, by kernel_rfl, rfl, rfl, rfl⟩
instance : FldI Try.prog 86 8 8 83 := ⟨#[⟨ "Size_", 12, 0, false, "", "", 0⟩, ⟨ "PtrBytes", 12, 1, false, "", "", 8⟩, ⟨ "Hash", 65, 2, false, "", "", 16⟩, ⟨ "TFlag", 80, 3, false, "", "", 20⟩, ⟨ "Align_", 5, 4, false, "", "", 21⟩, ⟨ "FieldAlign_", 5, 5, false, "", "", 22⟩, ⟨ "Kind_", 81, 6, false, "", "", 23⟩, ⟨ "Equal", 82, 7, false, "", "", 24⟩, ⟨ "GCData", 83, 8, false, "", "", 32⟩, ⟨ "Str", 84, 9, false, "", "", 40⟩, ⟨ "PtrToThis", 85, 10, false, "", "", 44⟩], _, by kernel_rfl, rfl, rfl, rfl⟩
instance : FldI Try.prog 86 9 9 84 := ⟨#[⟨ "Size_", 12, 0, false, "", "", 0⟩, ⟨ "PtrBytes", 12, 1, false, "", "", 8⟩, ⟨ "Hash", 65, 2, false, "", "", 16⟩, ⟨ "TFlag", 80, 3, false, "", "", 20⟩, ⟨ "Align_", 5, 4, false, "", "", 21⟩, ⟨ "FieldAlign_", 5, 5, false, "", "", 22⟩, ⟨ "Kind_", 81, 6, false, "", "", 23⟩, ⟨ "Equal", 82, 7, false, "", "", 24⟩, ⟨ "GCData", 83, 8, false, "", "", 32⟩, ⟨ "Str", 84, 9, false, "", "", 40⟩, ⟨ "PtrToThis", 85, 10, false, "", "", 44⟩], _, by kernel_rfl, rfl, rfl, rfl⟩
instance : FldI Try.prog 86 10 10 85 := ⟨#[⟨ "Size_", 12, 0, false, "", "", 0⟩, ⟨ "PtrBytes", 12, 1, false, "", "", 8⟩, ⟨ "Hash", 65, 2, false, "", "", 16⟩, ⟨ "TFlag", 80, 3, false, "", "", 20⟩, ⟨ "Align_", 5, 4, false, "", "", 21⟩, ⟨ "FieldAlign_", 5, 5, false, "", "", 22⟩, ⟨ "Kind_", 81, 6, false, "", "", 23⟩, ⟨ "Equal", 82, 7, false, "", "", 24⟩, ⟨ "GCData", 83, 8, false, "", "", 32⟩, ⟨ "Str", 84, 9, false, "", "", 40⟩, ⟨ "PtrToThis", 85, 10, false, "", "", 44⟩], _, by kernel_rfl, rfl, rfl, rfl⟩
instance : TyF Try.prog 86 [(0, 1), (1, 1), (2, 1), (3, 1), (4, 1), (5, 1), (6, 1), (7, 1), (8, 1), (9, 1), (10, 1)] := ⟨#[⟨ "Size_", 12, 0, false, "", "", 0⟩, ⟨ "PtrBytes", 12, 1, false, "", "", 8⟩, ⟨ "Hash", 65, 2, false, "", "", 16⟩, ⟨ "TFlag", 80, 3, false, "", "", 20⟩, ⟨ "Align_", 5, 4, false, "", "", 21⟩, ⟨ "FieldAlign_", 5, 5, false, "", "", 22⟩, ⟨ "Kind_", 81, 6, false, "", "", 23⟩, ⟨ "Equal", 82, 7, false, "", "", 24⟩, ⟨ "GCData", 83, 8, false, "", "", 32⟩, ⟨ "Str", 84, 9, false, "", "", 40⟩, ⟨ "PtrToThis", 85, 10, false, "", "", 44⟩], by kernel_rfl, by kernel_rfl⟩
instance : FldI Try.prog 87 0 0 12 := ⟨#[⟨ "Size_", 12, 0, false, "", "", 0⟩, ⟨ "PtrBytes", 12, 1, false, "", "", 8⟩, ⟨ "Hash", 65, 2, false, "", "", 16⟩, ⟨ "TFlag", 80, 3, false, "", "", 20⟩, ⟨ "Align_", 5, 4, false, "", "", 21⟩, ⟨ "FieldAlign_", 5, 5, false, "", "", 22⟩, ⟨ "Kind_", 81, 6, false, "", "", 23⟩, ⟨ "Equal", 82, 7, false, "", "", 24⟩, ⟨ "GCData", 83, 8, false, "", "", 32⟩, ⟨ "Str", 84, 9, false, "", "", 40⟩, ⟨ "PtrToThis", 85, 10, false, "", "", 44⟩], _, by kernel_rfl, rfl, rfl, rfl⟩
instance : FldI Try.prog 87 1 1 12 := ⟨#[⟨ "Size_", 12, 0, false, "", "", 0⟩, ⟨ "PtrBytes", 12, 1, false, "", "", 8⟩, ⟨ "Hash", 65, 2, false, "", "", 16⟩, ⟨ "TFlag", 80, 3, false, "", "", 20⟩, ⟨ "Align_", 5, 4, false, "", "", 21⟩, ⟨ "FieldAlign_", 5, 5, false, "", "", 22⟩, ⟨ "Kind_", 81, 6, false, "", "", 23⟩, ⟨ "Equal", 82, 7, false, "", "", 24⟩, ⟨ "GCData", 83, 8, false, "", "", 32⟩, ⟨ "Str", 84, 9, false, "", "", 40⟩, ⟨ "PtrToThis", 85, 10, false, "", "", 44⟩], _, by kernel_rfl, rfl, rfl, rfl⟩
instance : FldI Try.prog 87 2 2 65 := ⟨#[⟨ "Size_", 12, 0, false, "", "", 0⟩, ⟨ "PtrBytes", 12, 1, false, "", "", 8⟩, ⟨ "Hash", 65, 2, false, "", "", 16⟩, ⟨ "TFlag", 80, 3, false, "", "", 20⟩, ⟨ "Align_", 5, 4, false, "", "", 21⟩, ⟨ "FieldAlign_", 5, 5, false, "", "", 22⟩, ⟨ "Kind_", 81, 6, false, "", "", 23⟩, ⟨ "Equal", 82, 7, false, "", "", 24⟩, ⟨ "GCData", 83, 8, false, "", "", 32⟩, ⟨ "Str", 84, 9, false, "", "", 40⟩, ⟨ "PtrToThis", 85, 10, false, "", "", 44⟩], _, by kernel_rfl, rfl, rfl, rfl⟩
instance : FldI Try.prog 87 3 3 80 := ⟨#[⟨ "Size_", 12, 0, false, "", "", 0⟩, ⟨ "PtrBytes", 12, 1, false, "", "", 8⟩, ⟨ "Hash", 65, 2, false, "", "", 16⟩, ⟨ "TFlag", 80, 3, false, "", "", 20⟩, ⟨ "Align_", 5, 4, false, "", "", 21⟩, ⟨ "FieldAlign_", 5, 5, false, "", "", 22⟩, ⟨ "Kind_", 81, 6, false, "", "", 23⟩, ⟨ "Equal", 82, 7, false, "", "", 24⟩, ⟨ "GCData", 83, 8, false, "", "", 32⟩, ⟨ "Str", 84, 9, false, "", "", 40⟩, ⟨ "PtrToThis", 85, 10, false, "", "", 44⟩], _, by kernel_rfl, rfl, rfl, rfl⟩
instance : FldI Try.prog 87 4 4 5 := ⟨#[⟨ "Size_", 12, 0, false, "", "", 0⟩, ⟨ "PtrBytes", 12, 1, false, "", "", 8⟩, ⟨ "Hash", 65, 2, false, "", "", 16⟩, ⟨ "TFlag", 80, 3, false, "", "", 20⟩, ⟨ "Align_", 5, 4, false, "", "", 21⟩, ⟨ "FieldAlign_", 5, 5, false, "", "", 22⟩, ⟨ "Kind_", 81, 6, false, "", "", 23⟩, ⟨ "Equal", 82, 7, false, "", "", 24⟩, ⟨ "GCData", 83, 8, false, "", "", 32⟩, ⟨ "Str", 84, 9, false, "", "", 40⟩, ⟨ "PtrToThis", 85, 10, false, "", "", 44⟩], _, by kernel_rfl, rfl, rfl, rfl⟩
instance : FldI Try.prog 87 5 5 5 := ⟨#[⟨ "Size_", 12, 0, false, "", "", 0⟩, ⟨ "PtrBytes", 12, 1, false, "", "", 8⟩, ⟨ "Hash", 65, 2, false, "", "", 16⟩, ⟨ "TFlag", 80, 3, false, "", "", 20⟩, ⟨ "Align_", 5, 4, false, "", "", 21⟩, ⟨ "FieldAlign_", 5, 5, false, "", "", 22⟩, ⟨ "Kind_", 81, 6, false, "", "", 23⟩, ⟨ "Equal", 82, 7, false, "", "", 24⟩, ⟨ "GCData", 83, 8, false, "", "", 32⟩, ⟨ "Str", 84, 9, false, "", "", 40⟩, ⟨ "PtrToThis", 85, 10, false, "", "", 44⟩], _, by kernel_rfl, rfl, rfl, rfl⟩
instance : FldI Try.prog 87 6 6 81 := ⟨#[⟨ "Size_", 12, 0, false, "", "", 0⟩, ⟨ "PtrBytes", 12, 1, false, "", "", 8⟩, ⟨ "Hash", 65, 2, false, "", "", 16⟩, ⟨ "TFlag", 80, 3, false, "", "", 20⟩, ⟨ "Align_", 5, 4, false, "", "", 21⟩, ⟨ "FieldAlign_", 5, 5, false, "", "", 22⟩, ⟨ "Kind_", 81, 6, false, "", "", 23⟩, ⟨ "Equal", 82, 7, false, "", "", 24⟩, ⟨ "GCData", 83, 8, false, "", "", 32⟩, ⟨ "Str", 84, 9, false, "", "", 40⟩, ⟨ "PtrToThis", 85, 10, false, "", "", 44⟩], _, by kernel_rfl, rfl, rfl, rfl⟩
instance : FldI Try.prog 87 7 7 82 := ⟨#[⟨ "Size_", 12, 0, false, "", "", 0⟩, ⟨ "PtrBytes", 12, 1, false, "", "", 8⟩, ⟨ "Hash", 65, 2, false, "", "", 16⟩, ⟨ "TFlag", 80, 3, false, "", "", 20⟩, ⟨ "Align_", 5, 4, false, "", "", 21⟩, ⟨ "FieldAlign_", 5, 5, false, "", "", 22⟩, ⟨ "Kind_", 81, 6, false, "", "", 23⟩, ⟨ "Equal", 82, 7, false, "", "", 24⟩, ⟨ "GCData", 83, 8, false, "", "", 32⟩, ⟨ "Str", 84, 9, false, "", "", 40⟩, ⟨ "PtrToThis", 85, 10, false, "", "", 44⟩], _, by kernel_rfl, rfl, rfl, rfl⟩
instance : FldI Try.prog 87 8 8 83 := ⟨#[⟨ "Size_", 12, 0, false, "", "", 0⟩, ⟨ "PtrBytes", 12, 1, false, "", "", 8⟩, ⟨ "Hash", 65, 2, false, "", "", 16⟩, ⟨ "TFlag", 80, 3, false, "", "", 20⟩, ⟨ "Align_", 5, 4, false, "", "", 21⟩, ⟨ "FieldAlign_", 5, 5, false, "", "", 22⟩, ⟨ "Kind_", 81, 6, false, "", "", 23⟩, ⟨ "Equal", 82, 7, false, "", "", 24⟩, ⟨ "GCData", 83, 8, false, "", "", 32⟩, ⟨ "Str", 84, 9, false, "", "", 40⟩, ⟨ "PtrToThis", 85, 10, false, "", "", 44⟩], _, by kernel_rfl, rfl, rfl, rfl⟩
instance : FldI Try.prog 87 9 9 84 := ⟨#[⟨ "Size_", 12, 0, false, "", "", 0⟩, ⟨ "PtrBytes", 12, 1, false, "", "", 8⟩, ⟨ "Hash", 65, 2, false, "", "", 16⟩, ⟨ "TFlag", 80, 3, false, "", "", 20⟩, ⟨ "Align_", 5, 4, false, "", "", 21⟩, ⟨ "FieldAlign_", 5, 5, false, "", "", 22⟩, ⟨ "Kind_", 81, 6, false, "", "", 23⟩, ⟨ "Equal", 82, 7, false, "", "", 24⟩, ⟨ "GCData", 83, 8, false, "", "", 32⟩, ⟨ "Str", 84, 9, false, "", "", 40⟩, ⟨ "PtrToThis", 85, 10, false, "", "", 44⟩], _, by kernel_rfl, rfl, rfl, rfl⟩
instance : FldI Try.prog 87 10 10 85 := ⟨#[⟨ "Size_", 12, 0, false, "", "", 0⟩, ⟨ "PtrBytes", 12, 1, false, "", "", 8⟩, ⟨ "Hash", 65, 2, false, "", "", 16⟩, ⟨ "TFlag", 80, 3, false, "", "", 20⟩, ⟨ "Align_", 5, 4, false, "", "", 21⟩, ⟨ "FieldAlign_", 5, 5, false, "", "", 22⟩, ⟨ "Kind_", 81, 6, false, "", "", 23⟩, ⟨ "Equal", 82, 7, false, "", "", 24⟩, ⟨ "GCData", 83, 8, false, "", "", 32⟩, ⟨ "Str", 84, 9, false, "", "", 40⟩, ⟨ "PtrToThis", 85, 10, false, "", "", 44⟩], _, by kernel_rfl, rfl, rfl, rfl⟩
instance : TyF Try.prog 87 [(0, 1), (1, 1), (2, 1), (3, 1), (4, 1), (5, 1), (6, 1), (7, 1), (8, 1), (9, 1), (10, 1)] := ⟨#[⟨ "Size_", 12, 0, false, "", "", 0⟩, ⟨ "PtrBytes", 12, 1, false, "", "", 8⟩, ⟨ "Hash", 65, 2, false, "", "", 16⟩, ⟨ "TFlag", 80, 3, false, "", "", 20⟩, ⟨ "Align_", 5, 4, false, "", "", 21⟩, ⟨ "FieldAlign_", 5, 5, false, "", "", 22⟩, ⟨ "Kind_", 81, 6, false, "", "", 23⟩, ⟨ "Equal", 82, 7, false, "", "", 24⟩, ⟨ "GCData", 83, 8, false, "", "", 32⟩, ⟨ "Str", 84, 9, false, "", "", 40⟩, ⟨ "PtrToThis", 85, 10, false, "", "", 44⟩], by kernel_rfl, by kernel_rfl⟩
instance : FnI Try.prog 3 := ⟨Try.f3, Try.func3, by kernel_rfl, by kernel_rfl⟩ -- gosper/gosperlaw19.ForkTells
instance : FnI Try.prog 4 := ⟨Try.f4, Try.func4, by kernel_rfl, by kernel_rfl⟩ -- gosper/gosperlaw19.ForkSums
instance : FnI Try.prog 5 := ⟨Try.f5, Try.func5, by kernel_rfl, by kernel_rfl⟩ -- gosper/gosperlaw19.ForkEnds
instance : FnI Try.prog 6 := ⟨Try.f6, Try.func6, by kernel_rfl, by kernel_rfl⟩ -- gosper/gosperlaw19.ForkAlone
instance : FnI Try.prog 7 := ⟨Try.f7, Try.func7, by kernel_rfl, by kernel_rfl⟩ -- gosper/gosperlaw19.ForkWide
instance : FnI Try.prog 8 := ⟨Try.f8, Try.func8, by kernel_rfl, by kernel_rfl⟩ -- gosper/gosperlaw19.ForkValues
instance : FnI Try.prog 9 := ⟨Try.f9, Try.func9, by kernel_rfl, by kernel_rfl⟩ -- gosper/gosperlaw19.awake
instance : FnI Try.prog 10 := ⟨Try.f10, Try.func10, by kernel_rfl, by kernel_rfl⟩ -- gosper/gosperlaw19.Tree
instance : FnI Try.prog 11 := ⟨Try.f11, Try.func11, by kernel_rfl, by kernel_rfl⟩ -- gosper/gosperlaw19.pick
instance : FnI Try.prog 12 := ⟨Try.f12, Try.func12, by kernel_rfl, by kernel_rfl⟩ -- gosper/fork.Right
instance : FnI Try.prog 13 := ⟨Try.f13, Try.func13, by kernel_rfl, by kernel_rfl⟩ -- gosper/gosperref19.Right
instance : FnI Try.prog 14 := ⟨Try.f14, Try.func14, by kernel_rfl, by kernel_rfl⟩ -- gosper/gosperlaw19.Values
instance : FnI Try.prog 15 := ⟨Try.f15, Try.func15, by kernel_rfl, by kernel_rfl⟩ -- gosper/fork.Run
instance : FnI Try.prog 16 := ⟨Try.f16, Try.func16, by kernel_rfl, by kernel_rfl⟩ -- gosper/gosperref19.Run
instance : FnI Try.prog 17 := ⟨Try.f17, Try.func17, by kernel_rfl, by kernel_rfl⟩ -- gosper/gosperref19.Same
instance : FnI Try.prog 18 := ⟨Try.f18, Try.func18, by kernel_rfl, by kernel_rfl⟩ -- gosper/gosperref03.Ints
instance : FnI Try.prog 19 := ⟨Try.f19, Try.func19, by kernel_rfl, by kernel_rfl⟩ -- gosper/fork.Run$1
instance : FnI Try.prog 20 := ⟨Try.f20, Try.func20, by kernel_rfl, by kernel_rfl⟩ -- slices.ContainsFunc[[]int,int]
instance : FnI Try.prog 21 := ⟨Try.f21, Try.func21, by kernel_rfl, by kernel_rfl⟩ -- gosper/fork.of
instance : FnI Try.prog 22 := ⟨Try.f22, Try.func22, by kernel_rfl, by kernel_rfl⟩ -- slices.Repeat[[]int,int]
instance : FnI Try.prog 23 := ⟨Try.f23, Try.func23, by kernel_rfl, by kernel_rfl⟩ -- gosper/pick.Next
instance : FnI Try.prog 24 := ⟨Try.f24, Try.func24, by kernel_rfl, by kernel_rfl⟩ -- (*gosper/fork.crew).step
instance : FnI Try.prog 25 := ⟨Try.f25, Try.func25, by kernel_rfl, by kernel_rfl⟩ -- gosper/gosperref11.Next
instance : FnI Try.prog 26 := ⟨Try.f26, Try.func26, by kernel_rfl, by kernel_rfl⟩ -- (*gosper/gosperref19.state).take
instance : FnI Try.prog 27 := ⟨Try.f27, Try.func27, by kernel_rfl, by kernel_rfl⟩ -- (*gosper/gosperref19.state).run
instance : FnI Try.prog 28 := ⟨Try.f28, Try.func28, by kernel_rfl, by kernel_rfl⟩ -- slices.IndexFunc[[]int,int]
instance : FnI Try.prog 29 := ⟨Try.f29, Try.func29, by kernel_rfl, by kernel_rfl⟩ -- math/bits.Mul
instance : FnI Try.prog 30 := ⟨Try.f30, Try.func30, by kernel_rfl, by kernel_rfl⟩ -- gosper/pick.place
instance : FnI Try.prog 31 := ⟨Try.f31, Try.func31, by kernel_rfl, by kernel_rfl⟩ -- gosper/pick.Next$1
instance : FnI Try.prog 32 := ⟨Try.f32, Try.func32, by kernel_rfl, by kernel_rfl⟩ -- (*gosper/fork.crew).take
instance : FnI Try.prog 33 := ⟨Try.f33, Try.func33, by kernel_rfl, by kernel_rfl⟩ -- slices.Clip[[]int,int]
instance : FnI Try.prog 34 := ⟨Try.f34, Try.func34, by kernel_rfl, by kernel_rfl⟩ -- (*gosper/fork.frames).join
instance : FnI Try.prog 35 := ⟨Try.f35, Try.func35, by kernel_rfl, by kernel_rfl⟩ -- gosper/gosperref11.many
instance : FnI Try.prog 36 := ⟨Try.f36, Try.func36, by kernel_rfl, by kernel_rfl⟩ -- (*gosper/gosperref19.state).done
instance : FnI Try.prog 37 := ⟨Try.f37, Try.func37, by kernel_rfl, by kernel_rfl⟩ -- math/bits.Mul32
instance : FnI Try.prog 38 := ⟨Try.f38, Try.func38, by kernel_rfl, by kernel_rfl⟩ -- math/bits.Mul64
theorem mixed : Try.prog.follows .mixedOrders = true := by kernel_rfl
end Go.GL

set_option linter.unusedVariables false
namespace Go.GL
open Go.Proofs
attribute [local irreducible] wpList Code.wp Exit.then Exit.inBlock Ends Tri TriH OpV OpG FnC epf wpAnyH
variable {A : List Asrt} {I : List Chunk}
set_option maxRecDepth 100000 in
theorem ref03_ints {l m : List Int} {a b : Option Addr} {cap cap2 : Nat} (hs : SlAt I a l) (ht : SlAt I b m) (hn : l.length ≤ 1000000000) :
  FnC Try.prog 18 [.slice a l.length cap, .slice b m.length cap2].toArray A I (fun v A' I' => v = .bool (decide (l = m)) ∧ A = A' ∧ I = I') := by
 refine fn_enter2 Try.func18 rfl Try.ntmps18 rfl fun w0 => ?_
 refine tS (tR (tA rfl rfl (tN (tT (tS (tS (tR ?_)))))))
 refine tM rfl rfl ?_
 refine tri_v (opv_len rfl) rfl ?_
 refine tM rfl rfl ?_
 refine tri_v (opv_len rfl) rfl ?_
 refine tri_v (by first | exact opv_neq rfl rfl | exact opv_neqI rfl rfl rfl rfl rfl rfl | exact opv_neqB rfl rfl) rfl ?_
 refine tN (tT ?_)
 refine tri_cond_dec rfl (fun h1 => ?_) (fun h1 => ?_)
 ·refine tS (tR (tA rfl rfl (tN (tT (tri_ret (tri_then_ret ?_))))))
  refine tri_end A Suf.h rfl (.cons (rv_tmp rfl) .nil) ⟨congrArg Value.bool ?_, rfl, rfl⟩
  exact (decide_eq_false fun h => h1 (by rw [h])).symm
 refine tri_skip (tT (tS (tS (tR (tA rfl rfl (tN (tT ?_)))))))
 refine tri_block ?_
 have hlen : l.length = m.length := by omega
 refine tri_sub (F' := [(0, .slice a l.length cap), (1, .slice b m.length cap2), (5, .int .i64 (0 : Nat))]) ⟨rfl, rfl, rfl, trivial⟩ ?_
 refine loop_ind (G := Nat) (fun i => l.length - i) (fun i => i ≤ l.length ∧ ∀ j, j < i → l.getD j default = m.getD j default) (fun i => [(0, .slice a l.length cap), (1, .slice b m.length cap2), (5, .int .i64 (i : Nat))]) (fun _ => _) (fun _ => _) ?_ 0 ⟨by omega, fun j h => absurd h (by omega)⟩
 rintro i ⟨hi, hok⟩ K hK
 skip
 refine tS (tS (tR (tM rfl rfl (tM rfl rfl ?_))))
 refine tri_v (opv_len rfl) rfl ?_
 refine tri_v (opv_lss rfl rfl) rfl ?_
 refine tN (tT ?_)
 refine tri_cond_dec rfl (fun h => ?_) (fun h => ?_)
 ·refine tri_skip (tT (tS (tri_block (tS ?_))))
  refine tri_draw [0, 1, 2, 3, 4, 5, 6, 7, 8] rfl [] rfl mixed ?_
  refine th_take rfl rfl (by kernel_rfl)  (opv_move rfl) ?_
  refine th_take rfl rfl (by kernel_rfl)  (opv_move rfl) ?_
  refine th_take rfl rfl (by kernel_rfl)  (by first | exact opv_indexAddrA rfl rfl (by first | decide | omega) (by first | decide | omega) | exact opv_indexAddrSN rfl rfl (by omega) (by assumption) (by first | rfl | omega) | exact opv_indexAddrS rfl rfl (by omega) (by omega) (by assumption) (by first | rfl | omega) | exact opv_indexAddrE rfl (by assumption) (by omega) rfl (by first | decide | omega) (by first | decide | omega) | exact opv_indexAddrRN rfl rfl (by omega) | exact opv_indexAddrR rfl rfl (by omega) (by omega) | exact opv_indexAddrRA rfl (by omega) rfl (by first | decide | omega) (by first | decide | omega) | exact opv_indexAddrSP rfl rfl (by omega) (by omega)) ?_
  refine th_take rfl rfl (by kernel_rfl)  (by first | exact opv_load1 rfl rfl rfl | exact opv_loadA rfl rfl rfl | exact opv_loadE1 rfl (by assumption) rfl (by omega) rfl rfl | exact opv_loadEA rfl (by assumption) rfl (by omega) rfl rfl | exact opv_loadRX1 rfl rfl (by omega) rfl rfl | exact opv_loadRXA rfl rfl (by omega) rfl rfl rfl | exact opv_loadIX rfl rfl (by omega) | exact opv_loadR1 rfl rfl rfl | exact opv_loadRA rfl rfl rfl rfl) ?_
  refine th_take rfl rfl (by kernel_rfl)  (opv_move rfl) ?_
  refine th_take rfl rfl (by kernel_rfl)  (opv_move rfl) ?_
  refine th_take rfl rfl (by kernel_rfl)  (by first | exact opv_indexAddrA rfl rfl (by first | decide | omega) (by first | decide | omega) | exact opv_indexAddrSN rfl rfl (by omega) (by assumption) (by first | rfl | omega) | exact opv_indexAddrS rfl rfl (by omega) (by omega) (by assumption) (by first | rfl | omega) | exact opv_indexAddrE rfl (by assumption) (by omega) rfl (by first | decide | omega) (by first | decide | omega) | exact opv_indexAddrRN rfl rfl (by omega) | exact opv_indexAddrR rfl rfl (by omega) (by omega) | exact opv_indexAddrRA rfl (by omega) rfl (by first | decide | omega) (by first | decide | omega) | exact opv_indexAddrSP rfl rfl (by omega) (by omega)) ?_
  refine th_take rfl rfl (by kernel_rfl)  (by first | exact opv_load1 rfl rfl rfl | exact opv_loadA rfl rfl rfl | exact opv_loadE1 rfl (by assumption) rfl (by omega) rfl rfl | exact opv_loadEA rfl (by assumption) rfl (by omega) rfl rfl | exact opv_loadRX1 rfl rfl (by omega) rfl rfl | exact opv_loadRXA rfl rfl (by omega) rfl rfl rfl | exact opv_loadIX rfl rfl (by omega) | exact opv_loadR1 rfl rfl rfl | exact opv_loadRA rfl rfl rfl rfl) ?_
  refine th_take rfl rfl (by kernel_rfl)  (by first | exact opv_neq rfl rfl | exact opv_neqI rfl rfl rfl rfl rfl rfl | exact opv_neqB rfl rfl) ?_
  refine th_done (by kernel_rfl) ?_
  refine tT ?_
  refine tri_cond_dec rfl (fun h1 => ?_) (fun h1 => ?_)
  ·refine tS (tR (tA rfl rfl (tN (tT (tri_ret ?_)))))
   refine tri_inBlock_ret ?_
   refine tri_then_ret (tri_then_ret ?_)
   refine tri_inBlock_ret ?_
   refine tri_then_ret ?_
   refine tri_end A Suf.h rfl (.cons (rv_tmp rfl) .nil) ⟨congrArg Value.bool ?_, rfl, rfl⟩
   exact (decide_eq_false fun h => h1 (by rw [h])).symm
  ·refine tri_skip ?_
   refine tri_inBlock ?_
   refine tT (tR (tM rfl rfl ?_))
   refine tri_v (by first | exact opv_add rfl rfl (w64 (by omega) (by omega))) rfl ?_
   refine tA rfl rfl (tN (tT ?_))
   refine tri_sub ?_ (hK (i + 1) ⟨by omega, fun j hj => ?_⟩ (by omega))
   ·exact ⟨rfl, rfl, rfl, trivial⟩
   ·by_cases e : j = i
    ·subst e
     exact Decidable.not_not.1 h1
    ·exact hok j (by omega)
 ·refine tri_exit ?_
  refine tri_then_exit ?_
  refine tri_then_exit ?_
  refine tri_inBlock_hit rfl ?_
  refine tT (tS (tR (tA rfl rfl (tN (tT (tri_ret ?_))))))
  refine tri_end A Suf.h rfl (.cons (rv_tmp rfl) .nil) ⟨congrArg Value.bool ?_, rfl, rfl⟩
  refine (decide_eq_true (List.ext_getElem hlen fun j h1 h2 => ?_)).symm
  have := hok j (by omega)
  simpa [h1, h2] using this
end Go.GL

set_option linter.unusedVariables false
namespace Go.GL
open Go.Proofs
attribute [local irreducible] wpList Code.wp Exit.then Exit.inBlock Ends Tri TriH OpV OpG FnC epf wpAnyH
variable {A : List Asrt} {I : List Chunk}
set_option maxRecDepth 100000 in
theorem fork_right {l : List Int} {a : Option Addr} {cap : Nat} (hs : SlAt I a l) (hn : l.length ≤ 1000000000) :
  FnC Try.prog 12 [.slice a l.length cap].toArray A I (fun v A' I' => v = .bool (decide (R19.right l)) ∧ A = A' ∧ I = I') := by
 refine fn_enter1 Try.func12 rfl Try.ntmps12 rfl fun w0 => ?_
 refine tS (tR (tA rfl rfl (tN (tT (tS (tS (tR ?_)))))))
 refine tM rfl rfl ?_
 refine tri_v (opv_len rfl) rfl ?_
 refine tM rfl rfl (tN (tT (tri_block ?_)))
 refine tri_sub (F' := [(0, .slice a l.length cap), (5, .slice a l.length cap), (6, .int .i64 (l.length : Nat)), (7, .int .i64 (0 : Nat))]) ⟨rfl, rfl, rfl, rfl, trivial⟩ ?_
 refine loop_ind (G := Nat) (fun i => l.length - i) (fun i => i ≤ l.length ∧ ∀ j, j < i → R19.okAt l j) (fun i => [(0, .slice a l.length cap), (5, .slice a l.length cap), (6, .int .i64 (l.length : Nat)), (7, .int .i64 (i : Nat))]) (fun _ => _) (fun _ => _) ?_ 0 ⟨by omega, fun j h => absurd h (by omega)⟩
 rintro i ⟨hi, hok⟩ K hK
 have bad : ∀ j, j < l.length → ¬ R19.okAt l j → (.bool false : Value) = .bool (decide (R19.right l)) := fun j hj h => congrArg Value.bool (decide_eq_false fun hr => h (hr.2 j hj)).symm
 have nxt : R19.okAt l i → ∀ j, j < i + 1 → R19.okAt l j := fun h j hj => by
  by_cases e : j = i
  ·rw [e]; exact h
  ·exact hok j (by omega)
 have ti : (i : Int).toNat = i := rfl
 skip
 refine tS (tR ?_)
 refine tri_v (opv_lss rfl rfl) rfl ?_
 refine tN (tT (tS ?_))
 refine tri_cond_dec rfl (fun h => ?_) (fun h => ?_)
 ·have hil : i < l.length := by omega
  refine tri_skip (tT (tS (tri_block (tS (tR (tM rfl rfl ?_))))))
  refine tri_v (by first | exact opv_indexAddrA rfl rfl (by first | decide | omega) (by first | decide | omega) | exact opv_indexAddrSN rfl rfl (by omega) (by assumption) (by first | rfl | omega) | exact opv_indexAddrS rfl rfl (by omega) (by omega) (by assumption) (by first | rfl | omega) | exact opv_indexAddrE rfl (by assumption) (by omega) rfl (by first | decide | omega) (by first | decide | omega) | exact opv_indexAddrRN rfl rfl (by omega) | exact opv_indexAddrR rfl rfl (by omega) (by omega) | exact opv_indexAddrRA rfl (by omega) rfl (by first | decide | omega) (by first | decide | omega) | exact opv_indexAddrSP rfl rfl (by omega) (by omega)) rfl ?_
  refine tri_v (by first | exact opv_load1 rfl rfl rfl | exact opv_loadA rfl rfl rfl | exact opv_loadE1 rfl (by assumption) rfl (by omega) rfl rfl | exact opv_loadEA rfl (by assumption) rfl (by omega) rfl rfl | exact opv_loadRX1 rfl rfl (by omega) rfl rfl | exact opv_loadRXA rfl rfl (by omega) rfl rfl rfl | exact opv_loadIX rfl rfl (by omega) | exact opv_loadR1 rfl rfl rfl | exact opv_loadRA rfl rfl rfl rfl) rfl ?_
  refine tA rfl rfl (tA rfl rfl (tN (tT (tS (tR (tM rfl rfl ?_))))))
  refine tri_v (by first | exact opv_eql rfl rfl | exact opv_eqlI rfl rfl rfl rfl rfl rfl | exact opv_eqlB rfl rfl | exact opv_eqlNil rfl rfl) rfl ?_
  refine tM rfl rfl ?_
  refine tri_split rfl rfl (fun h0 => ?_) (fun h0 => ?_)
  ·refine tri_guard_run rfl rfl rfl (tM rfl rfl (tri_guard_run rfl rfl rfl ?_))
   refine tri_v (by first | exact opv_neq rfl rfl | exact opv_neqI rfl rfl rfl rfl rfl rfl | exact opv_neqB rfl rfl) rfl ?_
   refine tri_v (by first | exact opv_pick_t rfl rfl | exact opv_pick_f rfl rfl | exact opv_pick_bool rfl rfl rfl | exact opv_pick rfl rfl rfl) rfl ?_
   refine tM rfl rfl ?_
   refine tri_split rfl rfl (fun h1 => ?_) (fun h1 => ?_)
   ·refine tri_guard_skip rfl rfl rfl rfl (tri_guard_skip rfl rfl rfl rfl (tri_guard_skip rfl rfl rfl rfl ?_))
    refine tri_guard_skip_u rfl rfl rfl ?_
    refine tri_guard_skip_u rfl rfl rfl ?_
    refine tri_guard_skip_u rfl rfl rfl ?_
    refine tri_guard_skip_u rfl rfl rfl ?_
    refine tri_guard_skip_u rfl rfl rfl ?_
    refine tri_guard_skip_u rfl rfl rfl ?_
    refine tri_guard_skip_u rfl rfl rfl ?_
    refine tri_guard_skip rfl rfl rfl rfl ?_
    refine tri_v (by first | exact opv_pick_t rfl rfl | exact opv_pick_f rfl rfl | exact opv_pick_bool rfl rfl rfl | exact opv_pick rfl rfl rfl) rfl ?_
    refine tN (tT ?_)
    refine tri_cond_true rfl ?_
    refine tS (tR (tA rfl rfl (tN (tT (tri_ret ?_)))))
    refine tri_inBlock_ret ?_
    refine tri_then_ret (tri_then_ret ?_)
    refine tri_inBlock_ret ?_
    refine tri_then_ret ?_
    refine tri_end A Suf.h rfl (.cons (rv_tmp rfl) .nil) ⟨bad i hil ?_, rfl, rfl⟩
    exact fun hk => h1 (hk.1 (by omega))
   ·have hk : R19.okAt l i := ⟨fun _ => by omega, fun h => by omega⟩
    refine tri_guard_run rfl rfl rfl (tM rfl rfl (tri_guard_run rfl rfl rfl ?_))
    refine tri_v (opv_gtr rfl rfl) rfl ?_
    refine tri_guard_run rfl rfl rfl (tM rfl rfl ?_)
    refine tri_false rfl rfl ((by omega)) ?_
    refine tri_guard_skip rfl rfl rfl rfl (tri_guard_skip rfl rfl rfl rfl (tri_guard_skip rfl rfl rfl rfl ?_))
    refine tri_guard_skip_u rfl rfl rfl ?_
    refine tri_guard_skip_u rfl rfl rfl ?_
    refine tri_guard_skip_u rfl rfl rfl ?_
    refine tri_guard_skip rfl rfl rfl rfl (tri_guard_run rfl rfl rfl ?_)
    refine tri_v (by first | exact opv_pick_t rfl rfl | exact opv_pick_f rfl rfl | exact opv_pick_bool rfl rfl rfl | exact opv_pick rfl rfl rfl) rfl ?_
    refine tri_v (by first | exact opv_pick_t rfl rfl | exact opv_pick_f rfl rfl | exact opv_pick_bool rfl rfl rfl | exact opv_pick rfl rfl rfl) rfl ?_
    refine tN (tT ?_)
    refine tri_cond_false rfl ?_
    refine tri_skip ?_
    refine tri_inBlock ?_
    refine tT (tR ?_)
    refine tri_v (by first | exact opv_add rfl rfl (w64 (by omega) (by omega))) rfl ?_
    refine tM rfl rfl (tN (tT ?_))
    refine tri_sub ?_ (hK (i + 1) ⟨by omega, nxt hk⟩ (by omega))
    exact ⟨rfl, rfl, rfl, rfl, trivial⟩
  ·refine tri_guard_skip rfl rfl rfl rfl (tri_guard_skip rfl rfl rfl rfl ?_)
   refine tri_v (by first | exact opv_pick_t rfl rfl | exact opv_pick_f rfl rfl | exact opv_pick_bool rfl rfl rfl | exact opv_pick rfl rfl rfl) rfl ?_
   refine tM rfl rfl (tri_guard_run rfl rfl rfl (tM rfl rfl (tri_guard_run rfl rfl rfl ?_)))
   refine tri_v (opv_gtr rfl rfl) rfl ?_
   refine tri_guard_run rfl rfl rfl (tM rfl rfl ?_)
   refine tri_true rfl rfl ((by omega)) ?_
   refine tri_guard_run rfl rfl rfl (tM rfl rfl (tri_guard_run rfl rfl rfl ?_))
   refine tri_v (opv_lss rfl rfl) rfl ?_
   refine tri_guard_run rfl rfl rfl (tM rfl rfl ?_)
   refine tri_split rfl rfl (fun h2 => ?_) (fun h2 => ?_)
   ·refine tri_guard_skip rfl rfl rfl rfl (tri_guard_skip rfl rfl rfl rfl (tri_guard_skip rfl rfl rfl rfl (tri_guard_run rfl rfl rfl ?_)))
    refine tri_v (by first | exact opv_pick_t rfl rfl | exact opv_pick_f rfl rfl | exact opv_pick_bool rfl rfl rfl | exact opv_pick rfl rfl rfl) rfl ?_
    refine tri_guard_run rfl rfl rfl ?_
    refine tri_v (by first | exact opv_pick_t rfl rfl | exact opv_pick_f rfl rfl | exact opv_pick_bool rfl rfl rfl | exact opv_pick rfl rfl rfl) rfl ?_
    refine tri_v (by first | exact opv_pick_t rfl rfl | exact opv_pick_f rfl rfl | exact opv_pick_bool rfl rfl rfl | exact opv_pick rfl rfl rfl) rfl ?_
    refine tN (tT ?_)
    refine tri_cond_true rfl ?_
    refine tS (tR (tA rfl rfl (tN (tT (tri_ret ?_)))))
    refine tri_inBlock_ret ?_
    refine tri_then_ret (tri_then_ret ?_)
    refine tri_inBlock_ret ?_
    refine tri_then_ret ?_
    refine tri_end A Suf.h rfl (.cons (rv_tmp rfl) .nil) ⟨bad i hil ?_, rfl, rfl⟩
    exact fun hk => by have := (hk.2 (by omega)).1; omega
   ·refine tri_guard_run rfl rfl rfl (tM rfl rfl (tri_guard_run rfl rfl rfl (tM rfl rfl (tri_guard_run rfl rfl rfl ?_))))
    refine tri_v (opv_geq rfl rfl) rfl ?_
    refine tri_guard_run rfl rfl rfl ?_
    refine tri_v (by first | exact opv_pick_t rfl rfl | exact opv_pick_f rfl rfl | exact opv_pick_bool rfl rfl rfl | exact opv_pick rfl rfl rfl) rfl ?_
    refine tri_guard_run rfl rfl rfl ?_
    refine tri_v (by first | exact opv_pick_t rfl rfl | exact opv_pick_f rfl rfl | exact opv_pick_bool rfl rfl rfl | exact opv_pick rfl rfl rfl) rfl ?_
    refine tri_v (by first | exact opv_pick_t rfl rfl | exact opv_pick_f rfl rfl | exact opv_pick_bool rfl rfl rfl | exact opv_pick rfl rfl rfl) rfl ?_
    refine tN (tT ?_)
    refine tri_cond_dec rfl (fun h3 => ?_) (fun h3 => ?_)
    ·refine tS (tR (tA rfl rfl (tN (tT (tri_ret ?_)))))
     refine tri_inBlock_ret ?_
     refine tri_then_ret (tri_then_ret ?_)
     refine tri_inBlock_ret ?_
     refine tri_then_ret ?_
     refine tri_end A Suf.h rfl (.cons (rv_tmp rfl) .nil) ⟨bad i hil ?_, rfl, rfl⟩
     exact fun hk => by have := (hk.2 (by omega)).2; omega
    ·have hk : R19.okAt l i := ⟨fun h => by omega, fun _ => ⟨by omega, by omega⟩⟩
     refine tri_skip ?_
     refine tri_inBlock ?_
     refine tT (tR ?_)
     refine tri_v (by first | exact opv_add rfl rfl (w64 (by omega) (by omega))) rfl ?_
     refine tM rfl rfl (tN (tT ?_))
     refine tri_sub ?_ (hK (i + 1) ⟨by omega, nxt hk⟩ (by omega))
     exact ⟨rfl, rfl, rfl, rfl, trivial⟩
 ·have key : R19.right l ↔ 1 ≤ l.length ∧ l.length ≤ 300 := ⟨fun h => h.1, fun h => ⟨h, fun j hj => hok j (by omega)⟩⟩
  refine tri_exit ?_
  refine tri_then_exit ?_
  refine tri_then_exit ?_
  refine tri_inBlock_hit rfl ?_
  refine tT (tS (tR (tM rfl rfl ?_)))
  refine tri_v (opv_len rfl) rfl ?_
  refine tri_v (opv_geq rfl rfl) rfl ?_
  refine tM rfl rfl ?_
  refine tri_split rfl rfl (fun h1 => ?_) (fun h1 => ?_)
  ·refine tri_guard_run rfl rfl rfl (tM rfl rfl (tri_guard_run rfl rfl rfl ?_))
   refine tri_v (opv_len rfl) rfl ?_
   refine tri_guard_run rfl rfl rfl ?_
   refine tri_v (opv_leq rfl rfl) rfl ?_
   refine tri_v (by first | exact opv_pick_t rfl rfl | exact opv_pick_f rfl rfl | exact opv_pick_bool rfl rfl rfl | exact opv_pick rfl rfl rfl) rfl ?_
   refine tA rfl rfl (tN (tT (tri_ret ?_)))
   refine tri_end A Suf.h rfl (.cons (rv_tmp rfl) .nil) ⟨congrArg Value.bool (decide_eq_decide.2 ?_), rfl, rfl⟩
   rw [key]
   omega
  ·refine tri_guard_skip rfl rfl rfl rfl (tri_guard_skip rfl rfl rfl rfl (tri_guard_skip rfl rfl rfl rfl ?_))
   refine tri_v (by first | exact opv_pick_t rfl rfl | exact opv_pick_f rfl rfl | exact opv_pick_bool rfl rfl rfl | exact opv_pick rfl rfl rfl) rfl ?_
   refine tA rfl rfl (tN (tT (tri_ret ?_)))
   refine tri_end A Suf.h rfl (.cons (rv_tmp rfl) .nil) ⟨congrArg Value.bool (decide_eq_false ?_).symm, rfl, rfl⟩
   rw [key]
   omega
set_option maxRecDepth 100000 in
theorem ref19_right {l : List Int} {a : Option Addr} {cap : Nat} (hs : SlAt I a l) (hn : l.length ≤ 1000000000) :
  FnC Try.prog 13 [.slice a l.length cap].toArray A I (fun v A' I' => v = .bool (decide (R19.right l)) ∧ A = A' ∧ I = I') := by
 have bad : ∀ j, j < l.length → ¬ R19.okAt l j → (.bool false : Value) = .bool (decide (R19.right l)) := fun j hj h => congrArg Value.bool (decide_eq_false fun hr => h (hr.2 j hj)).symm
 have bad2 : ¬ (1 ≤ l.length ∧ l.length ≤ 300) → (.bool false : Value) = .bool (decide (R19.right l)) := fun h => congrArg Value.bool (decide_eq_false fun hr => h hr.1).symm
 have t0 : (0 : Int).toNat = 0 := rfl
 refine fn_enter1 Try.func13 rfl Try.ntmps13 rfl fun w0 => ?_
 refine tS (tR (tA rfl rfl (tN (tT (tS (tS (tR ?_)))))))
 refine tM rfl rfl ?_
 refine tri_v (opv_len rfl) rfl ?_
 refine tri_v (opv_lss rfl rfl) rfl ?_
 refine tM rfl rfl ?_
 refine tri_split rfl rfl (fun h1 => ?_) (fun h1 => ?_)
 ·refine tri_guard_skip rfl rfl rfl rfl (tri_guard_skip rfl rfl rfl rfl (tri_guard_skip rfl rfl rfl rfl ?_))
  refine tri_v (by first | exact opv_pick_t rfl rfl | exact opv_pick_f rfl rfl | exact opv_pick_bool rfl rfl rfl | exact opv_pick rfl rfl rfl) rfl ?_
  refine tM rfl rfl (tri_guard_skip rfl rfl rfl rfl (tri_guard_skip rfl rfl rfl rfl (tri_guard_skip rfl rfl rfl rfl (tri_guard_skip rfl rfl rfl rfl ?_))))
  refine tri_v (by first | exact opv_pick_t rfl rfl | exact opv_pick_f rfl rfl | exact opv_pick_bool rfl rfl rfl | exact opv_pick rfl rfl rfl) rfl ?_
  refine tN (tT ?_)
  refine tri_cond_true rfl ?_
  refine tS (tR (tA rfl rfl (tN (tT (tri_ret (tri_then_ret ?_))))))
  refine tri_end A Suf.h rfl (.cons (rv_tmp rfl) .nil) ⟨bad2 (by omega), rfl, rfl⟩
 refine tri_guard_run rfl rfl rfl (tM rfl rfl (tri_guard_run rfl rfl rfl ?_))
 refine tri_v (opv_len rfl) rfl ?_
 refine tri_guard_run rfl rfl rfl ?_
 refine tri_v (opv_gtr rfl rfl) rfl ?_
 refine tri_v (by first | exact opv_pick_t rfl rfl | exact opv_pick_f rfl rfl | exact opv_pick_bool rfl rfl rfl | exact opv_pick rfl rfl rfl) rfl ?_
 refine tM rfl rfl ?_
 refine tri_split rfl rfl (fun h2 => ?_) (fun h2 => ?_)
 ·refine tri_guard_skip rfl rfl rfl rfl (tri_guard_skip rfl rfl rfl rfl (tri_guard_skip rfl rfl rfl rfl (tri_guard_skip rfl rfl rfl rfl ?_)))
  refine tri_v (by first | exact opv_pick_t rfl rfl | exact opv_pick_f rfl rfl | exact opv_pick_bool rfl rfl rfl | exact opv_pick rfl rfl rfl) rfl ?_
  refine tN (tT ?_)
  refine tri_cond_true rfl ?_
  refine tS (tR (tA rfl rfl (tN (tT (tri_ret (tri_then_ret ?_))))))
  refine tri_end A Suf.h rfl (.cons (rv_tmp rfl) .nil) ⟨bad2 (by omega), rfl, rfl⟩
 refine tri_guard_run rfl rfl rfl (tM rfl rfl (tri_guard_run rfl rfl rfl ?_))
 refine tri_v (by first | exact opv_indexAddrA rfl rfl (by first | decide | omega) (by first | decide | omega) | exact opv_indexAddrSN rfl rfl (by omega) (by assumption) (by first | rfl | omega) | exact opv_indexAddrS rfl rfl (by omega) (by omega) (by assumption) (by first | rfl | omega) | exact opv_indexAddrE rfl (by assumption) (by omega) rfl (by first | decide | omega) (by first | decide | omega) | exact opv_indexAddrRN rfl rfl (by omega) | exact opv_indexAddrR rfl rfl (by omega) (by omega) | exact opv_indexAddrRA rfl (by omega) rfl (by first | decide | omega) (by first | decide | omega) | exact opv_indexAddrSP rfl rfl (by omega) (by omega)) rfl ?_
 refine tri_guard_run rfl rfl rfl ?_
 refine tri_v (by first | exact opv_load1 rfl rfl rfl | exact opv_loadA rfl rfl rfl | exact opv_loadE1 rfl (by assumption) rfl (by omega) rfl rfl | exact opv_loadEA rfl (by assumption) rfl (by omega) rfl rfl | exact opv_loadRX1 rfl rfl (by omega) rfl rfl | exact opv_loadRXA rfl rfl (by omega) rfl rfl rfl | exact opv_loadIX rfl rfl (by omega) | exact opv_loadR1 rfl rfl rfl | exact opv_loadRA rfl rfl rfl rfl) rfl ?_
 refine tri_guard_run rfl rfl rfl ?_
 refine tri_v (by first | exact opv_neq rfl rfl | exact opv_neqI rfl rfl rfl rfl rfl rfl | exact opv_neqB rfl rfl) rfl ?_
 refine tri_v (by first | exact opv_pick_t rfl rfl | exact opv_pick_f rfl rfl | exact opv_pick_bool rfl rfl rfl | exact opv_pick rfl rfl rfl) rfl ?_
 refine tN (tT ?_)
 refine tri_cond_dec rfl (fun h3 => ?_) (fun h3 => ?_)
 ·refine tS (tR (tA rfl rfl (tN (tT (tri_ret (tri_then_ret ?_))))))
  refine tri_end A Suf.h rfl (.cons (rv_tmp rfl) .nil) ⟨bad 0 (by omega) fun hk => h3 (hk.1 rfl), rfl, rfl⟩
 refine tri_skip (tT (tS (tS (tR (tA rfl rfl (tN (tT ?_)))))))
 refine tri_block ?_
 have h3' : l.getD 0 default = -1 := Decidable.not_not.1 h3
 refine tri_sub (F' := [(0, .slice a l.length cap), (3, .int .i64 (1 : Nat))]) ⟨rfl, rfl, trivial⟩ ?_
 refine loop_ind (G := Nat) (fun i => l.length - i) (fun i => 1 ≤ i ∧ i ≤ l.length ∧ ∀ j, j < i → R19.okAt l j) (fun i => [(0, .slice a l.length cap), (3, .int .i64 (i : Nat))]) (fun _ => _) (fun _ => _) ?_ 1 ⟨by omega, by omega, fun j h => by
  obtain rfl : j = 0 := by omega
  exact ⟨fun _ => h3', fun h => by omega⟩⟩
 rintro i ⟨hi1, hi, hok⟩ K hK
 have nxt : R19.okAt l i → ∀ j, j < i + 1 → R19.okAt l j := fun h j hj => by
  by_cases e : j = i
  ·rw [e]; exact h
  ·exact hok j (by omega)
 have ti : (i : Int).toNat = i := rfl
 skip
 refine tS (tS (tR (tM rfl rfl (tM rfl rfl ?_))))
 refine tri_v (opv_len rfl) rfl ?_
 refine tri_v (opv_lss rfl rfl) rfl ?_
 refine tN (tT ?_)
 refine tri_cond_dec rfl (fun h => ?_) (fun h => ?_)
 ·have hil : i < l.length := by omega
  refine tri_skip (tT (tS (tri_block (tS (tR (tM rfl rfl (tM rfl rfl ?_)))))))
  refine tri_v (by first | exact opv_indexAddrA rfl rfl (by first | decide | omega) (by first | decide | omega) | exact opv_indexAddrSN rfl rfl (by omega) (by assumption) (by first | rfl | omega) | exact opv_indexAddrS rfl rfl (by omega) (by omega) (by assumption) (by first | rfl | omega) | exact opv_indexAddrE rfl (by assumption) (by omega) rfl (by first | decide | omega) (by first | decide | omega) | exact opv_indexAddrRN rfl rfl (by omega) | exact opv_indexAddrR rfl rfl (by omega) (by omega) | exact opv_indexAddrRA rfl (by omega) rfl (by first | decide | omega) (by first | decide | omega) | exact opv_indexAddrSP rfl rfl (by omega) (by omega)) rfl ?_
  refine tri_v (by first | exact opv_load1 rfl rfl rfl | exact opv_loadA rfl rfl rfl | exact opv_loadE1 rfl (by assumption) rfl (by omega) rfl rfl | exact opv_loadEA rfl (by assumption) rfl (by omega) rfl rfl | exact opv_loadRX1 rfl rfl (by omega) rfl rfl | exact opv_loadRXA rfl rfl (by omega) rfl rfl rfl | exact opv_loadIX rfl rfl (by omega) | exact opv_loadR1 rfl rfl rfl | exact opv_loadRA rfl rfl rfl rfl) rfl ?_
  refine tri_v (opv_lss rfl rfl) rfl ?_
  refine tM rfl rfl ?_
  refine tri_split rfl rfl (fun h4 => ?_) (fun h4 => ?_)
  ·refine tri_guard_skip rfl rfl rfl rfl (tri_guard_skip rfl rfl rfl rfl (tri_guard_skip rfl rfl rfl rfl (tri_guard_skip rfl rfl rfl rfl (tri_guard_skip rfl rfl rfl rfl (tri_guard_skip rfl rfl rfl rfl ?_)))))
   refine tri_v (by first | exact opv_pick_t rfl rfl | exact opv_pick_f rfl rfl | exact opv_pick_bool rfl rfl rfl | exact opv_pick rfl rfl rfl) rfl ?_
   refine tN (tT ?_)
   refine tri_cond_true rfl ?_
   refine tS (tR (tA rfl rfl (tN (tT (tri_ret ?_)))))
   refine tri_inBlock_ret ?_
   refine tri_then_ret (tri_then_ret ?_)
   refine tri_inBlock_ret ?_
   refine tri_then_ret ?_
   refine tri_end A Suf.h rfl (.cons (rv_tmp rfl) .nil) ⟨bad i hil ?_, rfl, rfl⟩
   exact fun hk => by have := (hk.2 (by omega)).1; omega
  refine tri_guard_run rfl rfl rfl (tM rfl rfl (tri_guard_run rfl rfl rfl (tM rfl rfl (tri_guard_run rfl rfl rfl ?_))))
  refine tri_v (by first | exact opv_indexAddrA rfl rfl (by first | decide | omega) (by first | decide | omega) | exact opv_indexAddrSN rfl rfl (by omega) (by assumption) (by first | rfl | omega) | exact opv_indexAddrS rfl rfl (by omega) (by omega) (by assumption) (by first | rfl | omega) | exact opv_indexAddrE rfl (by assumption) (by omega) rfl (by first | decide | omega) (by first | decide | omega) | exact opv_indexAddrRN rfl rfl (by omega) | exact opv_indexAddrR rfl rfl (by omega) (by omega) | exact opv_indexAddrRA rfl (by omega) rfl (by first | decide | omega) (by first | decide | omega) | exact opv_indexAddrSP rfl rfl (by omega) (by omega)) rfl ?_
  refine tri_guard_run rfl rfl rfl ?_
  refine tri_v (by first | exact opv_load1 rfl rfl rfl | exact opv_loadA rfl rfl rfl | exact opv_loadE1 rfl (by assumption) rfl (by omega) rfl rfl | exact opv_loadEA rfl (by assumption) rfl (by omega) rfl rfl | exact opv_loadRX1 rfl rfl (by omega) rfl rfl | exact opv_loadRXA rfl rfl (by omega) rfl rfl rfl | exact opv_loadIX rfl rfl (by omega) | exact opv_loadR1 rfl rfl rfl | exact opv_loadRA rfl rfl rfl rfl) rfl ?_
  refine tri_guard_run rfl rfl rfl (tM rfl rfl (tri_guard_run rfl rfl rfl ?_))
  refine tri_v (opv_geq rfl rfl) rfl ?_
  refine tri_v (by first | exact opv_pick_t rfl rfl | exact opv_pick_f rfl rfl | exact opv_pick_bool rfl rfl rfl | exact opv_pick rfl rfl rfl) rfl ?_
  refine tN (tT ?_)
  refine tri_cond_dec rfl (fun h5 => ?_) (fun h5 => ?_)
  ·refine tS (tR (tA rfl rfl (tN (tT (tri_ret ?_)))))
   refine tri_inBlock_ret ?_
   refine tri_then_ret (tri_then_ret ?_)
   refine tri_inBlock_ret ?_
   refine tri_then_ret ?_
   refine tri_end A Suf.h rfl (.cons (rv_tmp rfl) .nil) ⟨bad i hil ?_, rfl, rfl⟩
   exact fun hk => by have := (hk.2 (by omega)).2; omega
  ·have hk : R19.okAt l i := ⟨fun h => by omega, fun _ => ⟨by omega, by omega⟩⟩
   refine tri_skip ?_
   refine tri_inBlock ?_
   refine tT (tR (tM rfl rfl ?_))
   refine tri_v (by first | exact opv_add rfl rfl (w64 (by omega) (by omega))) rfl ?_
   refine tA rfl rfl (tN (tT ?_))
   refine tri_sub ?_ (hK (i + 1) ⟨by omega, by omega, nxt hk⟩ (by omega))
   exact ⟨rfl, rfl, trivial⟩
 ·refine tri_exit ?_
  refine tri_then_exit ?_
  refine tri_then_exit ?_
  refine tri_inBlock_hit rfl ?_
  refine tT (tS (tR (tA rfl rfl (tN (tT (tri_ret ?_))))))
  refine tri_end A Suf.h rfl (.cons (rv_tmp rfl) .nil) ⟨congrArg Value.bool (decide_eq_true ?_).symm, rfl, rfl⟩
  exact ⟨by omega, fun j hj => hok j (by omega)⟩
end Go.GL

set_option linter.unusedVariables false
namespace Go.GL
section
variable {w0 : World} {n : Nat} {F : Frm} {A : List Asrt} {I : List Chunk} {P : Program} {dst : Option Tmp} {ty t : TypeId} {pos : String} {af : Array Edge} {gd : Option (Nat × Bool)} {x y : Operand} {d : TypeDesc} {s by_ : Nat} {z : List Value}
theorem spl_ints : ∀ (l : List Int) (off : Nat) (v : Int), off < l.length → spl (ints l) off [.int .i64 v] = some (ints (l.set off v))
 | a :: l, 0, v, _ => by cases l <;> rfl
 | a :: l, k + 1, v, h => by
  have := spl_ints l k v (by simpa using h)
  simp only [ints, List.map_cons, spl, List.set_cons_succ] at this ⊢
  rw [this]
 | [], k, v, h => by simp at h
/-- A whole number into a block of such. -/
theorem opg_storeIX {l : List Int} {b off : Nat} {v : Int} {T : TypeId} {u : List Value → List Asrt} [TyI P t d 1 by_ z] [Sel A b (ints l) T u] (hx : ev F x = some (pt b off)) (hy : ev F y = some (.int .i64 v)) (hl : off < l.length) :
  OpG P w0 n ⟨dst, .store t x y, ty, pos, af, gd⟩ F A I (fun _ A' I' => A' = u (ints (l.set off v)) ∧ I = I') :=
 opg_store (vs := [.int .i64 v]) hx hy rfl rfl rfl (spl_ints l off v hl)
/-- A place of an array of whole numbers that is a value. -/
theorem opv_indexIX {l : List Int} {l2 : Nat} {k : IntKind} {i : Int} {ix : Operand} {e : TypeId} {b' : Nat} {z' : List Value} [TyI P t (.array l2 e) s by_ z] [TyI P e (.int .i64) 1 b' z'] (hx : ev F x = some (.agg (ints l).toArray)) (hi : ev F ix = some (.int k i)) (h0 : 0 ≤ i) (h1 : i < l2) (hl : l2 = l.length) :
  OpV P w0 n ⟨dst, .index t x ix, ty, pos, af, gd⟩ F A I (.int .i64 (l.getD i.toNat default)) :=
 opv_index hx hi h0 h1 rfl (by
  rw [Nat.mul_one]
  have : i.toNat < l.length := by omega
  simp [ints, this])
theorem and_two_pow' (m k : Nat) : m &&& 2 ^ k = (m.testBit k).toNat * 2 ^ k := by
 apply Nat.eq_of_testBit_eq
 intro j
 rw [Nat.testBit_and, Nat.testBit_two_pow]
 by_cases e : k = j
 ·subst e
  cases h : m.testBit k
  ·simp
  ·simp [Nat.testBit_two_pow]
 ·cases h : m.testBit k
  ·simp [e]
  ·simp [e, Nat.testBit_two_pow]
theorem and_pow {m k : Nat} (hm : m < 4611686018427387904) (hk : k ≤ 61) : IntKind.i64.wrap ((BitVec.ofInt IntKind.i64.bits (m : Int) &&& BitVec.ofInt IntKind.i64.bits (2 ^ k)).toNat : Int) = if (m : Int) / 2 ^ k % 2 = 1 then 2 ^ k else 0 := by
 have hk2 : (2:Nat) ^ k ≤ 2 ^ 61 := Nat.pow_le_pow_right (by omega) hk
 have e1 : (2:Int) ^ k = ((2 ^ k : Nat) : Int) := by simp
 have e2 : (BitVec.ofInt IntKind.i64.bits (m : Int) &&& BitVec.ofInt IntKind.i64.bits (2 ^ k)).toNat = m &&& 2 ^ k := by
  rw [e1, BitVec.toNat_and]
  show (BitVec.ofInt 64 (m : Int)).toNat &&& (BitVec.ofInt 64 ((2 ^ k : Nat) : Int)).toNat = _
  rw [BitVec.ofInt_natCast, BitVec.ofInt_natCast, BitVec.toNat_ofNat, BitVec.toNat_ofNat, Nat.mod_eq_of_lt (by omega), Nat.mod_eq_of_lt (by omega)]
 rw [e2, and_two_pow', Nat.testBit_eq_decide_div_mod_eq]
 have e3 : ((m : Int) / 2 ^ k % 2 = 1) ↔ m / 2 ^ k % 2 = 1 := by
  rw [e1]
  constructor
  ·intro h; exact_mod_cast h
  ·intro h; exact_mod_cast h
 by_cases h : m / 2 ^ k % 2 = 1
 ·rw [if_pos (e3.2 h), decide_eq_true h, e1]
  generalize (2:Nat) ^ k = p at hk2
  simp only [Bool.toNat_true, Nat.one_mul]
  exact w64 (by omega) (by omega)
 ·rw [if_neg (fun x => h (e3.1 x)), decide_eq_false h]
  simp only [Bool.toNat_false, Nat.zero_mul]
  exact w64 (by omega) (by omega)
/-- One bit of a count. -/
theorem opv_bit {xt yt : TypeId} {a b : Int} {k : Nat} (hx : ev F x = some (.int .i64 a)) (hy : ev F y = some (.int .i64 b)) (h0 : 0 ≤ a) (h1 : a < 4611686018427387904) (hb : b = 2 ^ k) (hk : k ≤ 61) : OpV P w0 n ⟨dst, .binOp .and xt x y yt, ty, pos, af, gd⟩ F A I (.int .i64 (if a / 2 ^ k % 2 = 1 then 2 ^ k else 0)) :=
 fun t w hf hs => by
  subst hb
  obtain ⟨m, rfl⟩ : ∃ m : Nat, a = m := ⟨a.toNat, by omega⟩
  simp only [execOp, hf.eval hx, hf.eval hy, eqGuard_and, binOp_and, Op.intBits, and_pow (show m < 4611686018427387904 by omega) hk, Sem.run_bind, Sem.run_pure, Result.andThen_ok]
theorem opv_shrN {xt yt : TypeId} {a b : Int} {k : Nat} {yk : IntKind} (hx : ev F x = some (.int .i64 a)) (hy : ev F y = some (.int yk b)) (h0 : 0 ≤ a) (hb : b = k) (hk : k ≤ 62) : OpV P w0 n ⟨dst, .binOp .shr xt x y yt, ty, pos, af, gd⟩ F A I (.int .i64 (a / 2 ^ k)) :=
 opv_shr hx hy (by omega) (by
  have h1 : min b.toNat IntKind.i64.bits = k := by
   show min b.toNat 64 = k
   omega
  rw [h1]
  exact Int.fdiv_eq_ediv_of_nonneg _ (Int.le_of_lt (Int.pow_pos (by omega))))
theorem div_pow_bd {a : Int} {k : Nat} (h0 : 0 ≤ a) : 0 ≤ a / 2 ^ k ∧ a / 2 ^ k ≤ a :=
 ⟨Int.ediv_nonneg h0 (Int.le_of_lt (Int.pow_pos (by omega))), Int.ediv_le_self _ h0⟩
end
end Go.GL

set_option linter.unusedVariables false
namespace Go.GL
open Enc (enc)
/-! ### An element of a row is written -/
theorem encs_splice {α : Type} [Enc α] [Inhabited α] {vs : List Value} {x' : α} {fo : Nat} : ∀ {xs : List α} {i : Nat}, i < xs.length → spl (enc (xs.getD i default)) fo vs = some (enc x') →
  (encs xs).take (i * Enc.sz α + fo) ++ vs ++ (encs xs).drop (i * Enc.sz α + fo + vs.length) = encs (xs.set i x')
 | [], i, hi, h => absurd hi (by simp)
 | x :: xs, 0, hi, h => by
  obtain ⟨h1, h2⟩ := spl_spec h
  simp only [List.getD_cons_zero] at h1 h2
  rw [Nat.zero_mul, Nat.zero_add, encs_cons, List.set_cons_zero, encs_cons, h2, List.take_append_of_le_length (by omega), List.drop_append_of_le_length (by omega)]
  simp
 | x :: xs, i + 1, hi, h => by
  have ih := encs_splice (xs := xs) (i := i) (by simpa using hi) (by simpa using h)
  have hl : (enc x).length = Enc.sz α := Enc.hlen x
  have e : (i + 1) * Enc.sz α + fo = (enc x).length + (i * Enc.sz α + fo) := by rw [hl, Nat.succ_mul]; omega
  rw [encs_cons, List.set_cons_succ, encs_cons, e, List.take_length_add_append, Nat.add_assoc, List.drop_length_add_append, ← ih]
  simp
section
variable {w0 : World} {n : Nat} {F : Frm} {A : List Asrt} {I : List Chunk} {P : Program}
variable {dst : Option Tmp} {ty : TypeId} {pos : String} {af : Array Edge} {gd : Option (Nat × Bool)} {x y : Operand} {t E : TypeId} {d : TypeDesc} {s by_ : Nat} {z : List Value} {a : Option Addr} {len cap : Nat}
/-- Into an element, or a part of it. -/
theorem opg_storeRX {α : Type} [Enc α] [Inhabited α] {xs : List α} (x' : α) {i fo sz : Nat} {v : Value} {vs : List Value} {u : Asrt → List Asrt} [SelR A a cap len E sz (encs xs) u] [TyI P t d s by_ z] (hx : ev F x = some (epf a sz i fo)) (hy : ev F y = some v) (hz : Enc.sz α = sz) (hi : i < xs.length) (hl : len = xs.length)
  (hv : v.cells = vs.toArray) (hls : vs.length = s) (h0 : Nat.blt 0 s = true) (h : spl (enc (xs.getD i default)) fo vs = some (enc x')) :
  OpG P w0 n ⟨dst, .store t x y, ty, pos, af, gd⟩ F A I (fun _ A' I' => A' = u (Row a cap len E sz (encs (xs.set i x'))) ∧ I = I') := by
 have hspec := spl_spec h
 have hel : (enc (xs.getD i default)).length = Enc.sz α := Enc.hlen _
 have h1 : vs.all (·.oneCell') = true := by
  have := Enc.one x'
  rw [hspec.2] at this
  simp only [List.all_append, Bool.and_eq_true] at this
  exact this.1.2
 refine (opg_storeR (a := a) hx hy hv hls h1 h0 (by omega) (by omega)).mono fun v' A' I' ⟨e1, e2⟩ => ⟨?_, e2⟩
 rw [e1]
 congr 2
 rw [← hz, ← hls, encs_splice hi h]
/-- Where a slice begins that leaves out the first l. -/
def loA (a : Option Addr) (cap l s : Nat) : Option Addr := if cap = l then a else a.map fun q => q.add (l * s)
theorem opv_sliceLo {α : Type} [Enc α] {xs : List α} {lo : Operand} {k : IntKind} {l : Int} {t e : TypeId} {d' : TypeDesc} {s by_ s' by' : Nat} {z z' : List Value} [TyI P t (.slice e) s by_ z] [TyI P e d' s' by' z'] (hx : ev F x = some (.slice a len cap)) (hh : ev F lo = some (.int k l)) (h0 : 0 ≤ l) (h1 : l ≤ len) (hs : StA I a cap xs) (hl : len = xs.length) :
  OpV P w0 n ⟨dst, .slice t x (some lo) none none, ty, pos, af, gd⟩ F A I (.slice (loA a cap l.toNat s') (xs.drop l.toNat).length (cap - l.toNat)) := by
 intro tt w hf hst
 have hle := hs.le
 have hlen : (xs.drop l.toNat).length = len - l.toNat := by rw [List.length_drop]; omega
 rw [hlen]
 simp [execOp, hf.eval hx, hf.eval hh, Instr.sliceAt, Instr.slice, run_und (P := P) (t := t), Instr.sliceBounds, Instr.sliceBound, asIntOf, h0, h1, run_size (P := P) (t := e), loA]
theorem StA.lo {α : Type} [Enc α] {xs : List α} (hs : StA I a cap xs) {l s : Nat} (h1 : l ≤ xs.length) (hz : Enc.sz α = s) : StA I (loA a cap l s) (cap - l) (xs.drop l) := by
 have hle := hs.le
 have hlen : (xs.drop l).length = xs.length - l := by rw [List.length_drop]
 refine ⟨?_, by rw [hlen]; omega⟩
 unfold loA
 split
 ·left
  exact List.drop_of_length_le (by omega)
 ·rcases hs.sl with rfl | ⟨b, off, rfl, cs, T, fz, hm, hc⟩
  ·exact .inl (by simp)
  ·refine .inr ⟨b, off + l * s, by simp [add_pt], cs, T, fz, hm, fun j v hj => ?_⟩
   rw [encs_drop xs (by omega), hz] at hj
   rw [Nat.add_assoc]
   exact hc _ _ hj
/-- An entry of a map's literal. -/
theorem opg_insert {b : Nat} {kt e : TypeId} {es : KVs} {k : Nat} {u : KVs → List Asrt} {ks : List Int} {vk v : Value} {ym : Operand} [SelM P A b kt es u] [TyI P t (.map kt e) s by_ z] (hx : ev F x = some (.map (some b))) (hy : ev F y = some vk) (hv : ev F ym = some v) (hk : vk = mkv P kt ks) (hi : intAt P 9 kt = some k) (hl : ks.length = k) :
  OpG P w0 n ⟨dst, .insert t x y ym, ty, pos, af, gd⟩ F A I (fun _ A' I' => A' = u (mset es ks v) ∧ I = I') :=
 fun tt w K Q hf hs hk' => opg_mapUpdate (P := P) (dst := dst) (ty := ty) (pos := pos) (af := af) (gd := gd) (t := t) hx hy hv hk hi hl tt w K Q hf hs hk'
/-- A slice that is nil has no elements. -/
theorem tri_rowSome {α : Type} [Enc α] {xs : List α} {K : Act → World → Prop} (hz : Nat.beq (Enc.sz α) 0 = false) (h : (a = none → xs = []) → Tri w0 n F (Row a cap len E (Enc.sz α) (encs xs) :: A) I K) : Tri w0 n F (Row a cap len E (Enc.sz α) (encs xs) :: A) I K := by
 intro t w hf hs
 have h2 := hs
 obtain ⟨cs, h1, _⟩ := hs
 obtain ⟨c, cs', rfl, ⟨hl, ha⟩, hr⟩ := h1.cons_inv
 refine h (fun e => ?_) t w hf h2
 rcases ha with ⟨_, _, h3, _⟩ | ⟨b, cur, h3, _⟩
 ·rw [encs_length, h3, Nat.zero_mul] at hl
  rcases Nat.mul_eq_zero.1 hl with h4 | h4
  ·exact List.length_eq_zero_iff.1 h4
  ·rw [h4] at hz; cases hz
 ·rw [e] at h3; cases h3
end
end Go.GL

set_option linter.unusedVariables false
namespace Go.GL
section
variable {w0 : World} {n : Nat} {F : Frm} {A : List Asrt} {I : List Chunk} {P : Program}
variable {dst : Option Tmp} {ty : TypeId} {pos : String} {af : Array Edge} {gd : Option (Nat × Bool)} {x y : Operand} {t e E : TypeId} {d d' : TypeDesc} {s by_ s' by' : Nat} {z z' : List Value} {a a2 : Option Addr} {len cap m cap2 : Nat}
/-- 'append(x, ys...)', both only read; x has no room. -/
theorem opg_appendF {α : Type} [Enc α] {xs ys : List α} [TyI P t (.slice E) s by_ z] [TyI P ty (.slice E) s by_ z] [TyI P E d' s' by' z'] (hx : ev F x = some (.slice a len len)) (hy : ev F y = some (.slice a2 m cap2)) (hsx : SlAt I a xs) (hsy : SlAt I a2 ys) (hl : len = xs.length) (hm : m = ys.length) (hz : Enc.sz α = s')
  (hby : (2 * (len + m) + 768) * by' ≤ 281474976710656) (hb0 : Nat.beq by' 0 = false) :
  OpG P w0 n ⟨dst, .call ⟨.builtin .append, #[x, y], #[t, ty]⟩, ty, pos, af, gd⟩ F A I (fun v A' I' => ∃ a' cap', v = .slice a' (xs ++ ys).length cap' ∧ StA I' a' cap' (xs ++ ys) ∧ A = A' ∧ I ⊆ I') := by
 refine opg_run fun tt w hf hst => ?_
 obtain ⟨inf, hinf, hbyt⟩ := run_bytes (P := P) (t := E) w
 have hl1 : (encs xs).length = len * s' := by rw [encs_length, hl, hz]
 have hl2 : (encs ys).length = m * s' := by rw [encs_length, hm, hz]
 have hfc := run_firstCells (P := P) (hsy.cellsOf hst) hl2 cap2
 have hlen : (xs ++ ys).length = len + m := by rw [List.length_append, hl, hm]
 rw [hlen]
 by_cases hm0 : m = 0
 ·subst hm0
  have hys : ys = [] := List.eq_nil_of_length_eq_zero hm.symm
  subst hys
  have he : (encs ([] : List α)) = [] := rfl
  rw [he] at hfc
  refine ⟨.slice a len len, w, A, I, ?_, ⟨a, len, by rw [Nat.add_zero], ⟨by rw [List.append_nil]; exact hsx, by rw [hlen]; exact Nat.le_refl _⟩, rfl, fun _ h => h⟩, hst⟩
  cases a with
  | none => simp [execOp, resolve, invoke, builtin, hf.eval hx, hf.eval hy, Builtin.append_, run_und (P := P) (t := t), run_und (P := P) (t := ty), run_size (P := P) (t := E), Builtin.lenOf, hfc]
  | some q => simp [execOp, resolve, invoke, builtin, hf.eval hx, hf.eval hy, Builtin.append_, run_und (P := P) (t := t), run_und (P := P) (t := ty), run_size (P := P) (t := E), Builtin.lenOf, hfc, storeCells]
 ·have hroom : ¬ len + m ≤ len := by omega
  clear hm0
  have hnc := nextcap_le (len + m) len (by omega)
  have hnb : Builtin.nextslicecap (len + m) len * by' ≤ 281474976710656 := Nat.le_trans (Nat.mul_le_mul_right by' hnc) hby
  have hk1 : ¬ (281474976710656 < Builtin.nextslicecap (len + m) len * by') := by omega
  let q := Question.appendCap (len + m) len E
  let nc := q.cut (w.tape w.drawn q)
  have hncge : len + m ≤ nc := by show len + m ≤ (len + m) + _; omega
  have hst1 : St w0 w.drew A I := hst.drew
  have hfo := run_firstCells (P := P) (w := w.drew) (a2 := a) (cs := encs xs) (sz := s') (m := len) (hsx.cellsOf hst1) hl1 len
  have hfn := run_firstCells (P := P) (w := w.drew) (a2 := a2) (cs := encs ys) (sz := s') (m := m) (hsy.cellsOf hst1) hl2 cap2
  obtain ⟨zv1, hzv1, hzc1⟩ := run_zero (P := P) (t := E) w.drew
  let rest := Builtin.zeroCells zv1.cells (nc - (len + m))
  let cur' : Array Value := (encs xs).toArray ++ (encs ys).toArray ++ rest
  refine ⟨.slice (some ⟨w.heap.size, 0, none⟩) (len + m) nc, w.drew.alloc (.cells cur' E), A, (w.heap.size, .cells cur' E (0, 0)) :: I, ?_, ⟨_, nc, rfl, ?_, rfl, fun _ h => List.mem_cons_of_mem _ h⟩, ?_⟩
  ·have hb0' : by' ≠ 0 := Nat.ne_of_beq_eq_false hb0
   have hfd : (Question.appendCap (len + m) len E).forced = false := rfl
   obtain ⟨inf1, hinf1, hbyt1⟩ := run_bytes (P := P) (t := E) w.drew
   simp [execOp, resolve, invoke, builtin, hf.eval hx, hf.eval hy, Builtin.append_, run_und (P := P) (t := t), run_und (P := P) (t := ty), run_size (P := P) (t := E), Builtin.lenOf, hroom, hinf, hbyt, hk1, hb0', hfd, hinf1, hfo, hfn, hzv1, newRow]
   refine ⟨rfl, ?_⟩
   simp only [cur', rest, Array.append_assoc]
   rfl
  ·refine ⟨.inr ⟨w.heap.size, 0, rfl, cur', E, (0, 0), List.mem_cons_self, fun j v hj => ?_⟩, by rw [hlen]; exact hncge⟩
   rw [encs_append] at hj
   rw [Nat.zero_add]
   have hlt := (List.getElem?_eq_some_iff.1 hj).1
   simp only [cur']
   rw [Array.getElem?_append_left (by simpa using hlt)]
   simpa using hj
  ·exact (hst1.alloc (.cells cur' E (0, 0))).freeze
theorem opv_sliceLoN {lo : Operand} {k : IntKind} {l : Int} {e : TypeId} [TyI P t (.slice e) s by_ z] [TyI P e d' s' by' z'] (hx : ev F x = some (.slice a len cap)) (hh : ev F lo = some (.int k l)) (h0 : 0 ≤ l) (h1 : l ≤ len) :
  OpV P w0 n ⟨dst, .slice t x (some lo) none none, ty, pos, af, gd⟩ F A I (.slice (loA a cap l.toNat s') (len - l.toNat) (cap - l.toNat)) := by
 intro tt w hf hst
 simp [execOp, hf.eval hx, hf.eval hh, Instr.sliceAt, Instr.slice, run_und (P := P) (t := t), Instr.sliceBounds, Instr.sliceBound, asIntOf, h0, h1, run_size (P := P) (t := e), loA]
theorem opv_sliceHiN {hi : Operand} {k : IntKind} {h : Int} {e : TypeId} {b off : Nat} [TyI P t (.slice e) s by_ z] [TyI P e d' s' by' z'] (hx : ev F x = some (.slice (some ⟨b, off, none⟩) len cap)) (hh : ev F hi = some (.int k h)) (h0 : 0 ≤ h) (h1 : h ≤ cap) :
  OpV P w0 n ⟨dst, .slice t x none (some hi) none, ty, pos, af, gd⟩ F A I (.slice (some ⟨b, off, none⟩) h.toNat cap) := by
 intro tt w hf hst
 have ha : (if cap = 0 then some (⟨b, off, none⟩ : Addr) else some ((⟨b, off, none⟩ : Addr).add (0 * s'))) = some ⟨b, off, none⟩ := by
  split
  ·rfl
  ·simp [add_pt]
 simp [execOp, hf.eval hx, hf.eval hh, Instr.sliceAt, Instr.slice, run_und (P := P) (t := t), Instr.sliceBounds, Instr.sliceBound, asIntOf, h0, h1, run_size (P := P) (t := e)]
 simpa using ha
/-- 'copy' into a row. -/
theorem opg_copyR {b o dLen dCap sLen k : Nat} {e t2 : TypeId} {cells cs : List Value} {u : Asrt → List Asrt} [SelR A (some ⟨b, 0, none⟩) cap len E 1 cells u] [TyI P t (.slice e) s by_ z] [TyI P e d' s' by' z'] (hs1 : Nat.beq s' 1 = true) (hx : ev F x = some (.slice (some ⟨b, o, none⟩) dLen dCap)) (hy : ev F y = some (.slice a2 sLen cap2))
  (hk : k = if sLen ≤ dLen then sLen else dLen) (hcs : cs.length = k) (h1 : cs.all (·.oneCell') = true) (hc : ∀ w, St w0 w A I → CellsOf w a2 cs) (hfit : o + k ≤ len) :
  OpG P w0 n ⟨dst, .call ⟨.builtin .copy, #[x, y], #[t, t2]⟩, ty, pos, af, gd⟩ F A I (fun v A' I' => v = .int .i64 (k : Nat) ∧ A' = u (Row (some ⟨b, 0, none⟩) cap len E 1 (cells.take o ++ cs ++ cells.drop (o + k))) ∧ I = I') := by
 have hs1' : s' = 1 := Nat.eq_of_beq_eq_true hs1
 subst hs1'
 refine opg_run fun tt w hf hst => ?_
 obtain ⟨hl, ⟨h, _⟩ | ⟨b', cur, hb', hb, hsz, hle, ht⟩⟩ := SelR.at (a := some ⟨b, 0, none⟩) hst
 ·cases h
 ·simp only [Option.some.injEq, Addr.mk.injEq, and_true] at hb'
  subst hb'
  have hmin : Nat.min sLen dLen = k := by
   rw [hk]
   show min sLen dLen = _
   rw [Nat.min_def]
  have hfc : (Builtin.firstCells 1 k (.slice a2 sLen cap2)).run P w = .ok cs.toArray w := by
   have := run_firstCells (P := P) (m := k) (sz := 1) (hc w hst) (by rw [hcs, Nat.mul_one]) cap2
   cases a2 with
   | none => exact this
   | some q => exact this
  obtain ⟨w', hr, ho, htp, hout, hdr, hsz', hb2, hne⟩ := run_storeCells_at' (P := P) o cs 0 cur w hb (by omega) (by simpa using h1)
  have hw : w' = { w with heap := w'.heap } := by cases w'; cases w; simp_all
  refine ⟨_, w', _, I, ?_, ⟨rfl, rfl, rfl⟩, ?_⟩
  ·simp [execOp, resolve, invoke, builtin, hf.eval hx, hf.eval hy, Builtin.copy_, run_und (P := P) (t := t), run_size (P := P) (t := e), Builtin.lenOf, hmin, hfc, hr, goInt]
  ·rw [hw]
   refine SelR.set hst len _ rfl _ _ hsz' hb2 hne ?_ ?_ hle ?_
   ·simp only [List.length_append, List.length_take, List.length_drop, hcs]; omega
   ·simp only [List.size_toArray, List.length_append, List.length_take, List.length_drop, Array.length_toList, hcs]; omega
   ·simp only [Nat.add_zero, hcs, Nat.mul_one] at ht ⊢
    rw [← ht]
    exact take_splice cur.toList cs _ k _ hcs (by omega) (by simp; omega)
theorem wu64 {x : Int} (h1 : 0 ≤ x) (h2 : x ≤ 18446744073709551615) : IntKind.u64.wrap x = x := by
 simp [IntKind.wrap, IntKind.signed, IntKind.bits]
 omega
theorem opv_and32 {xt yt : TypeId} {v : Int} (hx : ev F x = some (.int .u64 v)) (hy : ev F y = some (.int .u64 4294967295)) (h0 : 0 ≤ v) (h1 : v ≤ 4294967295) : OpV P w0 n ⟨dst, .binOp .and xt x y yt, ty, pos, af, gd⟩ F A I (.int .u64 v) :=
 fun t w hf hs => by
  obtain ⟨m, rfl⟩ : ∃ m : Nat, v = m := ⟨v.toNat, by omega⟩
  have e : (BitVec.ofInt IntKind.u64.bits (m : Int) &&& BitVec.ofInt IntKind.u64.bits 4294967295).toNat = m := by
   rw [BitVec.toNat_and]
   show (BitVec.ofInt 64 (m : Int)).toNat &&& 4294967295 = m
   rw [BitVec.ofInt_natCast, BitVec.toNat_ofNat, Nat.mod_eq_of_lt (by omega)]
   have := Nat.and_two_pow_sub_one_eq_mod m 32
   rw [show (4294967295 : Nat) = 2 ^ 32 - 1 by rfl, this]
   exact Nat.mod_eq_of_lt (by omega)
  simp only [execOp, hf.eval hx, hf.eval hy, eqGuard_and, binOp_and, Op.intBits, e, Sem.run_bind, Sem.run_pure, Result.andThen_ok, wu64 (show (0 : Int) ≤ m by omega) (by omega)]
theorem opv_shr32 {xt yt : TypeId} {v : Int} {yk : IntKind} (hx : ev F x = some (.int .u64 v)) (hy : ev F y = some (.int yk 32)) (h0 : 0 ≤ v) (h1 : v ≤ 4294967295) : OpV P w0 n ⟨dst, .binOp .shr xt x y yt, ty, pos, af, gd⟩ F A I (.int .u64 0) :=
 opv_shr hx hy (by omega) (by
  show v.fdiv (2 ^ 32) = 0
  rw [Int.fdiv_eq_ediv_of_nonneg _ (by omega)]
  omega)
theorem tri_rowPt {sz : Nat} {cells : List Value} {K : Act → World → Prop} (ha : a ≠ none) (h : ∀ b, a = some ⟨b, 0, none⟩ → Tri w0 n F (Row a cap len E sz cells :: A) I K) : Tri w0 n F (Row a cap len E sz cells :: A) I K := by
 intro t w hf hs
 have h2 := hs
 obtain ⟨cs, h1, _⟩ := hs
 obtain ⟨c, cs', rfl, ⟨hl, ⟨e, _⟩ | ⟨b, cur, e, _⟩⟩, hr⟩ := h1.cons_inv
 ·exact absurd e ha
 ·exact h b e t w hf h2
theorem row_cellsOf {sz : Nat} {cells cs : List Value} {u : Asrt → List Asrt} [SelR A a cap len E sz cells u] {w : World} (hs : St w0 w A I) (h : cs <+: cells) : CellsOf w a cs := by
 obtain ⟨hl, ⟨_, _, h0⟩ | ⟨b, cur, e, hb, hsz, hle, ht⟩⟩ := SelR.at (a := a) hs
 ·subst h0
  rw [Nat.zero_mul] at hl
  have : cells = [] := List.eq_nil_of_length_eq_zero hl
  subst this
  exact .inl (List.prefix_nil.1 h)
 ·refine .inr ⟨b, 0, cur, E, (0, 0), e, hb, fun j hj => ?_⟩
  obtain ⟨r, rfl⟩ := h
  have h1 : (cs ++ r)[j]? = cs[j]? := List.getElem?_append_left hj
  rw [← h1, ← ht, List.getElem?_take]
  have hlt : j < len * sz := by
   rw [← hl, List.length_append]
   omega
  rw [if_pos hlt, Nat.zero_add]
  simp
/-- 'make' of elements of more cells. -/
theorem opg_makeSliceN {k k2 : IntKind} {m : Nat} {e : TypeId} [TyI P t (.slice e) s by_ z] [TyI P e d' s' by' z'] (hs0 : Nat.blt 0 s' = true) (hx : ev F x = some (.int k (m : Int))) (hy : ev F y = some (.int k2 (m : Int))) (h1 : m ≤ 1000000000) (hb : (by' : Int) * (m : Int) ≤ 281474976710656) :
  OpG P w0 n ⟨dst, .makeSlice t x y, ty, pos, af, gd⟩ F A I (fun v A' I' => ∃ a, a ≠ none ∧ v = .slice a m m ∧ A' = Row a m m e s' (reps m z') :: A ∧ I = I') := by
 refine opg_run fun tt w hf hst => ?_
 have hs0' : 0 < s' := Nat.le_of_ble_eq_true hs0
 obtain ⟨inf, hinf, hby⟩ := run_bytes (P := P) (t := e) w
 obtain ⟨zv, hzv, hzc⟩ := run_zero (P := P) (t := e) w
 have hm : IntKind.i64.wrap (m : Int) = m := w64 (by omega) (by omega)
 have hzl : z'.length = s' := Nat.eq_of_beq_eq_true (by simpa using TyI.zl (P := P) (t := e))
 have hzsz : zv.cells.size = s' := by rw [← hzl, ← hzc]; simp
 have hcells : ((Array.range (m * s')).map (fun j => zv.cells[j % zv.cells.size]!)) = (reps m z').toArray := by
  apply Array.ext'
  simp only [Array.toList_map, Array.toList_range]
  apply List.ext_getElem?
  intro j
  by_cases hj : j < m * s'
  ·rw [List.getElem?_map, List.getElem?_range hj, reps_get z' (by omega) m j (by rw [hzl]; exact hj)]
   have hmd : j % s' < s' := Nat.mod_lt _ hs0'
   rw [Option.map_some, hzsz, hzl, ← hzc, Array.getElem?_toList, getElem!_pos zv.cells (j % s') (by omega), Array.getElem?_eq_getElem (by omega)]
  ·rw [List.getElem?_eq_none (by simp; omega), List.getElem?_eq_none (by rw [reps_length, hzl]; omega)]
 have hrl : (reps m z').length = m * s' := by rw [reps_length, hzl]
 refine ⟨.slice (some ⟨w.heap.size, 0, none⟩) m m, w.alloc (.cells (reps m z').toArray e), _, I, ?_, ⟨_, by simp, rfl, rfl, rfl⟩, ?_⟩
 ·have hbb : ¬ (281474976710656 < (by' : Int) * (m : Int)) := by omega
  by_cases hm0 : m = 0
  ·subst hm0
   have hr0 : reps 0 z' = [] := rfl
   rw [hr0]
   simp [execOp, Instr.makeSlice, hf.eval hx, hf.eval hy, run_und (P := P) (t := t), asInt, asIntOf, hinf, hby, run_size (P := P) (t := e), newRow, Array.range_zero', show IntKind.i64.wrap 0 = 0 from rfl]
  ·have hms : m * s' ≠ 0 := by
    have := Nat.mul_pos (Nat.pos_of_ne_zero hm0) hs0'
    omega
   have hs00 : s' ≠ 0 := by omega
   simp [execOp, Instr.makeSlice, hf.eval hx, hf.eval hy, run_und (P := P) (t := t), asInt, asIntOf, hinf, hby, run_size (P := P) (t := e), newRow, hm, hm0, hs00, hzv, hbb, show ¬ ((m : Int) < 0) by omega]
   have hc2 : Array.map (fun x => zv.cells[x % zv.cells.size]!) (Array.range (m * s')) = (reps m z').toArray := hcells
   rw [hc2, if_neg hms]
 ·exact (hst.alloc (.cells (reps m z').toArray e)).weaken (by
   rintro c rfl
   exact ⟨hrl, .inr ⟨_, _, rfl, rfl, by simpa using hrl, Nat.le_refl _, by simp [← hrl]⟩⟩)
/-! #### many things held as one -/
theorem eraseIdx_perm {α : Type} : ∀ (L : List α) (i : Nat) (h : i < L.length), (L[i] :: L.eraseIdx i).Perm L
 | [], i, h => absurd h (by simp)
 | x :: L, 0, h => List.Perm.refl _
 | x :: L, i + 1, h => by
  have h' : i < L.length := by simpa using h
  exact (List.Perm.swap x (L[i]'h') _).trans ((eraseIdx_perm L i h').cons x)
def Stars (L : List Asrt) : Asrt := fun c => Seps L c
theorem Seps.stars {L A : List Asrt} {cs : List Chunk} : Seps (Stars L :: A) cs ↔ Seps (L ++ A) cs := by
 constructor
 ·intro h
  obtain ⟨c, cs', rfl, h1, h2⟩ := h.cons_inv
  exact Seps.append h1 h2
 ·intro h
  obtain ⟨c1, c2, rfl, h1, h2⟩ := h.append_inv
  exact .cons h1 h2
theorem tri_stars {L : List Asrt} {K : Act → World → Prop} (h : Tri w0 n F (L ++ A) I K) : Tri w0 n F (Stars L :: A) I K := fun t w hf ⟨cs, h1, h2⟩ => h t w hf ⟨cs, Seps.stars.1 h1, h2⟩
theorem tri_toStars {L : List Asrt} {K : Act → World → Prop} (h : Tri w0 n F (Stars L :: A) I K) : Tri w0 n F (L ++ A) I K := fun t w hf ⟨cs, h1, h2⟩ => h t w hf ⟨cs, Seps.stars.2 h1, h2⟩
/-- The i-th one is taken out. -/
theorem tri_starOut {L : List Asrt} {i : Nat} {a : Asrt} {K : Act → World → Prop} (hi : L[i]? = some a) (h : Tri w0 n F (a :: Stars (L.eraseIdx i) :: A) I K) : Tri w0 n F (Stars L :: A) I K := by
 refine tri_stars fun t w hf hs => h t w hf ?_
 have hp : (L ++ A).Perm (a :: (L.eraseIdx i ++ A)) := by
  have := List.getElem?_eq_some_iff.1 hi
  obtain ⟨hlt, he⟩ := this
  have h2 := (eraseIdx_perm L i hlt).symm
  rw [he] at h2
  exact (h2.append_right A)
 obtain ⟨cs, h1, h2⟩ := hs.perm hp
 obtain ⟨c, cs', rfl, h3, h4⟩ := h1.cons_inv
 exact ⟨_, .cons h3 (Seps.stars.2 h4), h2⟩
/-- .. and another one put into its place. -/
theorem tri_starIn {L : List Asrt} {i : Nat} {a : Asrt} {K : Act → World → Prop} (hi : i < L.length) (h : Tri w0 n F (Stars (L.set i a) :: A) I K) : Tri w0 n F (a :: Stars (L.eraseIdx i) :: A) I K := by
 intro t w hf hs
 refine h t w hf ?_
 obtain ⟨cs, h1, h2⟩ := hs
 obtain ⟨c, cs', rfl, h3, h4⟩ := h1.cons_inv
 have h5 : Seps (a :: (L.eraseIdx i ++ A)) (c ++ cs') := .cons h3 (Seps.stars.1 h4)
 have hp : (a :: (L.eraseIdx i ++ A)).Perm (L.set i a ++ A) := by
  have hlt : i < (L.set i a).length := by rw [List.length_set]; exact hi
  have h6 := eraseIdx_perm (L.set i a) i hlt
  rw [List.getElem_set_self, List.eraseIdx_set_eq] at h6
  exact h6.append_right A
 obtain ⟨cs2, h7, h8⟩ := h5.perm hp
 exact ⟨cs2, Seps.stars.2 h7, h2.perm (h8.append_right I)⟩
theorem seps_nilRows {E : TypeId} : ∀ (l : List Asrt), (∀ r ∈ l, r []) → Seps l []
 | [], _ => .nil
 | r :: l, h => by
  have := Seps.cons (h r (by simp)) (seps_nilRows (E := E) l fun x hx => h x (by simp [hx]))
  simpa using this
theorem tri_starsNil {L : List Asrt} {K : Act → World → Prop} (hL : ∀ r ∈ L, r []) (h : Tri w0 n F (Stars L :: A) I K) : Tri w0 n F A I K := by
 intro t w hf ⟨cs, h1, h2⟩
 refine h t w hf ⟨[] ++ cs, .cons (seps_nilRows (E := 0) L hL) h1, by simpa using h2⟩
/-- All rows are frozen. -/
theorem tri_freezeStars {E : TypeId} {ad : Nat → Option Addr} {cp : Nat → Nat} {xs : Nat → List Int} {K : Act → World → Prop} : ∀ (m : Nat) {A : List Asrt} {I : List Chunk}, (∀ I', I ⊆ I' → (∀ t, t < m → SlAt I' (ad t) (xs t)) → Tri w0 n F A I' K) →
  Tri w0 n F (Stars ((List.range m).map fun t => Row (ad t) (cp t) (xs t).length E 1 (encs (xs t))) :: A) I K
 | 0, A, I, h => tri_stars (h I (fun _ h => h) fun t ht => by omega)
 | m + 1, A, I, h => by
  rw [List.range_succ, List.map_append]
  refine tri_stars ?_
  refine tri_perm (B := Row (ad m) (cp m) (xs m).length E 1 (encs (xs m)) :: ((List.range m).map (fun t => Row (ad t) (cp t) (xs t).length E 1 (encs (xs t))) ++ A)) ?_ ?_
  ·rw [List.append_assoc]
   exact List.perm_middle
  ·refine tri_freezeRow rfl fun I1 hI1 hs1 => ?_
   refine tri_toStars ?_
   refine tri_freezeStars m fun I2 hI2 hs2 => h I2 (fun _ h => hI2 (hI1 h)) fun t ht => ?_
   by_cases e : t = m
   ·subst e
    exact hs1.mono hI2
   ·exact hs2 t (by omega)
theorem opv_nilCheckE {ad : Addr} {sz i fo : Nat} (hx : ev F x = some (epf (some ad) sz i fo)) : OpV P w0 n ⟨dst, .nilCheck x, ty, pos, af, gd⟩ F A I (epf (some ad) sz i fo) := fun t w hf hs => by simp [execOp, hf.eval hx, epf]
/-- 'x[:len(x):len(x)]'. -/
theorem opv_clip {α : Type} [Enc α] {xs : List α} {hi mx : Operand} {e : TypeId} [TyI P t (.slice e) s by_ z] [TyI P e d' s' by' z'] (hx : ev F x = some (.slice a len cap)) (hh : ev F hi = some (.int .i64 (len : Int))) (hm : ev F mx = some (.int .i64 (len : Int))) (hs : StA I a cap xs) (hl : len = xs.length) :
  OpV P w0 n ⟨dst, .slice t x none (some hi) (some mx), ty, pos, af, gd⟩ F A I (.slice a len len) := by
 intro tt w hf hst
 have hle := hs.le
 have hc : len ≤ cap := by omega
 have ha : (if len = 0 then a else a.map (fun q => q.add (0 * s'))) = a := by
  split
  ·rfl
  ·rcases hs.sl with rfl | ⟨b, off, rfl, _⟩
   ·simp at hl; omega
   ·simp [add_pt]
 simp [execOp, hf.eval hx, hf.eval hh, hf.eval hm, Instr.sliceAt, Instr.slice, run_und (P := P) (t := t), Instr.sliceBounds, Instr.sliceBound, asIntOf, hc, run_size (P := P) (t := e)]
 simpa using ha
theorem opv_indexAddrSP {ix : Operand} {e : TypeId} {k : IntKind} {i : Int} {b off : Nat} [TyI P t (.slice e) s by_ z] [TyI P e d' s' by' z'] (hx : ev F x = some (.slice (some ⟨b, off, none⟩) len cap)) (hi : ev F ix = some (.int k i)) (h0 : 0 ≤ i) (h1 : i < len) :
  OpV P w0 n ⟨dst, .indexAddr t x ix, ty, pos, af, gd⟩ F A I (epf (some ⟨b, off, none⟩) s' i.toNat 0) := by
 intro tt w hf hst
 simp [execOp, hf.eval hx, hf.eval hi, Instr.indexAt, asIntOf, run_und (P := P) (t := t), h0, h1, run_size (P := P) (t := e), add_pt, epf]
end
section
variable {w0 : World} {n : Nat} {F : Frm} {A : List Asrt} {I : List Chunk} {P : Program} {dst : Option Tmp} {ty t : TypeId} {pos : String} {af : Array Edge} {gd : Option (Nat × Bool)} {x y : Operand} {xt yt : TypeId} {a b : Nat}
theorem opv_quoN {z : Nat} (hx : ev F x = some (.int .i64 (a : Int))) (hy : ev F y = some (.int .i64 (b : Int))) (hb : 0 < b) (ha : a ≤ 1000000000) (hz : a / b = z) : OpV P w0 n ⟨dst, .binOp .quo xt x y yt, ty, pos, af, gd⟩ F A I (.int .i64 (z : Int)) := by
 subst hz
 have h1 : ((a : Int)).tdiv (b : Int) = ((a / b : Nat) : Int) := by
  rw [Int.tdiv_eq_ediv_of_nonneg (by omega)]
  exact (Int.natCast_ediv a b).symm
 have h2 : a / b ≤ a := Nat.div_le_self a b
 generalize a / b = z at *
 exact opv_quo hx hy (by omega) (by rw [h1]; exact w64 (by omega) (by omega))
theorem opv_remN {z : Nat} (hx : ev F x = some (.int .i64 (a : Int))) (hy : ev F y = some (.int .i64 (b : Int))) (hb : 0 < b) (hz : a % b = z) : OpV P w0 n ⟨dst, .binOp .rem xt x y yt, ty, pos, af, gd⟩ F A I (.int .i64 (z : Int)) := by
 subst hz
 exact opv_rem hx hy (by omega) (by
  rw [Int.tmod_eq_emod_of_nonneg (by omega)]
  exact (Int.natCast_emod a b).symm)
theorem opv_mulN {z : Nat} (hx : ev F x = some (.int .i64 (a : Int))) (hy : ev F y = some (.int .i64 (b : Int))) (hz : a * b = z) (hb : z ≤ 1000000000) : OpV P w0 n ⟨dst, .binOp .mul xt x y yt, ty, pos, af, gd⟩ F A I (.int .i64 (z : Int)) := by
 subst hz
 have h1 : (a : Int) * (b : Int) = ((a * b : Nat) : Int) := (Int.natCast_mul a b).symm
 generalize a * b = z at *
 exact opv_mul hx hy (by rw [h1]; exact w64 (by omega) (by omega))
end
section
variable {w0 : World} {n : Nat} {F : Frm} {A : List Asrt} {I : List Chunk} {P : Program} {Q : Exit → Act → World → Prop} {ops : Array Oper}
def AllSteps (P : Program) (w0 : World) (n : Nat) (ops : Array Oper) (Q : Exit → Act → World → Prop) (B : List Asrt) (J : List Chunk) (listed : Array Bool) (F : Frm) (A : List Asrt) (I : List Chunk) : List (Nat × List Nat) → Prop
 | [] => True
 | x :: xs => Step P w0 n ops Q B J x.1 x.2 listed F A I ∧ AllSteps P w0 n ops Q B J listed F A I xs
theorem AllSteps.get {B : List Asrt} {J : List Chunk} {listed : Array Bool} : ∀ {l : List (Nat × List Nat)}, AllSteps P w0 n ops Q B J listed F A I l → ∀ x ∈ l, Step P w0 n ops Q B J x.1 x.2 listed F A I
 | [], _, x, hx => by simp at hx
 | y :: l, h, x, hx => by
  rcases List.mem_cons.1 hx with rfl | hx
  ·exact h.1
  ·exact AllSteps.get h.2 x hx
/-- One of many. -/
theorem th_many {B : List Asrt} {J : List Chunk} {i : Nat} {ord : List Nat} {listed : Array Bool} (rs : List (Nat × List Nat)) (hr : Region.ready .any ops listed = i :: rs.map (·.1)) (hl : rs.all (fun x => Nat.beq x.2.length ord.length) = true) (h : Step P w0 n ops Q B J i ord listed F A I) (h2 : AllSteps P w0 n ops Q B J listed F A I rs) : TriH P w0 n ops Q B J (i :: ord) listed F A I := by
 intro t w hf hs hS
 refine wpAnyH_all hr (by simp) fun k hk => ?_
 rcases List.mem_cons.1 hk with rfl | hk
 ·exact h t w hf hs hS
 ·obtain ⟨x, hx, rfl⟩ := List.mem_map.1 hk
  have := AllSteps.get h2 x hx t w hf hs hS
  have hlx : x.2.length = ord.length := Nat.eq_of_beq_eq_true (List.all_eq_true.1 hl x hx)
  rw [hlx] at this
  exact this
end
end Go.GL

set_option linter.unusedVariables false
namespace Go.GL
open Go.Proofs
attribute [local irreducible] wpList Code.wp Exit.then Exit.inBlock Ends Tri TriH OpV OpG FnC epf wpAnyH
variable {A : List Asrt} {I : List Chunk}
/-- The kids' rows. -/
def kidRow (p : List Int) (fs : List Frame) (i t : Nat) : Asrt := Row (fs.getD t default).a (fs.getD t default).cap (R19.kidsTo p i t).length 3 1 (encs (R19.kidsTo p i t))
def kidRows (p : List Int) (fs : List Frame) (i : Nat) : List Asrt := (List.range fs.length).map (kidRow p fs i)
theorem kidRows_at {p : List Int} {fs : List Frame} {i t : Nat} (h : t < fs.length) : (kidRows p fs i)[t]? = some (kidRow p fs i t) := by
 unfold kidRows
 rw [List.getElem?_map, List.getElem?_range h]
 rfl
theorem kidRows_len {p : List Int} {fs : List Frame} {i : Nat} : (kidRows p fs i).length = fs.length := by simp [kidRows]
theorem getD_set' {α : Type} [Inhabited α] {l : List α} {i j : Nat} {v : α} (hi : i < l.length) : (l.set i v).getD j default = if j = i then v else l.getD j default := by
 rw [List.getD_eq_getElem?_getD, List.getElem?_set]
 by_cases e : i = j
 ·subst e
  rw [if_pos rfl, if_pos rfl, if_pos hi]
  rfl
 ·rw [if_neg e, if_neg (fun h => e h.symm), List.getD_eq_getElem?_getD]
/-- A frame whose kids are others: the rows turn at one place. -/
theorem kidRows_set {p : List Int} {fs fs' : List Frame} {i t : Nat} (ht : t < fs.length) (hl : fs'.length = fs.length) (h1 : p.getD i default = (t : Int)) (h2 : ∀ u, u ≠ t → (fs'.getD u default).a = (fs.getD u default).a ∧ (fs'.getD u default).cap = (fs.getD u default).cap) :
  (kidRows p fs i).set t (kidRow p fs' (i + 1) t) = kidRows p fs' (i + 1) := by
 apply List.ext_getElem?
 intro u
 rw [List.getElem?_set]
 by_cases hu : u < fs.length
 ·rw [kidRows_at (fs := fs') (by omega)]
  by_cases e : t = u
  ·subst e
   rw [if_pos rfl, if_pos (by rw [kidRows_len]; exact ht)]
  ·rw [if_neg e, kidRows_at hu]
   obtain ⟨h3, h4⟩ := h2 u (Ne.symm e)
   unfold kidRow
   rw [h3, h4, R19.kidsTo_succ, if_neg (by rw [h1]; omega), List.append_nil]
 ·have e1 : (kidRows p fs' (i + 1))[u]? = none := List.getElem?_eq_none (by rw [kidRows_len]; omega)
  rw [e1, if_neg (by omega)]
  exact List.getElem?_eq_none (by rw [kidRows_len]; omega)
theorem kidRows_same {p : List Int} {fs fs' : List Frame} {i j : Nat} (hl : fs'.length = fs.length) (h2 : ∀ u, u < fs.length → (fs'.getD u default).a = (fs.getD u default).a ∧ (fs'.getD u default).cap = (fs.getD u default).cap ∧ R19.kidsTo p j u = R19.kidsTo p i u) : kidRows p fs' j = kidRows p fs i := by
 unfold kidRows
 rw [hl]
 refine List.map_congr_left fun u hu => ?_
 obtain ⟨h3, h4, h5⟩ := h2 u (List.mem_range.1 hu)
 unfold kidRow
 rw [h3, h4, h5]
/-- The frames of tasks. -/
structure Frames (p v : List Int) (fs : List Frame) (i : Nat) : Prop where
 len : fs.length = p.length
 par : ∀ t, t < i → (fs.getD t default).par = p.getD t default
 sum : ∀ t, t < i → (fs.getD t default).sum = v.getD t default
 kid : ∀ t, t < p.length → (fs.getD t default).len = (R19.kidsTo p i t).length
 left : ∀ t, t < p.length → (fs.getD t default).left = ((R19.kidsTo p i t).length : Nat)
def frame0 : Frame := ⟨0, none, 0, 0, 0, 0⟩
theorem reps_frame0 : ∀ n, reps n [.int .i64 0, .slice none 0 0, .int .i64 0, .int .i64 0] = encs (List.replicate n frame0)
 | 0 => rfl
 | n + 1 => by
  show [_, _, _, _] ++ reps n _ = _
  rw [reps_frame0 n, List.replicate_succ, encs_cons]
  rfl
theorem frames0 (p v : List Int) : Frames p v (List.replicate p.length frame0) 0 := by
 refine ⟨by simp, fun t h => by omega, fun t h => by omega, fun t h => ?_, fun t h => ?_⟩
 ·rw [List.getD_eq_getElem?_getD, List.getElem?_replicate, if_pos h]; rfl
 ·rw [List.getD_eq_getElem?_getD, List.getElem?_replicate, if_pos h]; rfl
set_option maxHeartbeats 2000000 in
set_option maxRecDepth 100000 in
theorem fork_of {p v : List Int} {a a2 : Option Addr} {cap cap2 : Nat} (hs : SlAt I a p) (hs2 : SlAt I a2 v) (hr : R19.right p) (hv : v.length = p.length) :
  FnC Try.prog 21 [.slice a p.length cap, .slice a2 v.length cap2].toArray A I (fun r A' I' => ∃ a' fs, a' ≠ none ∧ r = .agg [.slice a' p.length p.length, .bool false].toArray ∧ A' = Row a' p.length p.length 54 4 (encs fs) :: A ∧ Frames p v fs p.length ∧ (∀ t, t < p.length → SlAt I' (fs.getD t default).a (R19.kids p t)) ∧ I ⊆ I') := by
 have hn := hr.1.2
 skip
 refine fn_enter2 Try.func21 rfl Try.ntmps21 rfl fun w0 => ?_
 refine tS (tR ?_)
 refine tri_g opg_alloc rfl ?_
 rintro _ _ _ ⟨b4, rfl, rfl, rfl⟩
 refine tN (tT (tS (tR (tM rfl rfl ?_))))
 refine tri_v (opv_len rfl) rfl ?_
 refine tri_g (opg_makeSliceN rfl rfl rfl (by omega) (by omega)) rfl ?_
 rintro _ _ _ ⟨a5, ha5, rfl, rfl, rfl⟩
 rw [reps_frame0]
 refine tri_perm (List.Perm.swap _ _ _) ?_
 refine tri_starsNil (L := kidRows p (List.replicate p.length frame0) 0) ?_ ?_
 ·intro r hr'
  obtain ⟨t, ht, rfl⟩ := List.mem_map.1 hr'
  have ht2 : t < p.length := by simpa using List.mem_range.1 ht
  have e : (List.replicate p.length frame0).getD t default = frame0 := by rw [List.getD_eq_getElem?_getD, List.getElem?_replicate, if_pos ht2]; rfl
  unfold kidRow
  rw [e]
  exact ⟨rfl, .inl ⟨rfl, rfl, rfl, rfl⟩⟩
 skip
 refine tA rfl rfl (tN (tT (tS (tS (tR (tM rfl rfl ?_))))))
 refine tri_v (opv_len rfl) rfl ?_
 refine tM rfl rfl (tN (tT (tri_block ?_)))
 refine tri_sub (F' := [(1, .slice a2 v.length cap2), (4, pt b4 0), (5, .slice a5 p.length p.length), (11, .slice a p.length cap), (12, .int .i64 (p.length : Nat)), (13, .int .i64 (0 : Nat))]) ⟨rfl, rfl, rfl, rfl, rfl, rfl, trivial⟩ ?_
 refine loop_ind (G := Nat × List Frame) (fun g => p.length - g.1) (fun g => g.1 ≤ p.length ∧ Frames p v g.2 g.1) (fun g => [(1, .slice a2 v.length cap2), (4, pt b4 0), (5, .slice a5 p.length p.length), (11, .slice a p.length cap), (12, .int .i64 (p.length : Nat)), (13, .int .i64 (g.1 : Nat))]) (fun g => Stars (kidRows p g.2 g.1) :: Box b4 [.slice none 0 0, .bool false] 47 :: Row a5 p.length p.length 54 4 (encs g.2) :: A) (fun _ => I) ?_ (0, List.replicate p.length frame0) ⟨by simp, frames0 p v⟩
 rintro ⟨i, fs⟩ ⟨hi, hfs⟩ K hK
 simp only at hi hfs hK ⊢
 have hfl := hfs.len
 skip
 refine tS (tR ?_)
 refine tri_v (opv_lss rfl rfl) rfl ?_
 refine tN (tT (tS ?_))
 refine tri_cond_dec rfl (fun h => ?_) (fun h => ?_)
 ·have hil : i < p.length := by omega
  have ti : (i : Int).toNat = i := rfl
  refine tri_skip (tT (tS (tri_block (tS (tR (tM rfl rfl ?_))))))
  refine tri_v (by first | exact opv_indexAddrA rfl rfl (by first | decide | omega) (by first | decide | omega) | exact opv_indexAddrSN rfl rfl (by omega) (by assumption) (by first | rfl | omega) | exact opv_indexAddrS rfl rfl (by omega) (by omega) (by assumption) (by first | rfl | omega) | exact opv_indexAddrE rfl (by assumption) (by omega) rfl (by first | decide | omega) (by first | decide | omega) | exact opv_indexAddrRN rfl rfl (by omega) | exact opv_indexAddrR rfl rfl (by omega) (by omega) | exact opv_indexAddrRA rfl (by omega) rfl (by first | decide | omega) (by first | decide | omega) | exact opv_indexAddrSP rfl rfl (by omega) (by omega)) rfl ?_
  refine tri_v (by first | exact opv_load1 rfl rfl rfl | exact opv_loadA rfl rfl rfl | exact opv_loadE1 rfl (by assumption) rfl (by omega) rfl rfl | exact opv_loadEA rfl (by assumption) rfl (by omega) rfl rfl | exact opv_loadRX1 rfl rfl (by omega) rfl rfl | exact opv_loadRXA rfl rfl (by omega) rfl rfl rfl | exact opv_loadIX rfl rfl (by omega) | exact opv_loadR1 rfl rfl rfl | exact opv_loadRA rfl rfl rfl rfl) rfl ?_
  refine tA rfl rfl (tA rfl rfl (tN (tT (tS (tR (tM rfl rfl (tM rfl rfl ?_)))))))
  refine tM rfl rfl (tM rfl rfl (tM rfl rfl (tM rfl rfl (tM rfl rfl ?_))))
  refine tri_v (by first | exact opv_indexAddrA rfl rfl (by first | decide | omega) (by first | decide | omega) | exact opv_indexAddrSN rfl rfl (by omega) (by assumption) (by first | rfl | omega) | exact opv_indexAddrS rfl rfl (by omega) (by omega) (by assumption) (by first | rfl | omega) | exact opv_indexAddrE rfl (by assumption) (by omega) rfl (by first | decide | omega) (by first | decide | omega) | exact opv_indexAddrRN rfl rfl (by omega) | exact opv_indexAddrR rfl rfl (by omega) (by omega) | exact opv_indexAddrRA rfl (by omega) rfl (by first | decide | omega) (by first | decide | omega) | exact opv_indexAddrSP rfl rfl (by omega) (by omega)) rfl ?_
  refine tri_v (by first | exact opv_load1 rfl rfl rfl | exact opv_loadA rfl rfl rfl | exact opv_loadE1 rfl (by assumption) rfl (by omega) rfl rfl | exact opv_loadEA rfl (by assumption) rfl (by omega) rfl rfl | exact opv_loadRX1 rfl rfl (by omega) rfl rfl | exact opv_loadRXA rfl rfl (by omega) rfl rfl rfl | exact opv_loadIX rfl rfl (by omega) | exact opv_loadR1 rfl rfl rfl | exact opv_loadRA rfl rfl rfl rfl) rfl ?_
  refine tri_v (by first | exact opv_indexAddrA rfl rfl (by first | decide | omega) (by first | decide | omega) | exact opv_indexAddrSN rfl rfl (by omega) (by assumption) (by first | rfl | omega) | exact opv_indexAddrS rfl rfl (by omega) (by omega) (by assumption) (by first | rfl | omega) | exact opv_indexAddrE rfl (by assumption) (by omega) rfl (by first | decide | omega) (by first | decide | omega) | exact opv_indexAddrRN rfl rfl (by omega) | exact opv_indexAddrR rfl rfl (by omega) (by omega) | exact opv_indexAddrRA rfl (by omega) rfl (by first | decide | omega) (by first | decide | omega) | exact opv_indexAddrSP rfl rfl (by omega) (by omega)) rfl ?_
  refine tri_v (by first | exact opv_fieldAddr rfl rfl | exact opv_fieldAddrE rfl (by assumption) (by omega) rfl | exact opv_fieldAddrR rfl (by omega) rfl | exact opv_fieldAddrP rfl rfl rfl) rfl ?_
  try rw [ti]
  refine tri_g (opg_storeRX ({ fs.getD i default with par := p.getD i default } : Frame) rfl rfl rfl (by omega) (by omega) rfl rfl rfl rfl) rfl ?_
  rintro _ _ _ ⟨rfl, rfl⟩
  obtain ⟨f1, e1⟩ : ∃ f1, fs.set i ({ fs.getD i default with par := p.getD i default } : Frame) = f1 := ⟨_, rfl⟩
  rw [e1]
  have l1 : f1.length = p.length := by rw [← e1, List.length_set, hfl]
  refine tri_v (by first | exact opv_indexAddrA rfl rfl (by first | decide | omega) (by first | decide | omega) | exact opv_indexAddrSN rfl rfl (by omega) (by assumption) (by first | rfl | omega) | exact opv_indexAddrS rfl rfl (by omega) (by omega) (by assumption) (by first | rfl | omega) | exact opv_indexAddrE rfl (by assumption) (by omega) rfl (by first | decide | omega) (by first | decide | omega) | exact opv_indexAddrRN rfl rfl (by omega) | exact opv_indexAddrR rfl rfl (by omega) (by omega) | exact opv_indexAddrRA rfl (by omega) rfl (by first | decide | omega) (by first | decide | omega) | exact opv_indexAddrSP rfl rfl (by omega) (by omega)) rfl ?_
  refine tri_v (by first | exact opv_fieldAddr rfl rfl | exact opv_fieldAddrE rfl (by assumption) (by omega) rfl | exact opv_fieldAddrR rfl (by omega) rfl | exact opv_fieldAddrP rfl rfl rfl) rfl ?_
  refine tri_g (opg_storeRX ({ f1.getD i default with sum := v.getD i default } : Frame) rfl rfl rfl (by omega) (by omega) rfl rfl rfl rfl) rfl ?_
  rintro _ _ _ ⟨rfl, rfl⟩
  obtain ⟨f2, e2⟩ : ∃ f2, f1.set i ({ f1.getD i default with sum := v.getD i default } : Frame) = f2 := ⟨_, rfl⟩
  rw [e2]
  have l2 : f2.length = p.length := by rw [← e2, List.length_set, l1]
  have g2 : ∀ u, f2.getD u default = if u = i then { fs.getD i default with par := p.getD i default, sum := v.getD i default } else fs.getD u default := by
   intro u
   rw [← e2, getD_set' (by omega), ← e1, getD_set' (by omega), if_pos rfl, getD_set' (by omega)]
   split <;> rfl
  have keep : ∀ u, (f2.getD u default).a = (fs.getD u default).a ∧ (f2.getD u default).cap = (fs.getD u default).cap ∧ (f2.getD u default).len = (fs.getD u default).len ∧ (f2.getD u default).left = (fs.getD u default).left := by
   intro u
   rw [g2]
   split
   ·rename_i e; subst e; exact ⟨rfl, rfl, rfl, rfl⟩
   ·exact ⟨rfl, rfl, rfl, rfl⟩
  have ps : ∀ u, u < i + 1 → (f2.getD u default).par = p.getD u default ∧ (f2.getD u default).sum = v.getD u default := by
   intro u hu
   rw [g2]
   split
   ·rename_i e; subst e; exact ⟨rfl, rfl⟩
   ·exact ⟨hfs.par u (by omega), hfs.sum u (by omega)⟩
  have hrow : kidRows p fs i = kidRows p f2 i := (kidRows_same (by omega) fun u _ => ⟨(keep u).1, (keep u).2.1, rfl⟩).symm
  rw [hrow]
  refine tN (tT (tS (tR (tM rfl rfl ?_))))
  refine tri_v (opv_geq rfl rfl) rfl ?_
  refine tN (tT ?_)
  refine tri_cond_dec rfl (fun h2 => ?_) (fun h2 => ?_)
  ·obtain ⟨T, hT⟩ : ∃ T : Nat, p.getD i default = (T : Int) := ⟨(p.getD i default).toNat, by omega⟩
   have hTi : T < i := by
    have h3 := hr.2 i hil
    by_cases e0 : i = 0
    ·have := h3.1 e0; omega
    ·have := (h3.2 (by omega)).2; omega
   have tTn : (T : Int).toNat = T := rfl
   have hkl : (f2.getD T default).len = (R19.kidsTo p i T).length := by rw [(keep T).2.2.1]; exact hfs.kid T (by omega)
   have hkl2 := R19.kidsTo_len p T i
   have hlf : (f2.getD T default).left = ((R19.kidsTo p i T).length : Nat) := by rw [(keep T).2.2.2]; exact hfs.left T (by omega)
   try rw [ti]
   rw [hT]
   refine tri_starOut (kidRows_at (i := i) (t := T) (by omega)) ?_
   unfold kidRow
   refine tS (tR (tM rfl rfl (tM rfl rfl (tM rfl rfl (tM rfl rfl ?_)))))
   refine tri_v (by first | exact opv_indexAddrA rfl rfl (by first | decide | omega) (by first | decide | omega) | exact opv_indexAddrSN rfl rfl (by omega) (by assumption) (by first | rfl | omega) | exact opv_indexAddrS rfl rfl (by omega) (by omega) (by assumption) (by first | rfl | omega) | exact opv_indexAddrE rfl (by assumption) (by omega) rfl (by first | decide | omega) (by first | decide | omega) | exact opv_indexAddrRN rfl rfl (by omega) | exact opv_indexAddrR rfl rfl (by omega) (by omega) | exact opv_indexAddrRA rfl (by omega) rfl (by first | decide | omega) (by first | decide | omega) | exact opv_indexAddrSP rfl rfl (by omega) (by omega)) rfl ?_
   refine tri_v (by first | exact opv_fieldAddr rfl rfl | exact opv_fieldAddrE rfl (by assumption) (by omega) rfl | exact opv_fieldAddrR rfl (by omega) rfl | exact opv_fieldAddrP rfl rfl rfl) rfl ?_
   refine tri_v (by first | exact opv_load1 rfl rfl rfl | exact opv_loadA rfl rfl rfl | exact opv_loadE1 rfl (by assumption) rfl (by omega) rfl rfl | exact opv_loadEA rfl (by assumption) rfl (by omega) rfl rfl | exact opv_loadRX1 rfl rfl (by omega) rfl rfl | exact opv_loadRXA rfl rfl (by omega) rfl rfl rfl | exact opv_loadIX rfl rfl (by omega) | exact opv_loadR1 rfl rfl rfl | exact opv_loadRA rfl rfl rfl rfl) rfl ?_
   refine tM rfl rfl ?_
   refine tri_g (opg_buildSlice rfl rfl rfl rfl) rfl ?_
   rintro _ _ _ ⟨b41, rfl, rfl, rfl⟩
   try rw [tTn]
   rw [hkl]
   refine tri_g (opg_appendB rfl rfl rfl rfl (by omega) rfl) rfl ?_
   rintro _ _ _ ⟨a3, c3, rfl, rfl, rfl⟩
   refine tri_v (by first | exact opv_indexAddrA rfl rfl (by first | decide | omega) (by first | decide | omega) | exact opv_indexAddrSN rfl rfl (by omega) (by assumption) (by first | rfl | omega) | exact opv_indexAddrS rfl rfl (by omega) (by omega) (by assumption) (by first | rfl | omega) | exact opv_indexAddrE rfl (by assumption) (by omega) rfl (by first | decide | omega) (by first | decide | omega) | exact opv_indexAddrRN rfl rfl (by omega) | exact opv_indexAddrR rfl rfl (by omega) (by omega) | exact opv_indexAddrRA rfl (by omega) rfl (by first | decide | omega) (by first | decide | omega) | exact opv_indexAddrSP rfl rfl (by omega) (by omega)) rfl ?_
   refine tri_v (by first | exact opv_fieldAddr rfl rfl | exact opv_fieldAddrE rfl (by assumption) (by omega) rfl | exact opv_fieldAddrR rfl (by omega) rfl | exact opv_fieldAddrP rfl rfl rfl) rfl ?_
   try rw [tTn]
   refine tri_g (opg_storeRX ({ f2.getD T default with a := a3, len := (R19.kidsTo p i T).length + 1, cap := c3 } : Frame) rfl rfl rfl (by omega) (by omega) rfl rfl rfl rfl) rfl ?_
   rintro _ _ _ ⟨rfl, rfl⟩
   obtain ⟨f3, e3⟩ : ∃ f3, f2.set T ({ f2.getD T default with a := a3, len := (R19.kidsTo p i T).length + 1, cap := c3 } : Frame) = f3 := ⟨_, rfl⟩
   rw [e3]
   have l3 : f3.length = p.length := by rw [← e3, List.length_set, l2]
   have g3 : f3.getD T default = { f2.getD T default with a := a3, len := (R19.kidsTo p i T).length + 1, cap := c3 } := by rw [← e3, getD_set' (by omega), if_pos rfl]
   have hl3 : (f3.getD T default).left = ((R19.kidsTo p i T).length : Nat) := by rw [g3]; exact hlf
   refine tN (tT (tR (tM rfl rfl (tM rfl rfl ?_))))
   refine tri_v (by first | exact opv_indexAddrA rfl rfl (by first | decide | omega) (by first | decide | omega) | exact opv_indexAddrSN rfl rfl (by omega) (by assumption) (by first | rfl | omega) | exact opv_indexAddrS rfl rfl (by omega) (by omega) (by assumption) (by first | rfl | omega) | exact opv_indexAddrE rfl (by assumption) (by omega) rfl (by first | decide | omega) (by first | decide | omega) | exact opv_indexAddrRN rfl rfl (by omega) | exact opv_indexAddrR rfl rfl (by omega) (by omega) | exact opv_indexAddrRA rfl (by omega) rfl (by first | decide | omega) (by first | decide | omega) | exact opv_indexAddrSP rfl rfl (by omega) (by omega)) rfl ?_
   refine tri_v (by first | exact opv_fieldAddr rfl rfl | exact opv_fieldAddrE rfl (by assumption) (by omega) rfl | exact opv_fieldAddrR rfl (by omega) rfl | exact opv_fieldAddrP rfl rfl rfl) rfl ?_
   refine tri_v (by first | exact opv_load1 rfl rfl rfl | exact opv_loadA rfl rfl rfl | exact opv_loadE1 rfl (by assumption) rfl (by omega) rfl rfl | exact opv_loadEA rfl (by assumption) rfl (by omega) rfl rfl | exact opv_loadRX1 rfl rfl (by omega) rfl rfl | exact opv_loadRXA rfl rfl (by omega) rfl rfl rfl | exact opv_loadIX rfl rfl (by omega) | exact opv_loadR1 rfl rfl rfl | exact opv_loadRA rfl rfl rfl rfl) rfl ?_
   refine tri_v (by first | exact opv_add rfl rfl (w64 (by omega) (by omega))) rfl ?_
   refine tri_v (by first | exact opv_indexAddrA rfl rfl (by first | decide | omega) (by first | decide | omega) | exact opv_indexAddrSN rfl rfl (by omega) (by assumption) (by first | rfl | omega) | exact opv_indexAddrS rfl rfl (by omega) (by omega) (by assumption) (by first | rfl | omega) | exact opv_indexAddrE rfl (by assumption) (by omega) rfl (by first | decide | omega) (by first | decide | omega) | exact opv_indexAddrRN rfl rfl (by omega) | exact opv_indexAddrR rfl rfl (by omega) (by omega) | exact opv_indexAddrRA rfl (by omega) rfl (by first | decide | omega) (by first | decide | omega) | exact opv_indexAddrSP rfl rfl (by omega) (by omega)) rfl ?_
   refine tri_v (by first | exact opv_fieldAddr rfl rfl | exact opv_fieldAddrE rfl (by assumption) (by omega) rfl | exact opv_fieldAddrR rfl (by omega) rfl | exact opv_fieldAddrP rfl rfl rfl) rfl ?_
   try rw [tTn]
   refine tri_g (opg_storeRX ({ f3.getD T default with left := (f3.getD T default).left + 1 } : Frame) rfl rfl rfl (by omega) (by omega) rfl rfl rfl rfl) rfl ?_
   rintro _ _ _ ⟨rfl, rfl⟩
   obtain ⟨f4, e4⟩ : ∃ f4, f3.set T ({ f3.getD T default with left := (f3.getD T default).left + 1 } : Frame) = f4 := ⟨_, rfl⟩
   rw [e4]
   have l4 : f4.length = p.length := by rw [← e4, List.length_set, l3]
   have g4 : ∀ u, f4.getD u default = if u = T then { f2.getD T default with a := a3, len := (R19.kidsTo p i T).length + 1, cap := c3, left := (f2.getD T default).left + 1 } else f2.getD u default := by
    intro u
    rw [← e4, getD_set' (by omega), g3]
    split
    ·rfl
    ·rename_i hne
     rw [← e3, getD_set' (by omega), if_neg hne]
   have hrow4 : kidRow p f4 (i + 1) T = Row a3 c3 ((R19.kidsTo p i T).length + 1) 3 1 (encs (R19.kidsTo p i T) ++ [.int .i64 (i : Int)]) := by
    unfold kidRow
    rw [g4, if_pos rfl, R19.kidsTo_succ, if_pos hT, List.length_append, encs_append]
    rfl
   have hk1 : ∀ u, u ≠ T → R19.kidsTo p (i + 1) u = R19.kidsTo p i u := fun u hu => by rw [R19.kidsTo_succ, if_neg (by rw [hT]; omega), List.append_nil]
   have hkT : (R19.kidsTo p (i + 1) T).length = (R19.kidsTo p i T).length + 1 := by rw [R19.kidsTo_succ, if_pos hT, List.length_append]; rfl
   refine tN ?_
   refine tri_inBlock ?_
   refine tT (tR ?_)
   refine tri_v (by first | exact opv_add rfl rfl (w64 (by omega) (by omega))) rfl ?_
   refine tM rfl rfl (tN (tT ?_))
   refine tri_drop ?_
   refine tri_rowEq (len' := (R19.kidsTo p i T).length + 1) (cells' := encs (R19.kidsTo p i T) ++ [.int .i64 (i : Int)]) rfl rfl ?_
   rw [← hrow4]
   refine tri_starIn (by rw [kidRows_len]; omega) ?_
   rw [kidRows_set (by omega) (by omega) hT (fun u hu => by rw [g4, if_neg hu]; exact ⟨rfl, rfl⟩)]
   refine tri_sub ?_ (hK (i + 1, f4) ⟨by simp only; omega, ⟨l4, fun u hu => ?_, fun u hu => ?_, fun u hu => ?_, fun u hu => ?_⟩⟩ (by simp only; omega))
   ·exact ⟨rfl, rfl, rfl, rfl, rfl, rfl, trivial⟩
   ·rw [g4]
    split
    ·rename_i e; subst e; exact (ps _ hu).1
    ·exact (ps u hu).1
   ·rw [g4]
    split
    ·rename_i e; subst e; exact (ps _ hu).2
    ·exact (ps u hu).2
   ·rw [g4]
    split
    ·rename_i e; subst e; rw [hkT]
    ·rename_i e; rw [hk1 u e, (keep u).2.2.1]; exact hfs.kid u hu
   ·rw [g4]
    split
    ·rename_i e; subst e; rw [hkT]; simp only; rw [hlf]; omega
    ·rename_i e; rw [hk1 u e, (keep u).2.2.2]; exact hfs.left u hu
  ·have hp : ∀ u : Nat, p.getD i default ≠ (u : Int) := fun u => by omega
   have hk1 : ∀ u, R19.kidsTo p (i + 1) u = R19.kidsTo p i u := fun u => by rw [R19.kidsTo_succ, if_neg (hp u), List.append_nil]
   have hrow2 : kidRows p f2 i = kidRows p f2 (i + 1) := (kidRows_same rfl fun u _ => ⟨rfl, rfl, hk1 u⟩).symm
   rw [hrow2]
   refine tri_skip ?_
   refine tri_inBlock ?_
   refine tT (tR ?_)
   refine tri_v (by first | exact opv_add rfl rfl (w64 (by omega) (by omega))) rfl ?_
   refine tM rfl rfl (tN (tT ?_))
   refine tri_sub ?_ (hK (i + 1, f2) ⟨by simp only; omega, ⟨l2, fun u hu => (ps u hu).1, fun u hu => (ps u hu).2, fun u hu => ?_, fun u hu => ?_⟩⟩ (by simp only; omega))
   ·exact ⟨rfl, rfl, rfl, rfl, rfl, rfl, trivial⟩
   ·rw [(keep u).2.2.1, hk1]; exact hfs.kid u hu
   ·rw [(keep u).2.2.2, hk1]; exact hfs.left u hu
 ·have ei : i = p.length := by omega
  subst ei
  unfold kidRows kidRow
  refine tri_freezeStars (ad := fun t => (fs.getD t default).a) (cp := fun t => (fs.getD t default).cap) (xs := fun t => R19.kidsTo p p.length t) fs.length fun I1 hI1 hk => ?_
  refine tri_exit ?_
  refine tri_then_exit ?_
  refine tri_then_exit ?_
  refine tri_inBlock_hit rfl ?_
  refine tT (tS (tR (tM rfl rfl ?_)))
  refine tri_v (by first | exact opv_buildS rfl rfl | exact opv_buildA rfl rfl) rfl ?_
  refine tri_g (opg_store rfl rfl rfl rfl rfl rfl) rfl ?_
  rintro _ _ _ ⟨rfl, rfl⟩
  refine tN (tT (tri_ret ?_))
  refine tri_end _ (by first | exact ⟨[], rfl⟩ | exact ⟨[_], rfl⟩ | exact ⟨[_, _], rfl⟩ | exact ⟨[_, _, _], rfl⟩ | exact ⟨[_, _, _, _], rfl⟩ | exact ⟨[_, _, _, _, _], rfl⟩ | exact ⟨[_, _, _, _, _, _], rfl⟩ | exact ⟨[_, _, _, _, _, _, _], rfl⟩ | exact ⟨[_, _, _, _, _, _, _, _], rfl⟩) rfl (.cons (rv_cellA rfl rfl rfl) .nil) ⟨a5, fs, ha5, rfl, rfl, hfs, fun t ht => hk t (by omega), hI1⟩
end Go.GL

set_option linter.unusedVariables false
namespace Go.GL
open Go.Proofs
attribute [local irreducible] wpList Code.wp Exit.then Exit.inBlock Ends Tri TriH OpV OpG FnC epf wpAnyH
theorem setF_len (fs : List Frame) (p t : Nat) : (R19.less1 (R19.add1 fs p t) p).length = fs.length := by simp [R19.less1, R19.add1]
theorem setF_par (fs : List Frame) (p t u : Nat) : ((R19.less1 (R19.add1 fs p t) p).getD u default).par = (fs.getD u default).par := by
 unfold R19.less1 R19.add1
 by_cases hp : p < fs.length
 ·rw [getD_set' (by rw [List.length_set]; exact hp)]
  split
  ·rename_i e
   subst e
   show ((fs.set u _).getD u default).par = _
   rw [getD_set' hp, if_pos rfl]
  ·rename_i e
   rw [getD_set' hp, if_neg e]
 ·rw [List.set_eq_of_length_le (by rw [List.length_set]; omega), List.set_eq_of_length_le (by omega)]
set_option maxHeartbeats 2000000 in
set_option maxRecDepth 100000 in
theorem fork_join {c b N : Nat} {y2 y3 y4 y5 y6 : Value} (hN : N ≤ 1000) : ∀ (f : Nat) {A : List Asrt} {I : List Chunk} {fs : List Frame} {t : Nat} {e : Bool}, t < f → t < N → fs.length = N → (∀ u, u < N → (fs.getD u default).par < (u : Int)) →
  FnC Try.prog 34 [pt c 0, .int .i64 (t : Int)].toArray (Row (some ⟨b, 0, none⟩) N N 54 4 (encs fs) :: Box c [.slice (some ⟨b, 0, none⟩) N N, .bool e, y2, y3, y4, y5, y6] 50 :: A) I
   (fun v A' I' => Row (some ⟨b, 0, none⟩) N N 54 4 (encs (R19.joinM f fs t).1) :: Box c [.slice (some ⟨b, 0, none⟩) N N, .bool (e || (R19.joinM f fs t).2), y2, y3, y4, y5, y6] 50 :: A = A' ∧ I = I')
 | 0, _, _, _, _, _, h, _, _, _ => by omega
 | f + 1, A, I, fs, t, e, hf, ht, hl, hp => by
  have hpt := hp t ht
  skip
  refine fn_enter2 Try.func34 rfl Try.ntmps34 rfl fun w0 => ?_
  refine tS (tR (tM rfl rfl ?_))
  refine tri_v (by first | exact opv_nilCheckE rfl | exact opv_nilCheck rfl) rfl ?_
  refine tri_v (by first | exact opv_fieldAddr rfl rfl | exact opv_fieldAddrE rfl (by assumption) (by omega) rfl | exact opv_fieldAddrR rfl (by omega) rfl | exact opv_fieldAddrP rfl rfl rfl) rfl ?_
  refine tri_v (by first | exact opv_load1 rfl rfl rfl | exact opv_loadA rfl rfl rfl | exact opv_loadE1 rfl (by assumption) rfl (by omega) rfl rfl | exact opv_loadEA rfl (by assumption) rfl (by omega) rfl rfl | exact opv_loadRX1 rfl rfl (by omega) rfl rfl | exact opv_loadRXA rfl rfl (by omega) rfl rfl rfl | exact opv_loadIX rfl rfl (by omega) | exact opv_loadR1 rfl rfl rfl | exact opv_loadRA rfl rfl rfl rfl) rfl ?_
  refine tM rfl rfl ?_
  refine tri_v (by first | exact opv_indexAddrA rfl rfl (by first | decide | omega) (by first | decide | omega) | exact opv_indexAddrSN rfl rfl (by omega) (by assumption) (by first | rfl | omega) | exact opv_indexAddrS rfl rfl (by omega) (by omega) (by assumption) (by first | rfl | omega) | exact opv_indexAddrE rfl (by assumption) (by omega) rfl (by first | decide | omega) (by first | decide | omega) | exact opv_indexAddrRN rfl rfl (by omega) | exact opv_indexAddrR rfl rfl (by omega) (by omega) | exact opv_indexAddrRA rfl (by omega) rfl (by first | decide | omega) (by first | decide | omega) | exact opv_indexAddrSP rfl rfl (by omega) (by omega)) rfl ?_
  refine tri_v (by first | exact opv_fieldAddr rfl rfl | exact opv_fieldAddrE rfl (by assumption) (by omega) rfl | exact opv_fieldAddrR rfl (by omega) rfl | exact opv_fieldAddrP rfl rfl rfl) rfl ?_
  refine tri_v (by first | exact opv_load1 rfl rfl rfl | exact opv_loadA rfl rfl rfl | exact opv_loadE1 rfl (by assumption) rfl (by omega) rfl rfl | exact opv_loadEA rfl (by assumption) rfl (by omega) rfl rfl | exact opv_loadRX1 rfl rfl (by omega) rfl rfl | exact opv_loadRXA rfl rfl (by omega) rfl rfl rfl | exact opv_loadIX rfl rfl (by omega) | exact opv_loadR1 rfl rfl rfl | exact opv_loadRA rfl rfl rfl rfl) rfl ?_
  refine tA rfl rfl (tN (tT (tS (tS (tR (tM rfl rfl ?_))))))
  refine tri_v (opv_lss rfl rfl) rfl ?_
  refine tN (tT ?_)
  refine tri_cond_dec rfl (fun h => ?_) (fun h => ?_)
  ·have em : R19.joinM (f + 1) fs t = (fs, true) := by show (if _ then _ else _) = _; rw [if_pos h]
   rw [em]
   refine tS (tR (tM rfl rfl ?_))
   refine tri_v (by first | exact opv_nilCheckE rfl | exact opv_nilCheck rfl) rfl ?_
   refine tri_v (by first | exact opv_fieldAddr rfl rfl | exact opv_fieldAddrE rfl (by assumption) (by omega) rfl | exact opv_fieldAddrR rfl (by omega) rfl | exact opv_fieldAddrP rfl rfl rfl) rfl ?_
   refine tri_g (opg_store rfl rfl rfl rfl rfl rfl) rfl ?_
   rintro _ _ _ ⟨rfl, rfl⟩
   refine tN (tT (tri_ret (tri_then_ret ?_)))
   refine tri_end _ (by first | exact ⟨[], rfl⟩ | exact ⟨[_], rfl⟩ | exact ⟨[_, _], rfl⟩ | exact ⟨[_, _, _], rfl⟩ | exact ⟨[_, _, _, _], rfl⟩ | exact ⟨[_, _, _, _, _], rfl⟩ | exact ⟨[_, _, _, _, _, _], rfl⟩ | exact ⟨[_, _, _, _, _, _, _], rfl⟩ | exact ⟨[_, _, _, _, _, _, _, _], rfl⟩) rfl .nil ⟨?_, rfl⟩
   rw [Bool.or_true]
  ·obtain ⟨p, ep⟩ : ∃ p : Nat, (fs.getD t default).par = (p : Int) := ⟨(fs.getD t default).par.toNat, by omega⟩
   have tp : (p : Int).toNat = p := rfl
   have hpN : p < fs.length := by omega
   have em : R19.joinM (f + 1) fs t = if ((R19.less1 (R19.add1 fs p t) p).getD p default).left = 0 then R19.joinM f (R19.less1 (R19.add1 fs p t) p) p else (R19.less1 (R19.add1 fs p t) p, false) := by
    show (if (fs.getD t default).par < 0 then _ else _) = _
    rw [if_neg h, ep, tp]
   rw [em]
   have lA : (R19.add1 fs p t).length = N := by unfold R19.add1; rw [List.length_set, hl]
   have lB := setF_len fs p t
   have pB := setF_par fs p t
   try rw [ep]
   skip
   skip
   refine tri_skip (tT (tS (tR (tM rfl rfl ?_))))
   refine tri_v (by first | exact opv_nilCheckE rfl | exact opv_nilCheck rfl) rfl ?_
   refine tri_v (by first | exact opv_fieldAddr rfl rfl | exact opv_fieldAddrE rfl (by assumption) (by omega) rfl | exact opv_fieldAddrR rfl (by omega) rfl | exact opv_fieldAddrP rfl rfl rfl) rfl ?_
   refine tri_v (by first | exact opv_load1 rfl rfl rfl | exact opv_loadA rfl rfl rfl | exact opv_loadE1 rfl (by assumption) rfl (by omega) rfl rfl | exact opv_loadEA rfl (by assumption) rfl (by omega) rfl rfl | exact opv_loadRX1 rfl rfl (by omega) rfl rfl | exact opv_loadRXA rfl rfl (by omega) rfl rfl rfl | exact opv_loadIX rfl rfl (by omega) | exact opv_loadR1 rfl rfl rfl | exact opv_loadRA rfl rfl rfl rfl) rfl ?_
   refine tM rfl rfl ?_
   refine tri_v (by first | exact opv_indexAddrA rfl rfl (by first | decide | omega) (by first | decide | omega) | exact opv_indexAddrSN rfl rfl (by omega) (by assumption) (by first | rfl | omega) | exact opv_indexAddrS rfl rfl (by omega) (by omega) (by assumption) (by first | rfl | omega) | exact opv_indexAddrE rfl (by assumption) (by omega) rfl (by first | decide | omega) (by first | decide | omega) | exact opv_indexAddrRN rfl rfl (by omega) | exact opv_indexAddrR rfl rfl (by omega) (by omega) | exact opv_indexAddrRA rfl (by omega) rfl (by first | decide | omega) (by first | decide | omega) | exact opv_indexAddrSP rfl rfl (by omega) (by omega)) rfl ?_
   refine tA rfl rfl (tN (tT (tS ?_)))
   skip
   refine tri_cut (fun F' A' J => F' = [(0, pt c 0), (4, .int .i64 (p : Int)), (5, epf (some ⟨b, 0, none⟩) 4 p 0)] ∧ A' = Row (some ⟨b, 0, none⟩) N N 54 4 (encs (R19.add1 fs p t)) :: Box c [.slice (some ⟨b, 0, none⟩) N N, .bool e, y2, y3, y4, y5, y6] 50 :: A ∧ J = I) ?_ ?_
   ·refine tri_draw [0, 1, 2, 4, 5, 6, 7, 8, 9, 10, 3, 11, 12, 13, 14, 15] rfl [_] rfl mixed ?_
    refine th_take rfl rfl (by kernel_rfl)  (opv_move rfl) ?_
    refine th_take rfl rfl (by kernel_rfl)  (by first | exact opv_nilCheckE rfl | exact opv_nilCheck rfl) ?_
    refine th_take rfl rfl (by kernel_rfl)  (by first | exact opv_fieldAddr rfl rfl | exact opv_fieldAddrE rfl (by assumption) (by omega) rfl | exact opv_fieldAddrR rfl (by omega) rfl | exact opv_fieldAddrP rfl rfl rfl) ?_
    refine th_take rfl rfl (by kernel_rfl)  (opv_move rfl) ?_
    refine th_take rfl rfl (by kernel_rfl)  (by first | exact opv_nilCheckE rfl | exact opv_nilCheck rfl) ?_
    refine th_take rfl rfl (by kernel_rfl)  (by first | exact opv_fieldAddr rfl rfl | exact opv_fieldAddrE rfl (by assumption) (by omega) rfl | exact opv_fieldAddrR rfl (by omega) rfl | exact opv_fieldAddrP rfl rfl rfl) ?_
    refine th_take rfl rfl (by kernel_rfl)  (by first | exact opv_load1 rfl rfl rfl | exact opv_loadA rfl rfl rfl | exact opv_loadE1 rfl (by assumption) rfl (by omega) rfl rfl | exact opv_loadEA rfl (by assumption) rfl (by omega) rfl rfl | exact opv_loadRX1 rfl rfl (by omega) rfl rfl | exact opv_loadRXA rfl rfl (by omega) rfl rfl rfl | exact opv_loadIX rfl rfl (by omega) | exact opv_loadR1 rfl rfl rfl | exact opv_loadRA rfl rfl rfl rfl) ?_
    refine th_take rfl rfl (by kernel_rfl)  (opv_move rfl) ?_
    refine th_take rfl rfl (by kernel_rfl)  (by first | exact opv_indexAddrA rfl rfl (by first | decide | omega) (by first | decide | omega) | exact opv_indexAddrSN rfl rfl (by omega) (by assumption) (by first | rfl | omega) | exact opv_indexAddrS rfl rfl (by omega) (by omega) (by assumption) (by first | rfl | omega) | exact opv_indexAddrE rfl (by assumption) (by omega) rfl (by first | decide | omega) (by first | decide | omega) | exact opv_indexAddrRN rfl rfl (by omega) | exact opv_indexAddrR rfl rfl (by omega) (by omega) | exact opv_indexAddrRA rfl (by omega) rfl (by first | decide | omega) (by first | decide | omega) | exact opv_indexAddrSP rfl rfl (by omega) (by omega)) ?_
    refine th_take rfl rfl (by kernel_rfl)  (by first | exact opv_fieldAddr rfl rfl | exact opv_fieldAddrE rfl (by assumption) (by omega) rfl | exact opv_fieldAddrR rfl (by omega) rfl | exact opv_fieldAddrP rfl rfl rfl) ?_
    refine th_two (j := 11) [3, 12, 13, 14, 15] (by kernel_rfl) rfl ?_ ?_
    ·refine (step_m rfl rfl (OpV.toG (by first | exact opv_load1 rfl rfl rfl | exact opv_loadA rfl rfl rfl | exact opv_loadE1 rfl (by assumption) rfl (by omega) rfl rfl | exact opv_loadEA rfl (by assumption) rfl (by omega) rfl rfl | exact opv_loadRX1 rfl rfl (by omega) rfl rfl | exact opv_loadRXA rfl rfl (by omega) rfl rfl rfl | exact opv_loadIX rfl rfl (by omega) | exact opv_loadR1 rfl rfl rfl | exact opv_loadRA rfl rfl rfl rfl)) ?_)
     rintro _ _ _ ⟨rfl, rfl, rfl⟩
     refine ⟨Suf.h, (by first | exact fun _ h => h | assumption | exact fun _ h => (by assumption : _ ⊆ _) ((by assumption : _ ⊆ _) h)), ?_⟩
     refine th_one (by kernel_rfl) (step_m rfl rfl (OpV.toG (by first | exact opv_load1 rfl rfl rfl | exact opv_loadA rfl rfl rfl | exact opv_loadE1 rfl (by assumption) rfl (by omega) rfl rfl | exact opv_loadEA rfl (by assumption) rfl (by omega) rfl rfl | exact opv_loadRX1 rfl rfl (by omega) rfl rfl | exact opv_loadRXA rfl rfl (by omega) rfl rfl rfl | exact opv_loadIX rfl rfl (by omega) | exact opv_loadR1 rfl rfl rfl | exact opv_loadRA rfl rfl rfl rfl)) ?_)
     rintro _ _ _ ⟨rfl, rfl, rfl⟩
     refine ⟨Suf.h, (by first | exact fun _ h => h | assumption | exact fun _ h => (by assumption : _ ⊆ _) ((by assumption : _ ⊆ _) h)), ?_⟩
     refine th_take rfl rfl (by kernel_rfl)  (opv_add (z := IntKind.i64.wrap ((fs.getD p default).sum + (fs.getD t default).sum)) rfl rfl rfl) ?_
     refine th_take rfl rfl (by kernel_rfl)  (by first | exact opv_nilCheckE rfl | exact opv_nilCheck rfl) ?_
     refine th_take rfl rfl (by kernel_rfl)  (by first | exact opv_fieldAddr rfl rfl | exact opv_fieldAddrE rfl (by assumption) (by omega) rfl | exact opv_fieldAddrR rfl (by omega) rfl | exact opv_fieldAddrP rfl rfl rfl) ?_
     refine th_one (by kernel_rfl) (step_m rfl rfl (opg_storeRX ({ fs.getD p default with sum := IntKind.i64.wrap ((fs.getD p default).sum + (fs.getD t default).sum) } : Frame) rfl rfl rfl (by omega) (by omega) rfl rfl rfl rfl) ?_)
     rintro _ _ _ ⟨rfl, rfl⟩
     refine ⟨Suf.h, (by first | exact fun _ h => h | assumption | exact fun _ h => (by assumption : _ ⊆ _) ((by assumption : _ ⊆ _) h)), ?_⟩
     refine th_done (by kernel_rfl) ?_
     exact tri_cutEnd _ ⟨rfl, rfl, rfl⟩ ⟨rfl, rfl, rfl, trivial⟩
    ·refine (step_m rfl rfl (OpV.toG (by first | exact opv_load1 rfl rfl rfl | exact opv_loadA rfl rfl rfl | exact opv_loadE1 rfl (by assumption) rfl (by omega) rfl rfl | exact opv_loadEA rfl (by assumption) rfl (by omega) rfl rfl | exact opv_loadRX1 rfl rfl (by omega) rfl rfl | exact opv_loadRXA rfl rfl (by omega) rfl rfl rfl | exact opv_loadIX rfl rfl (by omega) | exact opv_loadR1 rfl rfl rfl | exact opv_loadRA rfl rfl rfl rfl)) ?_)
     rintro _ _ _ ⟨rfl, rfl, rfl⟩
     refine ⟨Suf.h, (by first | exact fun _ h => h | assumption | exact fun _ h => (by assumption : _ ⊆ _) ((by assumption : _ ⊆ _) h)), ?_⟩
     refine th_one (by kernel_rfl) (step_m rfl rfl (OpV.toG (by first | exact opv_load1 rfl rfl rfl | exact opv_loadA rfl rfl rfl | exact opv_loadE1 rfl (by assumption) rfl (by omega) rfl rfl | exact opv_loadEA rfl (by assumption) rfl (by omega) rfl rfl | exact opv_loadRX1 rfl rfl (by omega) rfl rfl | exact opv_loadRXA rfl rfl (by omega) rfl rfl rfl | exact opv_loadIX rfl rfl (by omega) | exact opv_loadR1 rfl rfl rfl | exact opv_loadRA rfl rfl rfl rfl)) ?_)
     rintro _ _ _ ⟨rfl, rfl, rfl⟩
     refine ⟨Suf.h, (by first | exact fun _ h => h | assumption | exact fun _ h => (by assumption : _ ⊆ _) ((by assumption : _ ⊆ _) h)), ?_⟩
     refine th_take rfl rfl (by kernel_rfl)  (opv_add (z := IntKind.i64.wrap ((fs.getD p default).sum + (fs.getD t default).sum)) rfl rfl rfl) ?_
     refine th_take rfl rfl (by kernel_rfl)  (by first | exact opv_nilCheckE rfl | exact opv_nilCheck rfl) ?_
     refine th_take rfl rfl (by kernel_rfl)  (by first | exact opv_fieldAddr rfl rfl | exact opv_fieldAddrE rfl (by assumption) (by omega) rfl | exact opv_fieldAddrR rfl (by omega) rfl | exact opv_fieldAddrP rfl rfl rfl) ?_
     refine th_one (by kernel_rfl) (step_m rfl rfl (opg_storeRX ({ fs.getD p default with sum := IntKind.i64.wrap ((fs.getD p default).sum + (fs.getD t default).sum) } : Frame) rfl rfl rfl (by omega) (by omega) rfl rfl rfl rfl) ?_)
     rintro _ _ _ ⟨rfl, rfl⟩
     refine ⟨Suf.h, (by first | exact fun _ h => h | assumption | exact fun _ h => (by assumption : _ ⊆ _) ((by assumption : _ ⊆ _) h)), ?_⟩
     refine th_done (by kernel_rfl) ?_
     exact tri_cutEnd _ ⟨rfl, rfl, rfl⟩ ⟨rfl, rfl, rfl, trivial⟩
   rintro _ _ _ ⟨rfl, rfl, rfl⟩
   skip
   refine tT (tS (tR (tM rfl rfl ?_)))
   refine tri_v (by first | exact opv_nilCheckE rfl | exact opv_nilCheck rfl) rfl ?_
   refine tri_v (by first | exact opv_fieldAddr rfl rfl | exact opv_fieldAddrE rfl (by assumption) (by omega) rfl | exact opv_fieldAddrR rfl (by omega) rfl | exact opv_fieldAddrP rfl rfl rfl) rfl ?_
   refine tri_v (by first | exact opv_load1 rfl rfl rfl | exact opv_loadA rfl rfl rfl | exact opv_loadE1 rfl (by assumption) rfl (by omega) rfl rfl | exact opv_loadEA rfl (by assumption) rfl (by omega) rfl rfl | exact opv_loadRX1 rfl rfl (by omega) rfl rfl | exact opv_loadRXA rfl rfl (by omega) rfl rfl rfl | exact opv_loadIX rfl rfl (by omega) | exact opv_loadR1 rfl rfl rfl | exact opv_loadRA rfl rfl rfl rfl) rfl ?_
   refine tri_v (opv_sub (z := IntKind.i64.wrap (((R19.add1 fs p t).getD p default).left - 1)) rfl rfl rfl) rfl ?_
   refine tri_v (by first | exact opv_nilCheckE rfl | exact opv_nilCheck rfl) rfl ?_
   refine tri_v (by first | exact opv_fieldAddr rfl rfl | exact opv_fieldAddrE rfl (by assumption) (by omega) rfl | exact opv_fieldAddrR rfl (by omega) rfl | exact opv_fieldAddrP rfl rfl rfl) rfl ?_
   refine tri_g (opg_storeRX ({ (R19.add1 fs p t).getD p default with left := IntKind.i64.wrap (((R19.add1 fs p t).getD p default).left - 1) } : Frame) rfl rfl rfl (by omega) (by omega) rfl rfl rfl rfl) rfl ?_
   rintro _ _ _ ⟨rfl, rfl⟩
   have e2 : (R19.add1 fs p t).set p ({ (R19.add1 fs p t).getD p default with left := IntKind.i64.wrap (((R19.add1 fs p t).getD p default).left - 1) } : Frame) = R19.less1 (R19.add1 fs p t) p := rfl
   rw [e2]
   generalize R19.less1 (R19.add1 fs p t) p = f2 at *
   refine tN (tT (tS (tR (tM rfl rfl ?_))))
   refine tri_v (by first | exact opv_nilCheckE rfl | exact opv_nilCheck rfl) rfl ?_
   refine tri_v (by first | exact opv_fieldAddr rfl rfl | exact opv_fieldAddrE rfl (by assumption) (by omega) rfl | exact opv_fieldAddrR rfl (by omega) rfl | exact opv_fieldAddrP rfl rfl rfl) rfl ?_
   refine tri_v (by first | exact opv_load1 rfl rfl rfl | exact opv_loadA rfl rfl rfl | exact opv_loadE1 rfl (by assumption) rfl (by omega) rfl rfl | exact opv_loadEA rfl (by assumption) rfl (by omega) rfl rfl | exact opv_loadRX1 rfl rfl (by omega) rfl rfl | exact opv_loadRXA rfl rfl (by omega) rfl rfl rfl | exact opv_loadIX rfl rfl (by omega) | exact opv_loadR1 rfl rfl rfl | exact opv_loadRA rfl rfl rfl rfl) rfl ?_
   refine tri_v (by first | exact opv_eql rfl rfl | exact opv_eqlI rfl rfl rfl rfl rfl rfl | exact opv_eqlB rfl rfl | exact opv_eqlNil rfl rfl) rfl ?_
   refine tN (tT ?_)
   refine tri_cond_dec rfl (fun h2 => ?_) (fun h2 => ?_)
   ·rw [if_pos h2]
    refine tR (tM rfl rfl (tM rfl rfl ?_))
    refine tri_g (opg_call (xs := [_, _]) rfl (fork_join hN f (t := p) (fs := f2) (e := e) (by omega) (by omega) (by omega) (fun u hu => by rw [pB]; exact hp u hu))) rfl ?_
    rintro _ _ _ ⟨rfl, rfl⟩
    refine tN ?_
    refine tri_end_n _ ⟨[], rfl⟩ rfl .nil ⟨rfl, rfl⟩
   ·rw [if_neg h2]
    refine tri_skip ?_
    refine tri_end_n _ ⟨[], rfl⟩ rfl .nil ⟨?_, rfl⟩
    rw [Bool.or_false]
end Go.GL

set_option linter.unusedVariables false
namespace Go.GL
namespace R6
/-- A store behind what was made in it, or as it was. -/
def told (ns : List Node) (room : Int) (r : List Node × Int × Int) : List Node × Int × Int := if right ns room then (if r.2.2 ≠ 0 then (ns, 0, r.2.2) else r) else (ns, 0, 1)
theorem put_err {ns : List Node} {room q0 q1 q2 q3 : Int} (h : (put ns room q0 q1 q2 q3).2.2 ≠ 0) : put ns room q0 q1 q2 q3 = (ns, 0, (put ns room q0 q1 q2 q3).2.2) := by
 unfold put at *
 split
 ·rename_i h1
  rw [if_pos h1] at h
  split
  ·rename_i h2
   rw [if_pos h2] at h
   exact absurd rfl h
  ·rename_i h2
   rw [if_neg h2] at h
   split
   ·rfl
   ·rename_i h3
    rw [if_neg h3] at h
    exact absurd rfl h
 ·rfl
theorem told_put (ns : List Node) (room q0 q1 q2 q3 : Int) : told ns room (put ns room q0 q1 q2 q3) = intern ns room q0 q1 q2 q3 := by
 unfold told intern
 split
 ·split
  ·rename_i h
   exact (put_err h).symm
  ·rfl
 ·rfl
def emptyT (ns : List Node) (room lv : Int) : List Node × Int × Int := if lv < 0 ∨ 42 < lv then (ns, 0, 1) else told ns room (R7.empty ns room lv.toNat)
/-! #### what is live -/
def keepKids (keep : List Bool) (x : Node) : List Bool := (((keep.set x.k0.toNat true).set x.k1.toNat true).set x.k2.toNat true).set x.k3.toNat true
/-- From the node m + 1 down. -/
def keepDown (ns : List Node) : Nat → List Bool → List Bool
 | 0, keep => keep
 | m + 1, keep => keepDown ns m (if keep.getD (m + 2) default = true then keepKids keep (ns.getD (m + 2) default) else keep)
def keepRoots (n : Nat) (roots : List Int) : List Bool := roots.foldl (fun keep r => keep.set r.toNat true) (((List.replicate n false).set 0 true).set 1 true)
def kept (ns : List Node) (roots : List Int) : List Bool := keepDown ns (ns.length - 2) (keepRoots ns.length roots)
def mapKids (to : List Int) (x : Node) : Node := ⟨x.lv, to.getD x.k0.toNat default, to.getD x.k1.toNat default, to.getD x.k2.toNat default, to.getD x.k3.toNat default, x.pop⟩
def liveStep (ns : List Node) (keep : List Bool) (s : List Int × List Node) (i : Nat) : List Int × List Node := if keep.getD i default = true then (s.1.set i (s.2.length : Nat), s.2 ++ [mapKids s.1 (ns.getD i default)]) else s
def liveAll (ns : List Node) (keep : List Bool) : List Int × List Node := (List.range ns.length).foldl (liveStep ns keep) (List.replicate ns.length 0, [])
/-- A store, places, an error. -/
def live (ns : List Node) (room : Int) (roots : List Int) : List Node × List Int × Int :=
 if right ns room ∧ ∀ i, i < roots.length → inS ns (roots.getD i default) then ((liveAll ns (kept ns roots)).2, roots.map fun r => (liveAll ns (kept ns roots)).1.getD r.toNat default, 0) else (ns, [], 1)
end R6
end Go.GL
namespace Go.GL
namespace R6
theorem right.kid {ns : List Node} {room : Int} (h : right ns room) {i : Nat} (hi : i < ns.length) :
  (0 ≤ (ns.getD i default).k0 ∧ (ns.getD i default).k0 < ns.length ∧ (2 ≤ i → (ns.getD i default).k0 < i)) ∧ (0 ≤ (ns.getD i default).k1 ∧ (ns.getD i default).k1 < ns.length ∧ (2 ≤ i → (ns.getD i default).k1 < i)) ∧
  (0 ≤ (ns.getD i default).k2 ∧ (ns.getD i default).k2 < ns.length ∧ (2 ≤ i → (ns.getD i default).k2 < i)) ∧ (0 ≤ (ns.getD i default).k3 ∧ (ns.getD i default).k3 < ns.length ∧ (2 ≤ i → (ns.getD i default).k3 < i)) := by
 have h2 := h.1.2.2.1
 by_cases hi2 : 2 ≤ i
 ·obtain ⟨⟨a0, b0, _⟩, ⟨a1, b1, _⟩, ⟨a2, b2, _⟩, ⟨a3, b3, _⟩, _⟩ := h.2 i hi hi2
  refine ⟨⟨a0, by omega, fun _ => b0⟩, ⟨a1, by omega, fun _ => b1⟩, ⟨a2, by omega, fun _ => b2⟩, ⟨a3, by omega, fun _ => b3⟩⟩
 ·rcases (by omega : i = 0 ∨ i = 1) with rfl | rfl
  ·rw [h.1.2.2.2.2.1]
   refine ⟨⟨?_, ?_, ?_⟩, ⟨?_, ?_, ?_⟩, ⟨?_, ?_, ?_⟩, ⟨?_, ?_, ?_⟩⟩ <;> simp [n0] <;> omega
  ·rw [h.1.2.2.2.2.2]
   refine ⟨⟨?_, ?_, ?_⟩, ⟨?_, ?_, ?_⟩, ⟨?_, ?_, ?_⟩, ⟨?_, ?_, ?_⟩⟩ <;> simp [n1] <;> omega
theorem set_getD {α : Type} [Inhabited α] {l : List α} {i j : Nat} {v : α} (h : j ≠ i) : (l.set j v).getD i default = l.getD i default := by
 rw [List.getD_eq_getElem?_getD, List.getElem?_set, if_neg h, ← List.getD_eq_getElem?_getD]
theorem keepDown_succ (ns : List Node) (m : Nat) (keep : List Bool) : keepDown ns (m + 1) keep = keepDown ns m (if keep.getD (m + 2) default = true then keepKids keep (ns.getD (m + 2) default) else keep) := rfl
theorem keepKids_len (keep : List Bool) (x : Node) : (keepKids keep x).length = keep.length := by simp [keepKids]
theorem keepRoots_len (n : Nat) (roots : List Int) : (keepRoots n roots).length = n := by
 unfold keepRoots
 have : ∀ (l : List Int) (k : List Bool), (l.foldl (fun keep r => keep.set r.toNat true) k).length = k.length := by
  intro l
  induction l with
  | nil => intro k; rfl
  | cons r l ih => intro k; rw [List.foldl_cons, ih, List.length_set]
 rw [this]
 simp
end R6
/-- What a function that tells a store, places and an error comes to. -/
def LiveR (r : List Node × List Int × Int) (room : Int) (A : List Asrt) (I : List Chunk) : Value → List Asrt → List Chunk → Prop :=
 fun v A' I' => ∃ a' c' a2 c2, v = .tuple [storeV a' r.1.length c' room, .slice a2 r.2.1.length c2, .int .i64 r.2.2].toArray ∧ StA I' a' c' r.1 ∧ SlAt I' a2 r.2.1 ∧ A = A' ∧ I ⊆ I'
end Go.GL

set_option linter.unusedVariables false
namespace Go.GL
/-- A store's head. -/
structure Sto where
 a : Option Addr
 len : Nat
 cap : Nat
 room : Int
 deriving Inhabited
instance : Enc Sto := ⟨fun s => [.slice s.a s.len s.cap, .int .i64 s.room], 2, fun _ => rfl, fun _ => rfl⟩
/-- A slice's head. -/
structure Sl where
 a : Option Addr
 len : Nat
 cap : Nat
 deriving Inhabited
instance : Enc Sl := ⟨fun s => [.slice s.a s.len s.cap], 1, fun _ => rfl, fun _ => rfl⟩
/-- Four numbers. -/
structure Four where
 r0 : Int
 r1 : Int
 r2 : Int
 r3 : Int
 deriving DecidableEq, Inhabited
instance : Enc Four := ⟨fun x => [.int .i64 x.r0, .int .i64 x.r1, .int .i64 x.r2, .int .i64 x.r3], 4, fun _ => rfl, fun _ => rfl⟩
instance : Dec Four := ⟨fun xs => ⟨xs.getD 0 0, xs.getD 1 0, xs.getD 2 0, xs.getD 3 0⟩, fun xs h => by
 match xs, h with
 | [a, b, c, d], _ => rfl⟩
theorem four_ok {x : Four} (h : DecOk x) : I64 x.r0 ∧ I64 x.r1 ∧ I64 x.r2 ∧ I64 x.r3 := by
 obtain ⟨zs, h1, h2, rfl⟩ := h
 match zs, h1 with
 | [a, b, c, d], _ => exact ⟨h2 a (by simp), h2 b (by simp), h2 c (by simp), h2 d (by simp)⟩
namespace R6
theorem put_len1 (ns : List Node) (room q0 q1 q2 q3 : Int) : (put ns room q0 q1 q2 q3).1.length ≤ ns.length + 1 := by
 unfold put
 split
 ·split
  ·simp
  ·split
   ·simp
   ·simp
 ·simp
theorem intern_len (ns : List Node) (room q0 q1 q2 q3 : Int) : (intern ns room q0 q1 q2 q3).1.length ≤ ns.length + 1 := by
 unfold intern
 split
 ·exact put_len1 ..
 ·simp
theorem emptyF_len (room : Int) : ∀ (k : Nat) (ns : List Node) (n : Int), (R7.emptyF room k ns n).1.length ≤ ns.length + k
 | 0, ns, n => by simp [R7.emptyF]
 | k + 1, ns, n => by
  unfold R7.emptyF
  split
  ·show ns.length ≤ _; omega
  ·have := emptyF_len room k (put ns room n n n n).1 (put ns room n n n n).2.1
   have := put_len1 ns room n n n n
   omega
theorem emptyT_len (ns : List Node) (room lv : Int) : (emptyT ns room lv).1.length ≤ ns.length + 42 := by
 unfold emptyT told R7.empty
 split
 ·simp
 ·rename_i h
  have := emptyF_len room lv.toNat ns 0
  split
  ·split
   ·simp
   ·omega
  ·simp
end R6
end Go.GL

set_option linter.unusedVariables false
namespace Go.GL
open Go.Proofs
attribute [local irreducible] wpList Code.wp Exit.then Exit.inBlock Ends Tri TriH OpV OpG FnC epf wpAnyH
variable {A : List Asrt} {I : List Chunk}
/-- Deques, each a slice that is only read. -/
structure Dqs (I : List Chunk) (ss : List Sl) (D : List (List Int)) : Prop where
 len : ss.length = D.length
 at_ : ∀ k, k < D.length → StA I (ss.getD k default).a (ss.getD k default).cap (D.getD k default) ∧ (ss.getD k default).len = (D.getD k default).length
theorem Dqs.mono {I J : List Chunk} {ss : List Sl} {D : List (List Int)} (h : Dqs I ss D) (hI : I ⊆ J) : Dqs J ss D := ⟨h.len, fun k hk => ⟨(h.at_ k hk).1.mono hI, (h.at_ k hk).2⟩⟩
theorem Dqs.set {I : List Chunk} {ss : List Sl} {D : List (List Int)} (h : Dqs I ss D) {k : Nat} {s : Sl} {l : List Int} (hs : StA I s.a s.cap l) (hl : s.len = l.length) : Dqs I (ss.set k s) (D.set k l) := by
 refine ⟨by rw [List.length_set, List.length_set, h.len], fun j hj => ?_⟩
 rw [List.length_set] at hj
 by_cases hk : k < D.length
 ·rw [getD_set' (by have := h.len; omega), getD_set' hk]
  split
  ·exact ⟨hs, hl⟩
  ·exact h.at_ j hj
 ·rw [List.set_eq_of_length_le (by have := h.len; omega), List.set_eq_of_length_le (by omega)]
  exact h.at_ j hj
set_option maxHeartbeats 2000000 in
set_option maxRecDepth 100000 in
theorem fork_take {c b w : Nat} {ss : List Sl} {D : List (List Int)} {y0 y1 y3 y4 y5 y6 : Value} (hd : Dqs I ss D) (hn : D.length ≤ 1000) (hw : w < D.length) (hb : ∀ k, k < D.length → (D.getD k default).length ≤ 1000) :
  FnC Try.prog 32 [pt c 0, .int .i64 (w : Int)].toArray (Row (some ⟨b, 0, none⟩) D.length D.length 22 1 (encs ss) :: Box c [y0, y1, .slice (some ⟨b, 0, none⟩) D.length D.length, y3, y4, y5, y6] 50 :: A) I
   (fun v A' I' => ∃ ss', v = .int .i64 (R19.takeM D w).1 ∧ Row (some ⟨b, 0, none⟩) D.length D.length 22 1 (encs ss') :: Box c [y0, y1, .slice (some ⟨b, 0, none⟩) D.length D.length, y3, y4, y5, y6] 50 :: A = A' ∧ Dqs I ss' (R19.takeM D w).2 ∧ I = I') := by
 have hsl := hd.len
 obtain ⟨hs, hl⟩ := hd.at_ w hw
 have hbw := hb w hw
 skip
 refine fn_enter2 Try.func32 rfl Try.ntmps32 rfl fun w0 => ?_
 refine tS (tR (tA rfl rfl (tN (tT (tS (tS (tR ?_)))))))
 refine tM rfl rfl ?_
 refine tri_v (by first | exact opv_nilCheckE rfl | exact opv_nilCheck rfl) rfl ?_
 refine tri_v (by first | exact opv_fieldAddr rfl rfl | exact opv_fieldAddrE rfl (by assumption) (by omega) rfl | exact opv_fieldAddrR rfl (by omega) rfl | exact opv_fieldAddrP rfl rfl rfl) rfl ?_
 refine tri_v (by first | exact opv_load1 rfl rfl rfl | exact opv_loadA rfl rfl rfl | exact opv_loadE1 rfl (by assumption) rfl (by omega) rfl rfl | exact opv_loadEA rfl (by assumption) rfl (by omega) rfl rfl | exact opv_loadRX1 rfl rfl (by omega) rfl rfl | exact opv_loadRXA rfl rfl (by omega) rfl rfl rfl | exact opv_loadIX rfl rfl (by omega) | exact opv_loadR1 rfl rfl rfl | exact opv_loadRA rfl rfl rfl rfl) rfl ?_
 refine tM rfl rfl ?_
 refine tri_v (by first | exact opv_indexAddrA rfl rfl (by first | decide | omega) (by first | decide | omega) | exact opv_indexAddrSN rfl rfl (by omega) (by assumption) (by first | rfl | omega) | exact opv_indexAddrS rfl rfl (by omega) (by omega) (by assumption) (by first | rfl | omega) | exact opv_indexAddrE rfl (by assumption) (by omega) rfl (by first | decide | omega) (by first | decide | omega) | exact opv_indexAddrRN rfl rfl (by omega) | exact opv_indexAddrR rfl rfl (by omega) (by omega) | exact opv_indexAddrRA rfl (by omega) rfl (by first | decide | omega) (by first | decide | omega) | exact opv_indexAddrSP rfl rfl (by omega) (by omega)) rfl ?_
 refine tri_v (by first | exact opv_load1 rfl rfl rfl | exact opv_loadA rfl rfl rfl | exact opv_loadE1 rfl (by assumption) rfl (by omega) rfl rfl | exact opv_loadEA rfl (by assumption) rfl (by omega) rfl rfl | exact opv_loadRX1 rfl rfl (by omega) rfl rfl | exact opv_loadRXA rfl rfl (by omega) rfl rfl rfl | exact opv_loadIX rfl rfl (by omega) | exact opv_loadR1 rfl rfl rfl | exact opv_loadRA rfl rfl rfl rfl) rfl ?_
 refine tA rfl rfl (tN (tT (tS (tR (tM rfl rfl ?_)))))
 refine tri_v (opv_len rfl) rfl ?_
 refine tri_v (opv_gtr rfl rfl) rfl ?_
 refine tN (tT ?_)
 rw [hl]
 refine tri_cond_dec rfl (fun h => ?_) (fun h => ?_)
 ·have em : R19.takeM D w = ((D.getD w default).getD ((D.getD w default).length - 1) default, D.set w ((D.getD w default).take ((D.getD w default).length - 1))) := if_pos (by omega)
  rw [em]
  have sc := hs.sl
  have e1 : (((D.getD w default).length : Int) - 1).toNat = (D.getD w default).length - 1 := by omega
  skip
  skip
  skip
  refine tS ?_
  refine tri_draw [0, 1, 2, 3, 4, 5, 6, 7, 8, 9, 10, 11] rfl [_] rfl mixed ?_
  refine th_take rfl rfl (by kernel_rfl)  (opv_move rfl) ?_
  refine th_take rfl rfl (by kernel_rfl)  (by first | exact opv_nilCheckE rfl | exact opv_nilCheck rfl) ?_
  refine th_take rfl rfl (by kernel_rfl)  (by first | exact opv_fieldAddr rfl rfl | exact opv_fieldAddrE rfl (by assumption) (by omega) rfl | exact opv_fieldAddrR rfl (by omega) rfl | exact opv_fieldAddrP rfl rfl rfl) ?_
  refine th_take rfl rfl (by kernel_rfl)  (by first | exact opv_load1 rfl rfl rfl | exact opv_loadA rfl rfl rfl | exact opv_loadE1 rfl (by assumption) rfl (by omega) rfl rfl | exact opv_loadEA rfl (by assumption) rfl (by omega) rfl rfl | exact opv_loadRX1 rfl rfl (by omega) rfl rfl | exact opv_loadRXA rfl rfl (by omega) rfl rfl rfl | exact opv_loadIX rfl rfl (by omega) | exact opv_loadR1 rfl rfl rfl | exact opv_loadRA rfl rfl rfl rfl) ?_
  refine th_take rfl rfl (by kernel_rfl)  (opv_move rfl) ?_
  refine th_take rfl rfl (by kernel_rfl)  (opv_move rfl) ?_
  refine th_take rfl rfl (by kernel_rfl)  (opv_move rfl) ?_
  refine th_take rfl rfl (by kernel_rfl)  (opv_len rfl) ?_
  refine th_take rfl rfl (by kernel_rfl)  (by first | exact opv_sub rfl rfl (w64 (by omega) (by omega)) | exact opv_sub rfl rfl rfl) ?_
  refine th_take rfl rfl (by kernel_rfl)  (opv_sliceHi rfl rfl (by omega) (by omega) hs rfl) ?_
  refine th_take rfl rfl (by kernel_rfl)  (by first | exact opv_indexAddrA rfl rfl (by first | decide | omega) (by first | decide | omega) | exact opv_indexAddrSN rfl rfl (by omega) (by assumption) (by first | rfl | omega) | exact opv_indexAddrS rfl rfl (by omega) (by omega) (by assumption) (by first | rfl | omega) | exact opv_indexAddrE rfl (by assumption) (by omega) rfl (by first | decide | omega) (by first | decide | omega) | exact opv_indexAddrRN rfl rfl (by omega) | exact opv_indexAddrR rfl rfl (by omega) (by omega) | exact opv_indexAddrRA rfl (by omega) rfl (by first | decide | omega) (by first | decide | omega) | exact opv_indexAddrSP rfl rfl (by omega) (by omega)) ?_
  rw [e1]
  refine th_one (by kernel_rfl) (step_m rfl rfl (opg_storeRX (⟨(ss.getD w default).a, ((D.getD w default).take ((D.getD w default).length - 1)).length, (ss.getD w default).cap⟩ : Sl) rfl rfl rfl (by omega) (by omega) rfl rfl rfl rfl) ?_)
  rintro _ _ _ ⟨rfl, rfl⟩
  refine ⟨Suf.h, (by first | exact fun _ h => h | assumption | exact fun _ h => (by assumption : _ ⊆ _) ((by assumption : _ ⊆ _) h)), ?_⟩
  refine th_done (by kernel_rfl) ?_
  refine tT (tS (tR (tM rfl rfl (tM rfl rfl ?_))))
  refine tri_v (opv_len rfl) rfl ?_
  refine tri_v (by first | exact opv_sub rfl rfl (w64 (by omega) (by omega)) | exact opv_sub rfl rfl rfl) rfl ?_
  refine tri_v (by first | exact opv_indexAddrA rfl rfl (by first | decide | omega) (by first | decide | omega) | exact opv_indexAddrSN rfl rfl (by omega) (by assumption) (by first | rfl | omega) | exact opv_indexAddrS rfl rfl (by omega) (by omega) (by assumption) (by first | rfl | omega) | exact opv_indexAddrE rfl (by assumption) (by omega) rfl (by first | decide | omega) (by first | decide | omega) | exact opv_indexAddrRN rfl rfl (by omega) | exact opv_indexAddrR rfl rfl (by omega) (by omega) | exact opv_indexAddrRA rfl (by omega) rfl (by first | decide | omega) (by first | decide | omega) | exact opv_indexAddrSP rfl rfl (by omega) (by omega)) rfl ?_
  refine tri_v (by first | exact opv_load1 rfl rfl rfl | exact opv_loadA rfl rfl rfl | exact opv_loadE1 rfl (by assumption) rfl (by omega) rfl rfl | exact opv_loadEA rfl (by assumption) rfl (by omega) rfl rfl | exact opv_loadRX1 rfl rfl (by omega) rfl rfl | exact opv_loadRXA rfl rfl (by omega) rfl rfl rfl | exact opv_loadIX rfl rfl (by omega) | exact opv_loadR1 rfl rfl rfl | exact opv_loadRA rfl rfl rfl rfl) rfl ?_
  refine tA rfl rfl (tN (tT (tri_ret (tri_then_ret ?_))))
  rw [e1]
  refine tri_end _ (by first | exact ⟨[], rfl⟩ | exact ⟨[_], rfl⟩ | exact ⟨[_, _], rfl⟩ | exact ⟨[_, _, _], rfl⟩ | exact ⟨[_, _, _, _], rfl⟩ | exact ⟨[_, _, _, _, _], rfl⟩ | exact ⟨[_, _, _, _, _, _], rfl⟩ | exact ⟨[_, _, _, _, _, _, _], rfl⟩ | exact ⟨[_, _, _, _, _, _, _, _], rfl⟩) rfl (.cons (rv_tmp rfl) .nil) ⟨_, rfl, rfl, hd.set (s := ⟨(ss.getD w default).a, ((D.getD w default).take ((D.getD w default).length - 1)).length, (ss.getD w default).cap⟩) ?_ rfl, rfl⟩
  exact ⟨hs.sl.take _, Nat.le_trans (by rw [List.length_take]; exact Nat.min_le_right _ _) hs.le⟩
 ·have em : R19.takeM D w = match R19.findF D w D.length 0 with
    | some k => ((D.getD k default).getD 0 default, D.set k ((D.getD k default).drop 1))
    | none => (-1, D) := if_neg (by omega)
  rw [em]
  skip
  skip
  refine tri_skip (tT (tS (tS (tR (tM rfl rfl ?_)))))
  refine tri_v (by first | exact opv_nilCheckE rfl | exact opv_nilCheck rfl) rfl ?_
  refine tri_v (by first | exact opv_fieldAddr rfl rfl | exact opv_fieldAddrE rfl (by assumption) (by omega) rfl | exact opv_fieldAddrR rfl (by omega) rfl | exact opv_fieldAddrP rfl rfl rfl) rfl ?_
  refine tri_v (by first | exact opv_load1 rfl rfl rfl | exact opv_loadA rfl rfl rfl | exact opv_loadE1 rfl (by assumption) rfl (by omega) rfl rfl | exact opv_loadEA rfl (by assumption) rfl (by omega) rfl rfl | exact opv_loadRX1 rfl rfl (by omega) rfl rfl | exact opv_loadRXA rfl rfl (by omega) rfl rfl rfl | exact opv_loadIX rfl rfl (by omega) | exact opv_loadR1 rfl rfl rfl | exact opv_loadRA rfl rfl rfl rfl) rfl ?_
  refine tri_v (opv_len rfl) rfl ?_
  refine tM rfl rfl (tN (tT (tri_block ?_)))
  refine tri_sub (F' := [(0, pt c 0), (1, .int .i64 (w : Int)), (40, .int .i64 (D.length : Nat)), (41, .int .i64 (0 : Nat))]) ⟨rfl, rfl, rfl, rfl, trivial⟩ ?_
  refine loop_ind (G := Nat) (fun i => D.length - i) (fun i => i ≤ D.length ∧ R19.findF D w D.length 0 = R19.findF D w (D.length - i) i) (fun i => [(0, pt c 0), (1, .int .i64 (w : Int)), (40, .int .i64 (D.length : Nat)), (41, .int .i64 (i : Nat))]) (fun _ => _) (fun _ => _) ?_ 0 ⟨by omega, rfl⟩
  rintro i ⟨hi, hf⟩ K hK
  skip
  refine tS (tR ?_)
  refine tri_v (opv_lss rfl rfl) rfl ?_
  refine tN (tT (tS ?_))
  refine tri_cond_dec rfl (fun h2 => ?_) (fun h2 => ?_)
  ·have hil : i < D.length := by omega
   obtain ⟨k, ek⟩ : ∃ k, (w + i) % D.length = k := ⟨_, rfl⟩
   have hk : k < D.length := by rw [← ek]; exact Nat.mod_lt _ (by omega)
   obtain ⟨hsk, hlk⟩ := hd.at_ k hk
   have hbk := hb k hk
   have hfs : R19.findF D w (D.length - i) i = if (D.getD k default).length = 0 then R19.findF D w (D.length - (i + 1)) (i + 1) else some k := by
    rw [show D.length - i = (D.length - (i + 1)) + 1 by omega]
    show (if (D.getD ((w + i) % D.length) default).length = 0 then _ else _) = _
    rw [ek]
   refine tri_skip (tT (tS (tri_block (tS (tR (tM rfl rfl (tA rfl rfl ?_)))))))
   refine tN (tT (tS (tR (tM rfl rfl (tM rfl rfl ?_)))))
   refine tri_v (by first | exact opv_add rfl rfl (w64 (by omega) (by omega))) rfl ?_
   refine tM rfl rfl ?_
   refine tri_v (by first | exact opv_nilCheckE rfl | exact opv_nilCheck rfl) rfl ?_
   refine tri_v (by first | exact opv_fieldAddr rfl rfl | exact opv_fieldAddrE rfl (by assumption) (by omega) rfl | exact opv_fieldAddrR rfl (by omega) rfl | exact opv_fieldAddrP rfl rfl rfl) rfl ?_
   refine tri_v (by first | exact opv_load1 rfl rfl rfl | exact opv_loadA rfl rfl rfl | exact opv_loadE1 rfl (by assumption) rfl (by omega) rfl rfl | exact opv_loadEA rfl (by assumption) rfl (by omega) rfl rfl | exact opv_loadRX1 rfl rfl (by omega) rfl rfl | exact opv_loadRXA rfl rfl (by omega) rfl rfl rfl | exact opv_loadIX rfl rfl (by omega) | exact opv_loadR1 rfl rfl rfl | exact opv_loadRA rfl rfl rfl rfl) rfl ?_
   refine tri_v (opv_len rfl) rfl ?_
   refine tri_v (opv_remN (a := w + i) (z := k) rfl rfl (by omega) ek) rfl ?_
   refine tA rfl rfl (tN (tT (tS (tR (tM rfl rfl ?_)))))
   refine tri_v (by first | exact opv_nilCheckE rfl | exact opv_nilCheck rfl) rfl ?_
   refine tri_v (by first | exact opv_fieldAddr rfl rfl | exact opv_fieldAddrE rfl (by assumption) (by omega) rfl | exact opv_fieldAddrR rfl (by omega) rfl | exact opv_fieldAddrP rfl rfl rfl) rfl ?_
   refine tri_v (by first | exact opv_load1 rfl rfl rfl | exact opv_loadA rfl rfl rfl | exact opv_loadE1 rfl (by assumption) rfl (by omega) rfl rfl | exact opv_loadEA rfl (by assumption) rfl (by omega) rfl rfl | exact opv_loadRX1 rfl rfl (by omega) rfl rfl | exact opv_loadRXA rfl rfl (by omega) rfl rfl rfl | exact opv_loadIX rfl rfl (by omega) | exact opv_loadR1 rfl rfl rfl | exact opv_loadRA rfl rfl rfl rfl) rfl ?_
   refine tM rfl rfl ?_
   refine tri_v (by first | exact opv_indexAddrA rfl rfl (by first | decide | omega) (by first | decide | omega) | exact opv_indexAddrSN rfl rfl (by omega) (by assumption) (by first | rfl | omega) | exact opv_indexAddrS rfl rfl (by omega) (by omega) (by assumption) (by first | rfl | omega) | exact opv_indexAddrE rfl (by assumption) (by omega) rfl (by first | decide | omega) (by first | decide | omega) | exact opv_indexAddrRN rfl rfl (by omega) | exact opv_indexAddrR rfl rfl (by omega) (by omega) | exact opv_indexAddrRA rfl (by omega) rfl (by first | decide | omega) (by first | decide | omega) | exact opv_indexAddrSP rfl rfl (by omega) (by omega)) rfl ?_
   refine tri_v (by first | exact opv_load1 rfl rfl rfl | exact opv_loadA rfl rfl rfl | exact opv_loadE1 rfl (by assumption) rfl (by omega) rfl rfl | exact opv_loadEA rfl (by assumption) rfl (by omega) rfl rfl | exact opv_loadRX1 rfl rfl (by omega) rfl rfl | exact opv_loadRXA rfl rfl (by omega) rfl rfl rfl | exact opv_loadIX rfl rfl (by omega) | exact opv_loadR1 rfl rfl rfl | exact opv_loadRA rfl rfl rfl rfl) rfl ?_
   refine tA rfl rfl (tN (tT (tS (tR (tM rfl rfl ?_)))))
   refine tri_v (opv_len rfl) rfl ?_
   refine tri_v (opv_gtr rfl rfl) rfl ?_
   refine tN (tT ?_)
   rw [hlk]
   refine tri_cond_dec rfl (fun h3 => ?_) (fun h3 => ?_)
   ·have sk := hsk.sl
    rw [hf, hfs, if_neg (by omega)]
    skip
    refine tS ?_
    refine tri_draw [0, 1, 2, 3, 4, 5, 6, 7, 8] rfl [_] rfl mixed ?_
    refine th_take rfl rfl (by kernel_rfl)  (opv_move rfl) ?_
    refine th_take rfl rfl (by kernel_rfl)  (by first | exact opv_nilCheckE rfl | exact opv_nilCheck rfl) ?_
    refine th_take rfl rfl (by kernel_rfl)  (by first | exact opv_fieldAddr rfl rfl | exact opv_fieldAddrE rfl (by assumption) (by omega) rfl | exact opv_fieldAddrR rfl (by omega) rfl | exact opv_fieldAddrP rfl rfl rfl) ?_
    refine th_take rfl rfl (by kernel_rfl)  (by first | exact opv_load1 rfl rfl rfl | exact opv_loadA rfl rfl rfl | exact opv_loadE1 rfl (by assumption) rfl (by omega) rfl rfl | exact opv_loadEA rfl (by assumption) rfl (by omega) rfl rfl | exact opv_loadRX1 rfl rfl (by omega) rfl rfl | exact opv_loadRXA rfl rfl (by omega) rfl rfl rfl | exact opv_loadIX rfl rfl (by omega) | exact opv_loadR1 rfl rfl rfl | exact opv_loadRA rfl rfl rfl rfl) ?_
    refine th_take rfl rfl (by kernel_rfl)  (opv_move rfl) ?_
    refine th_take rfl rfl (by kernel_rfl)  (opv_move rfl) ?_
    refine th_take rfl rfl (by kernel_rfl)  (opv_sliceLo rfl rfl (by omega) (by omega) hsk rfl) ?_
    refine th_take rfl rfl (by kernel_rfl)  (by first | exact opv_indexAddrA rfl rfl (by first | decide | omega) (by first | decide | omega) | exact opv_indexAddrSN rfl rfl (by omega) (by assumption) (by first | rfl | omega) | exact opv_indexAddrS rfl rfl (by omega) (by omega) (by assumption) (by first | rfl | omega) | exact opv_indexAddrE rfl (by assumption) (by omega) rfl (by first | decide | omega) (by first | decide | omega) | exact opv_indexAddrRN rfl rfl (by omega) | exact opv_indexAddrR rfl rfl (by omega) (by omega) | exact opv_indexAddrRA rfl (by omega) rfl (by first | decide | omega) (by first | decide | omega) | exact opv_indexAddrSP rfl rfl (by omega) (by omega)) ?_
    refine th_one (by kernel_rfl) (step_m rfl rfl (opg_storeRX (⟨loA (ss.getD k default).a (ss.getD k default).cap 1 1, ((D.getD k default).drop 1).length, (ss.getD k default).cap - 1⟩ : Sl) rfl rfl rfl (by omega) (by omega) rfl rfl rfl rfl) ?_)
    rintro _ _ _ ⟨rfl, rfl⟩
    refine ⟨Suf.h, (by first | exact fun _ h => h | assumption | exact fun _ h => (by assumption : _ ⊆ _) ((by assumption : _ ⊆ _) h)), ?_⟩
    refine th_done (by kernel_rfl) ?_
    refine tT (tS (tR (tM rfl rfl ?_)))
    refine tri_v (by first | exact opv_indexAddrA rfl rfl (by first | decide | omega) (by first | decide | omega) | exact opv_indexAddrSN rfl rfl (by omega) (by assumption) (by first | rfl | omega) | exact opv_indexAddrS rfl rfl (by omega) (by omega) (by assumption) (by first | rfl | omega) | exact opv_indexAddrE rfl (by assumption) (by omega) rfl (by first | decide | omega) (by first | decide | omega) | exact opv_indexAddrRN rfl rfl (by omega) | exact opv_indexAddrR rfl rfl (by omega) (by omega) | exact opv_indexAddrRA rfl (by omega) rfl (by first | decide | omega) (by first | decide | omega) | exact opv_indexAddrSP rfl rfl (by omega) (by omega)) rfl ?_
    refine tri_v (by first | exact opv_load1 rfl rfl rfl | exact opv_loadA rfl rfl rfl | exact opv_loadE1 rfl (by assumption) rfl (by omega) rfl rfl | exact opv_loadEA rfl (by assumption) rfl (by omega) rfl rfl | exact opv_loadRX1 rfl rfl (by omega) rfl rfl | exact opv_loadRXA rfl rfl (by omega) rfl rfl rfl | exact opv_loadIX rfl rfl (by omega) | exact opv_loadR1 rfl rfl rfl | exact opv_loadRA rfl rfl rfl rfl) rfl ?_
    refine tA rfl rfl (tN (tT (tri_ret ?_)))
    refine tri_inBlock_ret ?_
    refine tri_then_ret (tri_then_ret ?_)
    refine tri_inBlock_ret ?_
    refine tri_then_ret ?_
    refine tri_end _ (by first | exact ⟨[], rfl⟩ | exact ⟨[_], rfl⟩ | exact ⟨[_, _], rfl⟩ | exact ⟨[_, _, _], rfl⟩ | exact ⟨[_, _, _, _], rfl⟩ | exact ⟨[_, _, _, _, _], rfl⟩ | exact ⟨[_, _, _, _, _, _], rfl⟩ | exact ⟨[_, _, _, _, _, _, _], rfl⟩ | exact ⟨[_, _, _, _, _, _, _, _], rfl⟩) rfl (.cons (rv_tmp rfl) .nil) ⟨_, rfl, rfl, hd.set (s := ⟨loA (ss.getD k default).a (ss.getD k default).cap 1 1, ((D.getD k default).drop 1).length, (ss.getD k default).cap - 1⟩) ?_ rfl, rfl⟩
    exact hsk.lo (by omega) rfl
   ·refine tri_skip ?_
    refine tri_inBlock ?_
    refine tT (tR ?_)
    refine tri_v (by first | exact opv_add rfl rfl (w64 (by omega) (by omega))) rfl ?_
    refine tM rfl rfl (tN (tT ?_))
    refine tri_sub ?_ (hK (i + 1) ⟨by omega, by rw [hf, hfs, if_pos (by omega)]⟩ (by omega))
    exact ⟨rfl, rfl, rfl, rfl, trivial⟩
  ·have ei : D.length - i = 0 := by omega
   rw [hf, ei]
   refine tri_exit ?_
   refine tri_then_exit ?_
   refine tri_then_exit ?_
   refine tri_inBlock_hit rfl ?_
   refine tT (tS (tR (tA rfl rfl (tN (tT (tri_ret ?_))))))
   refine tri_end _ (by first | exact ⟨[], rfl⟩ | exact ⟨[_], rfl⟩ | exact ⟨[_, _], rfl⟩ | exact ⟨[_, _, _], rfl⟩ | exact ⟨[_, _, _, _], rfl⟩ | exact ⟨[_, _, _, _, _], rfl⟩ | exact ⟨[_, _, _, _, _, _], rfl⟩ | exact ⟨[_, _, _, _, _, _, _], rfl⟩ | exact ⟨[_, _, _, _, _, _, _, _], rfl⟩) rfl (.cons (rv_tmp rfl) .nil) ⟨ss, rfl, rfl, hd, rfl⟩
end Go.GL

set_option linter.unusedVariables false
namespace Go.GL
open Go.Proofs
attribute [local irreducible] wpList Code.wp Exit.then Exit.inBlock Ends Tri TriH OpV OpG FnC epf wpAnyH
variable {A : List Asrt} {I : List Chunk}
set_option maxRecDepth 100000 in
theorem slices_clip {xs : List Int} {a : Option Addr} {m cap : Nat} (hs : StA I a cap xs) (hm : m = xs.length) :
  FnC Try.prog 33 [.slice a m cap].toArray A I (fun v A' I' => v = .slice a xs.length xs.length ∧ A = A' ∧ I = I') := by
 subst hm
 refine fn_enter1 Try.func33 rfl Try.ntmps33 rfl fun w0 => ?_
 skip
 refine tS (tR (tA rfl rfl (tN (tT (tS (tR (tM rfl rfl ?_)))))))
 refine tM rfl rfl ?_
 refine tri_v (opv_len rfl) rfl ?_
 refine tM rfl rfl ?_
 refine tri_v (opv_len rfl) rfl ?_
 refine tri_v (opv_clip rfl rfl rfl hs rfl) rfl ?_
 refine tA rfl rfl (tN (tT (tri_ret ?_)))
 refine tri_end A Suf.h rfl (.cons (rv_tmp rfl) .nil) ⟨rfl, rfl, rfl⟩
end Go.GL
