/- Part 4: contracts of the functions that the law reaches: each answers as its model does. No condition beyond those that each theorem states. -/
import Derived.Test.YtnofakjhlmgojaaPart3
set_option linter.unusedVariables false
namespace Go.GL
namespace R6
open R7 (IsN)
/-! ### Kids of one level -/
theorem Wf.lv_le {ns : List Node} (h : Wf ns) : ∀ (i : Nat), i < ns.length → (nd ns i).lv + 1 ≤ max (i : Int) 1 := by
 intro i
 induction i using Nat.strongRecOn with
 | _ i ih =>
  intro hi
  by_cases hl : (nd ns i).lv = 0
  ·omega
  ·have hn : inS ns (i : Int) := ⟨by omega, by omega⟩
   have h2 := h.two hn hl
   obtain ⟨k1, k2, k3⟩ := h.kid hn hl (q := (nd ns i).k0) (by simp [Node.kids])
   have := ih (nd ns i).k0.toNat (by have := k1.1; omega) (by have := k1.1; have := k1.2; omega)
   rw [show (((nd ns i).k0.toNat : Nat) : Int) = (nd ns i).k0 from Int.toNat_of_nonneg k1.1] at this
   have := k1.1
   omega
theorem Wf.lv_len {ns : List Node} (h : Wf ns) {n : Int} (hn : inS ns n) : (nd ns n).lv + 2 ≤ ns.length := by
 have h1 := h.lv_le n.toNat (by have := hn.1; have := hn.2; omega)
 rw [Int.toNat_of_nonneg hn.1] at h1
 have := hn.2
 have := h.len
 omega
theorem kids_same {ns : List Node} (h : Wf ns) (r : Five) : 0 < (RL.same ns r).length ∧ ∀ q ∈ RL.same ns r, inS ns q ∧ (nd ns q).lv = RL.lev ns r := by
 have hl := h.len
 have hlev : RL.lev ns r = (nd ns (pk r.r4 ns.length)).lv := by unfold RL.lev; rw [if_pos (by omega)]
 have hp := pk_bd (c := r.r4) (n := ns.length) (by omega)
 constructor
 ·have hm : (pk r.r4 ns.length) ∈ RL.same ns r := by
   have : ∀ (xs : List Node) (i j : Nat), j < xs.length → (xs.getD j default).lv = RL.lev ns r → ((i + j : Nat) : Int) ∈ RL.sameFrom (RL.lev ns r) i xs := by
    intro xs
    induction xs with
    | nil => intro i j hj; exact absurd hj (by simp)
    | cons x xs ih =>
     intro i j hj hx
     simp only [RL.sameFrom]
     cases j with
     | zero =>
      rw [if_pos (by simpa using hx)]
      exact List.mem_cons_self
     | succ j =>
      have := ih (i + 1) j (by simpa using hj) (by simpa using hx)
      rw [show i + 1 + j = i + (j + 1) by omega] at this
      split
      ·exact List.mem_cons_of_mem _ this
      ·exact this
   have := this ns 0 (pk r.r4 ns.length).toNat (by omega) (by rw [hlev]; rfl)
   rwa [Nat.zero_add, Int.toNat_of_nonneg hp.1] at this
  exact List.length_pos_of_mem hm
 ·intro q hq
  obtain ⟨j, hj, rfl, hlv⟩ := RL.sameFrom_mem hq
  rw [Nat.zero_add]
  refine ⟨⟨by omega, by omega⟩, ?_⟩
  unfold nd
  rw [Int.toNat_natCast]
  exact hlv
theorem kids_lv {ns : List Node} (h : Wf ns) (r : Five) : (inS ns (RL.kids ns r).1 ∧ (nd ns (RL.kids ns r).1).lv = RL.lev ns r) ∧ (inS ns (RL.kids ns r).2.1 ∧ (nd ns (RL.kids ns r).2.1).lv = RL.lev ns r) ∧ (inS ns (RL.kids ns r).2.2.1 ∧ (nd ns (RL.kids ns r).2.2.1).lv = RL.lev ns r) ∧ (inS ns (RL.kids ns r).2.2.2 ∧ (nd ns (RL.kids ns r).2.2.2).lv = RL.lev ns r) := by
 obtain ⟨h1, h2⟩ := kids_same h r
 have key : ∀ c, inS ns (RL.one (RL.same ns r) c) ∧ (nd ns (RL.one (RL.same ns r) c)).lv = RL.lev ns r := fun c => by
  have hp := pk_bd (c := c) (n := (RL.same ns r).length) (by omega)
  have : RL.one (RL.same ns r) c ∈ RL.same ns r := by
   unfold RL.one
   rw [if_pos (by omega)]
   have hlt : (pk c (RL.same ns r).length).toNat < (RL.same ns r).length := by omega
   rw [List.getD_eq_getElem?_getD, List.getElem?_eq_getElem hlt]
   exact List.getElem_mem hlt
  exact h2 _ this
 exact ⟨key _, key _, key _, key _⟩
theorem kids_fit {ns : List Node} (h : Wf ns) (hl : ns.length ≤ 43) (r : Five) : fit4 ns (RL.kids ns r).1 (RL.kids ns r).2.1 (RL.kids ns r).2.2.1 (RL.kids ns r).2.2.2 := by
 obtain ⟨⟨a1, a2⟩, ⟨b1, b2⟩, ⟨c1, c2⟩, ⟨d1, d2⟩⟩ := kids_lv h r
 have := h.lv_len a1
 exact ⟨a1, ⟨b1, by rw [b2, a2]⟩, ⟨c1, by rw [c2, a2]⟩, ⟨d1, by rw [d2, a2]⟩, by omega⟩
/-- The laws' stores. -/
structure St (room : Int) (s : List Node) : Prop where
 wf : Wf s
 le : (s.length : Int) ≤ room
 lo : 2 ≤ room
 hi : room ≤ 61
 few : s.length ≤ 42
theorem store_st (c : Int) (raw : List Five) : St (RL.room c) (RL.store (RL.room c) raw) := by
 have hb := RL.room_bd c
 obtain ⟨h1, h2⟩ := RL.store_ok (rm := RL.room c) (by omega) (by omega) raw
 refine ⟨h1, h2, by omega, by omega, ?_⟩
 unfold RL.store
 have key : ∀ (l : List Five) (s : List Node), (l.foldl (RL.putRaw (RL.room c)) s).length ≤ s.length + l.length := by
  intro l
  induction l with
  | nil => intro s; simp
  | cons r l ih =>
   intro s
   have h1 := ih (RL.putRaw (RL.room c) s r)
   have h2 : (RL.putRaw (RL.room c) s r).length ≤ s.length + 1 := by
    unfold RL.putRaw intern put
    split
    ·split
     ·split
      ·simp
      ·split
       ·simp
       ·simp
     ·simp
    ·simp
   simp only [List.foldl_cons, List.length_cons]
   omega
 have := key (raw.take 40) [n0, n1]
 rw [List.length_take] at this
 simp only [List.length_cons, List.length_nil] at this
 omega
theorem St.right {room : Int} {s : List Node} (h : St room s) : R6.right s room := right_iff.2 ⟨⟨h.lo, by have := h.hi; omega, h.le⟩, h.wf⟩
theorem intern_eq {ns : List Node} {room : Int} (h : R6.right ns room) (q0 q1 q2 q3 : Int) : intern ns room q0 q1 q2 q3 = put ns room q0 q1 q2 q3 := if_pos h
/-- What a put comes to: it has room, or it has none. -/
theorem put_cases {ns : List Node} (h : Wf ns) {room : Int} {q0 q1 q2 q3 : Int} (hf : fit4 ns q0 q1 q2 q3) :
  (∃ ms m, put ns room q0 q1 q2 q3 = (ms, m, 0) ∧ PutOk ns q0 q1 q2 q3 ms m) ∨ (put ns room q0 q1 q2 q3 = (ns, 0, 40) ∧ ¬ 0 ≤ R6.at_ ns [q0, q1, q2, q3] ∧ room ≤ (ns.length : Int)) := by
 by_cases hat : 0 ≤ R6.at_ ns [q0, q1, q2, q3]
 ·exact .inl (put_ok h hf (.inl hat))
 ·by_cases hr : (ns.length : Int) < room
  ·exact .inl (put_ok h hf (.inr hr))
  ·refine .inr ⟨?_, hat, by omega⟩
   unfold put
   rw [if_pos hf, if_neg hat, if_pos (by omega)]
theorem PutOk.lv0 {ns ms : List Node} {q0 q1 q2 q3 m : Int} (h : PutOk ns q0 q1 q2 q3 ms m) (hw : Wf ns) (hf : fit4 ns q0 q1 q2 q3) : (R6.nd ms m).lv ≠ 0 := by
 rw [h.lv]
 have := hw.lvb hf.1
 omega
/-- Put, and another put, and the first again. -/
theorem once {room : Int} {s : List Node} (h : St room s) (one two : Five) {r1 r2 r3 : List Node × Int × Int} (h1 : intern s room (RL.kids s one).1 (RL.kids s one).2.1 (RL.kids s one).2.2.1 (RL.kids s one).2.2.2 = r1)
  (h2 : intern r1.1 room (RL.kids r1.1 two).1 (RL.kids r1.1 two).2.1 (RL.kids r1.1 two).2.2.1 (RL.kids r1.1 two).2.2.2 = r2)
  (h3 : intern r2.1 room (RL.kids s one).1 (RL.kids s one).2.1 (RL.kids s one).2.2.1 (RL.kids s one).2.2.2 = r3) :
  (r1.2.2 ≠ 0 → r1.2.2 = 40 ∧ (s.length : Int) = room ∧ r1.1 = s) ∧ (r1.2.2 = 0 → r3.2.2 = 0 ∧ r3.2.1 = r1.2.1 ∧ r3.1 = r2.1 ∧ R6.right r2.1 room ∧ s.length ≤ r1.1.length ∧ r1.1.length ≤ s.length + 1 ∧ s <+: r1.1 ∧ inS r1.1 r1.2.1 ∧ (nd r1.1 r1.2.1).kids = [(RL.kids s one).1, (RL.kids s one).2.1, (RL.kids s one).2.2.1, (RL.kids s one).2.2.2]) := by
 have hf := kids_fit h.wf (by have := h.few; omega) one
 have hw := h.wf
 rw [intern_eq h.right] at h1
 generalize (RL.kids s one).1 = q0 at *
 generalize (RL.kids s one).2.1 = q1 at *
 generalize (RL.kids s one).2.2.1 = q2 at *
 generalize (RL.kids s one).2.2.2 = q3 at *
 have hle := h.le
 rcases put_cases hw (room := room) hf with ⟨ms, m, e, ok⟩ | ⟨e, hat, hr⟩
 ·rw [e] at h1
  subst h1
  refine ⟨fun hx => absurd rfl hx, fun _ => ?_⟩
  simp only at h2 h3 ⊢
  have hms : (ms.length : Int) ≤ room := by
   have := put_room hle q0 q1 q2 q3
   rw [e] at this
   exact this
  have hrt : R6.right ms room := right_iff.2 ⟨⟨h.lo, by have := h.hi; omega, hms⟩, ok.wf⟩
  rw [intern_eq hrt] at h2
  obtain ⟨w2, p2⟩ := put_wf ok.wf room (RL.kids ms two).1 (RL.kids ms two).2.1 (RL.kids ms two).2.2.1 (RL.kids ms two).2.2.2
  have l2 := put_room hms (RL.kids ms two).1 (RL.kids ms two).2.1 (RL.kids ms two).2.2.1 (RL.kids ms two).2.2.2
  rw [h2] at w2 p2 l2
  have hrt2 : R6.right r2.1 room := right_iff.2 ⟨⟨h.lo, by have := h.hi; omega, l2⟩, w2⟩
  rw [intern_eq hrt2] at h3
  have hpre := ok.pre.trans p2
  have hmb : inS r2.1 m := inS_pre p2 ok.mem
  have hnb : R6.nd r2.1 m = R6.nd ms m := nd_pre p2 ok.mem
  have := put_again w2 (room := room) (fit4_pre hpre hf) hmb (by rw [hnb]; exact ok.lv0 hw hf) (by rw [hnb]; exact ok.kids)
  rw [this] at h3
  subst h3
  exact ⟨rfl, rfl, rfl, hrt2, ok.pre.length_le, ok.len, ok.pre, ok.mem, ok.kids⟩
 ·rw [e] at h1
  subst h1
  exact ⟨fun _ => ⟨rfl, by show (s.length : Int) = room; omega, rfl⟩, fun hx => by cases hx⟩
/-- A store that is full, and one with room for one more. -/
theorem full {room : Int} {s : List Node} (h : St room s) (r : Five) {r1 r2 : List Node × Int × Int} (h1 : intern s s.length (RL.kids s r).1 (RL.kids s r).2.1 (RL.kids s r).2.2.1 (RL.kids s r).2.2.2 = r1) (h2 : intern s ((s.length : Int) + 1) (RL.kids s r).1 (RL.kids s r).2.1 (RL.kids s r).2.2.1 (RL.kids s r).2.2.2 = r2) :
  (0 ≤ R6.at_ s [(RL.kids s r).1, (RL.kids s r).2.1, (RL.kids s r).2.2.1, (RL.kids s r).2.2.2] → r1 = (s, R6.at_ s [(RL.kids s r).1, (RL.kids s r).2.1, (RL.kids s r).2.2.1, (RL.kids s r).2.2.2], 0) ∧ r2 = (s, R6.at_ s [(RL.kids s r).1, (RL.kids s r).2.1, (RL.kids s r).2.2.1, (RL.kids s r).2.2.2], 0)) ∧
  (¬ 0 ≤ R6.at_ s [(RL.kids s r).1, (RL.kids s r).2.1, (RL.kids s r).2.2.1, (RL.kids s r).2.2.2] → r1 = (s, 0, 40) ∧ r2.2.2 = 0 ∧ r2.2.1 = s.length ∧ r2.1.length = s.length + 1) := by
 have hf := kids_fit h.wf (by have := h.few; omega) r
 have hw := h.wf
 have hl2 := hw.len
 have hfew := h.few
 rw [intern_eq (right_iff.2 ⟨⟨by omega, by omega, Int.le_refl _⟩, hw⟩)] at h1
 rw [intern_eq (right_iff.2 ⟨⟨by omega, by omega, by omega⟩, hw⟩)] at h2
 generalize (RL.kids s r).1 = q0 at *
 generalize (RL.kids s r).2.1 = q1 at *
 generalize (RL.kids s r).2.2.1 = q2 at *
 generalize (RL.kids s r).2.2.2 = q3 at *
 unfold put at h1 h2
 rw [if_pos hf] at h1 h2
 constructor
 ·intro hat
  rw [if_pos hat] at h1 h2
  exact ⟨h1.symm, h2.symm⟩
 ·intro hat
  rw [if_neg hat, if_pos (Int.le_refl _)] at h1
  rw [if_neg hat, if_neg (by omega)] at h2
  refine ⟨h1.symm, ?_⟩
  subst h2
  exact ⟨rfl, rfl, by simp⟩
theorem pop4_sum {ns : List Node} {q0 q1 q2 q3 : Int} (h0 : 0 ≤ (nd ns q0).pop) (h1 : 0 ≤ (nd ns q1).pop) (h2 : 0 ≤ (nd ns q2).pop) (h3 : 0 ≤ (nd ns q3).pop) : pop4 ns q0 q1 q2 q3 = mn ((nd ns q0).pop + (nd ns q1).pop + (nd ns q2).pop + (nd ns q3).pop) cap62 := by
 unfold pop4 mn cap62
 repeat' split
 all_goals omega
/-- One of the four turns of four. -/
def Rot (q0 q1 q2 q3 t0 t1 t2 t3 : Int) : Prop := (t0 = q0 ∧ t1 = q1 ∧ t2 = q2 ∧ t3 = q3) ∨ (t0 = q1 ∧ t1 = q2 ∧ t2 = q3 ∧ t3 = q0) ∨ (t0 = q2 ∧ t1 = q3 ∧ t2 = q0 ∧ t3 = q1) ∨ (t0 = q3 ∧ t1 = q0 ∧ t2 = q1 ∧ t3 = q2)
theorem Rot.fit {ns : List Node} {q0 q1 q2 q3 t0 t1 t2 t3 : Int} (h : Rot q0 q1 q2 q3 t0 t1 t2 t3) (hf : fit4 ns q0 q1 q2 q3) : fit4 ns t0 t1 t2 t3 ∧ (nd ns t0).lv = (nd ns q0).lv := by
 obtain ⟨a, ⟨b, b'⟩, ⟨c, c'⟩, ⟨d, d'⟩, e⟩ := hf
 rcases h with ⟨rfl, rfl, rfl, rfl⟩ | ⟨rfl, rfl, rfl, rfl⟩ | ⟨rfl, rfl, rfl, rfl⟩ | ⟨rfl, rfl, rfl, rfl⟩
 ·exact ⟨⟨a, ⟨b, b'⟩, ⟨c, c'⟩, ⟨d, d'⟩, e⟩, rfl⟩
 ·exact ⟨⟨b, ⟨c, by omega⟩, ⟨d, by omega⟩, ⟨a, by omega⟩, by omega⟩, b'⟩
 ·exact ⟨⟨c, ⟨d, by omega⟩, ⟨a, by omega⟩, ⟨b, by omega⟩, by omega⟩, c'⟩
 ·exact ⟨⟨d, ⟨a, by omega⟩, ⟨b, by omega⟩, ⟨c, by omega⟩, by omega⟩, d'⟩
theorem Rot.pop {ns : List Node} (hw : Wf ns) {q0 q1 q2 q3 t0 t1 t2 t3 : Int} (h : Rot q0 q1 q2 q3 t0 t1 t2 t3) (hf : fit4 ns q0 q1 q2 q3) : pop4 ns t0 t1 t2 t3 = pop4 ns q0 q1 q2 q3 := by
 obtain ⟨a, ⟨b, b'⟩, ⟨c, c'⟩, ⟨d, d'⟩, e⟩ := hf
 have ha := (hw.mod.nd a).2.2.1
 have hb := (hw.mod.nd b).2.2.1
 have hc := (hw.mod.nd c).2.2.1
 have hd := (hw.mod.nd d).2.2.1
 rcases h with ⟨rfl, rfl, rfl, rfl⟩ | ⟨rfl, rfl, rfl, rfl⟩ | ⟨rfl, rfl, rfl, rfl⟩ | ⟨rfl, rfl, rfl, rfl⟩
 ·rfl
 all_goals
  rw [pop4_sum (by assumption) (by assumption) (by assumption) (by assumption), pop4_sum (by assumption) (by assumption) (by assumption) (by assumption)]
  congr 1
  omega
theorem pops {room : Int} {s : List Node} (h : St room s) {q0 q1 q2 q3 t0 t1 t2 t3 : Int} (hf : fit4 s q0 q1 q2 q3) (hrot : Rot q0 q1 q2 q3 t0 t1 t2 t3) {r1 r2 : List Node × Int × Int} (h1 : intern s (room + 2) q0 q1 q2 q3 = r1) (h2 : intern r1.1 (room + 2) t0 t1 t2 t3 = r2) :
  r1.2.2 = 0 ∧ r2.2.2 = 0 ∧ r1.1.length ≤ s.length + 1 ∧ inS r2.1 r1.2.1 ∧ inS r2.1 r2.2.1 ∧ (nd r2.1 r1.2.1).pop = pop4 s q0 q1 q2 q3 ∧ (nd r2.1 r2.2.1).pop = pop4 s q0 q1 q2 q3 ∧ (nd r2.1 r1.2.1).lv = (nd r2.1 r2.2.1).lv ∧ (r1.2.1 = r2.2.1 ↔ [q0, q1, q2, q3] = [t0, t1, t2, t3]) := by
 have hw := h.wf
 have hle := h.le
 have hhi := h.hi
 have hlo := h.lo
 rw [intern_eq (right_iff.2 ⟨⟨by omega, by omega, by omega⟩, hw⟩)] at h1
 obtain ⟨ms, m, e, ok⟩ := put_ok hw (room := room + 2) hf (.inr (by omega))
 rw [e] at h1
 subst h1
 have hl1 := ok.len
 simp only at h2 ⊢
 rw [intern_eq (right_iff.2 ⟨⟨by omega, by omega, by omega⟩, ok.wf⟩)] at h2
 obtain ⟨hft, hlt⟩ := hrot.fit hf
 obtain ⟨ms2, m2, e2, ok2⟩ := put_ok ok.wf (room := room + 2) (fit4_pre ok.pre hft) (.inr (by omega))
 rw [e2] at h2
 subst h2
 simp only
 have hn : inS ms2 m := inS_pre ok2.pre ok.mem
 have en : R6.nd ms2 m = mk4 s q0 q1 q2 q3 := by rw [nd_pre ok2.pre ok.mem, ok.nd]
 have em : R6.nd ms2 m2 = mk4 s t0 t1 t2 t3 := by rw [ok2.nd, mk4_pre ok.pre hft]
 refine ⟨by first | rfl | trivial, by first | rfl | trivial, ok.len, hn, ok2.mem, by rw [en]; rfl, by rw [em]; exact hrot.pop hw hf, by rw [en, em]; show (R6.nd s q0).lv + 1 = (R6.nd s t0).lv + 1; rw [hlt], ?_⟩
 constructor
 ·intro he
  rw [he] at en
  rw [em] at en
  have := congrArg Node.kids en
  exact this.symm
 ·intro he
  have hl : ∀ x, (mk4 s x q1 q2 q3).kids = [x, q1, q2, q3] := fun x => rfl
  refine ok2.wf.uniq hn ok2.mem ?_ ?_ ?_
  ·rw [en]
   have := (hw.lvb hf.1).1
   show (R6.nd s q0).lv + 1 ≠ 0
   omega
  ·rw [em]
   have := (hw.lvb hft.1).1
   show (R6.nd s t0).lv + 1 ≠ 0
   omega
  ·rw [en, em]
   exact he
/-! ### empty nodes -/
theorem dead_below {ns : List Node} (h : Wf ns) : ∀ (k j : Nat) (n : Int), IsN ns (j + k) n → (nd ns n).pop = 0 → ∃ q, IsN ns j q ∧ (nd ns q).pop = 0
 | 0, j, n, hn, hp => ⟨n, hn, hp⟩
 | k + 1, j, n, hn, hp => dead_below h k j _ (R7.kids4 h (lv := j + k) hn).1 ((R7.dead_kids h (lv := j + k) hn).1 hp).1
theorem E_zero {ns : List Node} (h : Wf ns) {v : Nat} {n : Int} (hn : IsN ns v n) (hp : (nd ns n).pop = 0) : ∀ j, j ≤ v → R7.E ns j = 0
 | 0, _ => rfl
 | j + 1, hj => by
  have ih := E_zero h hn hp j (by omega)
  obtain ⟨k, rfl⟩ : ∃ k, v = j + 1 + k := ⟨v - (j + 1), by omega⟩
  have hd : R7.deadB ns (j + 1) = true := R7.deadB_iff.2 (dead_below h k (j + 1) n hn hp)
  unfold R7.E
  rw [if_pos hd, ih]
theorem emptyT_eq {ns ms : List Node} {room : Int} {m : Int} {v : Nat} (h : R6.right ns room) (hv : v ≤ 42) (e : R7.empty ns room v = (ms, m, 0)) : emptyT ns room v = (ms, m, 0) := by
 unfold emptyT told
 rw [if_neg (by omega), if_pos h, Int.toNat_natCast, e]
 rfl
theorem empties {room : Int} {s : List Node} (h : St room s) {v1 v2 : Nat} (h1 : v1 ≤ 42) (h2 : v2 ≤ 42) {r1 r2 r3 : List Node × Int × Int} (e1 : emptyT s (room + 50) v1 = r1) (e2 : emptyT r1.1 (room + 50) v2 = r2) (e3 : emptyT r2.1 (room + 50) v1 = r3) :
  (r1.2.2 = 0 ∧ r2.2.2 = 0 ∧ r3.2.2 = 0) ∧ r3.2.1 = r1.2.1 ∧ r3.1 = r2.1 ∧ inS r3.1 r1.2.1 ∧ inS r3.1 r2.2.1 ∧ (nd r3.1 r1.2.1).pop = 0 ∧ (nd r3.1 r1.2.1).lv = v1 ∧ (nd r3.1 r2.2.1).lv = v2 ∧ (r1.2.1 = r2.2.1 ↔ v1 = v2) ∧ r1.1.length ≤ 200 ∧ r2.1.length ≤ s.length + max v1 v2 := by
 have hw := h.wf
 have hle := h.le
 have hhi := h.hi
 have hlo := h.lo
 have hEs := R7.E_le s (max v1 v2)
 obtain ⟨ms1, m1, q1, k1, d1⟩ := R7.empty_ok (room := room + 50) (L := max v1 v2) (by omega) hw (lv := v1) (by omega) (by omega)
 rw [emptyT_eq (right_iff.2 ⟨⟨by omega, by omega, by omega⟩, hw⟩) h1 q1] at e1
 subst e1
 have l1 := k1.len
 obtain ⟨ms2, m2, q2, k2, d2⟩ := R7.empty_ok (room := room + 50) (L := max v1 v2) (by omega) k1.wf (lv := v2) (by omega) (by omega)
 rw [emptyT_eq (right_iff.2 ⟨⟨by omega, by omega, by omega⟩, k1.wf⟩) h2 q2] at e2
 subst e2
 have l2 := k2.len
 have i1 : IsN ms2 v1 m1 := k1.is.pre k2.pre
 have p1 : (nd ms2 m1).pop = 0 := by rw [nd_pre k2.pre k1.is.1]; exact d1
 have hE := E_zero k2.wf i1 p1 v1 (Nat.le_refl _)
 obtain ⟨ms3, m3, q3, k3, d3⟩ := R7.empty_ok (room := room + 50) (L := v1) h1 k2.wf (lv := v1) (Nat.le_refl _) (by omega)
 rw [emptyT_eq (right_iff.2 ⟨⟨by omega, by omega, by omega⟩, k2.wf⟩) h1 q3] at e3
 subst e3
 have l3 := k3.len
 have e : ms2 = ms3 := k3.pre.eq_of_length_le (by omega)
 subst e
 simp only
 refine ⟨⟨by first | rfl | trivial, by first | rfl | trivial, by first | rfl | trivial⟩, R7.dead_uniq k2.wf k3.is i1 d3 p1, by first | rfl | trivial, i1.1, k2.is.1, p1, i1.2, k2.is.2, ?_, by omega, by omega⟩
 constructor
 ·intro hm
  have a := i1.2
  have b := k2.is.2
  rw [hm] at a
  omega
 ·intro hv
  subst hv
  exact R7.dead_uniq k2.wf i1 k2.is p1 d2
end R6
end Go.GL

set_option linter.unusedVariables false
namespace Go.GL
open Go.Proofs
attribute [local irreducible] wpList Code.wp Exit.then Exit.inBlock Ends Tri TriH OpV OpG FnC epf wpAnyH
variable {A : List Asrt} {I : List Chunk}
set_option maxHeartbeats 4000000 in
set_option maxRecDepth 100000 in
theorem law06_empty {raw : List Five} {a2 : Option Addr} {cap2 : Nat} {room one two : Int} (h0 : I64 room) (hs2 : SlAt I a2 raw) (hf : RL.Fs raw) (ho : I64 one) (ht : I64 two) :
  FnC Try.prog 7 [.int .i64 room, .slice a2 raw.length cap2, .int .i64 one, .int .i64 two].toArray A I (fun v A' I' => v = .bool true ∧ A = A' ∧ I ⊆ I') := by
 have hst := R6.store_st room raw
 have hrm := RL.room_bd room
 have hb1 := pk_bd (c := one) (n := 43) (by omega)
 have hb2 := pk_bd (c := two) (n := 43) (by omega)
 obtain ⟨v1, hp1⟩ : ∃ v : Nat, pk one 43 = v := ⟨(pk one 43).toNat, by omega⟩
 obtain ⟨v2, hp2⟩ : ∃ v : Nat, pk two 43 = v := ⟨(pk two 43).toNat, by omega⟩
 rw [hp1] at hb1
 rw [hp2] at hb2
 skip
 refine fn_enter4 Try.func7 rfl Try.ntmps7 rfl fun w0 => ?_
 refine tS (tR (tA rfl rfl (tN (tT (tS (tR ?_))))))
 refine tri_g (opg_call (xs := []) rfl (law06_awake)) rfl ?_
 rintro _ _ I0 ⟨rfl, rfl, hI0⟩
 refine tA rfl rfl (tN (tT (tS (tR (tM rfl rfl (tM rfl rfl ?_))))))
 refine tri_g (opg_call (xs := [_, _]) rfl (law06_store h0 (hs2.mono hI0) hf)) rfl ?_
 rintro _ _ I1 ⟨x1, y1, rfl, hs, rfl, hI1⟩
 generalize RL.store (RL.room room) raw = s at *
 generalize RL.room room = rm at *
 have hfew := hst.few
 obtain ⟨r1, e1⟩ : ∃ x, R6.emptyT s (rm + 50) v1 = x := ⟨_, rfl⟩
 obtain ⟨r2, e2⟩ : ∃ x, R6.emptyT r1.1 (rm + 50) v2 = x := ⟨_, rfl⟩
 obtain ⟨r3, e3⟩ : ∃ x, R6.emptyT r2.1 (rm + 50) v1 = x := ⟨_, rfl⟩
 obtain ⟨⟨c1, c2, c3⟩, c4, c5, ⟨c6, c6'⟩, ⟨c7, c7'⟩, c8, c9, c10, c11, c12, c13⟩ := R6.empties hst (by omega) (by omega) e1 e2 e3
 rw [← hp1] at e1 e3
 rw [← hp2] at e2
 refine tri_g opg_alloc rfl ?_
 rintro _ _ _ ⟨b10, rfl, rfl, rfl⟩
 refine tri_g (opg_store rfl rfl rfl rfl rfl rfl) rfl ?_
 rintro _ _ _ ⟨rfl, rfl⟩
 refine tN (tT (tS (tR ?_)))
 refine tri_v (by first | exact opv_fieldAddr rfl rfl | exact opv_fieldAddrE rfl (by assumption) (by omega) rfl | exact opv_fieldAddrR rfl (by omega) rfl) rfl ?_
 refine tri_v (by first | exact opv_load1 rfl rfl rfl | exact opv_loadA rfl rfl rfl | exact opv_loadE1 rfl (by assumption) rfl (by omega) rfl rfl | exact opv_loadEA rfl (by assumption) rfl (by omega) rfl rfl | exact opv_loadRX1 rfl rfl (by omega) rfl rfl | exact opv_loadRXA rfl rfl (by omega) rfl rfl rfl | exact opv_loadIX rfl rfl (by omega) | exact opv_loadR1 rfl rfl rfl | exact opv_loadRA rfl rfl rfl rfl) rfl ?_
 refine tri_v (by first | exact opv_add rfl rfl (w64 (by omega) (by omega))) rfl ?_
 refine tri_v (by first | exact opv_fieldAddr rfl rfl | exact opv_fieldAddrE rfl (by assumption) (by omega) rfl | exact opv_fieldAddrR rfl (by omega) rfl) rfl ?_
 refine tri_g (opg_store rfl rfl rfl rfl rfl rfl) rfl ?_
 rintro _ _ _ ⟨rfl, rfl⟩
 refine tN (tT (tS ?_))
 refine tri_cut (fun F' A' J => ∃ (x2 : Option Addr) (y2 b11 : Nat), F' = [(2, .int .i64 one), (3, .int .i64 two), (9, .bool true), (10, pt b10 0), (11, pt b11 0), (12, .int .i64 r1.2.1), (13, .int .i64 r1.2.2)] ∧ A' = Box b11 [.slice x2 r1.1.length y2, .int .i64 (rm + 50)] 25 :: Box b10 [.slice x1 s.length y1, .int .i64 (rm + 50)] 25 :: A ∧ StA J x2 y2 r1.1 ∧ I1 ⊆ J) ?_ ?_
 ·refine tri_draw [0, 1, 2, 3, 4, 5, 6, 7, 8, 9, 10, 11] rfl [] rfl mixed ?_
  refine th_take rfl rfl (by kernel_rfl)  (by first | exact opv_load1 rfl rfl rfl | exact opv_loadA rfl rfl rfl | exact opv_loadE1 rfl (by assumption) rfl (by omega) rfl rfl | exact opv_loadEA rfl (by assumption) rfl (by omega) rfl rfl | exact opv_loadRX1 rfl rfl (by omega) rfl rfl | exact opv_loadRXA rfl rfl (by omega) rfl rfl rfl | exact opv_loadIX rfl rfl (by omega) | exact opv_loadR1 rfl rfl rfl | exact opv_loadRA rfl rfl rfl rfl) ?_
  refine th_take rfl rfl (by kernel_rfl)  (opv_move rfl) ?_
  refine th_two (j := 8) [2, 3, 4, 5, 6, 7, 9, 10, 11] (by kernel_rfl) rfl ?_ ?_
  ·refine (step_m rfl rfl (opg_call (xs := [_, _]) rfl (law06_pick (n := 43) ho.1 ho.2 (by decide))) ?_)
   rintro _ _ _ ⟨rfl, rfl, rfl⟩
   refine ⟨Suf.h, fun _ h => h, ?_⟩
   refine th_two (j := 8) [3, 4, 5, 6, 7, 9, 10, 11] (by kernel_rfl) rfl ?_ ?_
   ·refine (step_m rfl rfl (opg_call (xs := [_, _]) rfl (node_emptyR hs (by omega) e1)) ?_)
    rintro _ _ I2 ⟨x2, y2, rfl, g2, rfl, hI2⟩
    refine ⟨Suf.h, fun _ h => hI2 h, ?_⟩
    refine th_take rfl rfl (by kernel_rfl)  (opv_move rfl) ?_
    refine th_take rfl rfl (by kernel_rfl)  (opv_extract rfl rfl) ?_
    refine th_take rfl rfl (by kernel_rfl)  (opv_extract rfl rfl) ?_
    refine th_take rfl rfl (by kernel_rfl)  (opv_extract rfl rfl) ?_
    refine th_one (by kernel_rfl) (step_m rfl rfl opg_alloc ?_)
    rintro _ _ _ ⟨b11, rfl, rfl, rfl⟩
    refine ⟨Suf.h, (by first | exact fun _ h => h | assumption | exact fun _ h => (by assumption : _ ⊆ _) ((by assumption : _ ⊆ _) h)), ?_⟩
    refine th_one (by kernel_rfl) (step_m rfl rfl (opg_store rfl rfl rfl rfl rfl rfl) ?_)
    rintro _ _ _ ⟨rfl, rfl⟩
    refine ⟨Suf.h, (by first | exact fun _ h => h | assumption | exact fun _ h => (by assumption : _ ⊆ _) ((by assumption : _ ⊆ _) h)), ?_⟩
    refine th_take rfl rfl (by kernel_rfl)  (opv_assign rfl) ?_
    refine th_take rfl rfl (by kernel_rfl)  (opv_assign rfl) ?_
    refine th_done (by kernel_rfl) ?_
    exact tri_cutEnd _ ⟨x2, y2, b11, rfl, rfl, g2, hI2⟩ ⟨rfl, rfl, rfl, rfl, rfl, rfl, rfl, trivial⟩
   ·refine (step_m rfl rfl opg_alloc ?_)
    rintro _ _ _ ⟨b11, rfl, rfl, rfl⟩
    refine ⟨Suf.h, (by first | exact fun _ h => h | assumption | exact fun _ h => (by assumption : _ ⊆ _) ((by assumption : _ ⊆ _) h)), ?_⟩
    refine th_one (by kernel_rfl) (step_m rfl rfl (opg_call (xs := [_, _]) rfl (node_emptyR hs (by omega) e1)) ?_)
    rintro _ _ I2 ⟨x2, y2, rfl, g2, rfl, hI2⟩
    refine ⟨Suf.h, fun _ h => hI2 h, ?_⟩
    refine th_take rfl rfl (by kernel_rfl)  (opv_move rfl) ?_
    refine th_take rfl rfl (by kernel_rfl)  (opv_extract rfl rfl) ?_
    refine th_take rfl rfl (by kernel_rfl)  (opv_extract rfl rfl) ?_
    refine th_take rfl rfl (by kernel_rfl)  (opv_extract rfl rfl) ?_
    refine th_one (by kernel_rfl) (step_m rfl rfl (opg_store rfl rfl rfl rfl rfl rfl) ?_)
    rintro _ _ _ ⟨rfl, rfl⟩
    refine ⟨Suf.h, (by first | exact fun _ h => h | assumption | exact fun _ h => (by assumption : _ ⊆ _) ((by assumption : _ ⊆ _) h)), ?_⟩
    refine th_take rfl rfl (by kernel_rfl)  (opv_assign rfl) ?_
    refine th_take rfl rfl (by kernel_rfl)  (opv_assign rfl) ?_
    refine th_done (by kernel_rfl) ?_
    exact tri_cutEnd _ ⟨x2, y2, b11, rfl, rfl, g2, hI2⟩ ⟨rfl, rfl, rfl, rfl, rfl, rfl, rfl, trivial⟩
  ·refine (step_m rfl rfl opg_alloc ?_)
   rintro _ _ _ ⟨b11, rfl, rfl, rfl⟩
   refine ⟨Suf.h, (by first | exact fun _ h => h | assumption | exact fun _ h => (by assumption : _ ⊆ _) ((by assumption : _ ⊆ _) h)), ?_⟩
   refine th_one (by kernel_rfl) (step_m rfl rfl (opg_call (xs := [_, _]) rfl (law06_pick (n := 43) ho.1 ho.2 (by decide))) ?_)
   rintro _ _ _ ⟨rfl, rfl, rfl⟩
   refine ⟨Suf.h, fun _ h => h, ?_⟩
   refine th_one (by kernel_rfl) (step_m rfl rfl (opg_call (xs := [_, _]) rfl (node_emptyR hs (by omega) e1)) ?_)
   rintro _ _ I2 ⟨x2, y2, rfl, g2, rfl, hI2⟩
   refine ⟨Suf.h, fun _ h => hI2 h, ?_⟩
   refine th_take rfl rfl (by kernel_rfl)  (opv_move rfl) ?_
   refine th_take rfl rfl (by kernel_rfl)  (opv_extract rfl rfl) ?_
   refine th_take rfl rfl (by kernel_rfl)  (opv_extract rfl rfl) ?_
   refine th_take rfl rfl (by kernel_rfl)  (opv_extract rfl rfl) ?_
   refine th_one (by kernel_rfl) (step_m rfl rfl (opg_store rfl rfl rfl rfl rfl rfl) ?_)
   rintro _ _ _ ⟨rfl, rfl⟩
   refine ⟨Suf.h, (by first | exact fun _ h => h | assumption | exact fun _ h => (by assumption : _ ⊆ _) ((by assumption : _ ⊆ _) h)), ?_⟩
   refine th_take rfl rfl (by kernel_rfl)  (opv_assign rfl) ?_
   refine th_take rfl rfl (by kernel_rfl)  (opv_assign rfl) ?_
   refine th_done (by kernel_rfl) ?_
   exact tri_cutEnd _ ⟨x2, y2, b11, rfl, rfl, g2, hI2⟩ ⟨rfl, rfl, rfl, rfl, rfl, rfl, rfl, trivial⟩
 rintro _ _ I2 ⟨x2, y2, b11, rfl, rfl, g2, hI2⟩
 skip
 refine tT (tS ?_)
 refine tri_cut (fun F' A' J => ∃ (x3 : Option Addr) (y3 b14 : Nat), F' = [(2, .int .i64 one), (3, .int .i64 two), (9, .bool true), (10, pt b10 0), (11, pt b11 0), (12, .int .i64 r1.2.1), (13, .int .i64 r1.2.2), (14, pt b14 0), (15, .int .i64 r2.2.1), (16, .int .i64 r2.2.2)] ∧ A' = Box b14 [.slice x3 r2.1.length y3, .int .i64 (rm + 50)] 25 :: Box b11 [.slice x2 r1.1.length y2, .int .i64 (rm + 50)] 25 :: Box b10 [.slice x1 s.length y1, .int .i64 (rm + 50)] 25 :: A ∧ StA J x3 y3 r2.1 ∧ I2 ⊆ J) ?_ ?_
 ·refine tri_draw [0, 1, 2, 3, 4, 5, 6, 7, 8, 9, 10, 11] rfl [] rfl mixed ?_
  refine th_take rfl rfl (by kernel_rfl)  (by first | exact opv_load1 rfl rfl rfl | exact opv_loadA rfl rfl rfl | exact opv_loadE1 rfl (by assumption) rfl (by omega) rfl rfl | exact opv_loadEA rfl (by assumption) rfl (by omega) rfl rfl | exact opv_loadRX1 rfl rfl (by omega) rfl rfl | exact opv_loadRXA rfl rfl (by omega) rfl rfl rfl | exact opv_loadIX rfl rfl (by omega) | exact opv_loadR1 rfl rfl rfl | exact opv_loadRA rfl rfl rfl rfl) ?_
  refine th_take rfl rfl (by kernel_rfl)  (opv_move rfl) ?_
  refine th_two (j := 8) [2, 3, 4, 5, 6, 7, 9, 10, 11] (by kernel_rfl) rfl ?_ ?_
  ·refine (step_m rfl rfl (opg_call (xs := [_, _]) rfl (law06_pick (n := 43) ht.1 ht.2 (by decide))) ?_)
   rintro _ _ _ ⟨rfl, rfl, rfl⟩
   refine ⟨Suf.h, fun _ h => h, ?_⟩
   refine th_two (j := 8) [3, 4, 5, 6, 7, 9, 10, 11] (by kernel_rfl) rfl ?_ ?_
   ·refine (step_m rfl rfl (opg_call (xs := [_, _]) rfl (node_emptyR g2 (by omega) e2)) ?_)
    rintro _ _ I3 ⟨x3, y3, rfl, g3, rfl, hI3⟩
    refine ⟨Suf.h, fun _ h => hI3 h, ?_⟩
    refine th_take rfl rfl (by kernel_rfl)  (opv_move rfl) ?_
    refine th_take rfl rfl (by kernel_rfl)  (opv_extract rfl rfl) ?_
    refine th_take rfl rfl (by kernel_rfl)  (opv_extract rfl rfl) ?_
    refine th_take rfl rfl (by kernel_rfl)  (opv_extract rfl rfl) ?_
    refine th_one (by kernel_rfl) (step_m rfl rfl opg_alloc ?_)
    rintro _ _ _ ⟨b14, rfl, rfl, rfl⟩
    refine ⟨Suf.h, (by first | exact fun _ h => h | assumption | exact fun _ h => (by assumption : _ ⊆ _) ((by assumption : _ ⊆ _) h)), ?_⟩
    refine th_one (by kernel_rfl) (step_m rfl rfl (opg_store rfl rfl rfl rfl rfl rfl) ?_)
    rintro _ _ _ ⟨rfl, rfl⟩
    refine ⟨Suf.h, (by first | exact fun _ h => h | assumption | exact fun _ h => (by assumption : _ ⊆ _) ((by assumption : _ ⊆ _) h)), ?_⟩
    refine th_take rfl rfl (by kernel_rfl)  (opv_assign rfl) ?_
    refine th_take rfl rfl (by kernel_rfl)  (opv_assign rfl) ?_
    refine th_done (by kernel_rfl) ?_
    exact tri_cutEnd _ ⟨x3, y3, b14, rfl, rfl, g3, hI3⟩ ⟨rfl, rfl, rfl, rfl, rfl, rfl, rfl, rfl, rfl, rfl, trivial⟩
   ·refine (step_m rfl rfl opg_alloc ?_)
    rintro _ _ _ ⟨b14, rfl, rfl, rfl⟩
    refine ⟨Suf.h, (by first | exact fun _ h => h | assumption | exact fun _ h => (by assumption : _ ⊆ _) ((by assumption : _ ⊆ _) h)), ?_⟩
    refine th_one (by kernel_rfl) (step_m rfl rfl (opg_call (xs := [_, _]) rfl (node_emptyR g2 (by omega) e2)) ?_)
    rintro _ _ I3 ⟨x3, y3, rfl, g3, rfl, hI3⟩
    refine ⟨Suf.h, fun _ h => hI3 h, ?_⟩
    refine th_take rfl rfl (by kernel_rfl)  (opv_move rfl) ?_
    refine th_take rfl rfl (by kernel_rfl)  (opv_extract rfl rfl) ?_
    refine th_take rfl rfl (by kernel_rfl)  (opv_extract rfl rfl) ?_
    refine th_take rfl rfl (by kernel_rfl)  (opv_extract rfl rfl) ?_
    refine th_one (by kernel_rfl) (step_m rfl rfl (opg_store rfl rfl rfl rfl rfl rfl) ?_)
    rintro _ _ _ ⟨rfl, rfl⟩
    refine ⟨Suf.h, (by first | exact fun _ h => h | assumption | exact fun _ h => (by assumption : _ ⊆ _) ((by assumption : _ ⊆ _) h)), ?_⟩
    refine th_take rfl rfl (by kernel_rfl)  (opv_assign rfl) ?_
    refine th_take rfl rfl (by kernel_rfl)  (opv_assign rfl) ?_
    refine th_done (by kernel_rfl) ?_
    exact tri_cutEnd _ ⟨x3, y3, b14, rfl, rfl, g3, hI3⟩ ⟨rfl, rfl, rfl, rfl, rfl, rfl, rfl, rfl, rfl, rfl, trivial⟩
  ·refine (step_m rfl rfl opg_alloc ?_)
   rintro _ _ _ ⟨b14, rfl, rfl, rfl⟩
   refine ⟨Suf.h, (by first | exact fun _ h => h | assumption | exact fun _ h => (by assumption : _ ⊆ _) ((by assumption : _ ⊆ _) h)), ?_⟩
   refine th_one (by kernel_rfl) (step_m rfl rfl (opg_call (xs := [_, _]) rfl (law06_pick (n := 43) ht.1 ht.2 (by decide))) ?_)
   rintro _ _ _ ⟨rfl, rfl, rfl⟩
   refine ⟨Suf.h, fun _ h => h, ?_⟩
   refine th_one (by kernel_rfl) (step_m rfl rfl (opg_call (xs := [_, _]) rfl (node_emptyR g2 (by omega) e2)) ?_)
   rintro _ _ I3 ⟨x3, y3, rfl, g3, rfl, hI3⟩
   refine ⟨Suf.h, fun _ h => hI3 h, ?_⟩
   refine th_take rfl rfl (by kernel_rfl)  (opv_move rfl) ?_
   refine th_take rfl rfl (by kernel_rfl)  (opv_extract rfl rfl) ?_
   refine th_take rfl rfl (by kernel_rfl)  (opv_extract rfl rfl) ?_
   refine th_take rfl rfl (by kernel_rfl)  (opv_extract rfl rfl) ?_
   refine th_one (by kernel_rfl) (step_m rfl rfl (opg_store rfl rfl rfl rfl rfl rfl) ?_)
   rintro _ _ _ ⟨rfl, rfl⟩
   refine ⟨Suf.h, (by first | exact fun _ h => h | assumption | exact fun _ h => (by assumption : _ ⊆ _) ((by assumption : _ ⊆ _) h)), ?_⟩
   refine th_take rfl rfl (by kernel_rfl)  (opv_assign rfl) ?_
   refine th_take rfl rfl (by kernel_rfl)  (opv_assign rfl) ?_
   refine th_done (by kernel_rfl) ?_
   exact tri_cutEnd _ ⟨x3, y3, b14, rfl, rfl, g3, hI3⟩ ⟨rfl, rfl, rfl, rfl, rfl, rfl, rfl, rfl, rfl, rfl, trivial⟩
 rintro _ _ I3 ⟨x3, y3, b14, rfl, rfl, g3, hI3⟩
 skip
 refine tT (tS ?_)
 refine tri_cut (fun F' A' J => ∃ (x4 : Option Addr) (y4 b17 : Nat), F' = [(2, .int .i64 one), (3, .int .i64 two), (9, .bool true), (10, pt b10 0), (11, pt b11 0), (12, .int .i64 r1.2.1), (13, .int .i64 r1.2.2), (14, pt b14 0), (15, .int .i64 r2.2.1), (16, .int .i64 r2.2.2), (17, pt b17 0), (18, .int .i64 r3.2.1), (19, .int .i64 r3.2.2)] ∧ A' = Box b17 [.slice x4 r3.1.length y4, .int .i64 (rm + 50)] 25 :: Box b14 [.slice x3 r2.1.length y3, .int .i64 (rm + 50)] 25 :: Box b11 [.slice x2 r1.1.length y2, .int .i64 (rm + 50)] 25 :: Box b10 [.slice x1 s.length y1, .int .i64 (rm + 50)] 25 :: A ∧ StA J x4 y4 r3.1 ∧ I3 ⊆ J) ?_ ?_
 ·refine tri_draw [0, 1, 2, 3, 4, 5, 6, 7, 8, 9, 10, 11] rfl [] rfl mixed ?_
  refine th_take rfl rfl (by kernel_rfl)  (by first | exact opv_load1 rfl rfl rfl | exact opv_loadA rfl rfl rfl | exact opv_loadE1 rfl (by assumption) rfl (by omega) rfl rfl | exact opv_loadEA rfl (by assumption) rfl (by omega) rfl rfl | exact opv_loadRX1 rfl rfl (by omega) rfl rfl | exact opv_loadRXA rfl rfl (by omega) rfl rfl rfl | exact opv_loadIX rfl rfl (by omega) | exact opv_loadR1 rfl rfl rfl | exact opv_loadRA rfl rfl rfl rfl) ?_
  refine th_take rfl rfl (by kernel_rfl)  (opv_move rfl) ?_
  refine th_two (j := 8) [2, 3, 4, 5, 6, 7, 9, 10, 11] (by kernel_rfl) rfl ?_ ?_
  ·refine (step_m rfl rfl (opg_call (xs := [_, _]) rfl (law06_pick (n := 43) ho.1 ho.2 (by decide))) ?_)
   rintro _ _ _ ⟨rfl, rfl, rfl⟩
   refine ⟨Suf.h, fun _ h => h, ?_⟩
   refine th_two (j := 8) [3, 4, 5, 6, 7, 9, 10, 11] (by kernel_rfl) rfl ?_ ?_
   ·refine (step_m rfl rfl (opg_call (xs := [_, _]) rfl (node_emptyR g3 (by omega) e3)) ?_)
    rintro _ _ I4 ⟨x4, y4, rfl, g4, rfl, hI4⟩
    refine ⟨Suf.h, fun _ h => hI4 h, ?_⟩
    refine th_take rfl rfl (by kernel_rfl)  (opv_move rfl) ?_
    refine th_take rfl rfl (by kernel_rfl)  (opv_extract rfl rfl) ?_
    refine th_take rfl rfl (by kernel_rfl)  (opv_extract rfl rfl) ?_
    refine th_take rfl rfl (by kernel_rfl)  (opv_extract rfl rfl) ?_
    refine th_one (by kernel_rfl) (step_m rfl rfl opg_alloc ?_)
    rintro _ _ _ ⟨b17, rfl, rfl, rfl⟩
    refine ⟨Suf.h, (by first | exact fun _ h => h | assumption | exact fun _ h => (by assumption : _ ⊆ _) ((by assumption : _ ⊆ _) h)), ?_⟩
    refine th_one (by kernel_rfl) (step_m rfl rfl (opg_store rfl rfl rfl rfl rfl rfl) ?_)
    rintro _ _ _ ⟨rfl, rfl⟩
    refine ⟨Suf.h, (by first | exact fun _ h => h | assumption | exact fun _ h => (by assumption : _ ⊆ _) ((by assumption : _ ⊆ _) h)), ?_⟩
    refine th_take rfl rfl (by kernel_rfl)  (opv_assign rfl) ?_
    refine th_take rfl rfl (by kernel_rfl)  (opv_assign rfl) ?_
    refine th_done (by kernel_rfl) ?_
    exact tri_cutEnd _ ⟨x4, y4, b17, rfl, rfl, g4, hI4⟩ ⟨rfl, rfl, rfl, rfl, rfl, rfl, rfl, rfl, rfl, rfl, rfl, rfl, rfl, trivial⟩
   ·refine (step_m rfl rfl opg_alloc ?_)
    rintro _ _ _ ⟨b17, rfl, rfl, rfl⟩
    refine ⟨Suf.h, (by first | exact fun _ h => h | assumption | exact fun _ h => (by assumption : _ ⊆ _) ((by assumption : _ ⊆ _) h)), ?_⟩
    refine th_one (by kernel_rfl) (step_m rfl rfl (opg_call (xs := [_, _]) rfl (node_emptyR g3 (by omega) e3)) ?_)
    rintro _ _ I4 ⟨x4, y4, rfl, g4, rfl, hI4⟩
    refine ⟨Suf.h, fun _ h => hI4 h, ?_⟩
    refine th_take rfl rfl (by kernel_rfl)  (opv_move rfl) ?_
    refine th_take rfl rfl (by kernel_rfl)  (opv_extract rfl rfl) ?_
    refine th_take rfl rfl (by kernel_rfl)  (opv_extract rfl rfl) ?_
    refine th_take rfl rfl (by kernel_rfl)  (opv_extract rfl rfl) ?_
    refine th_one (by kernel_rfl) (step_m rfl rfl (opg_store rfl rfl rfl rfl rfl rfl) ?_)
    rintro _ _ _ ⟨rfl, rfl⟩
    refine ⟨Suf.h, (by first | exact fun _ h => h | assumption | exact fun _ h => (by assumption : _ ⊆ _) ((by assumption : _ ⊆ _) h)), ?_⟩
    refine th_take rfl rfl (by kernel_rfl)  (opv_assign rfl) ?_
    refine th_take rfl rfl (by kernel_rfl)  (opv_assign rfl) ?_
    refine th_done (by kernel_rfl) ?_
    exact tri_cutEnd _ ⟨x4, y4, b17, rfl, rfl, g4, hI4⟩ ⟨rfl, rfl, rfl, rfl, rfl, rfl, rfl, rfl, rfl, rfl, rfl, rfl, rfl, trivial⟩
  ·refine (step_m rfl rfl opg_alloc ?_)
   rintro _ _ _ ⟨b17, rfl, rfl, rfl⟩
   refine ⟨Suf.h, (by first | exact fun _ h => h | assumption | exact fun _ h => (by assumption : _ ⊆ _) ((by assumption : _ ⊆ _) h)), ?_⟩
   refine th_one (by kernel_rfl) (step_m rfl rfl (opg_call (xs := [_, _]) rfl (law06_pick (n := 43) ho.1 ho.2 (by decide))) ?_)
   rintro _ _ _ ⟨rfl, rfl, rfl⟩
   refine ⟨Suf.h, fun _ h => h, ?_⟩
   refine th_one (by kernel_rfl) (step_m rfl rfl (opg_call (xs := [_, _]) rfl (node_emptyR g3 (by omega) e3)) ?_)
   rintro _ _ I4 ⟨x4, y4, rfl, g4, rfl, hI4⟩
   refine ⟨Suf.h, fun _ h => hI4 h, ?_⟩
   refine th_take rfl rfl (by kernel_rfl)  (opv_move rfl) ?_
   refine th_take rfl rfl (by kernel_rfl)  (opv_extract rfl rfl) ?_
   refine th_take rfl rfl (by kernel_rfl)  (opv_extract rfl rfl) ?_
   refine th_take rfl rfl (by kernel_rfl)  (opv_extract rfl rfl) ?_
   refine th_one (by kernel_rfl) (step_m rfl rfl (opg_store rfl rfl rfl rfl rfl rfl) ?_)
   rintro _ _ _ ⟨rfl, rfl⟩
   refine ⟨Suf.h, (by first | exact fun _ h => h | assumption | exact fun _ h => (by assumption : _ ⊆ _) ((by assumption : _ ⊆ _) h)), ?_⟩
   refine th_take rfl rfl (by kernel_rfl)  (opv_assign rfl) ?_
   refine th_take rfl rfl (by kernel_rfl)  (opv_assign rfl) ?_
   refine th_done (by kernel_rfl) ?_
   exact tri_cutEnd _ ⟨x4, y4, b17, rfl, rfl, g4, hI4⟩ ⟨rfl, rfl, rfl, rfl, rfl, rfl, rfl, rfl, rfl, rfl, rfl, rfl, rfl, trivial⟩
 rintro _ _ I4 ⟨x4, y4, b17, rfl, rfl, g4, hI4⟩
 skip
 refine tT (tS (tS (tR (tM rfl rfl ?_))))
 refine tri_v (by first | exact opv_neq rfl rfl | exact opv_neqI rfl rfl rfl rfl rfl rfl | exact opv_neqB rfl rfl) rfl ?_
 refine tM rfl rfl ?_
 have s3 : SlAt I4 x3 r2.1 := (g3.mono hI4).sl
 have s4 := g4.sl
 refine tri_false rfl rfl ((fun h => h c1)) ?_
 refine tri_guard_run rfl rfl rfl (tM rfl rfl (tri_guard_run rfl rfl rfl ?_))
 refine tri_v (by first | exact opv_neq rfl rfl | exact opv_neqI rfl rfl rfl rfl rfl rfl | exact opv_neqB rfl rfl) rfl ?_
 refine tri_v (by first | exact opv_pick_t rfl rfl | exact opv_pick_f rfl rfl | exact opv_pick_bool rfl rfl rfl | exact opv_pick rfl rfl rfl) rfl ?_
 refine tM rfl rfl ?_
 refine tri_false rfl rfl ((fun h => h c2)) ?_
 refine tri_guard_run rfl rfl rfl (tM rfl rfl (tri_guard_run rfl rfl rfl ?_))
 refine tri_v (by first | exact opv_neq rfl rfl | exact opv_neqI rfl rfl rfl rfl rfl rfl | exact opv_neqB rfl rfl) rfl ?_
 refine tri_v (by first | exact opv_pick_t rfl rfl | exact opv_pick_f rfl rfl | exact opv_pick_bool rfl rfl rfl | exact opv_pick rfl rfl rfl) rfl ?_
 refine tM rfl rfl ?_
 refine tri_false rfl rfl ((fun h => h c3)) ?_
 refine tri_guard_run rfl rfl rfl (tM rfl rfl (tri_guard_run rfl rfl rfl ?_))
 refine tri_v (by first | exact opv_fieldAddr rfl rfl | exact opv_fieldAddrE rfl (by assumption) (by omega) rfl | exact opv_fieldAddrR rfl (by omega) rfl) rfl ?_
 refine tri_guard_run rfl rfl rfl ?_
 refine tri_v (by first | exact opv_load1 rfl rfl rfl | exact opv_loadA rfl rfl rfl | exact opv_loadE1 rfl (by assumption) rfl (by omega) rfl rfl | exact opv_loadEA rfl (by assumption) rfl (by omega) rfl rfl | exact opv_loadRX1 rfl rfl (by omega) rfl rfl | exact opv_loadRXA rfl rfl (by omega) rfl rfl rfl | exact opv_loadIX rfl rfl (by omega) | exact opv_loadR1 rfl rfl rfl | exact opv_loadRA rfl rfl rfl rfl) rfl ?_
 refine tri_guard_run rfl rfl rfl ?_
 refine tri_v (opv_len rfl) rfl ?_
 refine tri_guard_run rfl rfl rfl ?_
 refine tri_v (opv_geq rfl rfl) rfl ?_
 refine tri_v (by first | exact opv_pick_t rfl rfl | exact opv_pick_f rfl rfl | exact opv_pick_bool rfl rfl rfl | exact opv_pick rfl rfl rfl) rfl ?_
 refine tM rfl rfl ?_
 refine tri_false rfl rfl ((by omega)) ?_
 refine tri_guard_run rfl rfl rfl (tM rfl rfl (tri_guard_run rfl rfl rfl ?_))
 refine tri_v (by first | exact opv_fieldAddr rfl rfl | exact opv_fieldAddrE rfl (by assumption) (by omega) rfl | exact opv_fieldAddrR rfl (by omega) rfl) rfl ?_
 refine tri_guard_run rfl rfl rfl ?_
 refine tri_v (by first | exact opv_load1 rfl rfl rfl | exact opv_loadA rfl rfl rfl | exact opv_loadE1 rfl (by assumption) rfl (by omega) rfl rfl | exact opv_loadEA rfl (by assumption) rfl (by omega) rfl rfl | exact opv_loadRX1 rfl rfl (by omega) rfl rfl | exact opv_loadRXA rfl rfl (by omega) rfl rfl rfl | exact opv_loadIX rfl rfl (by omega) | exact opv_loadR1 rfl rfl rfl | exact opv_loadRA rfl rfl rfl rfl) rfl ?_
 refine tri_guard_run rfl rfl rfl ?_
 refine tri_v (opv_len rfl) rfl ?_
 refine tri_guard_run rfl rfl rfl ?_
 refine tri_v (opv_geq rfl rfl) rfl ?_
 refine tri_v (by first | exact opv_pick_t rfl rfl | exact opv_pick_f rfl rfl | exact opv_pick_bool rfl rfl rfl | exact opv_pick rfl rfl rfl) rfl ?_
 refine tN (tT ?_)
 refine tri_cond_not rfl ((by omega)) ?_
 refine tri_skip (tT (tS ?_))
 refine tri_draw [0, 1, 2, 3, 4, 5, 6, 7, 8, 9, 10, 11, 12, 13, 14, 15, 16, 17, 18, 19, 20, 21, 22, 23, 24, 25, 26, 27, 28, 29, 30, 31, 32, 33, 34, 35, 36, 37, 38, 39, 40, 41, 42, 43, 44, 45, 46, 48, 47, 49, 50, 51, 52, 53, 54, 55, 56, 57, 58, 59, 60, 62, 61, 63, 64, 65, 66, 67, 68] rfl [] rfl mixed ?_
 refine th_take rfl rfl (by kernel_rfl)  (opv_move rfl) ?_
 refine th_take rfl rfl (by kernel_rfl)  (opv_move rfl) ?_
 skip
 refine th_take_g rfl rfl rfl rfl rfl (by kernel_rfl)  (opv_move rfl) ?_
 refine th_take_g rfl rfl rfl rfl rfl (by kernel_rfl)  (opv_move rfl) ?_
 refine th_take_g rfl rfl rfl rfl rfl (by kernel_rfl)  (by first | exact opv_eql rfl rfl | exact opv_eqlI rfl rfl rfl rfl rfl rfl | exact opv_eqlB rfl rfl | exact opv_eqlNil rfl rfl) ?_
 refine th_take rfl rfl (by kernel_rfl)  (by first | exact opv_pick_t rfl rfl | exact opv_pick_f rfl rfl | exact opv_pick_bool rfl rfl rfl | exact opv_pick rfl rfl rfl) ?_
 refine th_take rfl rfl (by kernel_rfl)  (opv_move rfl) ?_
 refine th_true rfl rfl rfl (c4) ?_
 refine th_take_g rfl rfl rfl rfl rfl (by kernel_rfl)  (by first | exact opv_load1 rfl rfl rfl | exact opv_loadA rfl rfl rfl | exact opv_loadE1 rfl (by assumption) rfl (by omega) rfl rfl | exact opv_loadEA rfl (by assumption) rfl (by omega) rfl rfl | exact opv_loadRX1 rfl rfl (by omega) rfl rfl | exact opv_loadRXA rfl rfl (by omega) rfl rfl rfl | exact opv_loadIX rfl rfl (by omega) | exact opv_loadR1 rfl rfl rfl | exact opv_loadRA rfl rfl rfl rfl) ?_
 refine th_take_g rfl rfl rfl rfl rfl (by kernel_rfl)  (by first | exact opv_load1 rfl rfl rfl | exact opv_loadA rfl rfl rfl | exact opv_loadE1 rfl (by assumption) rfl (by omega) rfl rfl | exact opv_loadEA rfl (by assumption) rfl (by omega) rfl rfl | exact opv_loadRX1 rfl rfl (by omega) rfl rfl | exact opv_loadRXA rfl rfl (by omega) rfl rfl rfl | exact opv_loadIX rfl rfl (by omega) | exact opv_loadR1 rfl rfl rfl | exact opv_loadRA rfl rfl rfl rfl) ?_
 refine th_one (by kernel_rfl) (step_mg rfl rfl rfl rfl rfl (opg_call (xs := [_, _]) rfl (ref06_same s3 s4 (by omega))) ?_)
 rintro _ _ _ ⟨rfl, rfl, rfl⟩
 refine ⟨Suf.h, fun _ h => h, ?_⟩
 refine th_take rfl rfl (by kernel_rfl)  (by first | exact opv_pick_t rfl rfl | exact opv_pick_f rfl rfl | exact opv_pick_bool rfl rfl rfl | exact opv_pick rfl rfl rfl) ?_
 refine th_take rfl rfl (by kernel_rfl)  (opv_move rfl) ?_
 refine th_true rfl rfl rfl (⟨rfl, c5.symm⟩) ?_
 refine th_take_g rfl rfl rfl rfl rfl (by kernel_rfl)  (by first | exact opv_fieldAddr rfl rfl | exact opv_fieldAddrE rfl (by assumption) (by omega) rfl | exact opv_fieldAddrR rfl (by omega) rfl) ?_
 refine th_take_g rfl rfl rfl rfl rfl (by kernel_rfl)  (by first | exact opv_load1 rfl rfl rfl | exact opv_loadA rfl rfl rfl | exact opv_loadE1 rfl (by assumption) rfl (by omega) rfl rfl | exact opv_loadEA rfl (by assumption) rfl (by omega) rfl rfl | exact opv_loadRX1 rfl rfl (by omega) rfl rfl | exact opv_loadRXA rfl rfl (by omega) rfl rfl rfl | exact opv_loadIX rfl rfl (by omega) | exact opv_loadR1 rfl rfl rfl | exact opv_loadRA rfl rfl rfl rfl) ?_
 refine th_take_g rfl rfl rfl rfl rfl (by kernel_rfl)  (opv_move rfl) ?_
 refine th_take_g rfl rfl rfl rfl rfl (by kernel_rfl)  (by first | exact opv_indexAddrA rfl rfl (by first | decide | omega) (by first | decide | omega) | exact opv_indexAddrSN rfl rfl (by omega) (by assumption) rfl | exact opv_indexAddrS rfl rfl (by omega) (by omega) (by assumption) rfl | exact opv_indexAddrE rfl (by assumption) (by omega) rfl (by first | decide | omega) (by first | decide | omega) | exact opv_indexAddrRN rfl rfl (by omega) | exact opv_indexAddrR rfl rfl (by omega) (by omega) | exact opv_indexAddrRA rfl (by omega) rfl (by first | decide | omega) (by first | decide | omega)) ?_
 refine th_take_g rfl rfl rfl rfl rfl (by kernel_rfl)  (by first | exact opv_fieldAddr rfl rfl | exact opv_fieldAddrE rfl (by assumption) (by omega) rfl | exact opv_fieldAddrR rfl (by omega) rfl) ?_
 refine th_take_g rfl rfl rfl rfl rfl (by kernel_rfl)  (by first | exact opv_load1 rfl rfl rfl | exact opv_loadA rfl rfl rfl | exact opv_loadE1 rfl (by assumption) rfl (by omega) rfl rfl | exact opv_loadEA rfl (by assumption) rfl (by omega) rfl rfl | exact opv_loadRX1 rfl rfl (by omega) rfl rfl | exact opv_loadRXA rfl rfl (by omega) rfl rfl rfl | exact opv_loadIX rfl rfl (by omega) | exact opv_loadR1 rfl rfl rfl | exact opv_loadRA rfl rfl rfl rfl) ?_
 refine th_take_g rfl rfl rfl rfl rfl (by kernel_rfl)  (by first | exact opv_eql rfl rfl | exact opv_eqlI rfl rfl rfl rfl rfl rfl | exact opv_eqlB rfl rfl | exact opv_eqlNil rfl rfl) ?_
 refine th_take rfl rfl (by kernel_rfl)  (by first | exact opv_pick_t rfl rfl | exact opv_pick_f rfl rfl | exact opv_pick_bool rfl rfl rfl | exact opv_pick rfl rfl rfl) ?_
 refine th_take rfl rfl (by kernel_rfl)  (opv_move rfl) ?_
 refine th_true rfl rfl rfl (c8) ?_
 refine th_take_g rfl rfl rfl rfl rfl (by kernel_rfl)  (by first | exact opv_fieldAddr rfl rfl | exact opv_fieldAddrE rfl (by assumption) (by omega) rfl | exact opv_fieldAddrR rfl (by omega) rfl) ?_
 refine th_take_g rfl rfl rfl rfl rfl (by kernel_rfl)  (by first | exact opv_load1 rfl rfl rfl | exact opv_loadA rfl rfl rfl | exact opv_loadE1 rfl (by assumption) rfl (by omega) rfl rfl | exact opv_loadEA rfl (by assumption) rfl (by omega) rfl rfl | exact opv_loadRX1 rfl rfl (by omega) rfl rfl | exact opv_loadRXA rfl rfl (by omega) rfl rfl rfl | exact opv_loadIX rfl rfl (by omega) | exact opv_loadR1 rfl rfl rfl | exact opv_loadRA rfl rfl rfl rfl) ?_
 refine th_take_g rfl rfl rfl rfl rfl (by kernel_rfl)  (opv_move rfl) ?_
 refine th_take_g rfl rfl rfl rfl rfl (by kernel_rfl)  (by first | exact opv_indexAddrA rfl rfl (by first | decide | omega) (by first | decide | omega) | exact opv_indexAddrSN rfl rfl (by omega) (by assumption) rfl | exact opv_indexAddrS rfl rfl (by omega) (by omega) (by assumption) rfl | exact opv_indexAddrE rfl (by assumption) (by omega) rfl (by first | decide | omega) (by first | decide | omega) | exact opv_indexAddrRN rfl rfl (by omega) | exact opv_indexAddrR rfl rfl (by omega) (by omega) | exact opv_indexAddrRA rfl (by omega) rfl (by first | decide | omega) (by first | decide | omega)) ?_
 refine th_take_g rfl rfl rfl rfl rfl (by kernel_rfl)  (by first | exact opv_fieldAddr rfl rfl | exact opv_fieldAddrE rfl (by assumption) (by omega) rfl | exact opv_fieldAddrR rfl (by omega) rfl) ?_
 refine th_take_g rfl rfl rfl rfl rfl (by kernel_rfl)  (by first | exact opv_load1 rfl rfl rfl | exact opv_loadA rfl rfl rfl | exact opv_loadE1 rfl (by assumption) rfl (by omega) rfl rfl | exact opv_loadEA rfl (by assumption) rfl (by omega) rfl rfl | exact opv_loadRX1 rfl rfl (by omega) rfl rfl | exact opv_loadRXA rfl rfl (by omega) rfl rfl rfl | exact opv_loadIX rfl rfl (by omega) | exact opv_loadR1 rfl rfl rfl | exact opv_loadRA rfl rfl rfl rfl) ?_
 refine th_take_g rfl rfl rfl rfl rfl (by kernel_rfl)  (opv_move rfl) ?_
 refine th_one (by kernel_rfl) (step_mg rfl rfl rfl rfl rfl (opg_call (xs := [_, _]) rfl (law06_pick (n := 43) ho.1 ho.2 (by decide))) ?_)
 rintro _ _ _ ⟨rfl, rfl, rfl⟩
 refine ⟨Suf.h, fun _ h => h, ?_⟩
 refine th_take_g rfl rfl rfl rfl rfl (by kernel_rfl)  (by first | exact opv_eql rfl rfl | exact opv_eqlI rfl rfl rfl rfl rfl rfl | exact opv_eqlB rfl rfl | exact opv_eqlNil rfl rfl) ?_
 refine th_take rfl rfl (by kernel_rfl)  (by first | exact opv_pick_t rfl rfl | exact opv_pick_f rfl rfl | exact opv_pick_bool rfl rfl rfl | exact opv_pick rfl rfl rfl) ?_
 refine th_take rfl rfl (by kernel_rfl)  (opv_move rfl) ?_
 refine th_true rfl rfl rfl ((c9.trans hp1.symm)) ?_
 refine th_take_g rfl rfl rfl rfl rfl (by kernel_rfl)  (by first | exact opv_fieldAddr rfl rfl | exact opv_fieldAddrE rfl (by assumption) (by omega) rfl | exact opv_fieldAddrR rfl (by omega) rfl) ?_
 refine th_take_g rfl rfl rfl rfl rfl (by kernel_rfl)  (by first | exact opv_load1 rfl rfl rfl | exact opv_loadA rfl rfl rfl | exact opv_loadE1 rfl (by assumption) rfl (by omega) rfl rfl | exact opv_loadEA rfl (by assumption) rfl (by omega) rfl rfl | exact opv_loadRX1 rfl rfl (by omega) rfl rfl | exact opv_loadRXA rfl rfl (by omega) rfl rfl rfl | exact opv_loadIX rfl rfl (by omega) | exact opv_loadR1 rfl rfl rfl | exact opv_loadRA rfl rfl rfl rfl) ?_
 refine th_take_g rfl rfl rfl rfl rfl (by kernel_rfl)  (opv_move rfl) ?_
 refine th_take_g rfl rfl rfl rfl rfl (by kernel_rfl)  (by first | exact opv_indexAddrA rfl rfl (by first | decide | omega) (by first | decide | omega) | exact opv_indexAddrSN rfl rfl (by omega) (by assumption) rfl | exact opv_indexAddrS rfl rfl (by omega) (by omega) (by assumption) rfl | exact opv_indexAddrE rfl (by assumption) (by omega) rfl (by first | decide | omega) (by first | decide | omega) | exact opv_indexAddrRN rfl rfl (by omega) | exact opv_indexAddrR rfl rfl (by omega) (by omega) | exact opv_indexAddrRA rfl (by omega) rfl (by first | decide | omega) (by first | decide | omega)) ?_
 refine th_take_g rfl rfl rfl rfl rfl (by kernel_rfl)  (by first | exact opv_fieldAddr rfl rfl | exact opv_fieldAddrE rfl (by assumption) (by omega) rfl | exact opv_fieldAddrR rfl (by omega) rfl) ?_
 refine th_take_g rfl rfl rfl rfl rfl (by kernel_rfl)  (by first | exact opv_load1 rfl rfl rfl | exact opv_loadA rfl rfl rfl | exact opv_loadE1 rfl (by assumption) rfl (by omega) rfl rfl | exact opv_loadEA rfl (by assumption) rfl (by omega) rfl rfl | exact opv_loadRX1 rfl rfl (by omega) rfl rfl | exact opv_loadRXA rfl rfl (by omega) rfl rfl rfl | exact opv_loadIX rfl rfl (by omega) | exact opv_loadR1 rfl rfl rfl | exact opv_loadRA rfl rfl rfl rfl) ?_
 refine th_take_g rfl rfl rfl rfl rfl (by kernel_rfl)  (opv_move rfl) ?_
 refine th_one (by kernel_rfl) (step_mg rfl rfl rfl rfl rfl (opg_call (xs := [_, _]) rfl (law06_pick (n := 43) ht.1 ht.2 (by decide))) ?_)
 rintro _ _ _ ⟨rfl, rfl, rfl⟩
 refine ⟨Suf.h, fun _ h => h, ?_⟩
 refine th_take_g rfl rfl rfl rfl rfl (by kernel_rfl)  (by first | exact opv_eql rfl rfl | exact opv_eqlI rfl rfl rfl rfl rfl rfl | exact opv_eqlB rfl rfl | exact opv_eqlNil rfl rfl) ?_
 refine th_take rfl rfl (by kernel_rfl)  (by first | exact opv_pick_t rfl rfl | exact opv_pick_f rfl rfl | exact opv_pick_bool rfl rfl rfl | exact opv_pick rfl rfl rfl) ?_
 refine th_take rfl rfl (by kernel_rfl)  (opv_move rfl) ?_
 refine th_true rfl rfl rfl ((c10.trans hp2.symm)) ?_
 refine th_take_g rfl rfl rfl rfl rfl (by kernel_rfl)  (opv_move rfl) ?_
 refine th_take_g rfl rfl rfl rfl rfl (by kernel_rfl)  (opv_move rfl) ?_
 refine th_take_g rfl rfl rfl rfl rfl (by kernel_rfl)  (by first | exact opv_eql rfl rfl | exact opv_eqlI rfl rfl rfl rfl rfl rfl | exact opv_eqlB rfl rfl | exact opv_eqlNil rfl rfl) ?_
 refine th_take_g rfl rfl rfl rfl rfl (by kernel_rfl)  (opv_move rfl) ?_
 refine th_take_g rfl rfl rfl rfl rfl (by kernel_rfl)  (opv_move rfl) ?_
 refine th_one (by kernel_rfl) (step_mg rfl rfl rfl rfl rfl (opg_call (xs := [_, _]) rfl (law06_pick (n := 43) ho.1 ho.2 (by decide))) ?_)
 rintro _ _ _ ⟨rfl, rfl, rfl⟩
 refine ⟨Suf.h, fun _ h => h, ?_⟩
 skip
 refine th_one (by kernel_rfl) (step_mg rfl rfl rfl rfl rfl (opg_call (xs := [_, _]) rfl (law06_pick (n := 43) ht.1 ht.2 (by decide))) ?_)
 rintro _ _ _ ⟨rfl, rfl, rfl⟩
 refine ⟨Suf.h, fun _ h => h, ?_⟩
 refine th_take_g rfl rfl rfl rfl rfl (by kernel_rfl)  (by first | exact opv_eql rfl rfl | exact opv_eqlI rfl rfl rfl rfl rfl rfl | exact opv_eqlB rfl rfl | exact opv_eqlNil rfl rfl) ?_
 refine th_take_g rfl rfl rfl rfl rfl (by kernel_rfl)  (by first | exact opv_eql rfl rfl | exact opv_eqlI rfl rfl rfl rfl rfl rfl | exact opv_eqlB rfl rfl | exact opv_eqlNil rfl rfl) ?_
 refine th_take rfl rfl (by kernel_rfl)  (by first | exact opv_pick_t rfl rfl | exact opv_pick_f rfl rfl | exact opv_pick_bool rfl rfl rfl | exact opv_pick rfl rfl rfl) ?_
 refine th_take rfl rfl (by kernel_rfl)  (opv_move rfl) ?_
 rw [hp1, hp2]
 refine th_true rfl rfl rfl ((decide_eq_decide.2 (by omega))) ?_
 refine th_take_g rfl rfl rfl rfl rfl (by kernel_rfl)  (by first | exact opv_fieldAddr rfl rfl | exact opv_fieldAddrE rfl (by assumption) (by omega) rfl | exact opv_fieldAddrR rfl (by omega) rfl) ?_
 refine th_take_g rfl rfl rfl rfl rfl (by kernel_rfl)  (by first | exact opv_load1 rfl rfl rfl | exact opv_loadA rfl rfl rfl | exact opv_loadE1 rfl (by assumption) rfl (by omega) rfl rfl | exact opv_loadEA rfl (by assumption) rfl (by omega) rfl rfl | exact opv_loadRX1 rfl rfl (by omega) rfl rfl | exact opv_loadRXA rfl rfl (by omega) rfl rfl rfl | exact opv_loadIX rfl rfl (by omega) | exact opv_loadR1 rfl rfl rfl | exact opv_loadRA rfl rfl rfl rfl) ?_
 refine th_take_g rfl rfl rfl rfl rfl (by kernel_rfl)  (opv_len rfl) ?_
 refine th_take_g rfl rfl rfl rfl rfl (by kernel_rfl)  (by first | exact opv_fieldAddr rfl rfl | exact opv_fieldAddrE rfl (by assumption) (by omega) rfl | exact opv_fieldAddrR rfl (by omega) rfl) ?_
 refine th_take_g rfl rfl rfl rfl rfl (by kernel_rfl)  (by first | exact opv_load1 rfl rfl rfl | exact opv_loadA rfl rfl rfl | exact opv_loadE1 rfl (by assumption) rfl (by omega) rfl rfl | exact opv_loadEA rfl (by assumption) rfl (by omega) rfl rfl | exact opv_loadRX1 rfl rfl (by omega) rfl rfl | exact opv_loadRXA rfl rfl (by omega) rfl rfl rfl | exact opv_loadIX rfl rfl (by omega) | exact opv_loadR1 rfl rfl rfl | exact opv_loadRA rfl rfl rfl rfl) ?_
 refine th_take_g rfl rfl rfl rfl rfl (by kernel_rfl)  (opv_len rfl) ?_
 refine th_take_g rfl rfl rfl rfl rfl (by kernel_rfl)  (opv_move rfl) ?_
 refine th_take_g rfl rfl rfl rfl rfl (by kernel_rfl)  (opv_move rfl) ?_
 refine th_one (by kernel_rfl) (step_mg rfl rfl rfl rfl rfl (opg_call (xs := [_, _]) rfl (law06_pick (n := 43) ho.1 ho.2 (by decide))) ?_)
 rintro _ _ _ ⟨rfl, rfl, rfl⟩
 refine ⟨Suf.h, fun _ h => h, ?_⟩
 skip
 refine th_one (by kernel_rfl) (step_mg rfl rfl rfl rfl rfl (opg_call (xs := [_, _]) rfl (law06_pick (n := 43) ht.1 ht.2 (by decide))) ?_)
 rintro _ _ _ ⟨rfl, rfl, rfl⟩
 refine ⟨Suf.h, fun _ h => h, ?_⟩
 refine th_take_g rfl rfl rfl rfl rfl (by kernel_rfl)  (opv_max2 rfl rfl) ?_
 refine th_take_g rfl rfl rfl rfl rfl (by kernel_rfl)  (by first | exact opv_add rfl rfl (w64 (by omega) (by omega))) ?_
 refine th_take_g rfl rfl rfl rfl rfl (by kernel_rfl)  (opv_leq rfl rfl) ?_
 refine th_take rfl rfl (by kernel_rfl)  (by first | exact opv_pick_t rfl rfl | exact opv_pick_f rfl rfl | exact opv_pick_bool rfl rfl rfl | exact opv_pick rfl rfl rfl) ?_
 refine th_take rfl rfl (by kernel_rfl)  (opv_assign rfl) ?_
 refine th_done (by kernel_rfl) ?_
 refine tT (tri_ret ?_)
 rw [hp1, hp2]
 refine tri_end A Suf.h rfl (.cons (rv_tmp rfl) .nil) ⟨?_, rfl, fun _ h => hI4 (hI3 (hI2 (hI1 (hI0 h))))⟩
 refine congrArg Value.bool (decide_eq_true ?_)
 split <;> omega
end Go.GL
