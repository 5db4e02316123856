/- Part 6: contracts of the functions that the law reaches: each answers as its model does. No condition beyond those that each theorem states. -/
import Derived.Test.YtfcijboaamelfaaPart5
set_option linter.unusedVariables false
namespace Go.GL
open R6 R7
namespace R9
/-- A dead answer: a store, a node of a level, what is kept. -/
def Dr (room : Int) (ns : List Node) (L : Nat) (r : L9) (l L' : Nat) : Prop := ∃ ns' mm' q, r = (⟨ns', mm'⟩, q, 0) ∧ ns <+: ns' ∧ L ≤ L' ∧ DN room L' ns' ∧ Dd ns' l q ∧ MD ns' mm'
theorem trimS_dead {room : Int} {L : Nat} {ns : List Node} (h : DN room L ns) (hL : L ≤ 42) {k : Nat} (hk : k + 2 ≤ L) {n : Int} (hn : Dd ns (k + 2) n) {mm : Memo} (hm : MD ns mm) : Dr room ns L (trimS room ⟨ns, mm⟩ n) 2 L := by
 obtain ⟨q, e, d⟩ := trim_dead h hL k n mm hk hn
 refine ⟨ns, mm, q, ?_, List.prefix_refl _, Nat.le_refl _, h, d, hm⟩
 unfold trimS
 rw [lvS_is (s := ⟨ns, mm⟩) hn.1]
 exact e
theorem growS_dead {room : Int} (hroom : 100 ≤ room) {L : Nat} {ns : List Node} (h : DN room L ns) (hL : L ≤ 42) {k : Nat} (hk : k + 2 ≤ L) (h42 : k + 3 ≤ 42) {n : Int} (hn : Dd ns (k + 2) n) {mm : Memo} (hm : MD ns mm) : ∃ L', L' ≤ 42 ∧ k + 3 ≤ L' ∧ Dr room ns L (grow room ⟨ns, mm⟩ n) (k + 3) L' := by
 obtain ⟨ns', q, L', e, p, a, b, c, d, f⟩ := grow_dead h hL (by omega) hk h42 hn mm
 exact ⟨L', by omega, c, ns', mm, q, e, p, a, d, f, hm.pre p⟩
theorem growTo_dead {room : Int} (hroom : 100 ≤ room) {j : Nat} (hj : j + 3 ≤ 42) : ∀ (i : Nat) {L k : Nat} {ns : List Node} {n : Int} {mm : Memo}, j + 3 ≤ k + 2 + i → DN room L ns → L ≤ 42 → k + 2 ≤ L → Dd ns (k + 2) n → MD ns mm →
  ∃ k' L', k ≤ k' ∧ j + 1 ≤ k' ∧ k' + 2 ≤ L' ∧ L' ≤ 42 ∧ Dr room ns L (growTo room (j : Int) i ⟨ns, mm⟩ n) (k' + 2) L'
 | 0, L, k, ns, n, mm, hi, h, hL, hk, hn, hm => ⟨k, L, Nat.le_refl _, by omega, hk, hL, ns, mm, n, rfl, List.prefix_refl _, Nat.le_refl _, h, hn, hm⟩
 | i + 1, L, k, ns, n, mm, hi, h, hL, hk, hn, hm => by
  have hlv : (nd ns n).lv = ((k + 2 : Nat) : Int) := hn.1.2
  unfold growTo
  show ∃ k' L', _ ∧ _ ∧ _ ∧ _ ∧ Dr room ns L (if (nd ns n).lv < (j : Int) + 3 then _ else _) _ _
  by_cases hl : (nd ns n).lv < (j : Int) + 3
  ·rw [if_pos hl]
   obtain ⟨L1, a1, a2, ns1, mm1, q1, e1, p1, b1, c1, d1, m1⟩ := growS_dead hroom h hL hk (by omega) hn hm
   obtain ⟨k', L', x1, x2, x3, x4, ns2, mm2, q2, e2, p2, b2, c2, d2, m2⟩ := growTo_dead hroom hj i (k := k + 1) (by omega) c1 a1 a2 d1 m1
   refine ⟨k', L', by omega, x2, x3, x4, ns2, mm2, q2, ?_, p1.trans p2, by omega, c2, d2, m2⟩
   rw [e1, bindS_ok rfl]
   exact e2
  ·rw [if_neg hl]
   exact ⟨k, L, Nat.le_refl _, by omega, hk, hL, ns, mm, n, rfl, List.prefix_refl _, Nat.le_refl _, h, hn, hm⟩
/-- Too high. -/
theorem growTo_high {room : Int} (hroom : 100 ≤ room) : ∀ (i : Nat) {L k : Nat} {ns : List Node} {n : Int} {mm : Memo}, 43 ≤ k + 2 + i → DN room L ns → L ≤ 42 → k + 2 ≤ L → Dd ns (k + 2) n → MD ns mm → (growTo room 40 i ⟨ns, mm⟩ n).2.2 = 2
 | 0, L, k, ns, n, mm, hi, h, hL, hk, hn, hm => by omega
 | i + 1, L, k, ns, n, mm, hi, h, hL, hk, hn, hm => by
  have hlv : (nd ns n).lv = ((k + 2 : Nat) : Int) := hn.1.2
  unfold growTo
  show (if (nd ns n).lv < 40 + 3 then bindS (grow room ⟨ns, mm⟩ n) (growTo room 40 i) else _).2.2 = 2
  rw [if_pos (by omega)]
  by_cases h42 : k + 2 = 42
  ·have e : grow room ⟨ns, mm⟩ n = (⟨ns, mm⟩, 0, 2) := by
    rw [grow_eq]
    exact if_pos (by show 42 ≤ (nd ns n).lv; omega)
   rw [e, bindS_err (show (2 : Int) ≠ 0 by decide)]
  ·obtain ⟨L1, a1, a2, ns1, mm1, q1, e1, p1, b1, c1, d1, m1⟩ := growS_dead hroom h hL hk (by omega) hn hm
   rw [e1, bindS_ok rfl]
   exact growTo_high hroom i (k := k + 1) (by omega) c1 a1 a2 d1 m1
/-- Trimmed, and grown twice. -/
theorem grown_dead {room : Int} (hroom : 100 ≤ room) {L k : Nat} {ns : List Node} {n : Int} {mm : Memo} (h : DN room L ns) (hL : L ≤ 42) (hk : k + 2 ≤ L) (hn : Dd ns (k + 2) n) (hm : MD ns mm) : ∃ L', 4 ≤ L' ∧ L' ≤ 42 ∧ Dr room ns L (bindS (bindS (trimS room ⟨ns, mm⟩ n) (grow room)) (grow room)) 4 L' := by
 obtain ⟨ns0, mm0, q0, e0, p0, b0, c0, d0, m0⟩ := trimS_dead h hL hk hn hm
 obtain ⟨L1, a1, a1', ns1, mm1, q1, e1, p1, b1, c1, d1, m1⟩ := growS_dead hroom (k := 0) c0 hL (by omega) (by omega) d0 m0
 obtain ⟨L2, a2, a2', ns2, mm2, q2, e2, p2, b2, c2, d2, m2⟩ := growS_dead hroom (k := 1) c1 a1 (by omega) (by omega) d1 m1
 refine ⟨L2, a2', a2, ns2, mm2, q2, ?_, (p0.trans p1).trans p2, by omega, c2, d2, m2⟩
 rw [e0, bindS_ok (r := (⟨ns0, mm0⟩, q0, 0)) rfl]
 show bindS (grow room ⟨ns0, mm0⟩ q0) (grow room) = _
 rw [e1, bindS_ok rfl]
 exact e2
theorem power_dead {room : Int} (hroom : 100 ≤ room) {j L k : Nat} (hj : j ≤ 39) {ns : List Node} {n : Int} {mm : Memo} (h : DN room L ns) (hL : L ≤ 42) (hk : k + 2 ≤ L) (hn : Dd ns (k + 2) n) (hm : MD ns mm) : ∃ k' L', k' + 2 ≤ L' ∧ L' ≤ 42 ∧ Dr room ns L (power room ⟨ns, mm⟩ n (j : Int)) (k' + 2) L' := by
 obtain ⟨L1, a1, a2, ns1, mm1, q1, e1, p1, b1, c1, d1, m1⟩ := grown_dead hroom h hL hk hn hm
 obtain ⟨k2, L2, x1, x2, x3, x4, ns2, mm2, q2, e2, p2, b2, c2, d2, m2⟩ := growTo_dead hroom (j := j) (by omega) 64 (k := 2) (by omega) c1 a2 a1 d1 m1
 obtain ⟨mm3, q3, e3, d3, m3⟩ := leap_dead c2 x4 k2 x3 mm2 q2 (j : Int) m2 d2
 obtain ⟨k3, rfl⟩ : ∃ k3, k2 = k3 + 1 := ⟨k2 - 1, by omega⟩
 refine ⟨k3, L2, by omega, x4, ns2, mm3, q3, ?_, p1.trans p2, by omega, c2, d3, m3⟩
 unfold power
 rw [e1, bindS_ok (r := (⟨ns1, mm1⟩, q1, 0)) rfl]
 show bindS (growTo room (j : Int) 64 ⟨ns1, mm1⟩ q1) _ = _
 rw [e2, bindS_ok rfl]
 show leap room (lvS ⟨ns2, mm2⟩ q2) ⟨ns2, mm2⟩ q2 (j : Int) = _
 rw [lvS_is (s := ⟨ns2, mm2⟩) d2.1]
 exact e3
theorem power_high {room : Int} (hroom : 100 ≤ room) {L k : Nat} {ns : List Node} {n : Int} {mm : Memo} (h : DN room L ns) (hL : L ≤ 42) (hk : k + 2 ≤ L) (hn : Dd ns (k + 2) n) (hm : MD ns mm) : (power room ⟨ns, mm⟩ n 40).2.2 = 2 := by
 obtain ⟨L1, a1, a2, ns1, mm1, q1, e1, p1, b1, c1, d1, m1⟩ := grown_dead hroom h hL hk hn hm
 have e2 := growTo_high hroom 64 (k := 2) (by omega) c1 a2 a1 d1 m1
 unfold power
 rw [e1, bindS_ok (r := (⟨ns1, mm1⟩, q1, 0)) rfl]
 show (bindS (growTo room 40 64 ⟨ns1, mm1⟩ q1) _).2.2 = 2
 rw [bindS_err (by rw [e2]; decide)]
 exact e2
theorem runL_dead {room : Int} (hroom : 100 ≤ room) : ∀ (js : List Nat) {L k : Nat} {ns : List Node} {n : Int} {mm : Memo}, (∀ j ∈ js, j ≤ 39) → DN room L ns → L ≤ 42 → k + 2 ≤ L → Dd ns (k + 2) n → MD ns mm → ∃ L', Dr room ns L (runL room (js.map fun (j : Nat) => (j : Int)) ⟨ns, mm⟩ n) 2 L'
 | [], L, k, ns, n, mm, _, h, hL, hk, hn, hm => ⟨L, trimS_dead h hL hk hn hm⟩
 | j :: js, L, k, ns, n, mm, hj, h, hL, hk, hn, hm => by
  obtain ⟨k1, L1, x1, x2, ns1, mm1, q1, e1, p1, b1, c1, d1, m1⟩ := power_dead hroom (hj j List.mem_cons_self) h hL hk hn hm
  obtain ⟨L2, ns2, mm2, q2, e2, p2, b2, c2, d2, m2⟩ := runL_dead hroom js (fun x hx => hj x (List.mem_cons_of_mem _ hx)) c1 x2 x1 d1 m1
  refine ⟨L2, ns2, mm2, q2, ?_, p1.trans p2, by omega, c2, d2, m2⟩
  show bindS (power room ⟨ns, mm⟩ n (j : Int)) (runL room (js.map fun (j : Nat) => (j : Int))) = _
  rw [e1, bindS_ok rfl]
  exact e2
theorem runL_high {room : Int} (hroom : 100 ≤ room) : ∀ (js : List Nat) {L k : Nat} {ns : List Node} {n : Int} {mm : Memo}, (∀ j ∈ js, j ≤ 39) → DN room L ns → L ≤ 42 → k + 2 ≤ L → Dd ns (k + 2) n → MD ns mm → (runL room ((js ++ [40]).map fun (j : Nat) => (j : Int)) ⟨ns, mm⟩ n).2.2 = 2
 | [], L, k, ns, n, mm, _, h, hL, hk, hn, hm => by
  have e := power_high hroom h hL hk hn hm
  show (bindS (power room ⟨ns, mm⟩ n 40) (runL room [])).2.2 = 2
  rw [bindS_err (by rw [e]; decide)]
  exact e
 | j :: js, L, k, ns, n, mm, hj, h, hL, hk, hn, hm => by
  obtain ⟨k1, L1, x1, x2, ns1, mm1, q1, e1, p1, b1, c1, d1, m1⟩ := power_dead hroom (hj j List.mem_cons_self) h hL hk hn hm
  have := runL_high hroom js (fun x hx => hj x (List.mem_cons_of_mem _ hx)) c1 x2 x1 d1 m1
  show (bindS (power room ⟨ns, mm⟩ n (j : Int)) (runL room ((js ++ [40]).map fun (j : Nat) => (j : Int)))).2.2 = 2
  rw [e1, bindS_ok rfl]
  exact this
theorem bits_high {c : Int} (h0 : 1099511627776 ≤ c) (h1 : c < 2199023255552) : ∃ js : List Nat, bitsN c 62 = js ++ [40] ∧ ∀ j ∈ js, j ≤ 39 := by
 have e : List.range 62 = List.range 40 ++ ([40] ++ List.range' 41 21) := by decide
 have p40 : (2 : Int) ^ 40 = 1099511627776 := by decide
 have p41 : (2 : Int) ^ 41 = 2199023255552 := by decide
 have b40 : c / 2 ^ 40 % 2 = 1 := by rw [p40]; omega
 refine ⟨(List.range 40).filter fun i => decide (c / 2 ^ i % 2 = 1), ?_, fun j hj => by have := List.mem_range.1 (List.mem_filter.1 hj).1; omega⟩
 unfold bitsN
 rw [e, List.filter_append, List.filter_append]
 have f1 : ([40].filter fun i => decide (c / 2 ^ i % 2 = 1)) = [40] := by rw [List.filter_cons, if_pos (decide_eq_true b40)]; rfl
 have f2 : ((List.range' 41 21).filter fun i => decide (c / 2 ^ i % 2 = 1)) = [] := by
  rw [List.filter_eq_nil_iff]
  intro i hi
  have hi := (List.mem_range'_1.1 hi).1
  have : c / 2 ^ i = 0 := Int.ediv_eq_zero_of_lt (by omega) (by have := pow_le2 hi; omega)
  rw [this]
  decide
 rw [f1, f2, List.append_nil]
/-- All that chapter 9 does with what is dead. -/
theorem leapT_dead {room : Int} {L k : Nat} {ns : List Node} (h : DN room L ns) (hL : L ≤ 42) (hk : k + 2 ≤ L) {n j : Int} (hn : Dd ns (k + 2) n) (hj : 0 ≤ j ∧ j ≤ (k : Int)) : ∃ q, leapT ns room n j = (ns, q, 0) ∧ Dd ns (k + 1) q := by
 obtain ⟨mm', q, e, d, _⟩ := leap_dead h hL k hk [] n j (fun p hp => by cases hp) hn
 refine ⟨q, ?_, d⟩
 unfold leapT
 rw [if_pos ⟨⟨h.right, hn.1.1, by rw [hn.1.2]; omega⟩, hj.1, by rw [hn.1.2]; omega⟩, lvS_is (s := ⟨ns, []⟩) hn.1, e]
 rfl
theorem runT_dead {room : Int} (hroom : 100 ≤ room) {L k : Nat} {ns : List Node} (h : DN room L ns) (hL : L ≤ 42) (hk : k + 2 ≤ L) {n c : Int} (hn : Dd ns (k + 2) n) (h0 : 0 ≤ c) (h1 : c < 1099511627776) : ∃ ns' q, runT ns room n c = (ns', q, 0) ∧ Dd ns' 2 q ∧ R6.right ns' room := by
 have p40 : (2 : Int) ^ 40 = 1099511627776 := by decide
 obtain ⟨b1, _⟩ := bits_le (K := 40) h0 (by omega)
 obtain ⟨L', ns', mm', q, e, p, _, c2, d, _⟩ := runL_dead hroom (bitsN c 62) (fun j hj => by have := b1 j hj; omega) h hL hk hn (mm := []) (fun p hp => by cases hp)
 refine ⟨ns', q, ?_, d, c2.right⟩
 unfold runT
 rw [if_pos ⟨⟨h.right, hn.1.1, by rw [hn.1.2]; omega⟩, h0, by omega⟩, bits_eq, e]
 rfl
theorem runT_high {room : Int} (hroom : 100 ≤ room) {L k : Nat} {ns : List Node} (h : DN room L ns) (hL : L ≤ 42) (hk : k + 2 ≤ L) {n c : Int} (hn : Dd ns (k + 2) n) (h0 : 1099511627776 ≤ c) (h1 : c < 2199023255552) : runT ns room n c = (ns, 0, 2) := by
 obtain ⟨js, ej, hj⟩ := bits_high h0 h1
 have e := runL_high hroom js hj h hL hk hn (mm := []) (fun p hp => by cases hp)
 rw [← ej, ← bits_eq] at e
 unfold runT
 rw [if_pos ⟨⟨h.right, hn.1.1, by rw [hn.1.2]; omega⟩, by omega, by omega⟩, out_bad (by rw [e]; decide), e]
/-- A store of dead ones, made. -/
theorem emptyF_new {room : Int} (hroom : 100 ≤ room) : ∀ (k : Nat) {L : Nat} {ns : List Node} {n : Int} , L + k ≤ 42 → DN room L ns → Dd ns L n → ∃ ns' q, emptyF room k ns n = (ns', q, 0) ∧ DN room (L + k) ns' ∧ Dd ns' (L + k) q
 | 0, L, ns, n, _, h, hn => ⟨ns, n, rfl, h, hn⟩
 | k + 1, L, ns, n, hL, h, hn => by
  obtain ⟨ns1, m, L1, e1, p1, a1, a2, a3, a4, a5⟩ := put_next h (Nat.le_refl L) (by omega) (by omega) hn hn hn hn
  obtain rfl : L1 = L + 1 := by omega
  obtain ⟨ns2, q, e2, d2, d3⟩ := emptyF_new hroom k (L := L + 1) (by omega) a4 a5
  refine ⟨ns2, q, ?_, by rw [show L + (k + 1) = L + 1 + k by omega]; exact d2, by rw [show L + (k + 1) = L + 1 + k by omega]; exact d3⟩
  unfold emptyF
  rw [e1, if_neg (fun h => h rfl)]
  exact e2
theorem empty_new {room : Int} (hroom : 100 ≤ room) (h3 : room ≤ 100000) {v : Nat} (hv : v ≤ 42) : ∃ ns q, R7.empty [n0, n1] room v = (ns, q, 0) ∧ DN room v ns ∧ Dd ns v q := by
 have hr : R6.right [n0, n1] room := right_iff.2 ⟨⟨by omega, h3, by show (2 : Int) ≤ room; omega⟩, RL.new_wf⟩
 have hw := (right_iff.1 hr).2
 have d0 : Dd [n0, n1] 0 0 := ⟨⟨hw.in0, by rw [hw.nd0]; rfl⟩, by rw [hw.nd0]; rfl⟩
 have h0 : DN room 0 [n0, n1] := ⟨hr, fun i hi => by
  obtain rfl : i = 0 := by omega
  exact ⟨0, d0⟩, Nat.le_refl _⟩
 obtain ⟨ns, q, e, a, b⟩ := emptyF_new hroom v (L := 0) (by omega) h0 d0
 rw [Nat.zero_add] at a b
 exact ⟨ns, q, e, a, b⟩
end R9
end Go.GL

set_option linter.unusedVariables false
namespace Go.GL
open Enc (enc)
/-! ### An element of a row is written -/
theorem encs_splice {α : Type} [Enc α] [Inhabited α] {vs : List Value} {x' : α} {fo : Nat} : ∀ {xs : List α} {i : Nat}, i < xs.length → spl (enc (xs.getD i default)) fo vs = some (enc x') →
  (encs xs).take (i * Enc.sz α + fo) ++ vs ++ (encs xs).drop (i * Enc.sz α + fo + vs.length) = encs (xs.set i x')
 | [], i, hi, h => absurd hi (by simp)
 | x :: xs, 0, hi, h => by
  obtain ⟨h1, h2⟩ := spl_spec h
  simp only [List.getD_cons_zero] at h1 h2
  rw [Nat.zero_mul, Nat.zero_add, encs_cons, List.set_cons_zero, encs_cons, h2, List.take_append_of_le_length (by omega), List.drop_append_of_le_length (by omega)]
  simp
 | x :: xs, i + 1, hi, h => by
  have ih := encs_splice (xs := xs) (i := i) (by simpa using hi) (by simpa using h)
  have hl : (enc x).length = Enc.sz α := Enc.hlen x
  have e : (i + 1) * Enc.sz α + fo = (enc x).length + (i * Enc.sz α + fo) := by rw [hl, Nat.succ_mul]; omega
  rw [encs_cons, List.set_cons_succ, encs_cons, e, List.take_length_add_append, Nat.add_assoc, List.drop_length_add_append, ← ih]
  simp
section
variable {w0 : World} {n : Nat} {F : Frm} {A : List Asrt} {I : List Chunk} {P : Program}
variable {dst : Option Tmp} {ty : TypeId} {pos : String} {af : Array Edge} {gd : Option (Nat × Bool)} {x y : Operand} {t E : TypeId} {d : TypeDesc} {s by_ : Nat} {z : List Value} {a : Option Addr} {len cap : Nat}
/-- Into an element, or a part of it. -/
theorem opg_storeRX {α : Type} [Enc α] [Inhabited α] {xs : List α} (x' : α) {i fo sz : Nat} {v : Value} {vs : List Value} {u : Asrt → List Asrt} [SelR A a cap len E sz (encs xs) u] [TyI P t d s by_ z] (hx : ev F x = some (epf a sz i fo)) (hy : ev F y = some v) (hz : Enc.sz α = sz) (hi : i < xs.length) (hl : len = xs.length)
  (hv : v.cells = vs.toArray) (hls : vs.length = s) (h0 : Nat.blt 0 s = true) (h : spl (enc (xs.getD i default)) fo vs = some (enc x')) :
  OpG P w0 n ⟨dst, .store t x y, ty, pos, af, gd⟩ F A I (fun _ A' I' => A' = u (Row a cap len E sz (encs (xs.set i x'))) ∧ I = I') := by
 have hspec := spl_spec h
 have hel : (enc (xs.getD i default)).length = Enc.sz α := Enc.hlen _
 have h1 : vs.all (·.oneCell') = true := by
  have := Enc.one x'
  rw [hspec.2] at this
  simp only [List.all_append, Bool.and_eq_true] at this
  exact this.1.2
 refine (opg_storeR (a := a) hx hy hv hls h1 h0 (by omega) (by omega)).mono fun v' A' I' ⟨e1, e2⟩ => ⟨?_, e2⟩
 rw [e1]
 congr 2
 rw [← hz, ← hls, encs_splice hi h]
/-- Where a slice begins that leaves out the first l. -/
def loA (a : Option Addr) (cap l s : Nat) : Option Addr := if cap = l then a else a.map fun q => q.add (l * s)
theorem opv_sliceLo {α : Type} [Enc α] {xs : List α} {lo : Operand} {k : IntKind} {l : Int} {t e : TypeId} {d' : TypeDesc} {s by_ s' by' : Nat} {z z' : List Value} [TyI P t (.slice e) s by_ z] [TyI P e d' s' by' z'] (hx : ev F x = some (.slice a len cap)) (hh : ev F lo = some (.int k l)) (h0 : 0 ≤ l) (h1 : l ≤ len) (hs : StA I a cap xs) (hl : len = xs.length) :
  OpV P w0 n ⟨dst, .slice t x (some lo) none none, ty, pos, af, gd⟩ F A I (.slice (loA a cap l.toNat s') (xs.drop l.toNat).length (cap - l.toNat)) := by
 intro tt w hf hst
 have hle := hs.le
 have hlen : (xs.drop l.toNat).length = len - l.toNat := by rw [List.length_drop]; omega
 rw [hlen]
 simp [execOp, hf.eval hx, hf.eval hh, Instr.sliceAt, Instr.slice, run_und (P := P) (t := t), Instr.sliceBounds, Instr.sliceBound, asIntOf, h0, h1, run_size (P := P) (t := e), loA]
theorem StA.lo {α : Type} [Enc α] {xs : List α} (hs : StA I a cap xs) {l s : Nat} (h1 : l ≤ xs.length) (hz : Enc.sz α = s) : StA I (loA a cap l s) (cap - l) (xs.drop l) := by
 have hle := hs.le
 have hlen : (xs.drop l).length = xs.length - l := by rw [List.length_drop]
 refine ⟨?_, by rw [hlen]; omega⟩
 unfold loA
 split
 ·left
  exact List.drop_of_length_le (by omega)
 ·rcases hs.sl with rfl | ⟨b, off, rfl, cs, T, fz, hm, hc⟩
  ·exact .inl (by simp)
  ·refine .inr ⟨b, off + l * s, by simp [add_pt], cs, T, fz, hm, fun j v hj => ?_⟩
   rw [encs_drop xs (by omega), hz] at hj
   rw [Nat.add_assoc]
   exact hc _ _ hj
/-- An entry of a map's literal. -/
theorem opg_insert {b : Nat} {kt e : TypeId} {es : KVs} {k : Nat} {u : KVs → List Asrt} {ks : List Int} {vk v : Value} {ym : Operand} [SelM P A b kt es u] [TyI P t (.map kt e) s by_ z] (hx : ev F x = some (.map (some b))) (hy : ev F y = some vk) (hv : ev F ym = some v) (hk : vk = mkv P kt ks) (hi : intAt P 9 kt = some k) (hl : ks.length = k) :
  OpG P w0 n ⟨dst, .insert t x y ym, ty, pos, af, gd⟩ F A I (fun _ A' I' => A' = u (mset es ks v) ∧ I = I') :=
 fun tt w K Q hf hs hk' => opg_mapUpdate (P := P) (dst := dst) (ty := ty) (pos := pos) (af := af) (gd := gd) (t := t) hx hy hv hk hi hl tt w K Q hf hs hk'
/-- A slice that is nil has no elements. -/
theorem tri_rowSome {α : Type} [Enc α] {xs : List α} {K : Act → World → Prop} (hz : Nat.beq (Enc.sz α) 0 = false) (h : (a = none → xs = []) → Tri w0 n F (Row a cap len E (Enc.sz α) (encs xs) :: A) I K) : Tri w0 n F (Row a cap len E (Enc.sz α) (encs xs) :: A) I K := by
 intro t w hf hs
 have h2 := hs
 obtain ⟨cs, h1, _⟩ := hs
 obtain ⟨c, cs', rfl, ⟨hl, ha⟩, hr⟩ := h1.cons_inv
 refine h (fun e => ?_) t w hf h2
 rcases ha with ⟨_, _, h3, _⟩ | ⟨b, cur, h3, _⟩
 ·rw [encs_length, h3, Nat.zero_mul] at hl
  rcases Nat.mul_eq_zero.1 hl with h4 | h4
  ·exact List.length_eq_zero_iff.1 h4
  ·rw [h4] at hz; cases hz
 ·rw [e] at h3; cases h3
end
end Go.GL

set_option linter.unusedVariables false
namespace Go.GL
open Go.Proofs
attribute [local irreducible] wpList Code.wp Exit.then Exit.inBlock Ends Tri TriH OpV OpG FnC epf wpAnyH
variable {A : List Asrt} {I : List Chunk}
namespace R6
/-- A store behind what was made in it, or as it was. -/
def told (ns : List Node) (room : Int) (r : List Node × Int × Int) : List Node × Int × Int := if right ns room then (if r.2.2 ≠ 0 then (ns, 0, r.2.2) else r) else (ns, 0, 1)
def emptyT (ns : List Node) (room lv : Int) : List Node × Int × Int := if lv < 0 ∨ 42 < lv then (ns, 0, 1) else told ns room (R7.empty ns room lv.toNat)
end R6
theorem R6.Good.emptyF {room : Int} : ∀ (k : Nat) (ns : List Node) (n : Int), R6.Good ns room → R6.Good (R7.emptyF room k ns n).1 room
 | 0, ns, n, h => h
 | k + 1, ns, n, h => by
  unfold R7.emptyF
  split
  ·exact h
  ·exact Good.emptyF k _ _ (h.put _ _ _ _)
set_option maxHeartbeats 1000000 in
set_option maxRecDepth 100000 in
theorem ref06_empty {ns : List Node} {a : Option Addr} {cap : Nat} {room lv : Int} (hs : StA I a cap ns) (hn : ns.length ≤ 1000000000) (hr : R6.Rng ns) :
  FnC Try.prog 36 [storeV a ns.length cap room, .int .i64 lv].toArray A I (StoreR (R6.emptyT ns room lv) room A I) := by
 skip
 refine fn_enter2 Try.func36 rfl Try.ntmps36 rfl fun w0 => ?_
 refine tS (tR ?_)
 first | refine tri_g (opg_box_agg rfl) rfl ?_ | refine tri_g (opg_box1 rfl rfl) rfl ?_
 rintro _ _ _ ⟨b2, rfl, rfl, rfl⟩
 refine tri_g opg_alloc rfl ?_
 rintro _ _ _ ⟨b4, rfl, rfl, rfl⟩
 refine tA rfl rfl (tA rfl rfl (tN (tT (tS (tS (tR ?_))))))
 refine tri_v (by first | exact opv_load1 rfl rfl rfl | exact opv_loadA rfl rfl rfl | exact opv_loadE1 rfl (by assumption) rfl (by omega) rfl rfl | exact opv_loadEA rfl (by assumption) rfl (by omega) rfl rfl | exact opv_loadRX1 rfl rfl (by omega) rfl rfl | exact opv_loadRXA rfl rfl (by omega) rfl rfl rfl | exact opv_loadIX rfl rfl (by omega) | exact opv_loadR1 rfl rfl rfl | exact opv_loadRA rfl rfl rfl rfl) rfl ?_
 -- STOP op
 refine tri_g (opg_call (xs := [_]) rfl (ref06_right hs.sl hn hr)) rfl ?_
 rintro _ _ _ ⟨rfl, rfl, rfl⟩
 refine tri_v (by first | exact opv_notD rfl | exact opv_not rfl) rfl ?_
 refine tM rfl rfl ?_
 -- STOP guard
 refine tri_split rfl rfl (fun h0 => ?_) (fun h0 => ?_)
 ·refine tri_guard_skip rfl rfl rfl rfl (tri_guard_skip rfl rfl rfl rfl ?_)
  refine tri_v (by first | exact opv_pick_t rfl rfl | exact opv_pick_f rfl rfl | exact opv_pick_bool rfl rfl rfl | exact opv_pick rfl rfl rfl) rfl ?_
  refine tM rfl rfl (tri_guard_skip rfl rfl rfl rfl (tri_guard_skip rfl rfl rfl rfl ?_))
  refine tri_v (by first | exact opv_pick_t rfl rfl | exact opv_pick_f rfl rfl | exact opv_pick_bool rfl rfl rfl | exact opv_pick rfl rfl rfl) rfl ?_
  refine tN (tT ?_)
  refine tri_cond_true rfl ?_
  refine tS (tR ?_)
  refine tri_v (by first | exact opv_load1 rfl rfl rfl | exact opv_loadA rfl rfl rfl | exact opv_loadE1 rfl (by assumption) rfl (by omega) rfl rfl | exact opv_loadEA rfl (by assumption) rfl (by omega) rfl rfl | exact opv_loadRX1 rfl rfl (by omega) rfl rfl | exact opv_loadRXA rfl rfl (by omega) rfl rfl rfl | exact opv_loadIX rfl rfl (by omega) | exact opv_loadR1 rfl rfl rfl | exact opv_loadRA rfl rfl rfl rfl) rfl ?_
  refine tri_g (opg_store rfl rfl rfl rfl rfl rfl) rfl ?_
  rintro _ _ _ ⟨rfl, rfl⟩
  refine tA rfl rfl (tA rfl rfl (tN (tT (tri_ret (tri_then_ret ?_)))))
  -- STOP ret
  refine tri_end A Suf.h rfl (.cons (rv_cellA rfl rfl rfl) (.cons (rv_tmp rfl) (.cons (rv_tmp rfl) .nil))) ?_
  rw [show R6.emptyT ns room lv = (ns, 0, 1) by unfold R6.emptyT R6.told; rw [if_neg h0]; split <;> rfl]
  exact ⟨a, cap, rfl, hs, rfl, fun _ h => h⟩
 refine tri_guard_run rfl rfl rfl (tM rfl rfl (tri_guard_run rfl rfl rfl ?_))
 refine tri_v (opv_lss rfl rfl) rfl ?_
 refine tri_v (by first | exact opv_pick_t rfl rfl | exact opv_pick_f rfl rfl | exact opv_pick_bool rfl rfl rfl | exact opv_pick rfl rfl rfl) rfl ?_
 refine tM rfl rfl ?_
 refine tri_split rfl rfl (fun h1 => ?_) (fun h1 => ?_)
 ·refine tri_guard_skip rfl rfl rfl rfl (tri_guard_skip rfl rfl rfl rfl ?_)
  refine tri_v (by first | exact opv_pick_t rfl rfl | exact opv_pick_f rfl rfl | exact opv_pick_bool rfl rfl rfl | exact opv_pick rfl rfl rfl) rfl ?_
  refine tN (tT ?_)
  refine tri_cond_true rfl ?_
  refine tS (tR ?_)
  refine tri_v (by first | exact opv_load1 rfl rfl rfl | exact opv_loadA rfl rfl rfl | exact opv_loadE1 rfl (by assumption) rfl (by omega) rfl rfl | exact opv_loadEA rfl (by assumption) rfl (by omega) rfl rfl | exact opv_loadRX1 rfl rfl (by omega) rfl rfl | exact opv_loadRXA rfl rfl (by omega) rfl rfl rfl | exact opv_loadIX rfl rfl (by omega) | exact opv_loadR1 rfl rfl rfl | exact opv_loadRA rfl rfl rfl rfl) rfl ?_
  refine tri_g (opg_store rfl rfl rfl rfl rfl rfl) rfl ?_
  rintro _ _ _ ⟨rfl, rfl⟩
  refine tA rfl rfl (tA rfl rfl (tN (tT (tri_ret (tri_then_ret ?_)))))
  -- STOP ret
  refine tri_end A Suf.h rfl (.cons (rv_cellA rfl rfl rfl) (.cons (rv_tmp rfl) (.cons (rv_tmp rfl) .nil))) ?_
  rw [show R6.emptyT ns room lv = (ns, 0, 1) from if_pos (.inl h1)]
  exact ⟨a, cap, rfl, hs, rfl, fun _ h => h⟩
 refine tri_guard_run rfl rfl rfl (tM rfl rfl (tri_guard_run rfl rfl rfl ?_))
 refine tri_v (opv_gtr rfl rfl) rfl ?_
 refine tri_v (by first | exact opv_pick_t rfl rfl | exact opv_pick_f rfl rfl | exact opv_pick_bool rfl rfl rfl | exact opv_pick rfl rfl rfl) rfl ?_
 refine tN (tT ?_)
 refine tri_cond_dec rfl (fun h2 => ?_) (fun h2 => ?_)
 ·refine tS (tR ?_)
  refine tri_v (by first | exact opv_load1 rfl rfl rfl | exact opv_loadA rfl rfl rfl | exact opv_loadE1 rfl (by assumption) rfl (by omega) rfl rfl | exact opv_loadEA rfl (by assumption) rfl (by omega) rfl rfl | exact opv_loadRX1 rfl rfl (by omega) rfl rfl | exact opv_loadRXA rfl rfl (by omega) rfl rfl rfl | exact opv_loadIX rfl rfl (by omega) | exact opv_loadR1 rfl rfl rfl | exact opv_loadRA rfl rfl rfl rfl) rfl ?_
  refine tri_g (opg_store rfl rfl rfl rfl rfl rfl) rfl ?_
  rintro _ _ _ ⟨rfl, rfl⟩
  refine tA rfl rfl (tA rfl rfl (tN (tT (tri_ret (tri_then_ret ?_)))))
  -- STOP ret
  refine tri_end A Suf.h rfl (.cons (rv_cellA rfl rfl rfl) (.cons (rv_tmp rfl) (.cons (rv_tmp rfl) .nil))) ?_
  rw [show R6.emptyT ns room lv = (ns, 0, 1) from if_pos (.inr h2)]
  exact ⟨a, cap, rfl, hs, rfl, fun _ h => h⟩
 refine tri_skip (tT (tS (tR ?_)))
 refine tri_v (by first | exact opv_load1 rfl rfl rfl | exact opv_loadA rfl rfl rfl | exact opv_loadE1 rfl (by assumption) rfl (by omega) rfl rfl | exact opv_loadEA rfl (by assumption) rfl (by omega) rfl rfl | exact opv_loadRX1 rfl rfl (by omega) rfl rfl | exact opv_loadRXA rfl rfl (by omega) rfl rfl rfl | exact opv_loadIX rfl rfl (by omega) | exact opv_loadR1 rfl rfl rfl | exact opv_loadRA rfl rfl rfl rfl) rfl ?_
 refine tri_g opg_alloc rfl ?_
 rintro _ _ _ ⟨b7, rfl, rfl, rfl⟩
 refine tri_g (opg_store rfl rfl rfl rfl rfl rfl) rfl ?_
 rintro _ _ _ ⟨rfl, rfl⟩
 refine tN (tT (tS (tR (tA rfl rfl (tN (tT (tS ?_)))))))
 refine tS (tR (tA rfl rfl (tN (tT (tri_block ?_)))))
 have h0' : R6.right ns room := Decidable.not_not.1 h0
 obtain ⟨l, rfl⟩ : ∃ l : Nat, lv = l := ⟨lv.toNat, by omega⟩
 have hE : R6.emptyT ns room (l : Int) = if (R7.empty ns room l).2.2 ≠ 0 then (ns, 0, (R7.empty ns room l).2.2) else R7.empty ns room l := (if_neg (by omega)).trans (if_pos h0')
 refine tri_sub (F' := [(1, .int .i64 (l : Nat)), (2, pt b2 0), (4, pt b4 0), (7, pt b7 0), (8, .int .i64 0), (9, .int .i64 (0 : Nat))]) ⟨rfl, rfl, rfl, rfl, rfl, rfl, trivial⟩ ?_
 refine loop_ind (G := Nat × List Node × Int × Option Addr × Nat × List Chunk) (fun g => l - g.1) (fun g => g.1 ≤ l ∧ R6.Good g.2.1 room ∧ StA g.2.2.2.2.2 g.2.2.2.1 g.2.2.2.2.1 g.2.1 ∧ R7.empty ns room l = R7.emptyF room (l - g.1) g.2.1 g.2.2.1 ∧ I ⊆ g.2.2.2.2.2) (fun g => [(1, .int .i64 (l : Nat)), (2, pt b2 0), (4, pt b4 0), (7, pt b7 0), (8, .int .i64 g.2.2.1), (9, .int .i64 (g.1 : Nat))])
  (fun g => Box b7 [.slice g.2.2.2.1 g.2.1.length g.2.2.2.2.1, .int .i64 room] 26 :: Box b4 [.slice none 0 0, .int .i64 0] 26 :: Box b2 [.slice a ns.length cap, .int .i64 room] 26 :: A) (fun g => g.2.2.2.2.2) ?_ (0, ns, 0, a, cap, I) ⟨by simp, h0'.good (by have := h0'.1.2.1; omega), hs, rfl, fun _ h => h⟩
 rintro ⟨i, ns1, n1, a1, c1, J⟩ ⟨hi1, hg1, hs1, he, hJ⟩ K hK
 simp only at hi1 hg1 hs1 he hJ hK ⊢
 skip
 refine tS (tS (tR (tM rfl rfl (tM rfl rfl ?_))))
 refine tri_v (opv_lss rfl rfl) rfl ?_
 refine tN (tT ?_)
 -- STOP cond
 refine tri_cond_dec rfl (fun h => ?_) (fun h => ?_)
 ·have hlt : i < l := by omega
  rw [show l - i = (l - (i + 1)) + 1 by omega] at he
  unfold R7.emptyF at he
  refine tri_skip (tT (tS (tri_block (tS (tR ?_)))))
  refine tri_v (by first | exact opv_load1 rfl rfl rfl | exact opv_loadA rfl rfl rfl | exact opv_loadE1 rfl (by assumption) rfl (by omega) rfl rfl | exact opv_loadEA rfl (by assumption) rfl (by omega) rfl rfl | exact opv_loadRX1 rfl rfl (by omega) rfl rfl | exact opv_loadRXA rfl rfl (by omega) rfl rfl rfl | exact opv_loadIX rfl rfl (by omega) | exact opv_loadR1 rfl rfl rfl | exact opv_loadRA rfl rfl rfl rfl) rfl ?_
  refine tM rfl rfl (tM rfl rfl (tM rfl rfl (tM rfl rfl ?_)))
  refine tri_v (by first | exact opv_buildS rfl rfl | exact opv_buildA rfl rfl) rfl ?_
  -- STOP op
  refine tri_g (opg_call (xs := [_, _]) rfl (ref06_put (room := room) (q0 := n1) (q1 := n1) (q2 := n1) (q3 := n1) hs1 hg1.len hg1.mod)) rfl ?_
  rintro _ _ J2 ⟨a2, c2, rfl, hs2, rfl, hJ2⟩
  obtain ⟨r, hr⟩ : ∃ r, R6.put ns1 room n1 n1 n1 n1 = r := ⟨_, rfl⟩
  have hg2 := hg1.put n1 n1 n1 n1
  rw [hr] at he hs2 hg2 ⊢
  refine tM rfl rfl ?_
  refine tri_v (opv_extract rfl rfl) rfl ?_
  refine tri_v (opv_extract rfl rfl) rfl ?_
  refine tri_v (opv_extract rfl rfl) rfl ?_
  refine tri_g opg_alloc rfl ?_
  rintro _ _ _ ⟨b10, rfl, rfl, rfl⟩
  refine tri_g (opg_store rfl rfl rfl rfl rfl rfl) rfl ?_
  rintro _ _ _ ⟨rfl, rfl⟩
  refine tA rfl rfl (tA rfl rfl (tN (tT (tS (tS (tR (tM rfl rfl ?_)))))))
  refine tri_v (by first | exact opv_neq rfl rfl | exact opv_neqI rfl rfl rfl rfl rfl rfl | exact opv_neqB rfl rfl) rfl ?_
  refine tN (tT ?_)
  -- STOP cond
  refine tri_cond_dec rfl (fun x => ?_) (fun x => ?_)
  ·rw [if_pos x] at he
   refine tS (tR ?_)
   refine tri_v (by first | exact opv_load1 rfl rfl rfl | exact opv_loadA rfl rfl rfl | exact opv_loadE1 rfl (by assumption) rfl (by omega) rfl rfl | exact opv_loadEA rfl (by assumption) rfl (by omega) rfl rfl | exact opv_loadRX1 rfl rfl (by omega) rfl rfl | exact opv_loadRXA rfl rfl (by omega) rfl rfl rfl | exact opv_loadIX rfl rfl (by omega) | exact opv_loadR1 rfl rfl rfl | exact opv_loadRA rfl rfl rfl rfl) rfl ?_
   refine tM rfl rfl ?_
   refine tri_g (opg_store rfl rfl rfl rfl rfl rfl) rfl ?_
   rintro _ _ _ ⟨rfl, rfl⟩
   refine tA rfl rfl (tA rfl rfl (tN (tT (tri_ret (tri_then_ret ?_)))))
   refine tri_inBlock_ret ?_
   refine tri_then_ret (tri_then_ret ?_)
   refine tri_inBlock_ret ?_
   refine tri_then_ret ?_
   -- STOP ret
   refine tri_end A Suf.h rfl (.cons (rv_cellA rfl rfl rfl) (.cons (rv_tmp rfl) (.cons (rv_tmp rfl) .nil))) ?_
   rw [hE, he, if_pos x]
   exact ⟨a, cap, rfl, (hs.mono hJ).mono hJ2, rfl, fun _ h => hJ2 (hJ h)⟩
  ·rw [if_neg x] at he
   refine tri_skip (tT (tS (tR ?_)))
   refine tri_v (by first | exact opv_load1 rfl rfl rfl | exact opv_loadA rfl rfl rfl | exact opv_loadE1 rfl (by assumption) rfl (by omega) rfl rfl | exact opv_loadEA rfl (by assumption) rfl (by omega) rfl rfl | exact opv_loadRX1 rfl rfl (by omega) rfl rfl | exact opv_loadRXA rfl rfl (by omega) rfl rfl rfl | exact opv_loadIX rfl rfl (by omega) | exact opv_loadR1 rfl rfl rfl | exact opv_loadRA rfl rfl rfl rfl) rfl ?_
   refine tri_g (opg_store rfl rfl rfl rfl rfl rfl) rfl ?_
   rintro _ _ _ ⟨rfl, rfl⟩
   refine tN (tT (tR (tM rfl rfl (tA rfl rfl (tN ?_)))))
   refine tri_inBlock ?_
   refine tT (tR (tM rfl rfl ?_))
   refine tri_v (by first | exact opv_add rfl rfl (w64 (by omega) (by omega))) rfl ?_
   refine tA rfl rfl (tN (tT ?_))
   -- STOP again
   refine tri_drop ?_
   refine tri_sub ?_ (hK (i + 1, r.1, r.2.1, a2, c2, J2) ⟨by simp only; omega, hg2, hs2, he, fun _ h => hJ2 (hJ h)⟩ (by simp only; omega))
   exact ⟨rfl, rfl, rfl, rfl, rfl, rfl, trivial⟩
 ·obtain rfl : i = l := by omega
  rw [Nat.sub_self] at he
  unfold R7.emptyF at he
  refine tri_exit ?_
  refine tri_then_exit ?_
  refine tri_then_exit ?_
  refine tri_inBlock_hit rfl ?_
  refine tT (tS (tR ?_))
  refine tri_v (by first | exact opv_load1 rfl rfl rfl | exact opv_loadA rfl rfl rfl | exact opv_loadE1 rfl (by assumption) rfl (by omega) rfl rfl | exact opv_loadEA rfl (by assumption) rfl (by omega) rfl rfl | exact opv_loadRX1 rfl rfl (by omega) rfl rfl | exact opv_loadRXA rfl rfl (by omega) rfl rfl rfl | exact opv_loadIX rfl rfl (by omega) | exact opv_loadR1 rfl rfl rfl | exact opv_loadRA rfl rfl rfl rfl) rfl ?_
  refine tM rfl rfl ?_
  refine tri_g (opg_store rfl rfl rfl rfl rfl rfl) rfl ?_
  rintro _ _ _ ⟨rfl, rfl⟩
  refine tA rfl rfl (tA rfl rfl (tN (tT (tri_ret ?_))))
  -- STOP ret
  refine tri_end A Suf.h rfl (.cons (rv_cellA rfl rfl rfl) (.cons (rv_tmp rfl) (.cons (rv_tmp rfl) .nil))) ?_
  rw [hE, he, if_neg (fun h => h rfl)]
  exact ⟨a1, c1, rfl, hs1, rfl, hJ⟩
end Go.GL

set_option linter.unusedVariables false
namespace Go.GL
open Go.Proofs
attribute [local irreducible] wpList Code.wp Exit.then Exit.inBlock Ends Tri TriH OpV OpG FnC epf wpAnyH
variable {A : List Asrt} {I : List Chunk}
theorem ref06_emptyR {ns : List Node} {a : Option Addr} {cap : Nat} {room lv : Int} {p : List Node × Int × Int} (hs : StA I a cap ns) (hn : ns.length ≤ 1000000000) (hr : R6.Rng ns) (h : R6.emptyT ns room lv = p) :
  FnC Try.prog 36 [storeV a ns.length cap room, .int .i64 lv].toArray A I (StoreR p room A I) := by
 subst h
 exact ref06_empty hs hn hr
set_option maxHeartbeats 8000000 in
set_option maxRecDepth 100000 in
theorem law09_dead {level j count : Int} (h1 : I64 level) (h2 : I64 j) (h3 : I64 count) :
  FnC Try.prog 10 [.int .i64 level, .int .i64 j, .int .i64 count].toArray A I (fun v A' I' => v = .bool true ∧ A = A' ∧ I ⊆ I') := by
 have eN : R6.new 500 = ([R6.n0, R6.n1], 500) := by decide
 have hb1 := pk_bd (c := level) (n := 41) (by omega)
 obtain ⟨k, hk⟩ : ∃ k : Nat, pk level 41 = (k : Int) := ⟨(pk level 41).toNat, by omega⟩
 have hb2 := pk_bd (c := j) (n := 2 + pk level 41 - 1) (by omega)
 have hb3 := pk_bd (c := count) (n := 1099511627776) (by omega)
 obtain ⟨ns, q, eE, dn, dq⟩ := R9.empty_new (room := 500) (by omega) (by omega) (v := k + 2) (by omega)
 have hlen := dn.len
 have hr0 : R6.right [R6.n0, R6.n1] 500 := R6.right_iff.2 ⟨⟨by omega, by omega, by decide⟩, RL.new_wf⟩
 have eE : R6.emptyT [R6.n0, R6.n1] 500 (2 + pk level 41) = (ns, q, 0) := by
  unfold R6.emptyT R6.told
  rw [if_neg (by omega), if_pos hr0, show (2 + pk level 41).toNat = k + 2 by omega, eE]
  rfl
 obtain ⟨qa, eA, dA⟩ := R9.leapT_dead dn (by omega) (k := k) (by omega) dq (j := pk j (2 + pk level 41 - 1)) (by omega)
 obtain ⟨nb, qb, eB, dB, rB⟩ := R9.runT_dead (by omega) dn (by omega) (k := k) (by omega) dq hb3.1 hb3.2
 have eC := R9.runT_high (by omega) dn (by omega) (k := k) (by omega) dq (c := 1099511627776 + pk count 1099511627776) (by omega) (by omega)
 have lB : nb.length ≤ 1000000000 := by have := rB.1; omega
 have ltA : 0 ≤ qa ∧ qa < ns.length := dA.1.1
 have ltB : 0 ≤ qb ∧ qb < nb.length := dB.1.1
 have lvA : (ns.getD qa.toNat default).lv = ((k + 1 : Nat) : Int) := dA.1.2
 have lvB : (nb.getD qb.toNat default).lv = 2 := dB.1.2
 have popA : (ns.getD qa.toNat default).pop = 0 := dA.2
 have popB : (nb.getD qb.toNat default).pop = 0 := dB.2
 skip
 refine fn_enter3 Try.func10 rfl Try.ntmps10 rfl fun w0 => ?_
 refine tS (tR (tA rfl rfl (tN (tT (tS (tR ?_))))))
 -- STOP op
 refine tri_g (opg_call (xs := []) rfl (law09_awake)) rfl ?_
 rintro _ _ I0 ⟨rfl, rfl, hI0⟩
 refine tA rfl rfl (tN (tT (tS (tR (tM rfl rfl ?_)))))
 -- STOP op
 refine tri_g (opg_call (xs := [_, _]) rfl (law09_pick h1.1 h1.2 (by decide))) rfl ?_
 rintro _ _ _ ⟨rfl, rfl, rfl⟩
 refine tri_v (by first | exact opv_add rfl rfl (w64 (by omega) (by omega))) rfl ?_
 refine tA rfl rfl (tN (tT (tS (tR (tM rfl rfl (tM rfl rfl ?_))))))
 refine tri_v (by first | exact opv_sub rfl rfl (w64 (by omega) (by omega)) | exact opv_sub rfl rfl rfl) rfl ?_
 -- STOP op
 refine tri_g (opg_call (xs := [_, _]) rfl (law09_pick h2.1 h2.2 (by omega))) rfl ?_
 rintro _ _ _ ⟨rfl, rfl, rfl⟩
 refine tA rfl rfl (tN (tT (tS (tR ?_))))
 -- STOP op
 refine tri_g (opg_call (xs := [_]) rfl (ref06_newR eN)) rfl ?_
 rintro _ _ I1 ⟨x1, y1, rfl, hs1, rfl, hI1⟩
 refine tM rfl rfl ?_
 -- STOP op
 refine tri_g (opg_call (xs := [_, _]) rfl (ref06_emptyR hs1 (by decide) (by unfold R6.Rng; decide) eE)) rfl ?_
 rintro _ _ I2 ⟨x2, y2, rfl, hs2, rfl, hI2⟩
 refine tM rfl rfl ?_
 refine tri_v (opv_extract rfl rfl) rfl ?_
 refine tri_v (opv_extract rfl rfl) rfl ?_
 refine tri_v (opv_extract rfl rfl) rfl ?_
 refine tri_g opg_alloc rfl ?_
 rintro _ _ _ ⟨b10, rfl, rfl, rfl⟩
 refine tri_g (opg_store rfl rfl rfl rfl rfl rfl) rfl ?_
 rintro _ _ _ ⟨rfl, rfl⟩
 refine tA rfl rfl (tA rfl rfl (tN (tT (tS (tR ?_)))))
 refine tri_v (by first | exact opv_load1 rfl rfl rfl | exact opv_loadA rfl rfl rfl | exact opv_loadE1 rfl (by assumption) rfl (by omega) rfl rfl | exact opv_loadEA rfl (by assumption) rfl (by omega) rfl rfl | exact opv_loadRX1 rfl rfl (by omega) rfl rfl | exact opv_loadRXA rfl rfl (by omega) rfl rfl rfl | exact opv_loadIX rfl rfl (by omega) | exact opv_loadR1 rfl rfl rfl | exact opv_loadRA rfl rfl rfl rfl) rfl ?_
 refine tM rfl rfl (tM rfl rfl ?_)
 -- STOP op
 refine tri_g (opg_call (xs := [_, _, _]) rfl (leap_leapR hs2 (show ns.length ≤ 1000000000 by omega) eA)) rfl ?_
 rintro _ _ I3 ⟨x3, y3, rfl, hs3, rfl, hI3⟩
 refine tM rfl rfl ?_
 refine tri_v (opv_extract rfl rfl) rfl ?_
 refine tri_v (opv_extract rfl rfl) rfl ?_
 refine tri_v (opv_extract rfl rfl) rfl ?_
 refine tri_g opg_alloc rfl ?_
 rintro _ _ _ ⟨b13, rfl, rfl, rfl⟩
 refine tri_g (opg_store rfl rfl rfl rfl rfl rfl) rfl ?_
 rintro _ _ _ ⟨rfl, rfl⟩
 refine tA rfl rfl (tA rfl rfl (tN (tT (tS ?_))))
 skip
 refine tri_cut (fun F' A' J => ∃ (b16 : Nat) (x4 : Option Addr) (y4 : Nat), (StA J x4 y4 nb ∧ I3 ⊆ J) ∧ F' = [(2, .int .i64 count), (7, .bool true), (8, .int .i64 (2 + pk level 41)), (10, pt b10 0), (11, .int .i64 q), (13, pt b13 0), (14, .int .i64 qa), (15, .int .i64 0), (16, pt b16 0), (17, .int .i64 qb), (18, .int .i64 0)] ∧ A' = Box b16 [.slice x4 nb.length y4, .int .i64 500] 26 :: Box b13 [.slice x3 ns.length y3, .int .i64 500] 26 :: Box b10 [.slice x2 ns.length y2, .int .i64 500] 26 :: A) ?_ ?_
 ·refine tri_draw [0, 1, 2, 3, 4, 5, 6, 7, 8, 9, 10, 11, 12] rfl [] rfl mixed ?_
  refine th_take rfl rfl (by kernel_rfl)  (by first | exact opv_load1 rfl rfl rfl | exact opv_loadA rfl rfl rfl | exact opv_loadE1 rfl (by assumption) rfl (by omega) rfl rfl | exact opv_loadEA rfl (by assumption) rfl (by omega) rfl rfl | exact opv_loadRX1 rfl rfl (by omega) rfl rfl | exact opv_loadRXA rfl rfl (by omega) rfl rfl rfl | exact opv_loadIX rfl rfl (by omega) | exact opv_loadR1 rfl rfl rfl | exact opv_loadRA rfl rfl rfl rfl) ?_
  refine th_take rfl rfl (by kernel_rfl)  (opv_move rfl) ?_
  refine th_take rfl rfl (by kernel_rfl)  (opv_move rfl) ?_
  refine th_two (j := 9) [3, 4, 5, 6, 7, 8, 10, 11, 12] (by kernel_rfl) rfl ?_ ?_
  ·refine (step_m rfl rfl (opg_call (xs := [_, _]) rfl (law09_pick h3.1 h3.2 (by decide))) ?_)
   rintro _ _ _ ⟨rfl, rfl, rfl⟩
   refine ⟨Suf.h, (by first | exact fun _ h => h | assumption | exact fun _ h => (by assumption : _ ⊆ _) ((by assumption : _ ⊆ _) h)), ?_⟩
   refine th_two (j := 9) [4, 5, 6, 7, 8, 10, 11, 12] (by kernel_rfl) rfl ?_ ?_
   ·refine (step_m rfl rfl (opg_call (xs := [_, _, _]) rfl (leap_runR (hs2.mono hI3) (show ns.length ≤ 1000000000 by omega) eB)) ?_)
    rintro _ _ I4 ⟨x4, y4, rfl, hs4, rfl, hI4⟩
    refine ⟨Suf.h, hI4, ?_⟩
    refine th_take rfl rfl (by kernel_rfl)  (opv_move rfl) ?_
    refine th_take rfl rfl (by kernel_rfl)  (opv_extract rfl rfl) ?_
    refine th_take rfl rfl (by kernel_rfl)  (opv_extract rfl rfl) ?_
    refine th_take rfl rfl (by kernel_rfl)  (opv_extract rfl rfl) ?_
    refine th_one (by kernel_rfl) (step_m rfl rfl opg_alloc ?_)
    rintro _ _ _ ⟨b16, rfl, rfl, rfl⟩
    refine ⟨Suf.h, (by first | exact fun _ h => h | assumption | exact fun _ h => (by assumption : _ ⊆ _) ((by assumption : _ ⊆ _) h)), ?_⟩
    refine th_one (by kernel_rfl) (step_m rfl rfl (opg_store rfl rfl rfl rfl rfl rfl) ?_)
    rintro _ _ _ ⟨rfl, rfl⟩
    refine ⟨Suf.h, (by first | exact fun _ h => h | assumption | exact fun _ h => (by assumption : _ ⊆ _) ((by assumption : _ ⊆ _) h)), ?_⟩
    refine th_take rfl rfl (by kernel_rfl)  (opv_assign rfl) ?_
    refine th_take rfl rfl (by kernel_rfl)  (opv_assign rfl) ?_
    refine th_done (by kernel_rfl) ?_
    exact tri_cutEnd _ ⟨_, x4, y4, ⟨hs4, hI4⟩, rfl, rfl⟩ ⟨rfl, rfl, rfl, rfl, rfl, rfl, rfl, rfl, rfl, rfl, rfl, trivial⟩
   ·refine (step_m rfl rfl opg_alloc ?_)
    rintro _ _ _ ⟨b16, rfl, rfl, rfl⟩
    refine ⟨Suf.h, (by first | exact fun _ h => h | assumption | exact fun _ h => (by assumption : _ ⊆ _) ((by assumption : _ ⊆ _) h)), ?_⟩
    refine th_one (by kernel_rfl) (step_m rfl rfl (opg_call (xs := [_, _, _]) rfl (leap_runR (hs2.mono hI3) (show ns.length ≤ 1000000000 by omega) eB)) ?_)
    rintro _ _ I4 ⟨x4, y4, rfl, hs4, rfl, hI4⟩
    refine ⟨Suf.h, hI4, ?_⟩
    refine th_take rfl rfl (by kernel_rfl)  (opv_move rfl) ?_
    refine th_take rfl rfl (by kernel_rfl)  (opv_extract rfl rfl) ?_
    refine th_take rfl rfl (by kernel_rfl)  (opv_extract rfl rfl) ?_
    refine th_take rfl rfl (by kernel_rfl)  (opv_extract rfl rfl) ?_
    refine th_one (by kernel_rfl) (step_m rfl rfl (opg_store rfl rfl rfl rfl rfl rfl) ?_)
    rintro _ _ _ ⟨rfl, rfl⟩
    refine ⟨Suf.h, (by first | exact fun _ h => h | assumption | exact fun _ h => (by assumption : _ ⊆ _) ((by assumption : _ ⊆ _) h)), ?_⟩
    refine th_take rfl rfl (by kernel_rfl)  (opv_assign rfl) ?_
    refine th_take rfl rfl (by kernel_rfl)  (opv_assign rfl) ?_
    refine th_done (by kernel_rfl) ?_
    exact tri_cutEnd _ ⟨_, x4, y4, ⟨hs4, hI4⟩, rfl, rfl⟩ ⟨rfl, rfl, rfl, rfl, rfl, rfl, rfl, rfl, rfl, rfl, rfl, trivial⟩
  ·refine (step_m rfl rfl opg_alloc ?_)
   rintro _ _ _ ⟨b16, rfl, rfl, rfl⟩
   refine ⟨Suf.h, (by first | exact fun _ h => h | assumption | exact fun _ h => (by assumption : _ ⊆ _) ((by assumption : _ ⊆ _) h)), ?_⟩
   refine th_one (by kernel_rfl) (step_m rfl rfl (opg_call (xs := [_, _]) rfl (law09_pick h3.1 h3.2 (by decide))) ?_)
   rintro _ _ _ ⟨rfl, rfl, rfl⟩
   refine ⟨Suf.h, (by first | exact fun _ h => h | assumption | exact fun _ h => (by assumption : _ ⊆ _) ((by assumption : _ ⊆ _) h)), ?_⟩
   refine th_one (by kernel_rfl) (step_m rfl rfl (opg_call (xs := [_, _, _]) rfl (leap_runR (hs2.mono hI3) (show ns.length ≤ 1000000000 by omega) eB)) ?_)
   rintro _ _ I4 ⟨x4, y4, rfl, hs4, rfl, hI4⟩
   refine ⟨Suf.h, hI4, ?_⟩
   refine th_take rfl rfl (by kernel_rfl)  (opv_move rfl) ?_
   refine th_take rfl rfl (by kernel_rfl)  (opv_extract rfl rfl) ?_
   refine th_take rfl rfl (by kernel_rfl)  (opv_extract rfl rfl) ?_
   refine th_take rfl rfl (by kernel_rfl)  (opv_extract rfl rfl) ?_
   refine th_one (by kernel_rfl) (step_m rfl rfl (opg_store rfl rfl rfl rfl rfl rfl) ?_)
   rintro _ _ _ ⟨rfl, rfl⟩
   refine ⟨Suf.h, (by first | exact fun _ h => h | assumption | exact fun _ h => (by assumption : _ ⊆ _) ((by assumption : _ ⊆ _) h)), ?_⟩
   refine th_take rfl rfl (by kernel_rfl)  (opv_assign rfl) ?_
   refine th_take rfl rfl (by kernel_rfl)  (opv_assign rfl) ?_
   refine th_done (by kernel_rfl) ?_
   exact tri_cutEnd _ ⟨_, x4, y4, ⟨hs4, hI4⟩, rfl, rfl⟩ ⟨rfl, rfl, rfl, rfl, rfl, rfl, rfl, rfl, rfl, rfl, rfl, trivial⟩
 rintro _ _ I4 ⟨b16, x4, y4, ⟨hs4, hI4⟩, rfl, rfl⟩
 refine tT (tS ?_)
 skip
 refine tri_cut (fun F' A' J => ∃ (b19 : Nat) (x5 : Option Addr) (y5 : Nat), (I4 ⊆ J) ∧ F' = [(7, .bool true), (8, .int .i64 (2 + pk level 41)), (13, pt b13 0), (14, .int .i64 qa), (15, .int .i64 0), (16, pt b16 0), (17, .int .i64 qb), (18, .int .i64 0), (21, .int .i64 2)] ∧ A' = Box b19 [.slice x5 ns.length y5, .int .i64 500] 26 :: Box b16 [.slice x4 nb.length y4, .int .i64 500] 26 :: Box b13 [.slice x3 ns.length y3, .int .i64 500] 26 :: Box b10 [.slice x2 ns.length y2, .int .i64 500] 26 :: A) ?_ ?_
 ·refine tri_draw [0, 1, 2, 3, 4, 5, 6, 7, 8, 9, 10, 11, 12, 13] rfl [] rfl mixed ?_
  refine th_take rfl rfl (by kernel_rfl)  (by first | exact opv_load1 rfl rfl rfl | exact opv_loadA rfl rfl rfl | exact opv_loadE1 rfl (by assumption) rfl (by omega) rfl rfl | exact opv_loadEA rfl (by assumption) rfl (by omega) rfl rfl | exact opv_loadRX1 rfl rfl (by omega) rfl rfl | exact opv_loadRXA rfl rfl (by omega) rfl rfl rfl | exact opv_loadIX rfl rfl (by omega) | exact opv_loadR1 rfl rfl rfl | exact opv_loadRA rfl rfl rfl rfl) ?_
  refine th_take rfl rfl (by kernel_rfl)  (opv_move rfl) ?_
  refine th_take rfl rfl (by kernel_rfl)  (opv_move rfl) ?_
  refine th_two (j := 10) [3, 4, 5, 6, 7, 8, 9, 11, 12, 13] (by kernel_rfl) rfl ?_ ?_
  ·refine (step_m rfl rfl (opg_call (xs := [_, _]) rfl (law09_pick h3.1 h3.2 (by decide))) ?_)
   rintro _ _ _ ⟨rfl, rfl, rfl⟩
   refine ⟨Suf.h, (by first | exact fun _ h => h | assumption | exact fun _ h => (by assumption : _ ⊆ _) ((by assumption : _ ⊆ _) h)), ?_⟩
   refine th_take rfl rfl (by kernel_rfl)  (by first | exact opv_add rfl rfl (w64 (by omega) (by omega))) ?_
   refine th_two (j := 10) [5, 6, 7, 8, 9, 11, 12, 13] (by kernel_rfl) rfl ?_ ?_
   ·refine (step_m rfl rfl (opg_call (xs := [_, _, _]) rfl (leap_runR ((hs2.mono hI3).mono hI4) (show ns.length ≤ 1000000000 by omega) eC)) ?_)
    rintro _ _ I5 ⟨x5, y5, rfl, hs5, rfl, hI5⟩
    refine ⟨Suf.h, hI5, ?_⟩
    refine th_take rfl rfl (by kernel_rfl)  (opv_move rfl) ?_
    refine th_take rfl rfl (by kernel_rfl)  (opv_extract rfl rfl) ?_
    refine th_take rfl rfl (by kernel_rfl)  (opv_extract rfl rfl) ?_
    refine th_take rfl rfl (by kernel_rfl)  (opv_extract rfl rfl) ?_
    refine th_one (by kernel_rfl) (step_m rfl rfl opg_alloc ?_)
    rintro _ _ _ ⟨b19, rfl, rfl, rfl⟩
    refine ⟨Suf.h, (by first | exact fun _ h => h | assumption | exact fun _ h => (by assumption : _ ⊆ _) ((by assumption : _ ⊆ _) h)), ?_⟩
    refine th_one (by kernel_rfl) (step_m rfl rfl (opg_store rfl rfl rfl rfl rfl rfl) ?_)
    rintro _ _ _ ⟨rfl, rfl⟩
    refine ⟨Suf.h, (by first | exact fun _ h => h | assumption | exact fun _ h => (by assumption : _ ⊆ _) ((by assumption : _ ⊆ _) h)), ?_⟩
    refine th_take rfl rfl (by kernel_rfl)  (opv_assign rfl) ?_
    refine th_take rfl rfl (by kernel_rfl)  (opv_assign rfl) ?_
    refine th_done (by kernel_rfl) ?_
    exact tri_cutEnd _ ⟨_, x5, y5, hI5, rfl, rfl⟩ ⟨rfl, rfl, rfl, rfl, rfl, rfl, rfl, rfl, rfl, trivial⟩
   ·refine (step_m rfl rfl opg_alloc ?_)
    rintro _ _ _ ⟨b19, rfl, rfl, rfl⟩
    refine ⟨Suf.h, (by first | exact fun _ h => h | assumption | exact fun _ h => (by assumption : _ ⊆ _) ((by assumption : _ ⊆ _) h)), ?_⟩
    refine th_one (by kernel_rfl) (step_m rfl rfl (opg_call (xs := [_, _, _]) rfl (leap_runR ((hs2.mono hI3).mono hI4) (show ns.length ≤ 1000000000 by omega) eC)) ?_)
    rintro _ _ I5 ⟨x5, y5, rfl, hs5, rfl, hI5⟩
    refine ⟨Suf.h, hI5, ?_⟩
    refine th_take rfl rfl (by kernel_rfl)  (opv_move rfl) ?_
    refine th_take rfl rfl (by kernel_rfl)  (opv_extract rfl rfl) ?_
    refine th_take rfl rfl (by kernel_rfl)  (opv_extract rfl rfl) ?_
    refine th_take rfl rfl (by kernel_rfl)  (opv_extract rfl rfl) ?_
    refine th_one (by kernel_rfl) (step_m rfl rfl (opg_store rfl rfl rfl rfl rfl rfl) ?_)
    rintro _ _ _ ⟨rfl, rfl⟩
    refine ⟨Suf.h, (by first | exact fun _ h => h | assumption | exact fun _ h => (by assumption : _ ⊆ _) ((by assumption : _ ⊆ _) h)), ?_⟩
    refine th_take rfl rfl (by kernel_rfl)  (opv_assign rfl) ?_
    refine th_take rfl rfl (by kernel_rfl)  (opv_assign rfl) ?_
    refine th_done (by kernel_rfl) ?_
    exact tri_cutEnd _ ⟨_, x5, y5, hI5, rfl, rfl⟩ ⟨rfl, rfl, rfl, rfl, rfl, rfl, rfl, rfl, rfl, trivial⟩
  ·refine (step_m rfl rfl opg_alloc ?_)
   rintro _ _ _ ⟨b19, rfl, rfl, rfl⟩
   refine ⟨Suf.h, (by first | exact fun _ h => h | assumption | exact fun _ h => (by assumption : _ ⊆ _) ((by assumption : _ ⊆ _) h)), ?_⟩
   refine th_one (by kernel_rfl) (step_m rfl rfl (opg_call (xs := [_, _]) rfl (law09_pick h3.1 h3.2 (by decide))) ?_)
   rintro _ _ _ ⟨rfl, rfl, rfl⟩
   refine ⟨Suf.h, (by first | exact fun _ h => h | assumption | exact fun _ h => (by assumption : _ ⊆ _) ((by assumption : _ ⊆ _) h)), ?_⟩
   refine th_take rfl rfl (by kernel_rfl)  (by first | exact opv_add rfl rfl (w64 (by omega) (by omega))) ?_
   refine th_one (by kernel_rfl) (step_m rfl rfl (opg_call (xs := [_, _, _]) rfl (leap_runR ((hs2.mono hI3).mono hI4) (show ns.length ≤ 1000000000 by omega) eC)) ?_)
   rintro _ _ I5 ⟨x5, y5, rfl, hs5, rfl, hI5⟩
   refine ⟨Suf.h, hI5, ?_⟩
   refine th_take rfl rfl (by kernel_rfl)  (opv_move rfl) ?_
   refine th_take rfl rfl (by kernel_rfl)  (opv_extract rfl rfl) ?_
   refine th_take rfl rfl (by kernel_rfl)  (opv_extract rfl rfl) ?_
   refine th_take rfl rfl (by kernel_rfl)  (opv_extract rfl rfl) ?_
   refine th_one (by kernel_rfl) (step_m rfl rfl (opg_store rfl rfl rfl rfl rfl rfl) ?_)
   rintro _ _ _ ⟨rfl, rfl⟩
   refine ⟨Suf.h, (by first | exact fun _ h => h | assumption | exact fun _ h => (by assumption : _ ⊆ _) ((by assumption : _ ⊆ _) h)), ?_⟩
   refine th_take rfl rfl (by kernel_rfl)  (opv_assign rfl) ?_
   refine th_take rfl rfl (by kernel_rfl)  (opv_assign rfl) ?_
   refine th_done (by kernel_rfl) ?_
   exact tri_cutEnd _ ⟨_, x5, y5, hI5, rfl, rfl⟩ ⟨rfl, rfl, rfl, rfl, rfl, rfl, rfl, rfl, rfl, trivial⟩
 rintro _ _ I5 ⟨b19, x5, y5, hI5, rfl, rfl⟩
 have hI05 : I ⊆ I5 := fun _ h => hI5 (hI4 (hI3 (hI2 (hI1 (hI0 h)))))
 have nA : SlAt I5 x3 ns := ((hs3.mono hI4).mono hI5).sl
 have nB : SlAt I5 x4 nb := (hs4.mono hI5).sl
 refine tT (tS (tR (tM rfl rfl (tM rfl rfl ?_))))
 refine tri_bool 65 rfl (fun _ => ?_) (fun h => absurd h (by decide))
 refine tri_guard_run rfl rfl rfl (tM rfl rfl (tri_guard_run rfl rfl rfl ?_))
 refine tri_v (by first | exact opv_eql rfl rfl | exact opv_eqlI rfl rfl rfl rfl rfl rfl | exact opv_eqlB rfl rfl | exact opv_eqlNil rfl rfl) rfl ?_
 refine tri_v (by first | exact opv_pick_t rfl rfl | exact opv_pick_f rfl rfl | exact opv_pick_bool rfl rfl rfl | exact opv_pick rfl rfl rfl) rfl ?_
 refine tM rfl rfl ?_
 -- STOP guard
 refine tri_true rfl rfl (rfl) ?_
 refine tri_guard_run rfl rfl rfl (tM rfl rfl (tri_guard_run rfl rfl rfl ?_))
 refine tri_v (by first | exact opv_fieldAddr rfl rfl | exact opv_fieldAddrE rfl (by assumption) (by omega) rfl | exact opv_fieldAddrR rfl (by omega) rfl | exact opv_fieldAddrP rfl rfl rfl) rfl ?_
 refine tri_guard_run rfl rfl rfl ?_
 refine tri_v (by first | exact opv_load1 rfl rfl rfl | exact opv_loadA rfl rfl rfl | exact opv_loadE1 rfl (by assumption) rfl (by omega) rfl rfl | exact opv_loadEA rfl (by assumption) rfl (by omega) rfl rfl | exact opv_loadRX1 rfl rfl (by omega) rfl rfl | exact opv_loadRXA rfl rfl (by omega) rfl rfl rfl | exact opv_loadIX rfl rfl (by omega) | exact opv_loadR1 rfl rfl rfl | exact opv_loadRA rfl rfl rfl rfl) rfl ?_
 refine tri_guard_run rfl rfl rfl ?_
 refine tri_v (opv_len rfl) rfl ?_
 refine tri_guard_run rfl rfl rfl ?_
 refine tri_v (opv_lss rfl rfl) rfl ?_
 refine tri_v (by first | exact opv_pick_t rfl rfl | exact opv_pick_f rfl rfl | exact opv_pick_bool rfl rfl rfl | exact opv_pick rfl rfl rfl) rfl ?_
 refine tM rfl rfl ?_
 -- STOP guard
 refine tri_true rfl rfl ((by omega)) ?_
 refine tri_guard_run rfl rfl rfl ?_
 refine tri_v (by first | exact opv_fieldAddr rfl rfl | exact opv_fieldAddrE rfl (by assumption) (by omega) rfl | exact opv_fieldAddrR rfl (by omega) rfl | exact opv_fieldAddrP rfl rfl rfl) rfl ?_
 refine tri_guard_run rfl rfl rfl ?_
 refine tri_v (by first | exact opv_load1 rfl rfl rfl | exact opv_loadA rfl rfl rfl | exact opv_loadE1 rfl (by assumption) rfl (by omega) rfl rfl | exact opv_loadEA rfl (by assumption) rfl (by omega) rfl rfl | exact opv_loadRX1 rfl rfl (by omega) rfl rfl | exact opv_loadRXA rfl rfl (by omega) rfl rfl rfl | exact opv_loadIX rfl rfl (by omega) | exact opv_loadR1 rfl rfl rfl | exact opv_loadRA rfl rfl rfl rfl) rfl ?_
 refine tri_guard_run rfl rfl rfl (tM rfl rfl (tri_guard_run rfl rfl rfl ?_))
 refine tri_v (by first | exact opv_indexAddrA rfl rfl (by first | decide | omega) (by first | decide | omega) | exact opv_indexAddrSN rfl rfl (by omega) (by assumption) rfl | exact opv_indexAddrS rfl rfl (by omega) (by omega) (by assumption) rfl | exact opv_indexAddrE rfl (by assumption) (by omega) rfl (by first | decide | omega) (by first | decide | omega) | exact opv_indexAddrRN rfl rfl (by omega) | exact opv_indexAddrR rfl rfl (by omega) (by omega) | exact opv_indexAddrRA rfl (by omega) rfl (by first | decide | omega) (by first | decide | omega) | exact opv_indexAddrSP rfl rfl (by omega) (by omega) | exact opv_indexAddrSN rfl rfl (by omega) (by assumption) (by omega) | exact opv_indexAddrS rfl rfl (by omega) (by omega) (by assumption) (by omega)) rfl ?_
 refine tri_guard_run rfl rfl rfl ?_
 refine tri_v (by first | exact opv_fieldAddr rfl rfl | exact opv_fieldAddrE rfl (by assumption) (by omega) rfl | exact opv_fieldAddrR rfl (by omega) rfl | exact opv_fieldAddrP rfl rfl rfl) rfl ?_
 refine tri_guard_run rfl rfl rfl ?_
 refine tri_v (by first | exact opv_load1 rfl rfl rfl | exact opv_loadA rfl rfl rfl | exact opv_loadE1 rfl (by assumption) rfl (by omega) rfl rfl | exact opv_loadEA rfl (by assumption) rfl (by omega) rfl rfl | exact opv_loadRX1 rfl rfl (by omega) rfl rfl | exact opv_loadRXA rfl rfl (by omega) rfl rfl rfl | exact opv_loadIX rfl rfl (by omega) | exact opv_loadR1 rfl rfl rfl | exact opv_loadRA rfl rfl rfl rfl) rfl ?_
 refine tri_guard_run rfl rfl rfl ?_
 refine tri_v (by first | exact opv_eql rfl rfl | exact opv_eqlI rfl rfl rfl rfl rfl rfl | exact opv_eqlB rfl rfl | exact opv_eqlNil rfl rfl) rfl ?_
 refine tri_v (by first | exact opv_pick_t rfl rfl | exact opv_pick_f rfl rfl | exact opv_pick_bool rfl rfl rfl | exact opv_pick rfl rfl rfl) rfl ?_
 refine tM rfl rfl ?_
 -- STOP guard
 refine tri_true rfl rfl (popA) ?_
 refine tri_guard_run rfl rfl rfl ?_
 refine tri_v (by first | exact opv_fieldAddr rfl rfl | exact opv_fieldAddrE rfl (by assumption) (by omega) rfl | exact opv_fieldAddrR rfl (by omega) rfl | exact opv_fieldAddrP rfl rfl rfl) rfl ?_
 refine tri_guard_run rfl rfl rfl ?_
 refine tri_v (by first | exact opv_load1 rfl rfl rfl | exact opv_loadA rfl rfl rfl | exact opv_loadE1 rfl (by assumption) rfl (by omega) rfl rfl | exact opv_loadEA rfl (by assumption) rfl (by omega) rfl rfl | exact opv_loadRX1 rfl rfl (by omega) rfl rfl | exact opv_loadRXA rfl rfl (by omega) rfl rfl rfl | exact opv_loadIX rfl rfl (by omega) | exact opv_loadR1 rfl rfl rfl | exact opv_loadRA rfl rfl rfl rfl) rfl ?_
 refine tri_guard_run rfl rfl rfl (tM rfl rfl (tri_guard_run rfl rfl rfl ?_))
 refine tri_v (by first | exact opv_indexAddrA rfl rfl (by first | decide | omega) (by first | decide | omega) | exact opv_indexAddrSN rfl rfl (by omega) (by assumption) rfl | exact opv_indexAddrS rfl rfl (by omega) (by omega) (by assumption) rfl | exact opv_indexAddrE rfl (by assumption) (by omega) rfl (by first | decide | omega) (by first | decide | omega) | exact opv_indexAddrRN rfl rfl (by omega) | exact opv_indexAddrR rfl rfl (by omega) (by omega) | exact opv_indexAddrRA rfl (by omega) rfl (by first | decide | omega) (by first | decide | omega) | exact opv_indexAddrSP rfl rfl (by omega) (by omega) | exact opv_indexAddrSN rfl rfl (by omega) (by assumption) (by omega) | exact opv_indexAddrS rfl rfl (by omega) (by omega) (by assumption) (by omega)) rfl ?_
 refine tri_guard_run rfl rfl rfl ?_
 refine tri_v (by first | exact opv_fieldAddr rfl rfl | exact opv_fieldAddrE rfl (by assumption) (by omega) rfl | exact opv_fieldAddrR rfl (by omega) rfl | exact opv_fieldAddrP rfl rfl rfl) rfl ?_
 refine tri_guard_run rfl rfl rfl ?_
 refine tri_v (by first | exact opv_load1 rfl rfl rfl | exact opv_loadA rfl rfl rfl | exact opv_loadE1 rfl (by assumption) rfl (by omega) rfl rfl | exact opv_loadEA rfl (by assumption) rfl (by omega) rfl rfl | exact opv_loadRX1 rfl rfl (by omega) rfl rfl | exact opv_loadRXA rfl rfl (by omega) rfl rfl rfl | exact opv_loadIX rfl rfl (by omega) | exact opv_loadR1 rfl rfl rfl | exact opv_loadRA rfl rfl rfl rfl) rfl ?_
 refine tri_guard_run rfl rfl rfl (tM rfl rfl (tri_guard_run rfl rfl rfl ?_))
 refine tri_v (by first | exact opv_sub rfl rfl (w64 (by omega) (by omega)) | exact opv_sub rfl rfl rfl) rfl ?_
 refine tri_guard_run rfl rfl rfl ?_
 refine tri_v (by first | exact opv_eql rfl rfl | exact opv_eqlI rfl rfl rfl rfl rfl rfl | exact opv_eqlB rfl rfl | exact opv_eqlNil rfl rfl) rfl ?_
 refine tri_v (by first | exact opv_pick_t rfl rfl | exact opv_pick_f rfl rfl | exact opv_pick_bool rfl rfl rfl | exact opv_pick rfl rfl rfl) rfl ?_
 refine tM rfl rfl ?_
 -- STOP guard
 refine tri_true rfl rfl ((by rw [lvA]; omega)) ?_
 refine tri_guard_run rfl rfl rfl (tM rfl rfl (tri_guard_run rfl rfl rfl ?_))
 refine tri_v (by first | exact opv_eql rfl rfl | exact opv_eqlI rfl rfl rfl rfl rfl rfl | exact opv_eqlB rfl rfl | exact opv_eqlNil rfl rfl) rfl ?_
 refine tri_v (by first | exact opv_pick_t rfl rfl | exact opv_pick_f rfl rfl | exact opv_pick_bool rfl rfl rfl | exact opv_pick rfl rfl rfl) rfl ?_
 refine tM rfl rfl ?_
 -- STOP guard
 refine tri_true rfl rfl (rfl) ?_
 refine tri_guard_run rfl rfl rfl (tM rfl rfl (tri_guard_run rfl rfl rfl ?_))
 refine tri_v (by first | exact opv_fieldAddr rfl rfl | exact opv_fieldAddrE rfl (by assumption) (by omega) rfl | exact opv_fieldAddrR rfl (by omega) rfl | exact opv_fieldAddrP rfl rfl rfl) rfl ?_
 refine tri_guard_run rfl rfl rfl ?_
 refine tri_v (by first | exact opv_load1 rfl rfl rfl | exact opv_loadA rfl rfl rfl | exact opv_loadE1 rfl (by assumption) rfl (by omega) rfl rfl | exact opv_loadEA rfl (by assumption) rfl (by omega) rfl rfl | exact opv_loadRX1 rfl rfl (by omega) rfl rfl | exact opv_loadRXA rfl rfl (by omega) rfl rfl rfl | exact opv_loadIX rfl rfl (by omega) | exact opv_loadR1 rfl rfl rfl | exact opv_loadRA rfl rfl rfl rfl) rfl ?_
 refine tri_guard_run rfl rfl rfl ?_
 refine tri_v (opv_len rfl) rfl ?_
 refine tri_guard_run rfl rfl rfl ?_
 refine tri_v (opv_lss rfl rfl) rfl ?_
 refine tri_v (by first | exact opv_pick_t rfl rfl | exact opv_pick_f rfl rfl | exact opv_pick_bool rfl rfl rfl | exact opv_pick rfl rfl rfl) rfl ?_
 refine tM rfl rfl ?_
 -- STOP guard
 refine tri_true rfl rfl ((by omega)) ?_
 refine tri_guard_run rfl rfl rfl ?_
 refine tri_v (by first | exact opv_fieldAddr rfl rfl | exact opv_fieldAddrE rfl (by assumption) (by omega) rfl | exact opv_fieldAddrR rfl (by omega) rfl | exact opv_fieldAddrP rfl rfl rfl) rfl ?_
 refine tri_guard_run rfl rfl rfl ?_
 refine tri_v (by first | exact opv_load1 rfl rfl rfl | exact opv_loadA rfl rfl rfl | exact opv_loadE1 rfl (by assumption) rfl (by omega) rfl rfl | exact opv_loadEA rfl (by assumption) rfl (by omega) rfl rfl | exact opv_loadRX1 rfl rfl (by omega) rfl rfl | exact opv_loadRXA rfl rfl (by omega) rfl rfl rfl | exact opv_loadIX rfl rfl (by omega) | exact opv_loadR1 rfl rfl rfl | exact opv_loadRA rfl rfl rfl rfl) rfl ?_
 refine tri_guard_run rfl rfl rfl (tM rfl rfl (tri_guard_run rfl rfl rfl ?_))
 refine tri_v (by first | exact opv_indexAddrA rfl rfl (by first | decide | omega) (by first | decide | omega) | exact opv_indexAddrSN rfl rfl (by omega) (by assumption) rfl | exact opv_indexAddrS rfl rfl (by omega) (by omega) (by assumption) rfl | exact opv_indexAddrE rfl (by assumption) (by omega) rfl (by first | decide | omega) (by first | decide | omega) | exact opv_indexAddrRN rfl rfl (by omega) | exact opv_indexAddrR rfl rfl (by omega) (by omega) | exact opv_indexAddrRA rfl (by omega) rfl (by first | decide | omega) (by first | decide | omega) | exact opv_indexAddrSP rfl rfl (by omega) (by omega) | exact opv_indexAddrSN rfl rfl (by omega) (by assumption) (by omega) | exact opv_indexAddrS rfl rfl (by omega) (by omega) (by assumption) (by omega)) rfl ?_
 refine tri_guard_run rfl rfl rfl ?_
 refine tri_v (by first | exact opv_fieldAddr rfl rfl | exact opv_fieldAddrE rfl (by assumption) (by omega) rfl | exact opv_fieldAddrR rfl (by omega) rfl | exact opv_fieldAddrP rfl rfl rfl) rfl ?_
 refine tri_guard_run rfl rfl rfl ?_
 refine tri_v (by first | exact opv_load1 rfl rfl rfl | exact opv_loadA rfl rfl rfl | exact opv_loadE1 rfl (by assumption) rfl (by omega) rfl rfl | exact opv_loadEA rfl (by assumption) rfl (by omega) rfl rfl | exact opv_loadRX1 rfl rfl (by omega) rfl rfl | exact opv_loadRXA rfl rfl (by omega) rfl rfl rfl | exact opv_loadIX rfl rfl (by omega) | exact opv_loadR1 rfl rfl rfl | exact opv_loadRA rfl rfl rfl rfl) rfl ?_
 refine tri_guard_run rfl rfl rfl ?_
 refine tri_v (by first | exact opv_eql rfl rfl | exact opv_eqlI rfl rfl rfl rfl rfl rfl | exact opv_eqlB rfl rfl | exact opv_eqlNil rfl rfl) rfl ?_
 refine tri_v (by first | exact opv_pick_t rfl rfl | exact opv_pick_f rfl rfl | exact opv_pick_bool rfl rfl rfl | exact opv_pick rfl rfl rfl) rfl ?_
 refine tM rfl rfl ?_
 -- STOP guard
 refine tri_true rfl rfl (popB) ?_
 refine tri_guard_run rfl rfl rfl ?_
 refine tri_v (by first | exact opv_fieldAddr rfl rfl | exact opv_fieldAddrE rfl (by assumption) (by omega) rfl | exact opv_fieldAddrR rfl (by omega) rfl | exact opv_fieldAddrP rfl rfl rfl) rfl ?_
 refine tri_guard_run rfl rfl rfl ?_
 refine tri_v (by first | exact opv_load1 rfl rfl rfl | exact opv_loadA rfl rfl rfl | exact opv_loadE1 rfl (by assumption) rfl (by omega) rfl rfl | exact opv_loadEA rfl (by assumption) rfl (by omega) rfl rfl | exact opv_loadRX1 rfl rfl (by omega) rfl rfl | exact opv_loadRXA rfl rfl (by omega) rfl rfl rfl | exact opv_loadIX rfl rfl (by omega) | exact opv_loadR1 rfl rfl rfl | exact opv_loadRA rfl rfl rfl rfl) rfl ?_
 refine tri_guard_run rfl rfl rfl (tM rfl rfl (tri_guard_run rfl rfl rfl ?_))
 refine tri_v (by first | exact opv_indexAddrA rfl rfl (by first | decide | omega) (by first | decide | omega) | exact opv_indexAddrSN rfl rfl (by omega) (by assumption) rfl | exact opv_indexAddrS rfl rfl (by omega) (by omega) (by assumption) rfl | exact opv_indexAddrE rfl (by assumption) (by omega) rfl (by first | decide | omega) (by first | decide | omega) | exact opv_indexAddrRN rfl rfl (by omega) | exact opv_indexAddrR rfl rfl (by omega) (by omega) | exact opv_indexAddrRA rfl (by omega) rfl (by first | decide | omega) (by first | decide | omega) | exact opv_indexAddrSP rfl rfl (by omega) (by omega) | exact opv_indexAddrSN rfl rfl (by omega) (by assumption) (by omega) | exact opv_indexAddrS rfl rfl (by omega) (by omega) (by assumption) (by omega)) rfl ?_
 refine tri_guard_run rfl rfl rfl ?_
 refine tri_v (by first | exact opv_fieldAddr rfl rfl | exact opv_fieldAddrE rfl (by assumption) (by omega) rfl | exact opv_fieldAddrR rfl (by omega) rfl | exact opv_fieldAddrP rfl rfl rfl) rfl ?_
 refine tri_guard_run rfl rfl rfl ?_
 refine tri_v (by first | exact opv_load1 rfl rfl rfl | exact opv_loadA rfl rfl rfl | exact opv_loadE1 rfl (by assumption) rfl (by omega) rfl rfl | exact opv_loadEA rfl (by assumption) rfl (by omega) rfl rfl | exact opv_loadRX1 rfl rfl (by omega) rfl rfl | exact opv_loadRXA rfl rfl (by omega) rfl rfl rfl | exact opv_loadIX rfl rfl (by omega) | exact opv_loadR1 rfl rfl rfl | exact opv_loadRA rfl rfl rfl rfl) rfl ?_
 refine tri_guard_run rfl rfl rfl ?_
 refine tri_v (by first | exact opv_eql rfl rfl | exact opv_eqlI rfl rfl rfl rfl rfl rfl | exact opv_eqlB rfl rfl | exact opv_eqlNil rfl rfl) rfl ?_
 refine tri_v (by first | exact opv_pick_t rfl rfl | exact opv_pick_f rfl rfl | exact opv_pick_bool rfl rfl rfl | exact opv_pick rfl rfl rfl) rfl ?_
 refine tM rfl rfl ?_
 -- STOP guard
 refine tri_true rfl rfl (lvB) ?_
 refine tri_guard_run rfl rfl rfl (tM rfl rfl (tri_guard_run rfl rfl rfl ?_))
 refine tri_v (by first | exact opv_eql rfl rfl | exact opv_eqlI rfl rfl rfl rfl rfl rfl | exact opv_eqlB rfl rfl | exact opv_eqlNil rfl rfl) rfl ?_
 refine tri_v (by first | exact opv_pick_t rfl rfl | exact opv_pick_f rfl rfl | exact opv_pick_bool rfl rfl rfl | exact opv_pick rfl rfl rfl) rfl ?_
 refine tA rfl rfl (tN (tT (tri_ret ?_)))
 -- STOP ret
 refine tri_end _ (by first | exact ⟨[], rfl⟩ | exact ⟨[_], rfl⟩ | exact ⟨[_, _], rfl⟩ | exact ⟨[_, _, _], rfl⟩ | exact ⟨[_, _, _, _], rfl⟩ | exact ⟨[_, _, _, _, _], rfl⟩ | exact ⟨[_, _, _, _, _, _], rfl⟩ | exact ⟨[_, _, _, _, _, _, _], rfl⟩ | exact ⟨[_, _, _, _, _, _, _, _], rfl⟩) rfl (.cons (rv_tmp rfl) .nil) ⟨rfl, rfl, hI05⟩
end Go.GL
