/- Part 3: contracts of the functions that the law reaches: each answers as its model does. No condition beyond those that each theorem states. -/
import Derived.Test.YtanmnmfhbnnedaaPart2
set_option linter.unusedVariables false
namespace Go.GL
/-! ### What chapter 2's laws do with sets -/
namespace R2
def rot (c : Cell) : Cell := ⟨-c.y, c.x⟩
def rotN : Nat → Cell → Cell
 | 0, c => c
 | n + 1, c => rot (rotN n c)
def flipC (k : Int) (c : Cell) : Cell := if 4 ≤ k then ⟨-c.x, c.y⟩ else c
def turnC (way : Int) (c : Cell) : Cell := rotN ((pk way 8).toNat % 4) (flipC (pk way 8) c)
def turned (way : Int) (l : List Cell) : List Cell := R1.puts (l.map (turnC way))
end R2
end Go.GL


set_option linter.unusedVariables false
namespace Go.GL
open Go.Proofs
attribute [local irreducible] wpList Code.wp Exit.then Exit.inBlock Ends Tri TriH OpV OpG FnC epf wpAnyH
variable {A : List Asrt} {I : List Chunk}
set_option maxRecDepth 100000 in
theorem law02_pick {c n : Int} (h0 : -9223372036854775808 ≤ c) (h1 : c ≤ 9223372036854775807) (hn : 0 < n) : FnC Try.prog 13 [.int .i64 c, .int .i64 n].toArray A I (fun v A' I' => v = .int .i64 (pk c n) ∧ A = A' ∧ I = I') := by
 refine fn_enter2 Try.func13 rfl Try.ntmps13 rfl fun w0 => ?_
 refine tS (tR (tA rfl rfl (tN (tT (tS (tS (tR ?_)))))))
 refine tM rfl rfl ?_
 refine tri_v (opv_lss rfl rfl) rfl ?_
 refine tN (tT ?_)
 refine tri_cond_dec rfl (fun h => ?_) (fun h => ?_)
 ·refine tR (tM rfl rfl ?_)
  refine tri_v (by first | exact opv_add rfl rfl (w64 (by omega) (by omega))) rfl ?_
  refine tri_v (by first | exact opv_negE rfl (by omega) (by omega)) rfl ?_
  refine tA rfl rfl (tN (tT (tS (tR (tM rfl rfl (tM rfl rfl ?_))))))
  refine tri_v (by first | exact opv_remE rfl rfl (by omega) (by omega) | exact opv_rem rfl rfl (by omega) rfl) rfl ?_
  refine tA rfl rfl (tN (tT (tri_ret ?_)))
  refine tri_end A Suf.h rfl (.cons (rv_tmp rfl) .nil) ⟨?_, rfl, rfl⟩
  rw [pk, if_pos h]; rfl
 ·refine tri_skip (tT (tS (tR (tM rfl rfl (tM rfl rfl ?_)))))
  refine tri_v (by first | exact opv_remE rfl rfl (by omega) (by omega) | exact opv_rem rfl rfl (by omega) rfl) rfl ?_
  refine tA rfl rfl (tN (tT (tri_ret ?_)))
  refine tri_end A Suf.h rfl (.cons (rv_tmp rfl) .nil) ⟨?_, rfl, rfl⟩
  rw [pk, if_neg h]; rfl
end Go.GL


set_option linter.unusedVariables false
namespace Go.GL
open Go.Proofs
attribute [local irreducible] wpList Code.wp Exit.then Exit.inBlock Ends Tri TriH OpV OpG FnC epf wpAnyH
variable {A : List Asrt} {I : List Chunk}
set_option maxHeartbeats 2000000 in
set_option maxRecDepth 100000 in
theorem law02_awake : FnC Try.prog 10 [].toArray A I (fun v A' I' => v = .bool true ∧ A = A' ∧ I ⊆ I') := by
 have e1 : (R2.next [⟨0, 0⟩, ⟨1, 0⟩, ⟨2, 0⟩]).2 = 0 ∧ (R2.next [⟨0, 0⟩, ⟨1, 0⟩, ⟨2, 0⟩]).1.length = 3 ∧ (R2.next [⟨0, 0⟩, ⟨1, 0⟩, ⟨2, 0⟩]).1.getD 0 default = ⟨1, -1⟩ := by decide +kernel
 have e2 : (R2.run [⟨0, 0⟩, ⟨1, 0⟩, ⟨2, 0⟩] 4).2 = 0 ∧ (R2.run [⟨0, 0⟩, ⟨1, 0⟩, ⟨2, 0⟩] 4).1.length = 3 ∧ (R2.run [⟨0, 0⟩, ⟨1, 0⟩, ⟨2, 0⟩] 4).1.getD 2 default = ⟨2, 0⟩ := by decide +kernel
 have e3 : (R2.next [⟨0, 0⟩, ⟨0, 0⟩]).2 = 1 := by decide +kernel
 have e4 : (R2.run [] 1001).2 = 1 := by decide +kernel
 skip
 skip
 refine fn_enter0 Try.func10 rfl Try.ntmps10 rfl fun w0 => ?_
 refine tS (tR (tA rfl rfl (tN (tT (tS (tR ?_))))))
 refine tri_v (by first | exact opv_buildS rfl rfl | exact opv_buildA rfl rfl) rfl ?_
 refine tri_v (by first | exact opv_buildS rfl rfl | exact opv_buildA rfl rfl) rfl ?_
 refine tri_v (by first | exact opv_buildS rfl rfl | exact opv_buildA rfl rfl) rfl ?_
 refine tri_g (opg_buildSlice rfl rfl rfl rfl) rfl ?_
 rintro _ _ _ ⟨b13, rfl, rfl, rfl⟩
 refine tri_freezeBoxS ([⟨0, 0⟩, ⟨1, 0⟩, ⟨2, 0⟩] : List Cell) rfl fun J1 hJ1 hs1 => ?_
 refine tri_g (opg_call (xs := [_]) rfl (life_next hs1 (by decide))) rfl ?_
 rintro _ _ I1 ⟨a1, c1, rfl, hr1, rfl, hI1⟩
 generalize R2.next [⟨0, 0⟩, ⟨1, 0⟩, ⟨2, 0⟩] = n1 at *
 obtain ⟨e1, e1b, e1c⟩ := e1
 rw [e1]
 refine tM rfl rfl ?_
 refine tri_v (opv_extract rfl rfl) rfl ?_
 refine tri_v (opv_extract rfl rfl) rfl ?_
 refine tA rfl rfl (tA rfl rfl (tN (tT (tS (tR ?_)))))
 refine tri_v (by first | exact opv_buildS rfl rfl | exact opv_buildA rfl rfl) rfl ?_
 refine tri_v (by first | exact opv_buildS rfl rfl | exact opv_buildA rfl rfl) rfl ?_
 refine tri_v (by first | exact opv_buildS rfl rfl | exact opv_buildA rfl rfl) rfl ?_
 refine tri_g (opg_buildSlice rfl rfl rfl rfl) rfl ?_
 rintro _ _ _ ⟨b21, rfl, rfl, rfl⟩
 refine tri_freezeBoxS ([⟨0, 0⟩, ⟨1, 0⟩, ⟨2, 0⟩] : List Cell) rfl fun J2 hJ2 hs2 => ?_
 refine tri_g (opg_call (xs := [_, _]) rfl (life_run hs2 (by decide))) rfl ?_
 rintro _ _ I2 ⟨a2, c2, rfl, hr2, rfl, hI2⟩
 generalize R2.run [⟨0, 0⟩, ⟨1, 0⟩, ⟨2, 0⟩] 4 = n2 at *
 obtain ⟨e2, e2b, e2c⟩ := e2
 rw [e2]
 refine tM rfl rfl ?_
 refine tri_v (opv_extract rfl rfl) rfl ?_
 refine tri_v (opv_extract rfl rfl) rfl ?_
 refine tA rfl rfl (tA rfl rfl (tN (tT (tS (tR ?_)))))
 refine tri_v (by first | exact opv_buildS rfl rfl | exact opv_buildA rfl rfl) rfl ?_
 refine tri_v (by first | exact opv_buildS rfl rfl | exact opv_buildA rfl rfl) rfl ?_
 refine tri_g (opg_buildSlice rfl rfl rfl rfl) rfl ?_
 rintro _ _ _ ⟨b28, rfl, rfl, rfl⟩
 refine tri_freezeBoxS ([⟨0, 0⟩, ⟨0, 0⟩] : List Cell) rfl fun J3 hJ3 hs3 => ?_
 refine tri_g (opg_call (xs := [_]) rfl (life_next hs3 (by decide))) rfl ?_
 rintro _ _ I3 ⟨a3, c3, rfl, hr3, rfl, hI3⟩
 rw [e3]
 refine tM rfl rfl ?_
 refine tri_v (opv_extract rfl rfl) rfl ?_
 refine tri_v (opv_extract rfl rfl) rfl ?_
 refine tA rfl rfl (tA rfl rfl (tN (tT (tS (tR ?_)))))
 refine tri_g (opg_call (xs := [_, _]) rfl (life_run (l := []) SlAt.nil (by decide))) rfl ?_
 rintro _ _ I4 ⟨a4, c4, rfl, hr4, rfl, hI4⟩
 rw [e4]
 have q1 := hr1.mono (fun _ h => hI4 (hI3 (hJ3 (hI2 (hJ2 h)))))
 have q2 := hr2.mono (fun _ h => hI4 (hI3 (hJ3 h)))
 have l1 : R2.lives true 2 = true := by decide
 have l2 : R2.lives false 2 = false := by decide
 have l3 : R2.lives false 3 = true := by decide
 have l4 : R2.lives true 4 = false := by decide
 refine tM rfl rfl ?_
 refine tri_v (opv_extract rfl rfl) rfl ?_
 refine tri_v (opv_extract rfl rfl) rfl ?_
 refine tA rfl rfl (tA rfl rfl (tN (tT (tS (tS (tR (tM rfl rfl ?_)))))))
 refine tri_v (opv_len rfl) rfl ?_
 refine tri_v (by first | exact opv_neq rfl rfl | exact opv_neqI rfl rfl rfl rfl rfl rfl | exact opv_neqB rfl rfl) rfl ?_
 refine tM rfl rfl ?_
 refine tri_false rfl rfl ((by omega)) ?_
 refine tri_guard_run rfl rfl rfl (tM rfl rfl (tri_guard_run rfl rfl rfl ?_))
 refine tri_v (opv_len rfl) rfl ?_
 refine tri_guard_run rfl rfl rfl ?_
 refine tri_v (by first | exact opv_neq rfl rfl | exact opv_neqI rfl rfl rfl rfl rfl rfl | exact opv_neqB rfl rfl) rfl ?_
 refine tri_v (by first | exact opv_pick_t rfl rfl | exact opv_pick_f rfl rfl | exact opv_pick_bool rfl rfl rfl | exact opv_pick rfl rfl rfl) rfl ?_
 refine tN (tT ?_)
 refine tri_cond_not rfl ((by omega)) ?_
 refine tri_skip (tT (tS (tR (tM rfl rfl ?_))))
 refine tri_v (by first | exact opv_eql rfl rfl | exact opv_eqlI rfl rfl rfl rfl rfl rfl | exact opv_eqlB rfl rfl | exact opv_eqlNil rfl rfl) rfl ?_
 refine tM rfl rfl ?_
 refine tri_true rfl rfl ((by decide)) ?_
 refine tri_guard_run rfl rfl rfl (tM rfl rfl (tri_guard_run rfl rfl rfl ?_))
 refine tri_v (by first | exact opv_indexAddrA rfl rfl (by first | decide | omega) (by first | decide | omega) | exact opv_indexAddrSN rfl rfl (by omega) (by assumption) rfl | exact opv_indexAddrS rfl rfl (by omega) (by omega) (by assumption) rfl | exact opv_indexAddrE rfl (by assumption) (by omega) rfl (by first | decide | omega) (by first | decide | omega) | exact opv_indexAddrRN rfl rfl (by omega) | exact opv_indexAddrR rfl rfl (by omega) (by omega) | exact opv_indexAddrRA rfl (by omega) rfl (by first | decide | omega) (by first | decide | omega) | exact opv_indexAddrSP rfl rfl (by omega) (by omega) | exact opv_indexAddrSN rfl rfl (by omega) (by assumption) (by omega) | exact opv_indexAddrS rfl rfl (by omega) (by omega) (by assumption) (by omega)) rfl ?_
 refine tri_guard_run rfl rfl rfl ?_
 refine tri_v (by first | exact opv_load1 rfl rfl rfl | exact opv_loadA rfl rfl rfl | exact opv_loadE1 rfl (by assumption) rfl (by omega) rfl rfl | exact opv_loadEA rfl (by assumption) rfl (by omega) rfl rfl | exact opv_loadRX1 rfl rfl (by omega) rfl rfl | exact opv_loadRXA rfl rfl (by omega) rfl rfl rfl | exact opv_loadIX rfl rfl (by omega) | exact opv_loadR1 rfl rfl rfl | exact opv_loadRA rfl rfl rfl rfl) rfl ?_
 refine tri_guard_run rfl rfl rfl ?_
 refine tri_v (by first | exact opv_buildS rfl rfl | exact opv_buildA rfl rfl) rfl ?_
 refine tri_guard_run rfl rfl rfl ?_
 refine tri_v (by first | exact opv_eql rfl rfl | exact opv_eqlI rfl rfl rfl rfl rfl rfl | exact opv_eqlB rfl rfl | exact opv_eqlNil rfl rfl) rfl ?_
 refine tri_v (by first | exact opv_pick_t rfl rfl | exact opv_pick_f rfl rfl | exact opv_pick_bool rfl rfl rfl | exact opv_pick rfl rfl rfl) rfl ?_
 refine tM rfl rfl ?_
 refine tri_true rfl rfl ((by show [(n1.1.getD 0 default).x, (n1.1.getD 0 default).y] = _; rw [e1c])) ?_
 refine tri_guard_run rfl rfl rfl (tM rfl rfl (tri_guard_run rfl rfl rfl ?_))
 refine tri_v (by first | exact opv_eql rfl rfl | exact opv_eqlI rfl rfl rfl rfl rfl rfl | exact opv_eqlB rfl rfl | exact opv_eqlNil rfl rfl) rfl ?_
 refine tri_v (by first | exact opv_pick_t rfl rfl | exact opv_pick_f rfl rfl | exact opv_pick_bool rfl rfl rfl | exact opv_pick rfl rfl rfl) rfl ?_
 refine tM rfl rfl ?_
 refine tri_true rfl rfl ((by decide)) ?_
 refine tri_guard_run rfl rfl rfl (tM rfl rfl (tri_guard_run rfl rfl rfl ?_))
 refine tri_v (by first | exact opv_indexAddrA rfl rfl (by first | decide | omega) (by first | decide | omega) | exact opv_indexAddrSN rfl rfl (by omega) (by assumption) rfl | exact opv_indexAddrS rfl rfl (by omega) (by omega) (by assumption) rfl | exact opv_indexAddrE rfl (by assumption) (by omega) rfl (by first | decide | omega) (by first | decide | omega) | exact opv_indexAddrRN rfl rfl (by omega) | exact opv_indexAddrR rfl rfl (by omega) (by omega) | exact opv_indexAddrRA rfl (by omega) rfl (by first | decide | omega) (by first | decide | omega) | exact opv_indexAddrSP rfl rfl (by omega) (by omega) | exact opv_indexAddrSN rfl rfl (by omega) (by assumption) (by omega) | exact opv_indexAddrS rfl rfl (by omega) (by omega) (by assumption) (by omega)) rfl ?_
 refine tri_guard_run rfl rfl rfl ?_
 refine tri_v (by first | exact opv_load1 rfl rfl rfl | exact opv_loadA rfl rfl rfl | exact opv_loadE1 rfl (by assumption) rfl (by omega) rfl rfl | exact opv_loadEA rfl (by assumption) rfl (by omega) rfl rfl | exact opv_loadRX1 rfl rfl (by omega) rfl rfl | exact opv_loadRXA rfl rfl (by omega) rfl rfl rfl | exact opv_loadIX rfl rfl (by omega) | exact opv_loadR1 rfl rfl rfl | exact opv_loadRA rfl rfl rfl rfl) rfl ?_
 refine tri_guard_run rfl rfl rfl ?_
 refine tri_v (by first | exact opv_buildS rfl rfl | exact opv_buildA rfl rfl) rfl ?_
 refine tri_guard_run rfl rfl rfl ?_
 refine tri_v (by first | exact opv_eql rfl rfl | exact opv_eqlI rfl rfl rfl rfl rfl rfl | exact opv_eqlB rfl rfl | exact opv_eqlNil rfl rfl) rfl ?_
 refine tri_v (by first | exact opv_pick_t rfl rfl | exact opv_pick_f rfl rfl | exact opv_pick_bool rfl rfl rfl | exact opv_pick rfl rfl rfl) rfl ?_
 refine tM rfl rfl ?_
 refine tri_true rfl rfl ((by show [(n2.1.getD 2 default).x, (n2.1.getD 2 default).y] = _; rw [e2c])) ?_
 refine tri_guard_run rfl rfl rfl (tM rfl rfl (tri_guard_run rfl rfl rfl ?_))
 refine tri_v (by first | exact opv_eql rfl rfl | exact opv_eqlI rfl rfl rfl rfl rfl rfl | exact opv_eqlB rfl rfl | exact opv_eqlNil rfl rfl) rfl ?_
 refine tri_v (by first | exact opv_pick_t rfl rfl | exact opv_pick_f rfl rfl | exact opv_pick_bool rfl rfl rfl | exact opv_pick rfl rfl rfl) rfl ?_
 refine tM rfl rfl ?_
 refine tri_true rfl rfl ((by decide)) ?_
 refine tri_guard_run rfl rfl rfl (tM rfl rfl (tri_guard_run rfl rfl rfl ?_))
 refine tri_v (by first | exact opv_eql rfl rfl | exact opv_eqlI rfl rfl rfl rfl rfl rfl | exact opv_eqlB rfl rfl | exact opv_eqlNil rfl rfl) rfl ?_
 refine tri_v (by first | exact opv_pick_t rfl rfl | exact opv_pick_f rfl rfl | exact opv_pick_bool rfl rfl rfl | exact opv_pick rfl rfl rfl) rfl ?_
 refine tM rfl rfl ?_
 refine tri_true rfl rfl ((by decide)) ?_
 skip
 refine tri_guard_run rfl rfl rfl ?_
 refine tri_g (opg_call (xs := [_, _]) rfl (life_lives)) rfl ?_
 rintro _ _ _ ⟨rfl, rfl, rfl⟩
 rw [l1]
 refine tri_v (by first | exact opv_pick_t rfl rfl | exact opv_pick_f rfl rfl | exact opv_pick_bool rfl rfl rfl | exact opv_pick rfl rfl rfl) rfl ?_
 refine tM rfl rfl ?_
 refine tri_bool 75 rfl (fun _ => ?_) (fun h => absurd h (by decide))
 skip
 refine tri_guard_run rfl rfl rfl ?_
 refine tri_g (opg_call (xs := [_, _]) rfl (life_lives)) rfl ?_
 rintro _ _ _ ⟨rfl, rfl, rfl⟩
 rw [l2]
 refine tri_guard_run rfl rfl rfl ?_
 refine tri_v (by first | exact opv_notD rfl | exact opv_not rfl) rfl ?_
 refine tri_v (by first | exact opv_pick_t rfl rfl | exact opv_pick_f rfl rfl | exact opv_pick_bool rfl rfl rfl | exact opv_pick rfl rfl rfl) rfl ?_
 refine tM rfl rfl ?_
 refine tri_bool 79 rfl (fun _ => ?_) (fun h => absurd h (by decide))
 skip
 refine tri_guard_run rfl rfl rfl ?_
 refine tri_g (opg_call (xs := [_, _]) rfl (life_lives)) rfl ?_
 rintro _ _ _ ⟨rfl, rfl, rfl⟩
 rw [l3]
 refine tri_v (by first | exact opv_pick_t rfl rfl | exact opv_pick_f rfl rfl | exact opv_pick_bool rfl rfl rfl | exact opv_pick rfl rfl rfl) rfl ?_
 refine tM rfl rfl ?_
 refine tri_bool 82 rfl (fun _ => ?_) (fun h => absurd h (by decide))
 skip
 refine tri_guard_run rfl rfl rfl ?_
 refine tri_g (opg_call (xs := [_, _]) rfl (life_lives)) rfl ?_
 rintro _ _ _ ⟨rfl, rfl, rfl⟩
 rw [l4]
 refine tri_guard_run rfl rfl rfl ?_
 refine tri_v (by first | exact opv_notD rfl | exact opv_not rfl) rfl ?_
 refine tri_v (by first | exact opv_pick_t rfl rfl | exact opv_pick_f rfl rfl | exact opv_pick_bool rfl rfl rfl | exact opv_pick rfl rfl rfl) rfl ?_
 refine tA rfl rfl (tN (tT (tri_ret ?_)))
 refine tri_end A Suf.h rfl (.cons (rv_tmp rfl) .nil) ⟨rfl, rfl, fun _ h => hI4 (hI3 (hJ3 (hI2 (hJ2 (hI1 (hJ1 h))))))⟩
end Go.GL


set_option linter.unusedVariables false
namespace Go.GL
/-! ### Shift and Box, as the document has them -/
namespace R1
def mv (dx dy : Int) (c : Cell) : Cell := ⟨c.x + dx, c.y + dy⟩
def shift (l : List Cell) (dx dy : Int) : List Cell × Int :=
 if right l then (if ∀ i, i < l.length → inB (mv dx dy (g l i)) then (l.map (mv dx dy), 0) else ([], 2)) else ([], 1)
def mnC (a b : Cell) : Cell := ⟨if b.x < a.x then b.x else a.x, if b.y < a.y then b.y else a.y⟩
def mxC (a b : Cell) : Cell := ⟨if a.x < b.x then b.x else a.x, if a.y < b.y then b.y else a.y⟩
def lo (l : List Cell) (c : Cell) : Cell := l.foldl mnC c
def hi (l : List Cell) (c : Cell) : Cell := l.foldl mxC c
structure Rect where
 x : Int
 y : Int
 w : Int
 h : Int
 deriving DecidableEq, Inhabited
def box (l : List Cell) : Rect × Bool :=
 if l.length = 0 ∨ ¬ right l then (⟨0, 0, 0, 0⟩, false)
 else (⟨(lo l (g l 0)).x, (lo l (g l 0)).y, (hi l (g l 0)).x - (lo l (g l 0)).x + 1, (hi l (g l 0)).y - (lo l (g l 0)).y + 1⟩, true)
/-- Where the least and greatest are. -/
def bdC (c : Cell) : Prop := -1099511627776 ≤ c.x ∧ c.x ≤ 1099511627776 ∧ -1099511627776 ≤ c.y ∧ c.y ≤ 1099511627776
end R1
end Go.GL


set_option linter.unusedVariables false
namespace Go.GL
open Go.Proofs
attribute [local irreducible] wpList Code.wp Exit.then Exit.inBlock Ends Tri TriH OpV OpG FnC epf wpAnyH
variable {A : List Asrt} {I : List Chunk}
set_option maxHeartbeats 2000000 in
set_option maxRecDepth 100000 in
theorem ref01_shift {l : List Cell} {a : Option Addr} {cap : Nat} {dx dy : Int} (hs : SlAt I a l) (hn : l.length ≤ 1000000000) :
  FnC Try.prog 12 [.slice a l.length cap, .int .i64 dx, .int .i64 dy].toArray A I (fun v A' I' => ∃ a' cap', v = .tuple [.slice a' (R1.shift l dx dy).1.length cap', .int .i64 (R1.shift l dx dy).2].toArray ∧ SlAt I' a' (R1.shift l dx dy).1 ∧ A = A' ∧ I ⊆ I') := by
 skip
 skip
 refine fn_enter3 Try.func12 rfl Try.ntmps12 rfl fun w0 => ?_
 refine tS (tR (tA rfl rfl (tA rfl rfl (tN (tT (tS (tS ?_)))))))
 refine tR (tM rfl rfl ?_)
 refine tri_g (opg_call (xs := [_]) rfl (ref01_right hs hn)) rfl ?_
 rintro _ _ _ ⟨rfl, rfl, rfl⟩
 refine tri_v (by first | exact opv_notD rfl | exact opv_not rfl) rfl ?_
 refine tN (tT ?_)
 refine tri_cond_dec rfl (fun h1 => ?_) (fun h1 => ?_)
 ·refine tS (tR (tA rfl rfl (tA rfl rfl (tN (tT (tri_ret (tri_then_ret ?_)))))))
  refine tri_end A Suf.h rfl (.cons (rv_tmp rfl) (.cons (rv_tmp rfl) .nil)) ?_
  rw [show R1.shift l dx dy = ([], 1) from if_neg h1]
  exact ⟨none, 0, rfl, SlAt.nil, rfl, fun _ h => h⟩
 ·have hr : R1.right l := Decidable.not_not.1 h1
  have hsh : R1.shift l dx dy = if ∀ i, i < l.length → R1.inB (R1.mv dx dy (R1.g l i)) then (l.map (R1.mv dx dy), 0) else ([], 2) := if_pos hr
  have hin : ∀ i, i < l.length → R1.inB (R1.g l i) := fun i hi => (hr.1 i hi).1
  have bad : ∀ i, i < l.length → ¬ R1.inB (R1.mv dx dy (R1.g l i)) → ∃ a' cap', Value.tuple [.slice none 0 0, .int .i64 2].toArray = .tuple [.slice a' (R1.shift l dx dy).1.length cap', .int .i64 (R1.shift l dx dy).2].toArray ∧ SlAt I a' (R1.shift l dx dy).1 ∧ A = A ∧ I ⊆ I := fun i hi h => by
   rw [hsh, if_neg (fun k => h (k i hi))]
   exact ⟨none, 0, rfl, SlAt.nil, rfl, fun _ h => h⟩
  refine tri_skip (tT (tS (tR (tA rfl rfl (tN (tT (tS ?_)))))))
  refine tR (tA rfl rfl (tN (tT (tS (tS (tR (tA rfl rfl ?_)))))))
  refine tN (tT (tri_block ?_))
  refine tri_nilRow (E := 40) (sz := 2) ?_
  refine tri_sub (F' := [(0, .slice a l.length cap), (1, .int .i64 dx), (2, .int .i64 dy), (8, .int .i64 2199023255552), (9, .slice none 0 0), (10, .int .i64 (0 : Nat))]) ⟨rfl, rfl, rfl, rfl, rfl, rfl, trivial⟩ ?_
  refine loop_ind (G := Nat × Option Addr × Nat) (fun g => l.length - g.1) (fun g => g.1 ≤ l.length ∧ ∀ j, j < g.1 → R1.inB (R1.mv dx dy (R1.g l j))) (fun g => [(0, .slice a l.length cap), (1, .int .i64 dx), (2, .int .i64 dy), (8, .int .i64 2199023255552), (9, .slice g.2.1 ((l.take g.1).map (R1.mv dx dy)).length g.2.2), (10, .int .i64 (g.1 : Nat))]) (fun g => Row g.2.1 g.2.2 ((l.take g.1).map (R1.mv dx dy)).length 40 2 (encs ((l.take g.1).map (R1.mv dx dy))) :: A) (fun _ => I) ?_ (0, none, 0) ⟨by simp only; omega, fun j h => absurd h (by simp only; omega)⟩
  rintro ⟨i, a1, cap1⟩ ⟨hi, hok⟩ K hK
  simp only at hi hok hK ⊢
  skip
  refine tS (tS (tR (tM rfl rfl (tM rfl rfl ?_))))
  refine tri_v (opv_len rfl) rfl ?_
  refine tri_v (opv_lss rfl rfl) rfl ?_
  refine tN (tT ?_)
  refine tri_cond_dec rfl (fun h => ?_) (fun h => ?_)
  ·have hlt : i < l.length := by omega
   have hci := hin i hlt
   have hi1 : R1.g l i = l.getD i default := rfl
   rw [hi1] at hci
   have bx := hci.1
   have bx2 := hci.2.1
   have by1 := hci.2.2.1
   have by2 := hci.2.2.2
   have bad2 : ¬ R1.inB ⟨(l.getD i default).x + dx, (l.getD i default).y + dy⟩ → _ := fun h => bad i hlt h
   have off : ∀ {p : Prop}, (p → dx < -2199023255552 ∨ 2199023255552 < dx ∨ dy < -2199023255552 ∨ 2199023255552 < dy) → p → ¬ R1.inB ⟨(l.getD i default).x + dx, (l.getD i default).y + dy⟩ := fun h hp => by
    have := h hp
    unfold R1.inB
    simp only
    omega
   refine tri_skip (tT (tS (tri_block (tS (tS ?_)))))
   refine tri_draw [0, 1, 2, 3, 4, 5, 6, 7, 8, 9, 10, 11, 12, 13, 14, 15, 16, 17, 18, 19, 20, 21, 22, 23, 24, 25, 26, 27, 28, 29, 30, 31, 32, 33, 34, 35, 36, 37, 38] rfl [] rfl mixed ?_
   refine th_take rfl rfl (by kernel_rfl)  (opv_move rfl) ?_
   refine th_take rfl rfl (by kernel_rfl)  (opv_move rfl) ?_
   refine th_take rfl rfl (by kernel_rfl)  (by first | exact opv_negE rfl (by omega) (by omega)) ?_
   refine th_take rfl rfl (by kernel_rfl)  (opv_lss rfl rfl) ?_
   refine th_take rfl rfl (by kernel_rfl)  (opv_move rfl) ?_
   refine th_split rfl rfl rfl (fun h2 => ?_) (fun h2 => ?_)
   ·refine th_skip rfl rfl rfl rfl rfl (by kernel_rfl)  ?_
    refine th_skip rfl rfl rfl rfl rfl (by kernel_rfl)  ?_
    refine th_skip rfl rfl rfl rfl rfl (by kernel_rfl)  ?_
    refine th_take rfl rfl (by kernel_rfl)  (by first | exact opv_pick_t rfl rfl | exact opv_pick_f rfl rfl | exact opv_pick_bool rfl rfl rfl | exact opv_pick rfl rfl rfl) ?_
    refine th_take rfl rfl (by kernel_rfl)  (opv_move rfl) ?_
    refine th_skip rfl rfl rfl rfl rfl (by kernel_rfl)  ?_
    refine th_skip rfl rfl rfl rfl rfl (by kernel_rfl)  ?_
    refine th_skip rfl rfl rfl rfl rfl (by kernel_rfl)  ?_
    refine th_skip rfl rfl rfl rfl rfl (by kernel_rfl)  ?_
    refine th_take rfl rfl (by kernel_rfl)  (by first | exact opv_pick_t rfl rfl | exact opv_pick_f rfl rfl | exact opv_pick_bool rfl rfl rfl | exact opv_pick rfl rfl rfl) ?_
    refine th_take rfl rfl (by kernel_rfl)  (opv_move rfl) ?_
    refine th_skip rfl rfl rfl rfl rfl (by kernel_rfl)  ?_
    refine th_skip rfl rfl rfl rfl rfl (by kernel_rfl)  ?_
    refine th_skip rfl rfl rfl rfl rfl (by kernel_rfl)  ?_
    refine th_take rfl rfl (by kernel_rfl)  (by first | exact opv_pick_t rfl rfl | exact opv_pick_f rfl rfl | exact opv_pick_bool rfl rfl rfl | exact opv_pick rfl rfl rfl) ?_
    refine th_take rfl rfl (by kernel_rfl)  (opv_move rfl) ?_
    refine th_skip rfl rfl rfl rfl rfl (by kernel_rfl)  ?_
    refine th_skip rfl rfl rfl rfl rfl (by kernel_rfl)  ?_
    refine th_skip rfl rfl rfl rfl rfl (by kernel_rfl)  ?_
    refine th_skip rfl rfl rfl rfl rfl (by kernel_rfl)  ?_
    refine th_skip rfl rfl rfl rfl rfl (by kernel_rfl)  ?_
    refine th_skip rfl rfl rfl rfl rfl (by kernel_rfl)  ?_
    refine th_skip rfl rfl rfl rfl rfl (by kernel_rfl)  ?_
    refine th_skip rfl rfl rfl rfl rfl (by kernel_rfl)  ?_
    refine th_skip rfl rfl rfl rfl rfl (by kernel_rfl)  ?_
    refine th_skip rfl rfl rfl rfl rfl (by kernel_rfl)  ?_
    refine th_skip rfl rfl rfl rfl rfl (by kernel_rfl)  ?_
    refine th_skip rfl rfl rfl rfl rfl (by kernel_rfl)  ?_
    refine th_skip rfl rfl rfl rfl rfl (by kernel_rfl)  ?_
    refine th_skip rfl rfl rfl rfl rfl (by kernel_rfl)  ?_
    refine th_skip rfl rfl rfl rfl rfl (by kernel_rfl)  ?_
    refine th_one (by kernel_rfl) (step_skip rfl rfl rfl rfl rfl ?_)
    refine th_skip rfl rfl rfl rfl rfl (by kernel_rfl)  ?_
    refine th_take rfl rfl (by kernel_rfl)  (by first | exact opv_pick_t rfl rfl | exact opv_pick_f rfl rfl | exact opv_pick_bool rfl rfl rfl | exact opv_pick rfl rfl rfl) ?_
    refine th_done (by kernel_rfl) ?_
    refine tT ?_
    refine tri_cond_true rfl ?_
    refine tS (tR (tA rfl rfl (tA rfl rfl (tN (tT (tri_ret (tri_then_ret ?_)))))))
    refine tri_inBlock_ret ?_
    refine tri_then_ret (tri_then_ret ?_)
    refine tri_inBlock_ret ?_
    refine tri_then_ret ?_
    refine tri_end A Suf.h rfl (.cons (rv_tmp rfl) (.cons (rv_tmp rfl) .nil)) (bad2 (off (fun h => .inl h) h2))
   ·refine th_take_g rfl rfl rfl rfl rfl (by kernel_rfl)  (opv_move rfl) ?_
    refine th_take_g rfl rfl rfl rfl rfl (by kernel_rfl)  (opv_move rfl) ?_
    refine th_take_g rfl rfl rfl rfl rfl (by kernel_rfl)  (opv_gtr rfl rfl) ?_
    refine th_take rfl rfl (by kernel_rfl)  (by first | exact opv_pick_t rfl rfl | exact opv_pick_f rfl rfl | exact opv_pick_bool rfl rfl rfl | exact opv_pick rfl rfl rfl) ?_
    refine th_take rfl rfl (by kernel_rfl)  (opv_move rfl) ?_
    refine th_split rfl rfl rfl (fun h3 => ?_) (fun h3 => ?_)
    ·refine th_skip rfl rfl rfl rfl rfl (by kernel_rfl)  ?_
     refine th_skip rfl rfl rfl rfl rfl (by kernel_rfl)  ?_
     refine th_skip rfl rfl rfl rfl rfl (by kernel_rfl)  ?_
     refine th_skip rfl rfl rfl rfl rfl (by kernel_rfl)  ?_
     refine th_take rfl rfl (by kernel_rfl)  (by first | exact opv_pick_t rfl rfl | exact opv_pick_f rfl rfl | exact opv_pick_bool rfl rfl rfl | exact opv_pick rfl rfl rfl) ?_
     refine th_take rfl rfl (by kernel_rfl)  (opv_move rfl) ?_
     refine th_skip rfl rfl rfl rfl rfl (by kernel_rfl)  ?_
     refine th_skip rfl rfl rfl rfl rfl (by kernel_rfl)  ?_
     refine th_skip rfl rfl rfl rfl rfl (by kernel_rfl)  ?_
     refine th_take rfl rfl (by kernel_rfl)  (by first | exact opv_pick_t rfl rfl | exact opv_pick_f rfl rfl | exact opv_pick_bool rfl rfl rfl | exact opv_pick rfl rfl rfl) ?_
     refine th_take rfl rfl (by kernel_rfl)  (opv_move rfl) ?_
     refine th_skip rfl rfl rfl rfl rfl (by kernel_rfl)  ?_
     refine th_skip rfl rfl rfl rfl rfl (by kernel_rfl)  ?_
     refine th_skip rfl rfl rfl rfl rfl (by kernel_rfl)  ?_
     refine th_skip rfl rfl rfl rfl rfl (by kernel_rfl)  ?_
     refine th_skip rfl rfl rfl rfl rfl (by kernel_rfl)  ?_
     refine th_skip rfl rfl rfl rfl rfl (by kernel_rfl)  ?_
     refine th_skip rfl rfl rfl rfl rfl (by kernel_rfl)  ?_
     refine th_skip rfl rfl rfl rfl rfl (by kernel_rfl)  ?_
     refine th_skip rfl rfl rfl rfl rfl (by kernel_rfl)  ?_
     refine th_skip rfl rfl rfl rfl rfl (by kernel_rfl)  ?_
     refine th_skip rfl rfl rfl rfl rfl (by kernel_rfl)  ?_
     refine th_skip rfl rfl rfl rfl rfl (by kernel_rfl)  ?_
     refine th_skip rfl rfl rfl rfl rfl (by kernel_rfl)  ?_
     refine th_skip rfl rfl rfl rfl rfl (by kernel_rfl)  ?_
     refine th_skip rfl rfl rfl rfl rfl (by kernel_rfl)  ?_
     refine th_one (by kernel_rfl) (step_skip rfl rfl rfl rfl rfl ?_)
     refine th_skip rfl rfl rfl rfl rfl (by kernel_rfl)  ?_
     refine th_take rfl rfl (by kernel_rfl)  (by first | exact opv_pick_t rfl rfl | exact opv_pick_f rfl rfl | exact opv_pick_bool rfl rfl rfl | exact opv_pick rfl rfl rfl) ?_
     refine th_done (by kernel_rfl) ?_
     refine tT ?_
     refine tri_cond_true rfl ?_
     refine tS (tR (tA rfl rfl (tA rfl rfl (tN (tT (tri_ret (tri_then_ret ?_)))))))
     refine tri_inBlock_ret ?_
     refine tri_then_ret (tri_then_ret ?_)
     refine tri_inBlock_ret ?_
     refine tri_then_ret ?_
     refine tri_end A Suf.h rfl (.cons (rv_tmp rfl) (.cons (rv_tmp rfl) .nil)) (bad2 (off (fun h => .inr (.inl h)) h3))
    ·refine th_take_g rfl rfl rfl rfl rfl (by kernel_rfl)  (opv_move rfl) ?_
     refine th_take_g rfl rfl rfl rfl rfl (by kernel_rfl)  (opv_move rfl) ?_
     refine th_take_g rfl rfl rfl rfl rfl (by kernel_rfl)  (by first | exact opv_negE rfl (by omega) (by omega)) ?_
     refine th_take_g rfl rfl rfl rfl rfl (by kernel_rfl)  (opv_lss rfl rfl) ?_
     refine th_take rfl rfl (by kernel_rfl)  (by first | exact opv_pick_t rfl rfl | exact opv_pick_f rfl rfl | exact opv_pick_bool rfl rfl rfl | exact opv_pick rfl rfl rfl) ?_
     refine th_take rfl rfl (by kernel_rfl)  (opv_move rfl) ?_
     refine th_split rfl rfl rfl (fun h4 => ?_) (fun h4 => ?_)
     ·refine th_skip rfl rfl rfl rfl rfl (by kernel_rfl)  ?_
      refine th_skip rfl rfl rfl rfl rfl (by kernel_rfl)  ?_
      refine th_skip rfl rfl rfl rfl rfl (by kernel_rfl)  ?_
      refine th_take rfl rfl (by kernel_rfl)  (by first | exact opv_pick_t rfl rfl | exact opv_pick_f rfl rfl | exact opv_pick_bool rfl rfl rfl | exact opv_pick rfl rfl rfl) ?_
      refine th_take rfl rfl (by kernel_rfl)  (opv_move rfl) ?_
      refine th_skip rfl rfl rfl rfl rfl (by kernel_rfl)  ?_
      refine th_skip rfl rfl rfl rfl rfl (by kernel_rfl)  ?_
      refine th_skip rfl rfl rfl rfl rfl (by kernel_rfl)  ?_
      refine th_skip rfl rfl rfl rfl rfl (by kernel_rfl)  ?_
      refine th_skip rfl rfl rfl rfl rfl (by kernel_rfl)  ?_
      refine th_skip rfl rfl rfl rfl rfl (by kernel_rfl)  ?_
      refine th_skip rfl rfl rfl rfl rfl (by kernel_rfl)  ?_
      refine th_skip rfl rfl rfl rfl rfl (by kernel_rfl)  ?_
      refine th_skip rfl rfl rfl rfl rfl (by kernel_rfl)  ?_
      refine th_skip rfl rfl rfl rfl rfl (by kernel_rfl)  ?_
      refine th_skip rfl rfl rfl rfl rfl (by kernel_rfl)  ?_
      refine th_skip rfl rfl rfl rfl rfl (by kernel_rfl)  ?_
      refine th_skip rfl rfl rfl rfl rfl (by kernel_rfl)  ?_
      refine th_skip rfl rfl rfl rfl rfl (by kernel_rfl)  ?_
      refine th_skip rfl rfl rfl rfl rfl (by kernel_rfl)  ?_
      refine th_one (by kernel_rfl) (step_skip rfl rfl rfl rfl rfl ?_)
      refine th_skip rfl rfl rfl rfl rfl (by kernel_rfl)  ?_
      refine th_take rfl rfl (by kernel_rfl)  (by first | exact opv_pick_t rfl rfl | exact opv_pick_f rfl rfl | exact opv_pick_bool rfl rfl rfl | exact opv_pick rfl rfl rfl) ?_
      refine th_done (by kernel_rfl) ?_
      refine tT ?_
      refine tri_cond_true rfl ?_
      refine tS (tR (tA rfl rfl (tA rfl rfl (tN (tT (tri_ret (tri_then_ret ?_)))))))
      refine tri_inBlock_ret ?_
      refine tri_then_ret (tri_then_ret ?_)
      refine tri_inBlock_ret ?_
      refine tri_then_ret ?_
      refine tri_end A Suf.h rfl (.cons (rv_tmp rfl) (.cons (rv_tmp rfl) .nil)) (bad2 (off (fun h => .inr (.inr (.inl h))) h4))
     ·refine th_take_g rfl rfl rfl rfl rfl (by kernel_rfl)  (opv_move rfl) ?_
      refine th_take_g rfl rfl rfl rfl rfl (by kernel_rfl)  (opv_move rfl) ?_
      refine th_take_g rfl rfl rfl rfl rfl (by kernel_rfl)  (opv_gtr rfl rfl) ?_
      refine th_take rfl rfl (by kernel_rfl)  (by first | exact opv_pick_t rfl rfl | exact opv_pick_f rfl rfl | exact opv_pick_bool rfl rfl rfl | exact opv_pick rfl rfl rfl) ?_
      refine th_take rfl rfl (by kernel_rfl)  (opv_move rfl) ?_
      refine th_split rfl rfl rfl (fun h5 => ?_) (fun h5 => ?_)
      ·refine th_skip rfl rfl rfl rfl rfl (by kernel_rfl)  ?_
       refine th_skip rfl rfl rfl rfl rfl (by kernel_rfl)  ?_
       refine th_skip rfl rfl rfl rfl rfl (by kernel_rfl)  ?_
       refine th_skip rfl rfl rfl rfl rfl (by kernel_rfl)  ?_
       refine th_skip rfl rfl rfl rfl rfl (by kernel_rfl)  ?_
       refine th_skip rfl rfl rfl rfl rfl (by kernel_rfl)  ?_
       refine th_skip rfl rfl rfl rfl rfl (by kernel_rfl)  ?_
       refine th_skip rfl rfl rfl rfl rfl (by kernel_rfl)  ?_
       refine th_skip rfl rfl rfl rfl rfl (by kernel_rfl)  ?_
       refine th_skip rfl rfl rfl rfl rfl (by kernel_rfl)  ?_
       refine th_skip rfl rfl rfl rfl rfl (by kernel_rfl)  ?_
       refine th_skip rfl rfl rfl rfl rfl (by kernel_rfl)  ?_
       refine th_skip rfl rfl rfl rfl rfl (by kernel_rfl)  ?_
       refine th_skip rfl rfl rfl rfl rfl (by kernel_rfl)  ?_
       refine th_skip rfl rfl rfl rfl rfl (by kernel_rfl)  ?_
       refine th_one (by kernel_rfl) (step_skip rfl rfl rfl rfl rfl ?_)
       refine th_skip rfl rfl rfl rfl rfl (by kernel_rfl)  ?_
       refine th_take rfl rfl (by kernel_rfl)  (by first | exact opv_pick_t rfl rfl | exact opv_pick_f rfl rfl | exact opv_pick_bool rfl rfl rfl | exact opv_pick rfl rfl rfl) ?_
       refine th_done (by kernel_rfl) ?_
       refine tT ?_
       refine tri_cond_true rfl ?_
       refine tS (tR (tA rfl rfl (tA rfl rfl (tN (tT (tri_ret (tri_then_ret ?_)))))))
       refine tri_inBlock_ret ?_
       refine tri_then_ret (tri_then_ret ?_)
       refine tri_inBlock_ret ?_
       refine tri_then_ret ?_
       refine tri_end A Suf.h rfl (.cons (rv_tmp rfl) (.cons (rv_tmp rfl) .nil)) (bad2 (off (fun h => .inr (.inr (.inr h))) h5))
      ·refine th_take_g rfl rfl rfl rfl rfl (by kernel_rfl)  (opv_move rfl) ?_
       refine th_take_g rfl rfl rfl rfl rfl (by kernel_rfl)  (opv_move rfl) ?_
       refine th_take_g rfl rfl rfl rfl rfl (by kernel_rfl)  (by first | exact opv_indexAddrA rfl rfl (by first | decide | omega) (by first | decide | omega) | exact opv_indexAddrSN rfl rfl (by omega) (by assumption) rfl | exact opv_indexAddrS rfl rfl (by omega) (by omega) (by assumption) rfl | exact opv_indexAddrE rfl (by assumption) (by omega) rfl (by first | decide | omega) (by first | decide | omega) | exact opv_indexAddrRN rfl rfl (by omega) | exact opv_indexAddrR rfl rfl (by omega) (by omega) | exact opv_indexAddrRA rfl (by omega) rfl (by first | decide | omega) (by first | decide | omega) | exact opv_indexAddrSP rfl rfl (by omega) (by omega) | exact opv_indexAddrSN rfl rfl (by omega) (by assumption) (by omega) | exact opv_indexAddrS rfl rfl (by omega) (by omega) (by assumption) (by omega)) ?_
       refine th_take_g rfl rfl rfl rfl rfl (by kernel_rfl)  (by first | exact opv_fieldAddr rfl rfl | exact opv_fieldAddrE rfl (by assumption) (by omega) rfl | exact opv_fieldAddrR rfl (by omega) rfl | exact opv_fieldAddrP rfl rfl rfl) ?_
       refine th_take_g rfl rfl rfl rfl rfl (by kernel_rfl)  (by first | exact opv_load1 rfl rfl rfl | exact opv_loadA rfl rfl rfl | exact opv_loadE1 rfl (by assumption) rfl (by omega) rfl rfl | exact opv_loadEA rfl (by assumption) rfl (by omega) rfl rfl | exact opv_loadRX1 rfl rfl (by omega) rfl rfl | exact opv_loadRXA rfl rfl (by omega) rfl rfl rfl | exact opv_loadIX rfl rfl (by omega) | exact opv_loadR1 rfl rfl rfl | exact opv_loadRA rfl rfl rfl rfl) ?_
       refine th_take_g rfl rfl rfl rfl rfl (by kernel_rfl)  (opv_move rfl) ?_
       refine th_take_g rfl rfl rfl rfl rfl (by kernel_rfl)  (by first | exact opv_add rfl rfl (w64 (by omega) (by omega))) ?_
       refine th_take_g rfl rfl rfl rfl rfl (by kernel_rfl)  (opv_move rfl) ?_
       refine th_take_g rfl rfl rfl rfl rfl (by kernel_rfl)  (opv_move rfl) ?_
       refine th_take_g rfl rfl rfl rfl rfl (by kernel_rfl)  (by first | exact opv_indexAddrA rfl rfl (by first | decide | omega) (by first | decide | omega) | exact opv_indexAddrSN rfl rfl (by omega) (by assumption) rfl | exact opv_indexAddrS rfl rfl (by omega) (by omega) (by assumption) rfl | exact opv_indexAddrE rfl (by assumption) (by omega) rfl (by first | decide | omega) (by first | decide | omega) | exact opv_indexAddrRN rfl rfl (by omega) | exact opv_indexAddrR rfl rfl (by omega) (by omega) | exact opv_indexAddrRA rfl (by omega) rfl (by first | decide | omega) (by first | decide | omega) | exact opv_indexAddrSP rfl rfl (by omega) (by omega) | exact opv_indexAddrSN rfl rfl (by omega) (by assumption) (by omega) | exact opv_indexAddrS rfl rfl (by omega) (by omega) (by assumption) (by omega)) ?_
       refine th_take_g rfl rfl rfl rfl rfl (by kernel_rfl)  (by first | exact opv_fieldAddr rfl rfl | exact opv_fieldAddrE rfl (by assumption) (by omega) rfl | exact opv_fieldAddrR rfl (by omega) rfl | exact opv_fieldAddrP rfl rfl rfl) ?_
       refine th_take_g rfl rfl rfl rfl rfl (by kernel_rfl)  (by first | exact opv_load1 rfl rfl rfl | exact opv_loadA rfl rfl rfl | exact opv_loadE1 rfl (by assumption) rfl (by omega) rfl rfl | exact opv_loadEA rfl (by assumption) rfl (by omega) rfl rfl | exact opv_loadRX1 rfl rfl (by omega) rfl rfl | exact opv_loadRXA rfl rfl (by omega) rfl rfl rfl | exact opv_loadIX rfl rfl (by omega) | exact opv_loadR1 rfl rfl rfl | exact opv_loadRA rfl rfl rfl rfl) ?_
       refine th_take_g rfl rfl rfl rfl rfl (by kernel_rfl)  (opv_move rfl) ?_
       refine th_take_g rfl rfl rfl rfl rfl (by kernel_rfl)  (by first | exact opv_add rfl rfl (w64 (by omega) (by omega))) ?_
       refine th_take_g rfl rfl rfl rfl rfl (by kernel_rfl)  (by first | exact opv_buildS rfl rfl | exact opv_buildA rfl rfl) ?_
       refine th_one (by kernel_rfl) (step_mg rfl rfl rfl rfl rfl (opg_call (xs := [_]) rfl (ref01_in (c := (⟨(l.getD i default).x + dx, (l.getD i default).y + dy⟩ : Cell)))) ?_)
       rintro _ _ _ ⟨rfl, rfl, rfl⟩
       refine ⟨Suf.h, (by first | exact fun _ h => h | assumption | exact fun _ h => (by assumption : _ ⊆ _) ((by assumption : _ ⊆ _) h)), ?_⟩
       refine th_take_g rfl rfl rfl rfl rfl (by kernel_rfl)  (by first | exact opv_notD rfl | exact opv_not rfl) ?_
       refine th_take rfl rfl (by kernel_rfl)  (by first | exact opv_pick_t rfl rfl | exact opv_pick_f rfl rfl | exact opv_pick_bool rfl rfl rfl | exact opv_pick rfl rfl rfl) ?_
       refine th_done (by kernel_rfl) ?_
       refine tT ?_
       refine tri_cond_dec rfl (fun h6 => ?_) (fun h6 => ?_)
       ·refine tS (tR (tA rfl rfl (tA rfl rfl (tN (tT (tri_ret (tri_then_ret ?_)))))))
        refine tri_inBlock_ret ?_
        refine tri_then_ret (tri_then_ret ?_)
        refine tri_inBlock_ret ?_
        refine tri_then_ret ?_
        refine tri_end A Suf.h rfl (.cons (rv_tmp rfl) (.cons (rv_tmp rfl) .nil)) (bad2 h6)
       ·have h6 : R1.inB (R1.mv dx dy (R1.g l i)) := Decidable.not_not.1 h6
        have e : (l.take (i + 1)).map (R1.mv dx dy) = (l.take i).map (R1.mv dx dy) ++ [R1.mv dx dy (l.getD i default)] := by
         rw [List.take_succ_eq_append_getElem hlt, List.map_append]
         simp [hlt]
        have hal : ((l.take i).map (R1.mv dx dy)).length ≤ l.length := by rw [List.length_map, List.length_take]; omega
        generalize (l.take i).map (R1.mv dx dy) = acc at *
        skip
        refine tri_skip (tT ?_)
        refine tri_draw [0, 1, 2, 3, 4, 5, 6, 7, 8, 9, 10, 11, 12, 13, 14, 15, 16, 17, 18] rfl [_] rfl mixed ?_
        refine th_take rfl rfl (by kernel_rfl)  (opv_move rfl) ?_
        refine th_take rfl rfl (by kernel_rfl)  (opv_move rfl) ?_
        refine th_take rfl rfl (by kernel_rfl)  (opv_move rfl) ?_
        refine th_take rfl rfl (by kernel_rfl)  (by first | exact opv_indexAddrA rfl rfl (by first | decide | omega) (by first | decide | omega) | exact opv_indexAddrSN rfl rfl (by omega) (by assumption) rfl | exact opv_indexAddrS rfl rfl (by omega) (by omega) (by assumption) rfl | exact opv_indexAddrE rfl (by assumption) (by omega) rfl (by first | decide | omega) (by first | decide | omega) | exact opv_indexAddrRN rfl rfl (by omega) | exact opv_indexAddrR rfl rfl (by omega) (by omega) | exact opv_indexAddrRA rfl (by omega) rfl (by first | decide | omega) (by first | decide | omega) | exact opv_indexAddrSP rfl rfl (by omega) (by omega) | exact opv_indexAddrSN rfl rfl (by omega) (by assumption) (by omega) | exact opv_indexAddrS rfl rfl (by omega) (by omega) (by assumption) (by omega)) ?_
        refine th_take rfl rfl (by kernel_rfl)  (by first | exact opv_fieldAddr rfl rfl | exact opv_fieldAddrE rfl (by assumption) (by omega) rfl | exact opv_fieldAddrR rfl (by omega) rfl | exact opv_fieldAddrP rfl rfl rfl) ?_
        refine th_take rfl rfl (by kernel_rfl)  (by first | exact opv_load1 rfl rfl rfl | exact opv_loadA rfl rfl rfl | exact opv_loadE1 rfl (by assumption) rfl (by omega) rfl rfl | exact opv_loadEA rfl (by assumption) rfl (by omega) rfl rfl | exact opv_loadRX1 rfl rfl (by omega) rfl rfl | exact opv_loadRXA rfl rfl (by omega) rfl rfl rfl | exact opv_loadIX rfl rfl (by omega) | exact opv_loadR1 rfl rfl rfl | exact opv_loadRA rfl rfl rfl rfl) ?_
        refine th_take rfl rfl (by kernel_rfl)  (opv_move rfl) ?_
        refine th_take rfl rfl (by kernel_rfl)  (by first | exact opv_add rfl rfl (w64 (by omega) (by omega))) ?_
        refine th_take rfl rfl (by kernel_rfl)  (opv_move rfl) ?_
        refine th_take rfl rfl (by kernel_rfl)  (opv_move rfl) ?_
        refine th_take rfl rfl (by kernel_rfl)  (by first | exact opv_indexAddrA rfl rfl (by first | decide | omega) (by first | decide | omega) | exact opv_indexAddrSN rfl rfl (by omega) (by assumption) rfl | exact opv_indexAddrS rfl rfl (by omega) (by omega) (by assumption) rfl | exact opv_indexAddrE rfl (by assumption) (by omega) rfl (by first | decide | omega) (by first | decide | omega) | exact opv_indexAddrRN rfl rfl (by omega) | exact opv_indexAddrR rfl rfl (by omega) (by omega) | exact opv_indexAddrRA rfl (by omega) rfl (by first | decide | omega) (by first | decide | omega) | exact opv_indexAddrSP rfl rfl (by omega) (by omega) | exact opv_indexAddrSN rfl rfl (by omega) (by assumption) (by omega) | exact opv_indexAddrS rfl rfl (by omega) (by omega) (by assumption) (by omega)) ?_
        refine th_take rfl rfl (by kernel_rfl)  (by first | exact opv_fieldAddr rfl rfl | exact opv_fieldAddrE rfl (by assumption) (by omega) rfl | exact opv_fieldAddrR rfl (by omega) rfl | exact opv_fieldAddrP rfl rfl rfl) ?_
        refine th_take rfl rfl (by kernel_rfl)  (by first | exact opv_load1 rfl rfl rfl | exact opv_loadA rfl rfl rfl | exact opv_loadE1 rfl (by assumption) rfl (by omega) rfl rfl | exact opv_loadEA rfl (by assumption) rfl (by omega) rfl rfl | exact opv_loadRX1 rfl rfl (by omega) rfl rfl | exact opv_loadRXA rfl rfl (by omega) rfl rfl rfl | exact opv_loadIX rfl rfl (by omega) | exact opv_loadR1 rfl rfl rfl | exact opv_loadRA rfl rfl rfl rfl) ?_
        refine th_take rfl rfl (by kernel_rfl)  (opv_move rfl) ?_
        refine th_take rfl rfl (by kernel_rfl)  (by first | exact opv_add rfl rfl (w64 (by omega) (by omega))) ?_
        refine th_take rfl rfl (by kernel_rfl)  (by first | exact opv_buildS rfl rfl | exact opv_buildA rfl rfl) ?_
        refine th_one (by kernel_rfl) (step_m rfl rfl (opg_buildSlice rfl rfl rfl rfl) ?_)
        rintro _ _ _ ⟨b75, rfl, rfl, rfl⟩
        refine ⟨Suf.h, (by first | exact fun _ h => h | assumption | exact fun _ h => (by assumption : _ ⊆ _) ((by assumption : _ ⊆ _) h)), ?_⟩
        refine th_one (by kernel_rfl) (step_m rfl rfl (opg_appendB rfl rfl rfl rfl (by omega) rfl) ?_)
        rintro _ _ _ ⟨a2, cap2, rfl, rfl, rfl⟩
        refine ⟨Suf.h, (by first | exact fun _ h => h | assumption | exact fun _ h => (by assumption : _ ⊆ _) ((by assumption : _ ⊆ _) h)), ?_⟩
        refine th_take rfl rfl (by kernel_rfl)  (opv_assign rfl) ?_
        refine th_done (by kernel_rfl) ?_
        refine tri_inBlock ?_
        refine tT (tR (tM rfl rfl ?_))
        refine tri_v (by first | exact opv_add rfl rfl (w64 (by omega) (by omega))) rfl ?_
        refine tA rfl rfl (tN (tT ?_))
        refine tri_drop ?_
        refine tri_rowEq (len' := (acc ++ [R1.mv dx dy (l.getD i default)]).length) (cells' := encs (acc ++ [R1.mv dx dy (l.getD i default)])) (by simp) (by rw [encs_append]; rfl) ?_
        have := hK (i + 1, a2, cap2) ⟨by simp only; omega, fun j hj => ?_⟩ (by simp only; omega)
        ·simp only [e] at this
         refine tri_sub ?_ this
         rw [List.length_append]
         exact ⟨rfl, rfl, rfl, rfl, rfl, rfl, trivial⟩
        ·by_cases e : j = i
         ·subst e; exact h6
         ·exact hok j (by simp only at hj; omega)
  ·refine tri_exit ?_
   refine tri_then_exit ?_
   refine tri_then_exit ?_
   refine tri_inBlock_hit rfl ?_
   refine tT (tS (tR (tM rfl rfl (tA rfl rfl (tA rfl rfl (tN (tT ?_)))))))
   refine tri_ret ?_
   have e : l.take i = l := List.take_of_length_le (by omega)
   rw [e]
   refine tri_freezeRow (α := Cell) rfl fun J hJ hs2 => ?_
   refine tri_end A Suf.h rfl (.cons (rv_tmp rfl) (.cons (rv_tmp rfl) .nil)) ?_
   rw [hsh, if_pos (fun j hj => hok j (by omega))]
   exact ⟨a1, cap1, rfl, hs2, rfl, hJ⟩
end Go.GL


set_option linter.unusedVariables false
namespace Go.GL
namespace R6
/-- A store behind what was made in it, or as it was. -/
def told (ns : List Node) (room : Int) (r : List Node × Int × Int) : List Node × Int × Int := if right ns room then (if r.2.2 ≠ 0 then (ns, 0, r.2.2) else r) else (ns, 0, 1)
def emptyT (ns : List Node) (room lv : Int) : List Node × Int × Int := if lv < 0 ∨ 42 < lv then (ns, 0, 1) else told ns room (R7.empty ns room lv.toNat)
/-! #### what is live -/
def keepKids (keep : List Bool) (x : Node) : List Bool := (((keep.set x.k0.toNat true).set x.k1.toNat true).set x.k2.toNat true).set x.k3.toNat true
/-- From the node m + 1 down. -/
def keepDown (ns : List Node) : Nat → List Bool → List Bool
 | 0, keep => keep
 | m + 1, keep => keepDown ns m (if keep.getD (m + 2) default = true then keepKids keep (ns.getD (m + 2) default) else keep)
def keepRoots (n : Nat) (roots : List Int) : List Bool := roots.foldl (fun keep r => keep.set r.toNat true) (((List.replicate n false).set 0 true).set 1 true)
def kept (ns : List Node) (roots : List Int) : List Bool := keepDown ns (ns.length - 2) (keepRoots ns.length roots)
def mapKids (to : List Int) (x : Node) : Node := ⟨x.lv, to.getD x.k0.toNat default, to.getD x.k1.toNat default, to.getD x.k2.toNat default, to.getD x.k3.toNat default, x.pop⟩
def liveStep (ns : List Node) (keep : List Bool) (s : List Int × List Node) (i : Nat) : List Int × List Node := if keep.getD i default = true then (s.1.set i (s.2.length : Nat), s.2 ++ [mapKids s.1 (ns.getD i default)]) else s
def liveAll (ns : List Node) (keep : List Bool) : List Int × List Node := (List.range ns.length).foldl (liveStep ns keep) (List.replicate ns.length 0, [])
/-- A store, places, an error. -/
def live (ns : List Node) (room : Int) (roots : List Int) : List Node × List Int × Int :=
 if right ns room ∧ ∀ i, i < roots.length → inS ns (roots.getD i default) then ((liveAll ns (kept ns roots)).2, roots.map fun r => (liveAll ns (kept ns roots)).1.getD r.toNat default, 0) else (ns, [], 1)
end R6
end Go.GL
namespace Go.GL
namespace R6
theorem right.kid {ns : List Node} {room : Int} (h : right ns room) {i : Nat} (hi : i < ns.length) :
  (0 ≤ (ns.getD i default).k0 ∧ (ns.getD i default).k0 < ns.length ∧ (2 ≤ i → (ns.getD i default).k0 < i)) ∧ (0 ≤ (ns.getD i default).k1 ∧ (ns.getD i default).k1 < ns.length ∧ (2 ≤ i → (ns.getD i default).k1 < i)) ∧
  (0 ≤ (ns.getD i default).k2 ∧ (ns.getD i default).k2 < ns.length ∧ (2 ≤ i → (ns.getD i default).k2 < i)) ∧ (0 ≤ (ns.getD i default).k3 ∧ (ns.getD i default).k3 < ns.length ∧ (2 ≤ i → (ns.getD i default).k3 < i)) := by
 have h2 := h.1.2.2.1
 by_cases hi2 : 2 ≤ i
 ·obtain ⟨⟨a0, b0, _⟩, ⟨a1, b1, _⟩, ⟨a2, b2, _⟩, ⟨a3, b3, _⟩, _⟩ := h.2 i hi hi2
  refine ⟨⟨a0, by omega, fun _ => b0⟩, ⟨a1, by omega, fun _ => b1⟩, ⟨a2, by omega, fun _ => b2⟩, ⟨a3, by omega, fun _ => b3⟩⟩
 ·rcases (by omega : i = 0 ∨ i = 1) with rfl | rfl
  ·rw [h.1.2.2.2.2.1]
   refine ⟨⟨?_, ?_, ?_⟩, ⟨?_, ?_, ?_⟩, ⟨?_, ?_, ?_⟩, ⟨?_, ?_, ?_⟩⟩ <;> simp [n0] <;> omega
  ·rw [h.1.2.2.2.2.2]
   refine ⟨⟨?_, ?_, ?_⟩, ⟨?_, ?_, ?_⟩, ⟨?_, ?_, ?_⟩, ⟨?_, ?_, ?_⟩⟩ <;> simp [n1] <;> omega
end R6
/-- What a function that tells a store, places and an error comes to. -/
def LiveR (r : List Node × List Int × Int) (room : Int) (A : List Asrt) (I : List Chunk) : Value → List Asrt → List Chunk → Prop :=
 fun v A' I' => ∃ a' c' a2 c2, v = .tuple [storeV a' r.1.length c' room, .slice a2 r.2.1.length c2, .int .i64 r.2.2].toArray ∧ StA I' a' c' r.1 ∧ SlAt I' a2 r.2.1 ∧ A = A' ∧ I ⊆ I'
end Go.GL


set_option linter.unusedVariables false
namespace Go.GL
/-- A store's head. -/
structure Sto where
 a : Option Addr
 len : Nat
 cap : Nat
 room : Int
 deriving Inhabited
instance : Enc Sto := ⟨fun s => [.slice s.a s.len s.cap, .int .i64 s.room], 2, fun _ => rfl, fun _ => rfl⟩
/-- A slice's head. -/
structure Sl where
 a : Option Addr
 len : Nat
 cap : Nat
 deriving Inhabited
instance : Enc Sl := ⟨fun s => [.slice s.a s.len s.cap], 1, fun _ => rfl, fun _ => rfl⟩
/-- Four numbers. -/
structure Four where
 r0 : Int
 r1 : Int
 r2 : Int
 r3 : Int
 deriving DecidableEq, Inhabited
instance : Enc Four := ⟨fun x => [.int .i64 x.r0, .int .i64 x.r1, .int .i64 x.r2, .int .i64 x.r3], 4, fun _ => rfl, fun _ => rfl⟩
instance : Dec Four := ⟨fun xs => ⟨xs.getD 0 0, xs.getD 1 0, xs.getD 2 0, xs.getD 3 0⟩, fun xs h => by
 match xs, h with
 | [a, b, c, d], _ => rfl⟩
namespace R6
end R6
end Go.GL


set_option linter.unusedVariables false
namespace Go.GL
/-- Slices that are read, side by side. -/
def SlsG {α : Type} [Enc α] (I : List Chunk) (LS : List Sl) (LL : List (List α)) : Prop := LS.length = LL.length ∧ ∀ i, i < LL.length → SlAt I (LS.getD i default).a (LL.getD i []) ∧ (LS.getD i default).len = (LL.getD i []).length
section
variable {α : Type} [Enc α] {I J : List Chunk} {LS : List Sl} {LL : List (List α)}
theorem SlsG.mono (h : SlsG I LS LL) (hI : I ⊆ J) : SlsG J LS LL := ⟨h.1, fun i hi => ⟨(h.2 i hi).1.mono hI, (h.2 i hi).2⟩⟩
theorem SlsG.nil : SlsG I [] ([] : List (List α)) := ⟨rfl, fun i hi => absurd hi (Nat.not_lt_zero _)⟩
theorem SlsG.cons {s : Sl} {l : List α} (h : SlsG I LS LL) (hs : SlAt I s.a l) (hl : s.len = l.length) : SlsG I (s :: LS) (l :: LL) := by
 refine ⟨by rw [List.length_cons, List.length_cons, h.1], fun i hi => ?_⟩
 cases i with
 | zero => exact ⟨hs, hl⟩
 | succ i => exact h.2 i (by rw [List.length_cons] at hi; omega)
end
end Go.GL


set_option linter.unusedVariables false
namespace Go.GL
open Go.Proofs
attribute [local irreducible] wpList Code.wp Exit.then Exit.inBlock Ends Tri TriH OpV OpG FnC epf wpAnyH
variable {A : List Asrt} {I : List Chunk}
theorem R1.shift_len (l : List Cell) (dx dy : Int) : (R1.shift l dx dy).1.length ≤ l.length := by
 unfold R1.shift
 split
 ·split
  ·simp
  ·simp
 ·simp
theorem R2.iter_len : ∀ (n : Nat) {l : List Cell}, l.length ≤ 2000 → (R2.iter n l).1.length ≤ 2000
 | 0, l, h => h
 | n + 1, l, h => by
  rw [R2.iter]
  split
  ·simp
  ·exact R2.iter_len n (R2.next_len l)
theorem R2.run_len {l : List Cell} {n : Int} (h : l.length ≤ 2000) : (R2.run l n).1.length ≤ 2000 := by
 unfold R2.run
 split
 ·exact R2.iter_len _ h
 ·simp
theorem quo3 {x : Int} (h : I64 x) : IntKind.i64.wrap (x.tdiv 3) = x.tdiv 3 ∧ I64 (x.tdiv 3) := by
 have h1 := h.1
 have h2 := h.2
 have e : -9223372036854775808 ≤ x.tdiv 3 ∧ x.tdiv 3 ≤ 9223372036854775807 := by
  rcases Int.le_total 0 x with h0 | h0
  ·rw [Int.tdiv_eq_ediv_of_nonneg h0]
   omega
  ·obtain ⟨y, rfl⟩ : ∃ y, x = -y := ⟨-x, by omega⟩
   rw [Int.neg_tdiv, Int.tdiv_eq_ediv_of_nonneg (by omega)]
   omega
 exact ⟨w64 e.1 e.2, e.1, e.2⟩
set_option maxHeartbeats 8000000 in
set_option maxRecDepth 100000 in
theorem law02_tells {raw any : List Cell} {n side : Int} {a1 a2 : Option Addr} {cap1 cap2 : Nat} (hs : SlAt I a1 raw) (hc : RL.Cs raw) (ha : StA I a2 cap2 any) (h1 : I64 n) (h2 : I64 side) :
  FnC Try.prog 3 [.slice a1 raw.length cap1, .slice a2 any.length cap2, .int .i64 n, .int .i64 side].toArray A I (fun v A' I' => v = .bool true ∧ A = A' ∧ I ⊆ I') := by
 have hset := RL.set_le raw
 have hp1 := pk_bd (c := side) (n := 3) (by omega)
 obtain ⟨hq, hq64⟩ := quo3 h2
 have hp2 := pk_bd (c := side.tdiv 3) (n := 3) (by omega)
 skip
 skip
 refine fn_enter4 Try.func3 rfl Try.ntmps3 rfl fun w0 => ?_
 refine tS (tR (tA rfl rfl (tN (tT (tS (tR ?_))))))
 refine tri_g (opg_call (xs := []) rfl (law02_awake)) rfl ?_
 rintro _ _ I0 ⟨rfl, rfl, hI0⟩
 have ha2 := ha.mono hI0
 refine tA rfl rfl (tN (tT (tS (tR (tM rfl rfl (tA rfl rfl (tN ?_)))))))
 refine tT (tS (tS (tR (tM rfl rfl ?_))))
 refine tri_v (opv_len rfl) rfl ?_
 refine tri_v (opv_gtr rfl rfl) rfl ?_
 refine tN (tT ?_)
 refine tri_cut (fun F' A' J => ∃ lx : List Cell, (SlAt I0 a2 lx ∧ lx.length ≤ 40) ∧ F' = [(0, .slice a1 raw.length cap1), (2, .int .i64 n), (3, .int .i64 side), (9, .bool true), (10, .slice a2 lx.length cap2)] ∧ A = A' ∧ I0 = J) ?_ ?_
 ·skip
  refine tri_cond_dec rfl (fun h => ?_) (fun h => ?_)
  ·skip
   refine tR (tM rfl rfl ?_)
   refine tri_v (opv_sliceHi rfl rfl (by omega) (by omega) ha2 rfl) rfl ?_
   skip
   refine tA rfl rfl (tN ?_)
   exact tri_cutEnd _ ⟨any.take 40, ⟨ha2.sl.take 40, by rw [List.length_take]; omega⟩, rfl, rfl, rfl⟩ ⟨rfl, rfl, rfl, rfl, rfl, trivial⟩
  ·refine tri_skip ?_
   exact tri_cutEnd _ ⟨any, ⟨ha2.sl, by omega⟩, rfl, rfl, rfl⟩ ⟨rfl, rfl, rfl, rfl, rfl, trivial⟩
 rintro _ _ _ ⟨lx, ⟨hsx, hlx⟩, rfl, rfl, rfl⟩
 skip
 refine tT (tS (tR (tM rfl rfl ?_)))
 refine tri_g (opg_call (xs := [_]) rfl (law01_set (hs.mono hI0) hc)) rfl ?_
 rintro _ _ I1 ⟨b1, c1, rfl, hs1, rfl, hI1⟩
 refine tA rfl rfl (tN (tT (tS (tR (tM rfl rfl (tM rfl rfl ?_))))))
 refine tri_g (opg_call (xs := [_, _]) rfl (law02_pick h2.1 h2.2 (by decide))) rfl ?_
 rintro _ _ _ ⟨rfl, rfl, rfl⟩
 generalize pk side 3 = p1 at *
 refine tri_v (by first | exact opv_sub rfl rfl (w64 (by omega) (by omega)) | exact opv_sub rfl rfl rfl) rfl ?_
 refine tri_v (by first | exact opv_mul rfl rfl (w64 (by omega) (by omega)) | exact opv_mul rfl rfl (by assumption)) rfl ?_
 refine tM rfl rfl ?_
 refine tri_v (opv_quo rfl rfl (by decide) hq) rfl ?_
 skip
 refine tri_g (opg_call (xs := [_, _]) rfl (law02_pick hq64.1 hq64.2 (by decide))) rfl ?_
 rintro _ _ _ ⟨rfl, rfl, rfl⟩
 generalize pk (side.tdiv 3) 3 = p2 at *
 refine tri_v (by first | exact opv_sub rfl rfl (w64 (by omega) (by omega)) | exact opv_sub rfl rfl rfl) rfl ?_
 refine tri_v (by first | exact opv_mul rfl rfl (w64 (by omega) (by omega)) | exact opv_mul rfl rfl (by assumption)) rfl ?_
 refine tri_g (opg_call (xs := [_, _, _]) rfl (ref01_shift hs1 (by omega))) rfl ?_
 rintro _ _ I2 ⟨b2, c2, rfl, hs2, rfl, hI2⟩
 have hl2 := R1.shift_len (RL.set raw) ((p1 - 1) * 1099511627768) ((p2 - 1) * 1099511627768)
 generalize R1.shift (RL.set raw) ((p1 - 1) * 1099511627768) ((p2 - 1) * 1099511627768) = far at *
 refine tM rfl rfl ?_
 refine tri_v (opv_extract rfl rfl) rfl ?_
 refine tri_v (opv_extract rfl rfl) rfl ?_
 refine tA rfl rfl (tA rfl rfl (tN (tT (tS (tS (tR (tM rfl rfl ?_)))))))
 refine tM rfl rfl (tM rfl rfl ?_)
 refine tri_g (opg_buildSlice rfl rfl rfl rfl) rfl ?_
 rintro _ _ _ ⟨b55, rfl, rfl, rfl⟩
 refine tri_v (opv_len rfl) rfl ?_
 refine tM rfl rfl (tN (tT (tri_block ?_)))
 refine tri_freezeBoxS ([⟨b1, (RL.set raw).length, c1⟩, ⟨b2, far.1.length, c2⟩, ⟨a2, lx.length, cap2⟩] : List Sl) rfl fun I3 hI3 hL => ?_
 have hsls : SlsG I3 [⟨b1, (RL.set raw).length, c1⟩, ⟨b2, far.1.length, c2⟩, ⟨a2, lx.length, cap2⟩] [RL.set raw, far.1, lx] := ((SlsG.nil.cons (hsx.mono fun _ h => hI3 (hI2 (hI1 h))) rfl).cons (hs2.mono hI3) rfl).cons (hs1.mono fun _ h => hI3 (hI2 h)) rfl
 have hlen : ∀ i, i < 3 → (([RL.set raw, far.1, lx] : List (List Cell)).getD i []).length ≤ 100 := fun i hi => by
  match i, hi with
  | 0, _ => show (RL.set raw).length ≤ 100; omega
  | 1, _ => show far.1.length ≤ 100; omega
  | 2, _ => show lx.length ≤ 100; omega
 have hLS3 : ([⟨b1, (RL.set raw).length, c1⟩, ⟨b2, far.1.length, c2⟩, ⟨a2, lx.length, cap2⟩] : List Sl).length = 3 := rfl
 have hLL3 : ([RL.set raw, far.1, lx] : List (List Cell)).length = 3 := rfl
 generalize ([⟨b1, (RL.set raw).length, c1⟩, ⟨b2, far.1.length, c2⟩, ⟨a2, lx.length, cap2⟩] : List Sl) = LS at *
 generalize ([RL.set raw, far.1, lx] : List (List Cell)) = LL at *
 have hI03 : I ⊆ I3 := fun _ h => hI3 (hI2 (hI1 (hI0 h)))
 refine tri_sub (F' := [(2, .int .i64 n), (9, .bool true), (55, .slice (some ⟨b55, 0, none⟩) 3 3), (56, .int .i64 3), (57, .int .i64 ((0 : Nat) : Int))]) ⟨rfl, rfl, rfl, rfl, rfl, trivial⟩ ?_
 refine loop_ind (G := Nat × List Chunk) (fun g => 3 - g.1) (fun g => g.1 ≤ 3 ∧ I3 ⊆ g.2) (fun g => [(2, .int .i64 n), (9, .bool true), (55, .slice (some ⟨b55, 0, none⟩) 3 3), (56, .int .i64 3), (57, .int .i64 (g.1 : Nat))]) (fun _ => A) (fun g => g.2) ?_ (0, I3) ⟨Nat.zero_le _, fun _ h => h⟩
 rintro ⟨i, J3⟩ ⟨hi, hJ3⟩ K hK
 simp only at hi hJ3 hK ⊢
 have hLj := hL.mono hJ3
 skip
 refine tS (tR ?_)
 refine tri_v (opv_lss rfl rfl) rfl ?_
 refine tN (tT (tS ?_))
 refine tri_cond_dec rfl (fun h => ?_) (fun h => ?_)
 ·have hil : i < 3 := by omega
  obtain ⟨hsi, hli⟩ := hsls.2 i (by omega)
  have hsi := hsi.mono hJ3
  have hl100 := hlen i hil
  generalize LL.getD i [] = l at *
  have hp := pk_bd (c := n) (n := 21) (by omega)
  refine tri_skip (tT (tS (tri_block (tS (tR ?_)))))
  refine tri_v (by first | exact opv_indexAddrA rfl rfl (by first | decide | omega) (by first | decide | omega) | exact opv_indexAddrSN rfl rfl (by omega) (by assumption) rfl | exact opv_indexAddrS rfl rfl (by omega) (by omega) (by assumption) rfl | exact opv_indexAddrE rfl (by assumption) (by omega) rfl (by first | decide | omega) (by first | decide | omega) | exact opv_indexAddrRN rfl rfl (by omega) | exact opv_indexAddrR rfl rfl (by omega) (by omega) | exact opv_indexAddrRA rfl (by omega) rfl (by first | decide | omega) (by first | decide | omega) | exact opv_indexAddrSP rfl rfl (by omega) (by omega) | exact opv_indexAddrSN rfl rfl (by omega) (by assumption) (by omega) | exact opv_indexAddrS rfl rfl (by omega) (by omega) (by assumption) (by omega)) rfl ?_
  refine tri_v (by first | exact opv_load1 rfl rfl rfl | exact opv_loadA rfl rfl rfl | exact opv_loadE1 rfl (by assumption) rfl (by omega) rfl rfl | exact opv_loadEA rfl (by assumption) rfl (by omega) rfl rfl | exact opv_loadRX1 rfl rfl (by omega) rfl rfl | exact opv_loadRXA rfl rfl (by omega) rfl rfl rfl | exact opv_loadIX rfl rfl (by omega) | exact opv_loadR1 rfl rfl rfl | exact opv_loadRA rfl rfl rfl rfl) rfl ?_
  refine tA rfl rfl (tN (tT (tS (tR (tM rfl rfl ?_)))))
  rw [Int.toNat_natCast, hli]
  refine tri_g (opg_call (xs := [_]) rfl (life_next hsi (by omega))) rfl ?_
  rintro _ _ J4 ⟨d1, e1, rfl, hd1, rfl, hJ4⟩
  refine tM rfl rfl ?_
  refine tri_v (opv_extract rfl rfl) rfl ?_
  refine tri_v (opv_extract rfl rfl) rfl ?_
  refine tA rfl rfl (tA rfl rfl (tN (tT (tS (tR (tM rfl rfl ?_))))))
  refine tri_g (opg_call (xs := [_]) rfl (ref02_next (hsi.mono hJ4) (by omega))) rfl ?_
  rintro _ _ J5 ⟨d2, e2, rfl, hd2, rfl, hJ5⟩
  refine tM rfl rfl ?_
  refine tri_v (opv_extract rfl rfl) rfl ?_
  refine tri_v (opv_extract rfl rfl) rfl ?_
  refine tA rfl rfl (tA rfl rfl (tN (tT (tS (tR (tM rfl rfl (tM rfl rfl ?_)))))))
  refine tri_g (opg_call (xs := [_, _]) rfl (law02_pick h1.1 h1.2 (by decide))) rfl ?_
  rintro _ _ _ ⟨rfl, rfl, rfl⟩
  skip
  refine tri_g (opg_call (xs := [_, _]) rfl (life_run (hsi.mono fun _ h => hJ5 (hJ4 h)) (by omega))) rfl ?_
  rintro _ _ J6 ⟨d3, e3, rfl, hd3, rfl, hJ6⟩
  refine tM rfl rfl ?_
  refine tri_v (opv_extract rfl rfl) rfl ?_
  refine tri_v (opv_extract rfl rfl) rfl ?_
  refine tA rfl rfl (tA rfl rfl (tN (tT (tS (tR (tM rfl rfl (tM rfl rfl ?_)))))))
  refine tri_g (opg_call (xs := [_, _]) rfl (law02_pick h1.1 h1.2 (by decide))) rfl ?_
  rintro _ _ _ ⟨rfl, rfl, rfl⟩
  skip
  refine tri_g (opg_call (xs := [_, _]) rfl (ref02_run (hsi.mono fun _ h => hJ6 (hJ5 (hJ4 h))) (by omega))) rfl ?_
  rintro _ _ J7 ⟨d4, e4, rfl, hd4, rfl, hJ7⟩
  have hnl := R2.next_len l
  have hrl := R2.run_len (l := l) (n := pk n 21) (by omega)
  refine tM rfl rfl ?_
  refine tri_v (opv_extract rfl rfl) rfl ?_
  refine tri_v (opv_extract rfl rfl) rfl ?_
  refine tA rfl rfl (tA rfl rfl (tN (tT (tS (tR (tM rfl rfl (tM rfl rfl ?_)))))))
  refine tri_g (opg_call (xs := [_, _]) rfl (ref01_same (hd1.mono fun _ h => hJ7 (hJ6 (hJ5 h))) (hd2.mono fun _ h => hJ7 (hJ6 h)) (by omega))) rfl ?_
  rintro _ _ _ ⟨rfl, rfl, rfl⟩
  refine tri_v (by first | exact opv_notD rfl | exact opv_not rfl) rfl ?_
  refine tM rfl rfl ?_
  refine tri_false rfl rfl ((fun h => h rfl)) ?_
  refine tri_guard_run rfl rfl rfl (tM rfl rfl (tri_guard_run rfl rfl rfl (tM rfl rfl (tri_guard_run rfl rfl rfl ?_))))
  refine tri_v (by first | exact opv_neq rfl rfl | exact opv_neqI rfl rfl rfl rfl rfl rfl | exact opv_neqB rfl rfl) rfl ?_
  refine tri_v (by first | exact opv_pick_t rfl rfl | exact opv_pick_f rfl rfl | exact opv_pick_bool rfl rfl rfl | exact opv_pick rfl rfl rfl) rfl ?_
  refine tM rfl rfl ?_
  refine tri_false rfl rfl ((fun h => h rfl)) ?_
  refine tri_guard_run rfl rfl rfl (tM rfl rfl (tri_guard_run rfl rfl rfl (tM rfl rfl (tri_guard_run rfl rfl rfl ?_))))
  refine tri_g (opg_call (xs := [_, _]) rfl (ref01_same (hd3.mono hJ7) hd4 (by omega))) rfl ?_
  rintro _ _ _ ⟨rfl, rfl, rfl⟩
  refine tri_guard_run rfl rfl rfl ?_
  refine tri_v (by first | exact opv_notD rfl | exact opv_not rfl) rfl ?_
  refine tri_v (by first | exact opv_pick_t rfl rfl | exact opv_pick_f rfl rfl | exact opv_pick_bool rfl rfl rfl | exact opv_pick rfl rfl rfl) rfl ?_
  refine tM rfl rfl ?_
  refine tri_false rfl rfl ((fun h => h rfl)) ?_
  refine tri_guard_run rfl rfl rfl (tM rfl rfl (tri_guard_run rfl rfl rfl (tM rfl rfl (tri_guard_run rfl rfl rfl ?_))))
  refine tri_v (by first | exact opv_neq rfl rfl | exact opv_neqI rfl rfl rfl rfl rfl rfl | exact opv_neqB rfl rfl) rfl ?_
  refine tri_v (by first | exact opv_pick_t rfl rfl | exact opv_pick_f rfl rfl | exact opv_pick_bool rfl rfl rfl | exact opv_pick rfl rfl rfl) rfl ?_
  refine tN (tT ?_)
  refine tri_cond_not rfl ((fun h => h rfl)) ?_
  refine tri_skip ?_
  refine tri_inBlock ?_
  refine tT (tR ?_)
  refine tri_v (by first | exact opv_add rfl rfl (w64 (by omega) (by omega))) rfl ?_
  refine tM rfl rfl (tN (tT ?_))
  refine tri_sub ?_ (hK (i + 1, J7) ⟨by simp only; omega, fun _ h => hJ7 (hJ6 (hJ5 (hJ4 (hJ3 h))))⟩ (by simp only; omega))
  exact ⟨rfl, rfl, rfl, rfl, rfl, trivial⟩
 ·have ei : i = 3 := by omega
  have hI3a : I ⊆ J3 := fun _ h => hJ3 (hI03 h)
  clear hK
  refine tri_exit ?_
  refine tri_then_exit ?_
  refine tri_then_exit ?_
  refine tri_inBlock_hit rfl ?_
  refine tT (tS (tR (tM rfl rfl ?_)))
  refine tri_g (opg_call (xs := [_, _]) rfl (life_run (l := []) SlAt.nil (by decide))) rfl ?_
  rintro _ _ J4 ⟨d1, e1, rfl, hd1, rfl, hJ4⟩
  refine tM rfl rfl ?_
  refine tri_v (opv_extract rfl rfl) rfl ?_
  refine tri_v (opv_extract rfl rfl) rfl ?_
  refine tA rfl rfl (tA rfl rfl (tN (tT (tS (tR (tM rfl rfl ?_))))))
  refine tri_g (opg_call (xs := [_, _]) rfl (ref02_run (l := []) SlAt.nil (by decide))) rfl ?_
  rintro _ _ J5 ⟨d2, e2, rfl, hd2, rfl, hJ5⟩
  refine tM rfl rfl ?_
  refine tri_v (opv_extract rfl rfl) rfl ?_
  refine tri_v (opv_extract rfl rfl) rfl ?_
  refine tA rfl rfl (tA rfl rfl (tN (tT (tS (tS (tR (tA rfl rfl ?_)))))))
  refine tN (tT (tri_block ?_))
  refine tri_sub (F' := [(2, .int .i64 n), (9, .bool true), (25, .int .i64 (R2.run [] n).2), (27, .int .i64 (R2.run [] n).2), (28, .int .i64 ((0 : Nat) : Int))]) ⟨rfl, rfl, rfl, rfl, rfl, trivial⟩ ?_
  refine loop_ind (G := Nat) (fun g => 10 - g) (fun g => g ≤ 10) (fun g => [(2, .int .i64 n), (9, .bool true), (25, .int .i64 (R2.run [] n).2), (27, .int .i64 (R2.run [] n).2), (28, .int .i64 (g : Nat))]) (fun _ => A) (fun g => J5) ?_ 0 (Nat.zero_le _)
  rintro k hk K2 hK2
  skip
  refine tS (tS (tR (tM rfl rfl ?_)))
  refine tri_v (opv_lss rfl rfl) rfl ?_
  refine tN (tT ?_)
  refine tri_cond_dec rfl (fun h3 => ?_) (fun h3 => ?_)
  ·refine tri_skip (tT (tS (tri_block (tS (tR (tM rfl rfl ?_))))))
   refine tri_g (opg_call (xs := [_, _]) rfl (life_lives)) rfl ?_
   rintro _ _ _ ⟨rfl, rfl, rfl⟩
   refine tM rfl rfl ?_
   refine tri_g (opg_call (xs := [_, _]) rfl (ref02_lives)) rfl ?_
   rintro _ _ _ ⟨rfl, rfl, rfl⟩
   refine tri_v (by first | exact opv_neq rfl rfl | exact opv_neqI rfl rfl rfl rfl rfl rfl | exact opv_neqB rfl rfl) rfl ?_
   refine tM rfl rfl ?_
   refine tri_false rfl rfl ((fun h => h rfl)) ?_
   refine tri_guard_run rfl rfl rfl (tM rfl rfl (tri_guard_run rfl rfl rfl ?_))
   refine tri_g (opg_call (xs := [_, _]) rfl (life_lives)) rfl ?_
   rintro _ _ _ ⟨rfl, rfl, rfl⟩
   refine tri_guard_run rfl rfl rfl (tM rfl rfl (tri_guard_run rfl rfl rfl ?_))
   refine tri_g (opg_call (xs := [_, _]) rfl (ref02_lives)) rfl ?_
   rintro _ _ _ ⟨rfl, rfl, rfl⟩
   refine tri_guard_run rfl rfl rfl ?_
   refine tri_v (by first | exact opv_neq rfl rfl | exact opv_neqI rfl rfl rfl rfl rfl rfl | exact opv_neqB rfl rfl) rfl ?_
   refine tri_v (by first | exact opv_pick_t rfl rfl | exact opv_pick_f rfl rfl | exact opv_pick_bool rfl rfl rfl | exact opv_pick rfl rfl rfl) rfl ?_
   refine tN (tT ?_)
   refine tri_cond_not rfl ((fun h => h rfl)) ?_
   refine tri_skip ?_
   refine tri_inBlock ?_
   refine tT (tR (tM rfl rfl ?_))
   refine tri_v (by first | exact opv_add rfl rfl (w64 (by omega) (by omega))) rfl ?_
   refine tA rfl rfl (tN (tT ?_))
   refine tri_sub ?_ (hK2 (k + 1) (by omega) (by omega))
   exact ⟨rfl, rfl, rfl, rfl, rfl, trivial⟩
  ·refine tri_exit ?_
   refine tri_then_exit ?_
   refine tri_then_exit ?_
   refine tri_inBlock_hit rfl ?_
   refine tT (tS (tR (tM rfl rfl (tM rfl rfl ?_))))
   refine tri_bool 133 rfl (fun _ => ?_) (fun h => absurd h (by decide))
   refine tri_guard_run rfl rfl rfl (tM rfl rfl (tri_guard_run rfl rfl rfl (tM rfl rfl (tri_guard_run rfl rfl rfl ?_))))
   refine tri_v (by first | exact opv_eql rfl rfl | exact opv_eqlI rfl rfl rfl rfl rfl rfl | exact opv_eqlB rfl rfl | exact opv_eqlNil rfl rfl) rfl ?_
   refine tri_v (by first | exact opv_pick_t rfl rfl | exact opv_pick_f rfl rfl | exact opv_pick_bool rfl rfl rfl | exact opv_pick rfl rfl rfl) rfl ?_
   refine tM rfl rfl ?_
   refine tri_true rfl rfl (rfl) ?_
   refine tri_guard_run rfl rfl rfl (tM rfl rfl (tri_guard_run rfl rfl rfl ?_))
   refine tri_v (by first | exact opv_remE rfl rfl (by omega) (by omega) | exact opv_rem rfl rfl (by omega) rfl) rfl ?_
   refine tri_guard_run rfl rfl rfl ?_
   refine tri_v (by first | exact opv_eql rfl rfl | exact opv_eqlI rfl rfl rfl rfl rfl rfl | exact opv_eqlB rfl rfl | exact opv_eqlNil rfl rfl) rfl ?_
   refine tri_guard_run rfl rfl rfl (tM rfl rfl (tri_guard_run rfl rfl rfl ?_))
   refine tri_g (opg_call (xs := [_, _]) rfl (life_lives)) rfl ?_
   rintro _ _ _ ⟨rfl, rfl, rfl⟩
   refine tri_guard_run rfl rfl rfl (tM rfl rfl (tri_guard_run rfl rfl rfl ?_))
   refine tri_v (by first | exact opv_remE rfl rfl (by omega) (by omega) | exact opv_rem rfl rfl (by omega) rfl) rfl ?_
   refine tri_guard_run rfl rfl rfl ?_
   refine tri_v (by first | exact opv_eql rfl rfl | exact opv_eqlI rfl rfl rfl rfl rfl rfl | exact opv_eqlB rfl rfl | exact opv_eqlNil rfl rfl) rfl ?_
   refine tri_guard_run rfl rfl rfl (tM rfl rfl (tri_guard_run rfl rfl rfl ?_))
   refine tri_g (opg_call (xs := [_, _]) rfl (ref02_lives)) rfl ?_
   rintro _ _ _ ⟨rfl, rfl, rfl⟩
   refine tri_guard_run rfl rfl rfl ?_
   refine tri_v (by first | exact opv_eql rfl rfl | exact opv_eqlI rfl rfl rfl rfl rfl rfl | exact opv_eqlB rfl rfl | exact opv_eqlNil rfl rfl) rfl ?_
   refine tri_v (by first | exact opv_pick_t rfl rfl | exact opv_pick_f rfl rfl | exact opv_pick_bool rfl rfl rfl | exact opv_pick rfl rfl rfl) rfl ?_
   refine tA rfl rfl (tN (tT (tri_ret ?_)))
   refine tri_end A Suf.h rfl (.cons (rv_tmp rfl) .nil) ⟨?_, rfl, fun _ h => hJ5 (hJ4 (hI3a h))⟩
   simp
   rfl
end Go.GL


set_option linter.unusedVariables false
namespace Go.GL
open Go.Proofs
theorem num_int : NumTy Try.prog 3 1 := NumTy.int
theorem num_2 : NumTy Try.prog 52 2 := NumTy.arr num_int (by decide)
theorem num_cell : NumTy Try.prog 40 2 := NumTy.str (ns := [1, 1]) (by exact ⟨num_int, num_int, trivial⟩) (by decide)
theorem laid : laidOutB Try.prog = true := by kernel_rfl
theorem own : ownKnob Try.prog.godebug = none := by kernel_rfl
end Go.GL

