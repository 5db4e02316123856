/- Part 4: contracts of the functions that the law reaches: each answers as its model does. No condition beyond those that each theorem states. -/
import Derived.Test.YtjdfiilfccffnaaPart3
import Derived.Lib.Overlaps
import Derived.Laws.Externs
set_option linter.unusedVariables false
namespace Go.GL
open Go.Proofs
attribute [local irreducible] wpList Code.wp Exit.then Exit.inBlock Ends Tri TriH OpV OpG FnC epf wpAnyH
/-- Cells in an own row. -/
abbrev rowC (b : Option Addr) (cap : Nat) (out : List Cell) : Asrt := Row b cap out.length 28 2 (encs out)
/-- The corner of a square about a place. -/
def R7.cn (lv : Nat) (c : Cell) : Cell := match lv with
 | 0 => c
 | m + 1 => ⟨c.x - 2 ^ m, c.y - 2 ^ m⟩
/-- How far the program goes from a square's middle to its quarters'. -/
def R7.hh (m : Nat) : Int := if m = 0 then 1 else R7.qh (m + 1)
theorem R7.hh_ok (m : Nat) (c : Cell) (dx dy : Int) : R7.cn m ⟨c.x - R7.hh m + dx, c.y - R7.hh m + dy⟩ = ⟨(R7.cn (m + 1) c).x + dx, (R7.cn (m + 1) c).y + dy⟩ := by
 unfold R7.hh R7.cn
 cases m with
 | zero => rfl
 | succ m =>
  simp only [Nat.succ_ne_zero, if_false, R7.p2h, Cell.mk.injEq, Nat.add_eq_zero_iff, and_false]
  have : (2:Int) ^ (m + 1) = 2 ^ m * 2 := Int.pow_succ 2 m
  rw [this]
  generalize (2:Int) ^ m = k
  omega
def EachSpec (lv : Nat) : Prop := ∀ (A : List Asrt) (I : List Chunk) (ns : List Node) (a b : Option Addr) (cap cap2 : Nat) (room n cx cy : Int) (c : Cell) (out r : List Cell), cx = c.x → cy = c.y → R6.right ns room → SlAt I a ns → R6.inS ns n → (R6.nd ns n).lv = lv →
 -1152921504606846976 ≤ c.x - 2 ^ lv ∧ c.x + 2 ^ lv ≤ 1152921504606846976 ∧ -1152921504606846976 ≤ c.y - 2 ^ lv ∧ c.y + 2 ^ lv ≤ 1152921504606846976 → R7.flat ns lv n (R7.cn lv c) = r → out.length + r.length ≤ 100000000 →
 FnC Try.prog 48 [storeV a ns.length cap room, .int .i64 n, .agg [.int .i64 cx, .int .i64 cy].toArray, .slice b out.length cap2].toArray (Row b cap2 out.length 28 2 (encs out) :: A) I (fun v A' I' => ∃ b' cap', v = .slice b' (out ++ r).length cap' ∧ A' = Row b' cap' (out ++ r).length 28 2 (encs (out ++ r)) :: A ∧ I = I')
set_option maxHeartbeats 2000000 in
set_option maxRecDepth 100000 in
theorem square_each_step (lv : Nat) (ih : ∀ m, m < lv → EachSpec m) : EachSpec lv := by
 intro A I ns a b cap cap2 room n cx cy c out r hcx hcy hr hs hn hlv hc hfl hlen
 subst hcx; subst hcy
 obtain ⟨hn0, hn1⟩ := hn
 have hmod := hr.modTo.mod.nd ⟨hn0, hn1⟩
 have hmod' : 0 ≤ (ns.getD n.toNat default).lv ∧ (ns.getD n.toNat default).lv ≤ 42 := ⟨hmod.1, hmod.2.1⟩
 have hlv' : (ns.getD n.toNat default).lv = lv := hlv
 have hp : ((2 : Int) ^ lv) / 2 ^ 2 = R7.qh lv := rfl
 obtain ⟨hq0, hq1⟩ := R7.qh_bd (lv := lv) (by omega)
 skip
 skip
 refine fn_enter4 Try.func48 rfl Try.ntmps48 rfl fun w0 => ?_
 refine tS (tR ?_)
 refine tri_g (opg_box_agg rfl) rfl ?_
 rintro _ _ _ ⟨b4, rfl, rfl, rfl⟩
 refine tri_g (opg_box_agg rfl) rfl ?_
 rintro _ _ _ ⟨b6, rfl, rfl, rfl⟩
 refine tA rfl rfl (tN (tT (tS (tR ?_))))
 refine tri_v (opv_fieldAddr rfl rfl) rfl ?_
 refine tri_v (opv_load1 rfl rfl rfl) rfl ?_
 refine tM rfl rfl ?_
 refine tri_v (opv_indexAddrS rfl rfl (by omega) (by omega) (by assumption) rfl) rfl ?_
 refine tri_v (opv_loadEA rfl (by assumption) rfl (by omega) rfl rfl) rfl ?_
 refine tri_g opg_alloc rfl ?_
 rintro _ _ _ ⟨b9, rfl, rfl, rfl⟩
 refine tri_g (opg_store rfl rfl rfl rfl rfl rfl) rfl ?_
 rintro _ _ _ ⟨rfl, rfl⟩
 refine tN (tT (tS (tri_block (tS (tR ?_)))))
 refine tri_v (opv_fieldAddr rfl rfl) rfl ?_
 refine tri_v (opv_load1 rfl rfl rfl) rfl ?_
 refine tri_v (opv_eql rfl rfl) rfl ?_
 refine tA rfl rfl (tN (tT ?_))
 refine tri_cond_dec rfl (fun h0 => ?_) (fun h0 => ?_)
 ·rw [R7.flat_dead h0] at hfl
  subst hfl
  refine tS (tR (tM rfl rfl (tA rfl rfl (tN (tT (tri_ret ?_))))))
  refine tri_inBlock_ret ?_
  refine tri_then_ret ?_
  refine tri_end (rowC b cap2 out :: A) Suf.h rfl (.cons (rv_tmp rfl) .nil) ⟨b, cap2, by rw [List.append_nil]; rfl, by rw [List.append_nil], rfl⟩
 refine tS (tR ?_)
 refine tri_v (opv_fieldAddr rfl rfl) rfl ?_
 refine tri_v (opv_load1 rfl rfl rfl) rfl ?_
 refine tri_v (opv_eql rfl rfl) rfl ?_
 refine tA rfl rfl (tN (tT ?_))
 refine tri_cond_dec rfl (fun h1 => ?_) (fun h1 => ?_)
 ·have hl0 : lv = 0 := by
   have h2 : (R6.nd ns n).lv = 0 := h1
   omega
  subst hl0
  rw [R7.flat_zero h0] at hfl
  subst hfl
  have e1 : out ++ [R7.cn 0 c] = out ++ [c] := rfl
  have e2 : encs (out ++ [c]) = encs out ++ [.int .i64 c.x, .int .i64 c.y] := by rw [encs_append]; rfl
  refine tS (tR (tM rfl rfl ?_))
  refine tri_v (opv_loadA rfl rfl rfl) rfl ?_
  refine tri_g (opg_buildSlice rfl rfl rfl rfl) rfl ?_
  rintro _ _ _ ⟨b31, rfl, rfl, rfl⟩
  refine tri_g (opg_appendB rfl rfl rfl rfl (by omega) rfl) rfl ?_
  rintro _ _ _ ⟨aa, cc, rfl, rfl, rfl⟩
  refine tA rfl rfl (tN (tT (tri_ret ?_)))
  refine tri_inBlock_ret ?_
  refine tri_then_ret ?_
  refine tri_end (Row aa cc (out.length + 1) 28 2 (encs out ++ [.int .i64 c.x, .int .i64 c.y]) :: A) ⟨[_, _, _, _], rfl⟩ rfl (.cons (rv_tmp rfl) .nil) ⟨aa, cc, by rw [e1, List.length_append]; rfl, by rw [e1, e2, List.length_append]; rfl, rfl⟩
 have hl0 : ¬ (R6.nd ns n).lv = 0 := h1
 obtain ⟨m, rfl⟩ : ∃ m, lv = m + 1 := ⟨lv - 1, by omega⟩
 have hfl := (show R7.flat ns (m + 1) n (R7.cn (m + 1) c) = R7.flat ns m (R6.nd ns n).k0 ⟨(R7.cn (m + 1) c).x + 0, (R7.cn (m + 1) c).y + 0⟩ ++ R7.flat ns m (R6.nd ns n).k1 ⟨(R7.cn (m + 1) c).x + 2 ^ m, (R7.cn (m + 1) c).y + 0⟩ ++ R7.flat ns m (R6.nd ns n).k2 ⟨(R7.cn (m + 1) c).x + 0, (R7.cn (m + 1) c).y + 2 ^ m⟩ ++ R7.flat ns m (R6.nd ns n).k3 ⟨(R7.cn (m + 1) c).x + 2 ^ m, (R7.cn (m + 1) c).y + 2 ^ m⟩ by rw [R7.flat_succ h0]; simp only [Int.add_zero]).symm.trans hfl
 have kid := fun q hq => hr.kidN ⟨hn0, hn1⟩ hlv (q := q) hq
 have hpow : (2:Int) ^ (m + 1) = 2 ^ m * 2 := Int.pow_succ 2 m
 have hpos : (0:Int) < 2 ^ m := Int.pow_pos (by omega)
 have hple : (2:Int) ^ m ≤ 2199023255552 := by
  have h3 : (2:Nat) ^ m ≤ 2 ^ 41 := Nat.pow_le_pow_right (by omega) (by omega)
  have h4 : (2:Int) ^ m = ((2 ^ m : Nat) : Int) := by simp
  rw [h4]
  generalize (2:Nat) ^ m = k at h3
  omega
 rw [hpow] at hc
 obtain ⟨hc1, hc2, hc3, hc4⟩ := hc
 obtain ⟨r0, hr0⟩ : ∃ r, R7.flat ns m (R6.nd ns n).k0 ⟨(R7.cn (m + 1) c).x + 0, (R7.cn (m + 1) c).y + 0⟩ = r := ⟨_, rfl⟩
 obtain ⟨r1, hr1⟩ : ∃ r, R7.flat ns m (R6.nd ns n).k1 ⟨(R7.cn (m + 1) c).x + 2 ^ m, (R7.cn (m + 1) c).y + 0⟩ = r := ⟨_, rfl⟩
 obtain ⟨r2, hr2⟩ : ∃ r, R7.flat ns m (R6.nd ns n).k2 ⟨(R7.cn (m + 1) c).x + 0, (R7.cn (m + 1) c).y + 2 ^ m⟩ = r := ⟨_, rfl⟩
 obtain ⟨r3, hr3⟩ : ∃ r, R7.flat ns m (R6.nd ns n).k3 ⟨(R7.cn (m + 1) c).x + 2 ^ m, (R7.cn (m + 1) c).y + 2 ^ m⟩ = r := ⟨_, rfl⟩
 rw [hr0, hr1, hr2, hr3] at hfl
 subst hfl
 simp only [List.length_append] at hlen
 have hh := R7.hh_ok m c
 skip
 refine tri_skip ?_
 refine tri_inBlock ?_
 refine tT (tS (tR ?_))
 refine tri_v (opv_fieldAddr rfl rfl) rfl ?_
 refine tri_v (opv_load1 rfl rfl rfl) rfl ?_
 refine tri_v (opv_shl1 rfl rfl (by omega) (by omega)) rfl ?_
 skip
 refine tri_v (opv_shrN (k := 2) rfl rfl (by exact Int.le_of_lt (Int.pow_pos (by decide))) rfl (by decide)) rfl ?_
 rw [show (2:Int) ^ (ns.getD n.toNat default).lv.toNat / 2 ^ 2 = R7.qh (m + 1) by rw [hlv', Int.toNat_natCast]; rfl]
 refine tA rfl rfl (tN (tT (tS (tS (tR ?_)))))
 refine tri_v (opv_fieldAddr rfl rfl) rfl ?_
 refine tri_v (opv_loadA rfl rfl rfl) rfl ?_
 refine tM rfl rfl (tN (tT (tri_block ?_)))
 refine tri_sub (F' := [(3, .slice b out.length cap2), (4, pt b4 0), (6, pt b6 0), (9, pt b9 0), (10, .int .i64 (R7.qh (m + 1))), (38, .agg [.int .i64 (ns.getD n.toNat default).k0, .int .i64 (ns.getD n.toNat default).k1, .int .i64 (ns.getD n.toNat default).k2, .int .i64 (ns.getD n.toNat default).k3].toArray), (39, .int .i64 (0 : Int))]) ⟨rfl, rfl, rfl, rfl, rfl, rfl, rfl, trivial⟩ ?_
 have hhb : 0 ≤ R7.hh m ∧ R7.hh m ≤ 2 ^ m := by
  unfold R7.hh
  split
  ·omega
  ·obtain ⟨j, rfl⟩ : ∃ j, m = j + 1 := ⟨m - 1, by omega⟩
   rw [R7.p2h]
   have e : (2:Int) ^ (j + 1) = 2 ^ j * 2 := Int.pow_succ 2 j
   have e2 : (0:Int) < 2 ^ j := Int.pow_pos (by omega)
   omega
 obtain ⟨hhb0, hhb1⟩ := hhb
 rcases Nat.eq_zero_or_pos m with e0 | e0
 ·have hq : R7.qh (m + 1) = 0 := by
   subst e0; decide
  have hst : (if (2 * 0 : Int) < 1 then 1 else 2 * 0) = (2:Int) ^ m := by
   subst e0; decide
  have hh1 : R7.hh m = 1 := if_pos e0
  rw [hq]
  refine tri_rounds 5 ?_
  refine tri_round ?_
  refine tS (tR ?_)
  refine tri_v (opv_lss rfl rfl) rfl ?_
  refine tN (tT (tS ?_))
  refine tri_cond_is rfl (by decide) ?_
  refine tri_skip (tT (tS (tri_block (tS (tR (tM rfl rfl ?_))))))
  refine tri_v (opv_index rfl rfl (by decide) (by decide) rfl rfl) rfl ?_
  refine tA rfl rfl (tA rfl rfl (tN (tT (tS (tR ?_)))))
  refine tri_v (opv_fieldAddr rfl rfl) rfl ?_
  refine tri_v (opv_load1 rfl rfl rfl) rfl ?_
  refine tM rfl rfl ?_
  refine tri_v (opv_sub rfl rfl (w64 (by omega) (by omega))) rfl ?_
  refine tri_v (opv_fieldAddr rfl rfl) rfl ?_
  refine tri_v (opv_load1 rfl rfl rfl) rfl ?_
  refine tM rfl rfl ?_
  refine tri_v (opv_sub rfl rfl (w64 (by omega) (by omega))) rfl ?_
  refine tri_v (opv_buildS rfl rfl) rfl ?_
  refine tri_g opg_alloc rfl ?_
  rintro _ _ _ ⟨b13, rfl, rfl, rfl⟩
  refine tri_g (opg_store rfl rfl rfl rfl rfl rfl) rfl ?_
  rintro _ _ _ ⟨rfl, rfl⟩
  refine tN (tT (tS (tS (tR ?_))))
  refine tri_v (opv_fieldAddr rfl rfl) rfl ?_
  refine tri_v (opv_load1 rfl rfl rfl) rfl ?_
  refine tri_v (opv_eql rfl rfl) rfl ?_
  refine tN (tT ?_)
  refine tri_cond_is rfl (by omega) ?_
  refine tR ?_
  refine tri_v (opv_fieldAddr rfl rfl) rfl ?_
  refine tri_v (opv_load1 rfl rfl rfl) rfl ?_
  refine tri_v (opv_sub rfl rfl (w64 (by omega) (by omega))) rfl ?_
  refine tri_v (opv_fieldAddr rfl rfl) rfl ?_
  refine tri_v (opv_load1 rfl rfl rfl) rfl ?_
  refine tri_v (opv_sub rfl rfl (w64 (by omega) (by omega))) rfl ?_
  refine tri_v (opv_buildS rfl rfl) rfl ?_
  refine tri_g (opg_store rfl rfl rfl rfl rfl rfl) rfl ?_
  rintro _ _ _ ⟨rfl, rfl⟩
  refine tN (tT (tS (tR (tM rfl rfl ?_))))
  refine tri_v (opv_mul rfl rfl (w64 (by omega) (by omega))) rfl ?_
  refine tri_v (opv_max2 rfl rfl) rfl ?_
  rw [hst]
  refine tA rfl rfl (tN (tT (tR ?_)))
  refine tri_v (opv_loadA rfl rfl rfl) rfl ?_
  refine tM rfl rfl ?_
  refine tri_v (opv_fieldAddr rfl rfl) rfl ?_
  refine tri_v (opv_load1 rfl rfl rfl) rfl ?_
  refine tM rfl rfl ?_
  refine tri_v (opv_remE rfl rfl (by omega) (by omega)) rfl ?_
  refine tM rfl rfl ?_
  refine tri_v (opv_mul rfl rfl (w64 (by omega) (by omega))) rfl ?_
  refine tU rfl rfl (by omega) (by omega) rfl ?_
  refine tri_v (opv_fieldAddr rfl rfl) rfl ?_
  refine tri_v (opv_load1 rfl rfl rfl) rfl ?_
  refine tM rfl rfl ?_
  refine tri_v (opv_quoE rfl rfl (by omega) (by omega) (by omega)) rfl ?_
  refine tM rfl rfl ?_
  refine tri_v (opv_mul rfl rfl (w64 (by omega) (by omega))) rfl ?_
  refine tU rfl rfl (by omega) (by omega) rfl ?_
  refine tri_v (opv_buildS rfl rfl) rfl ?_
  refine tM rfl rfl ?_
  refine tri_perm (A := ?a1_0 :: ?a1_1 :: ?a1_2 :: ?a1_3 :: ?a1_4 :: ?T1) (B := ?a1_4 :: ?a1_0 :: ?a1_1 :: ?a1_2 :: ?a1_3 :: ?T1) (by exact permL [4, 0, 1, 2, 3] [?a1_0, ?a1_1, ?a1_2, ?a1_3, ?a1_4] ?T1 (by decide) rfl) ?_
  refine tri_g (opg_call (xs := [_, _, _, _]) rfl (ih m (by omega) _ _ _ _ _ _ _ room _ _ _ ⟨c.x - R7.hh m + 0, c.y - R7.hh m + 0⟩ out r0 (by simp only; omega) (by simp only; omega) hr hs (kid _ (by simp [Node.kids, R6.nd])).1 (kid _ (by simp [Node.kids, R6.nd])).2.2 (by simp only; omega) ((congrArg (R7.flat ns m _) (R7.hh_ok m c (0) (0))).trans hr0) (by omega))) rfl ?_
  rintro _ _ _ ⟨b0', q0, rfl, rfl, rfl⟩
  refine tA rfl rfl (tN ?_)
  refine tri_inBlock ?_
  refine tT (tR ?_)
  refine tU rfl rfl (by omega) (by omega) rfl ?_
  refine tM rfl rfl (tN (tT ?_))
  refine tri_round ?_
  refine tS (tR ?_)
  refine tri_v (opv_lss rfl rfl) rfl ?_
  refine tN (tT (tS ?_))
  refine tri_perm (A := ?a2_0 :: ?a2_1 :: ?T2) (B := ?a2_1 :: ?a2_0 :: ?T2) (by exact permL [1, 0] [?a2_0, ?a2_1] ?T2 (by decide) rfl) ?_
  refine tri_drop ?_
  skip
  refine tri_cond_is rfl (by decide) ?_
  refine tri_skip (tT (tS (tri_block (tS (tR (tM rfl rfl ?_))))))
  refine tri_v (opv_index rfl rfl (by decide) (by decide) rfl rfl) rfl ?_
  refine tA rfl rfl (tA rfl rfl (tN (tT (tS (tR ?_)))))
  refine tri_v (opv_fieldAddr rfl rfl) rfl ?_
  refine tri_v (opv_load1 rfl rfl rfl) rfl ?_
  refine tM rfl rfl ?_
  refine tri_v (opv_sub rfl rfl (w64 (by omega) (by omega))) rfl ?_
  refine tri_v (opv_fieldAddr rfl rfl) rfl ?_
  refine tri_v (opv_load1 rfl rfl rfl) rfl ?_
  refine tM rfl rfl ?_
  refine tri_v (opv_sub rfl rfl (w64 (by omega) (by omega))) rfl ?_
  refine tri_v (opv_buildS rfl rfl) rfl ?_
  refine tri_g opg_alloc rfl ?_
  rintro _ _ _ ⟨b13, rfl, rfl, rfl⟩
  refine tri_g (opg_store rfl rfl rfl rfl rfl rfl) rfl ?_
  rintro _ _ _ ⟨rfl, rfl⟩
  refine tN (tT (tS (tS (tR ?_))))
  refine tri_v (opv_fieldAddr rfl rfl) rfl ?_
  refine tri_v (opv_load1 rfl rfl rfl) rfl ?_
  refine tri_v (opv_eql rfl rfl) rfl ?_
  refine tN (tT ?_)
  refine tri_cond_is rfl (by omega) ?_
  refine tR ?_
  refine tri_v (opv_fieldAddr rfl rfl) rfl ?_
  refine tri_v (opv_load1 rfl rfl rfl) rfl ?_
  refine tri_v (opv_sub rfl rfl (w64 (by omega) (by omega))) rfl ?_
  refine tri_v (opv_fieldAddr rfl rfl) rfl ?_
  refine tri_v (opv_load1 rfl rfl rfl) rfl ?_
  refine tri_v (opv_sub rfl rfl (w64 (by omega) (by omega))) rfl ?_
  refine tri_v (opv_buildS rfl rfl) rfl ?_
  refine tri_g (opg_store rfl rfl rfl rfl rfl rfl) rfl ?_
  rintro _ _ _ ⟨rfl, rfl⟩
  refine tN (tT (tS (tR (tM rfl rfl ?_))))
  refine tri_v (opv_mul rfl rfl (w64 (by omega) (by omega))) rfl ?_
  refine tri_v (opv_max2 rfl rfl) rfl ?_
  rw [hst]
  refine tA rfl rfl (tN (tT (tR ?_)))
  refine tri_v (opv_loadA rfl rfl rfl) rfl ?_
  refine tM rfl rfl ?_
  refine tri_v (opv_fieldAddr rfl rfl) rfl ?_
  refine tri_v (opv_load1 rfl rfl rfl) rfl ?_
  refine tM rfl rfl ?_
  refine tri_v (opv_remE rfl rfl (by omega) (by omega)) rfl ?_
  refine tM rfl rfl ?_
  refine tri_v (opv_mul rfl rfl (w64 (by omega) (by omega))) rfl ?_
  refine tU rfl rfl (by omega) (by omega) rfl ?_
  refine tri_v (opv_fieldAddr rfl rfl) rfl ?_
  refine tri_v (opv_load1 rfl rfl rfl) rfl ?_
  refine tM rfl rfl ?_
  refine tri_v (opv_quoE rfl rfl (by omega) (by omega) (by omega)) rfl ?_
  refine tM rfl rfl ?_
  refine tri_v (opv_mul rfl rfl (w64 (by omega) (by omega))) rfl ?_
  refine tU rfl rfl (by omega) (by omega) rfl ?_
  refine tri_v (opv_buildS rfl rfl) rfl ?_
  refine tM rfl rfl ?_
  refine tri_perm (A := ?a3_0 :: ?a3_1 :: ?T3) (B := ?a3_1 :: ?a3_0 :: ?T3) (by exact permL [1, 0] [?a3_0, ?a3_1] ?T3 (by decide) rfl) ?_
  refine tri_g (opg_call (xs := [_, _, _, _]) rfl (ih m (by omega) _ _ _ _ _ _ _ room _ _ _ ⟨c.x - R7.hh m + 2 ^ m, c.y - R7.hh m + 0⟩ (out ++ r0) r1 (by simp only; omega) (by simp only; omega) hr hs (kid _ (by simp [Node.kids, R6.nd])).1 (kid _ (by simp [Node.kids, R6.nd])).2.2 (by simp only; omega) ((congrArg (R7.flat ns m _) (R7.hh_ok m c (2 ^ m) (0))).trans hr1) (by simp only [List.length_append]; omega))) rfl ?_
  rintro _ _ _ ⟨b1', q1, rfl, rfl, rfl⟩
  refine tA rfl rfl (tN ?_)
  refine tri_inBlock ?_
  refine tT (tR ?_)
  refine tU rfl rfl (by omega) (by omega) rfl ?_
  refine tM rfl rfl (tN (tT ?_))
  refine tri_round ?_
  refine tS (tR ?_)
  refine tri_v (opv_lss rfl rfl) rfl ?_
  refine tN (tT (tS ?_))
  refine tri_perm (A := ?a4_0 :: ?a4_1 :: ?T4) (B := ?a4_1 :: ?a4_0 :: ?T4) (by exact permL [1, 0] [?a4_0, ?a4_1] ?T4 (by decide) rfl) ?_
  refine tri_drop ?_
  skip
  refine tri_cond_is rfl (by decide) ?_
  refine tri_skip (tT (tS (tri_block (tS (tR (tM rfl rfl ?_))))))
  refine tri_v (opv_index rfl rfl (by decide) (by decide) rfl rfl) rfl ?_
  refine tA rfl rfl (tA rfl rfl (tN (tT (tS (tR ?_)))))
  refine tri_v (opv_fieldAddr rfl rfl) rfl ?_
  refine tri_v (opv_load1 rfl rfl rfl) rfl ?_
  refine tM rfl rfl ?_
  refine tri_v (opv_sub rfl rfl (w64 (by omega) (by omega))) rfl ?_
  refine tri_v (opv_fieldAddr rfl rfl) rfl ?_
  refine tri_v (opv_load1 rfl rfl rfl) rfl ?_
  refine tM rfl rfl ?_
  refine tri_v (opv_sub rfl rfl (w64 (by omega) (by omega))) rfl ?_
  refine tri_v (opv_buildS rfl rfl) rfl ?_
  refine tri_g opg_alloc rfl ?_
  rintro _ _ _ ⟨b13, rfl, rfl, rfl⟩
  refine tri_g (opg_store rfl rfl rfl rfl rfl rfl) rfl ?_
  rintro _ _ _ ⟨rfl, rfl⟩
  refine tN (tT (tS (tS (tR ?_))))
  refine tri_v (opv_fieldAddr rfl rfl) rfl ?_
  refine tri_v (opv_load1 rfl rfl rfl) rfl ?_
  refine tri_v (opv_eql rfl rfl) rfl ?_
  refine tN (tT ?_)
  refine tri_cond_is rfl (by omega) ?_
  refine tR ?_
  refine tri_v (opv_fieldAddr rfl rfl) rfl ?_
  refine tri_v (opv_load1 rfl rfl rfl) rfl ?_
  refine tri_v (opv_sub rfl rfl (w64 (by omega) (by omega))) rfl ?_
  refine tri_v (opv_fieldAddr rfl rfl) rfl ?_
  refine tri_v (opv_load1 rfl rfl rfl) rfl ?_
  refine tri_v (opv_sub rfl rfl (w64 (by omega) (by omega))) rfl ?_
  refine tri_v (opv_buildS rfl rfl) rfl ?_
  refine tri_g (opg_store rfl rfl rfl rfl rfl rfl) rfl ?_
  rintro _ _ _ ⟨rfl, rfl⟩
  refine tN (tT (tS (tR (tM rfl rfl ?_))))
  refine tri_v (opv_mul rfl rfl (w64 (by omega) (by omega))) rfl ?_
  refine tri_v (opv_max2 rfl rfl) rfl ?_
  rw [hst]
  refine tA rfl rfl (tN (tT (tR ?_)))
  refine tri_v (opv_loadA rfl rfl rfl) rfl ?_
  refine tM rfl rfl ?_
  refine tri_v (opv_fieldAddr rfl rfl) rfl ?_
  refine tri_v (opv_load1 rfl rfl rfl) rfl ?_
  refine tM rfl rfl ?_
  refine tri_v (opv_remE rfl rfl (by omega) (by omega)) rfl ?_
  refine tM rfl rfl ?_
  refine tri_v (opv_mul rfl rfl (w64 (by omega) (by omega))) rfl ?_
  refine tU rfl rfl (by omega) (by omega) rfl ?_
  refine tri_v (opv_fieldAddr rfl rfl) rfl ?_
  refine tri_v (opv_load1 rfl rfl rfl) rfl ?_
  refine tM rfl rfl ?_
  refine tri_v (opv_quoE rfl rfl (by omega) (by omega) (by omega)) rfl ?_
  refine tM rfl rfl ?_
  refine tri_v (opv_mul rfl rfl (w64 (by omega) (by omega))) rfl ?_
  refine tU rfl rfl (by omega) (by omega) rfl ?_
  refine tri_v (opv_buildS rfl rfl) rfl ?_
  refine tM rfl rfl ?_
  refine tri_perm (A := ?a5_0 :: ?a5_1 :: ?T5) (B := ?a5_1 :: ?a5_0 :: ?T5) (by exact permL [1, 0] [?a5_0, ?a5_1] ?T5 (by decide) rfl) ?_
  refine tri_g (opg_call (xs := [_, _, _, _]) rfl (ih m (by omega) _ _ _ _ _ _ _ room _ _ _ ⟨c.x - R7.hh m + 0, c.y - R7.hh m + 2 ^ m⟩ (out ++ r0 ++ r1) r2 (by simp only; omega) (by simp only; omega) hr hs (kid _ (by simp [Node.kids, R6.nd])).1 (kid _ (by simp [Node.kids, R6.nd])).2.2 (by simp only; omega) ((congrArg (R7.flat ns m _) (R7.hh_ok m c (0) (2 ^ m))).trans hr2) (by simp only [List.length_append]; omega))) rfl ?_
  rintro _ _ _ ⟨b2', q2, rfl, rfl, rfl⟩
  refine tA rfl rfl (tN ?_)
  refine tri_inBlock ?_
  refine tT (tR ?_)
  refine tU rfl rfl (by omega) (by omega) rfl ?_
  refine tM rfl rfl (tN (tT ?_))
  refine tri_round ?_
  refine tS (tR ?_)
  refine tri_v (opv_lss rfl rfl) rfl ?_
  refine tN (tT (tS ?_))
  refine tri_perm (A := ?a6_0 :: ?a6_1 :: ?T6) (B := ?a6_1 :: ?a6_0 :: ?T6) (by exact permL [1, 0] [?a6_0, ?a6_1] ?T6 (by decide) rfl) ?_
  refine tri_drop ?_
  skip
  refine tri_cond_is rfl (by decide) ?_
  refine tri_skip (tT (tS (tri_block (tS (tR (tM rfl rfl ?_))))))
  refine tri_v (opv_index rfl rfl (by decide) (by decide) rfl rfl) rfl ?_
  refine tA rfl rfl (tA rfl rfl (tN (tT (tS (tR ?_)))))
  refine tri_v (opv_fieldAddr rfl rfl) rfl ?_
  refine tri_v (opv_load1 rfl rfl rfl) rfl ?_
  refine tM rfl rfl ?_
  refine tri_v (opv_sub rfl rfl (w64 (by omega) (by omega))) rfl ?_
  refine tri_v (opv_fieldAddr rfl rfl) rfl ?_
  refine tri_v (opv_load1 rfl rfl rfl) rfl ?_
  refine tM rfl rfl ?_
  refine tri_v (opv_sub rfl rfl (w64 (by omega) (by omega))) rfl ?_
  refine tri_v (opv_buildS rfl rfl) rfl ?_
  refine tri_g opg_alloc rfl ?_
  rintro _ _ _ ⟨b13, rfl, rfl, rfl⟩
  refine tri_g (opg_store rfl rfl rfl rfl rfl rfl) rfl ?_
  rintro _ _ _ ⟨rfl, rfl⟩
  refine tN (tT (tS (tS (tR ?_))))
  refine tri_v (opv_fieldAddr rfl rfl) rfl ?_
  refine tri_v (opv_load1 rfl rfl rfl) rfl ?_
  refine tri_v (opv_eql rfl rfl) rfl ?_
  refine tN (tT ?_)
  refine tri_cond_is rfl (by omega) ?_
  refine tR ?_
  refine tri_v (opv_fieldAddr rfl rfl) rfl ?_
  refine tri_v (opv_load1 rfl rfl rfl) rfl ?_
  refine tri_v (opv_sub rfl rfl (w64 (by omega) (by omega))) rfl ?_
  refine tri_v (opv_fieldAddr rfl rfl) rfl ?_
  refine tri_v (opv_load1 rfl rfl rfl) rfl ?_
  refine tri_v (opv_sub rfl rfl (w64 (by omega) (by omega))) rfl ?_
  refine tri_v (opv_buildS rfl rfl) rfl ?_
  refine tri_g (opg_store rfl rfl rfl rfl rfl rfl) rfl ?_
  rintro _ _ _ ⟨rfl, rfl⟩
  refine tN (tT (tS (tR (tM rfl rfl ?_))))
  refine tri_v (opv_mul rfl rfl (w64 (by omega) (by omega))) rfl ?_
  refine tri_v (opv_max2 rfl rfl) rfl ?_
  rw [hst]
  refine tA rfl rfl (tN (tT (tR ?_)))
  refine tri_v (opv_loadA rfl rfl rfl) rfl ?_
  refine tM rfl rfl ?_
  refine tri_v (opv_fieldAddr rfl rfl) rfl ?_
  refine tri_v (opv_load1 rfl rfl rfl) rfl ?_
  refine tM rfl rfl ?_
  refine tri_v (opv_remE rfl rfl (by omega) (by omega)) rfl ?_
  refine tM rfl rfl ?_
  refine tri_v (opv_mul rfl rfl (w64 (by omega) (by omega))) rfl ?_
  refine tU rfl rfl (by omega) (by omega) rfl ?_
  refine tri_v (opv_fieldAddr rfl rfl) rfl ?_
  refine tri_v (opv_load1 rfl rfl rfl) rfl ?_
  refine tM rfl rfl ?_
  refine tri_v (opv_quoE rfl rfl (by omega) (by omega) (by omega)) rfl ?_
  refine tM rfl rfl ?_
  refine tri_v (opv_mul rfl rfl (w64 (by omega) (by omega))) rfl ?_
  refine tU rfl rfl (by omega) (by omega) rfl ?_
  refine tri_v (opv_buildS rfl rfl) rfl ?_
  refine tM rfl rfl ?_
  refine tri_perm (A := ?a7_0 :: ?a7_1 :: ?T7) (B := ?a7_1 :: ?a7_0 :: ?T7) (by exact permL [1, 0] [?a7_0, ?a7_1] ?T7 (by decide) rfl) ?_
  refine tri_g (opg_call (xs := [_, _, _, _]) rfl (ih m (by omega) _ _ _ _ _ _ _ room _ _ _ ⟨c.x - R7.hh m + 2 ^ m, c.y - R7.hh m + 2 ^ m⟩ (out ++ r0 ++ r1 ++ r2) r3 (by simp only; omega) (by simp only; omega) hr hs (kid _ (by simp [Node.kids, R6.nd])).1 (kid _ (by simp [Node.kids, R6.nd])).2.2 (by simp only; omega) ((congrArg (R7.flat ns m _) (R7.hh_ok m c (2 ^ m) (2 ^ m))).trans hr3) (by simp only [List.length_append]; omega))) rfl ?_
  rintro _ _ _ ⟨b3', q3, rfl, rfl, rfl⟩
  refine tA rfl rfl (tN ?_)
  refine tri_inBlock ?_
  refine tT (tR ?_)
  refine tU rfl rfl (by omega) (by omega) rfl ?_
  refine tM rfl rfl (tN (tT ?_))
  refine tri_round ?_
  refine tS (tR ?_)
  refine tri_v (opv_lss rfl rfl) rfl ?_
  refine tN (tT (tS ?_))
  refine tri_perm (A := ?a8_0 :: ?a8_1 :: ?T8) (B := ?a8_1 :: ?a8_0 :: ?T8) (by exact permL [1, 0] [?a8_0, ?a8_1] ?T8 (by decide) rfl) ?_
  refine tri_drop ?_
  refine tri_cond_not rfl (by decide) ?_
  refine tri_exit ?_
  refine tri_then_exit ?_
  refine tri_then_exit ?_
  refine tri_inBlock_hit rfl ?_
  refine tT (tS (tR (tM rfl rfl (tA rfl rfl (tN (tT (tri_ret ?_)))))))
  refine tri_perm (A := ?a9_0 :: ?a9_1 :: ?a9_2 :: ?a9_3 :: ?T9) (B := ?a9_1 :: ?a9_2 :: ?a9_3 :: ?a9_0 :: ?T9) (by exact permL [1, 2, 3, 0] [?a9_0, ?a9_1, ?a9_2, ?a9_3] ?T9 (by decide) rfl) ?_
  refine tri_end (rowC b3' q3 (out ++ r0 ++ r1 ++ r2 ++ r3) :: A) ⟨[_, _, _], rfl⟩ rfl (.cons (rv_tmp rfl) .nil) ⟨b3', q3, by simp only [List.append_assoc]; rfl, by simp only [List.append_assoc], rfl⟩
 ·have hq : R7.qh (m + 1) = R7.hh m := by
   unfold R7.hh; rw [if_neg (by omega)]
  have hst : (if (2 * R7.hh m : Int) < 1 then 1 else 2 * R7.hh m) = (2:Int) ^ m := by
   obtain ⟨j, rfl⟩ : ∃ j, m = j + 1 := ⟨m - 1, by omega⟩
   have e : (2:Int) ^ (j + 1) = 2 ^ j * 2 := Int.pow_succ 2 j
   rw [← hq, R7.p2h, e, if_neg (by omega)]
   omega
  rw [hq]
  refine tri_rounds 5 ?_
  refine tri_round ?_
  refine tS (tR ?_)
  refine tri_v (opv_lss rfl rfl) rfl ?_
  refine tN (tT (tS ?_))
  refine tri_cond_is rfl (by decide) ?_
  refine tri_skip (tT (tS (tri_block (tS (tR (tM rfl rfl ?_))))))
  refine tri_v (opv_index rfl rfl (by decide) (by decide) rfl rfl) rfl ?_
  refine tA rfl rfl (tA rfl rfl (tN (tT (tS (tR ?_)))))
  refine tri_v (opv_fieldAddr rfl rfl) rfl ?_
  refine tri_v (opv_load1 rfl rfl rfl) rfl ?_
  refine tM rfl rfl ?_
  refine tri_v (opv_sub rfl rfl (w64 (by omega) (by omega))) rfl ?_
  refine tri_v (opv_fieldAddr rfl rfl) rfl ?_
  refine tri_v (opv_load1 rfl rfl rfl) rfl ?_
  refine tM rfl rfl ?_
  refine tri_v (opv_sub rfl rfl (w64 (by omega) (by omega))) rfl ?_
  refine tri_v (opv_buildS rfl rfl) rfl ?_
  refine tri_g opg_alloc rfl ?_
  rintro _ _ _ ⟨b13, rfl, rfl, rfl⟩
  refine tri_g (opg_store rfl rfl rfl rfl rfl rfl) rfl ?_
  rintro _ _ _ ⟨rfl, rfl⟩
  refine tN (tT (tS (tS (tR ?_))))
  refine tri_v (opv_fieldAddr rfl rfl) rfl ?_
  refine tri_v (opv_load1 rfl rfl rfl) rfl ?_
  refine tri_v (opv_eql rfl rfl) rfl ?_
  refine tN (tT ?_)
  refine tri_cond_not rfl (by omega) ?_
  refine tri_skip (tT (tS (tR (tM rfl rfl ?_))))
  refine tri_v (opv_mul rfl rfl (w64 (by omega) (by omega))) rfl ?_
  refine tri_v (opv_max2 rfl rfl) rfl ?_
  rw [hst]
  refine tA rfl rfl (tN (tT (tR ?_)))
  refine tri_v (opv_loadA rfl rfl rfl) rfl ?_
  refine tM rfl rfl ?_
  refine tri_v (opv_fieldAddr rfl rfl) rfl ?_
  refine tri_v (opv_load1 rfl rfl rfl) rfl ?_
  refine tM rfl rfl ?_
  refine tri_v (opv_remE rfl rfl (by omega) (by omega)) rfl ?_
  refine tM rfl rfl ?_
  refine tri_v (opv_mul rfl rfl (w64 (by omega) (by omega))) rfl ?_
  refine tU rfl rfl (by omega) (by omega) rfl ?_
  refine tri_v (opv_fieldAddr rfl rfl) rfl ?_
  refine tri_v (opv_load1 rfl rfl rfl) rfl ?_
  refine tM rfl rfl ?_
  refine tri_v (opv_quoE rfl rfl (by omega) (by omega) (by omega)) rfl ?_
  refine tM rfl rfl ?_
  refine tri_v (opv_mul rfl rfl (w64 (by omega) (by omega))) rfl ?_
  refine tU rfl rfl (by omega) (by omega) rfl ?_
  refine tri_v (opv_buildS rfl rfl) rfl ?_
  refine tM rfl rfl ?_
  refine tri_perm (A := ?a10_0 :: ?a10_1 :: ?a10_2 :: ?a10_3 :: ?a10_4 :: ?T10) (B := ?a10_4 :: ?a10_0 :: ?a10_1 :: ?a10_2 :: ?a10_3 :: ?T10) (by exact permL [4, 0, 1, 2, 3] [?a10_0, ?a10_1, ?a10_2, ?a10_3, ?a10_4] ?T10 (by decide) rfl) ?_
  refine tri_g (opg_call (xs := [_, _, _, _]) rfl (ih m (by omega) _ _ _ _ _ _ _ room _ _ _ ⟨c.x - R7.hh m + 0, c.y - R7.hh m + 0⟩ out r0 (by simp only; omega) (by simp only; omega) hr hs (kid _ (by simp [Node.kids, R6.nd])).1 (kid _ (by simp [Node.kids, R6.nd])).2.2 (by simp only; omega) ((congrArg (R7.flat ns m _) (R7.hh_ok m c (0) (0))).trans hr0) (by omega))) rfl ?_
  rintro _ _ _ ⟨b0', q0, rfl, rfl, rfl⟩
  refine tA rfl rfl (tN ?_)
  refine tri_inBlock ?_
  refine tT (tR ?_)
  refine tU rfl rfl (by omega) (by omega) rfl ?_
  refine tM rfl rfl (tN (tT ?_))
  refine tri_round ?_
  refine tS (tR ?_)
  refine tri_v (opv_lss rfl rfl) rfl ?_
  refine tN (tT (tS ?_))
  refine tri_perm (A := ?a11_0 :: ?a11_1 :: ?T11) (B := ?a11_1 :: ?a11_0 :: ?T11) (by exact permL [1, 0] [?a11_0, ?a11_1] ?T11 (by decide) rfl) ?_
  refine tri_drop ?_
  skip
  refine tri_cond_is rfl (by decide) ?_
  refine tri_skip (tT (tS (tri_block (tS (tR (tM rfl rfl ?_))))))
  refine tri_v (opv_index rfl rfl (by decide) (by decide) rfl rfl) rfl ?_
  refine tA rfl rfl (tA rfl rfl (tN (tT (tS (tR ?_)))))
  refine tri_v (opv_fieldAddr rfl rfl) rfl ?_
  refine tri_v (opv_load1 rfl rfl rfl) rfl ?_
  refine tM rfl rfl ?_
  refine tri_v (opv_sub rfl rfl (w64 (by omega) (by omega))) rfl ?_
  refine tri_v (opv_fieldAddr rfl rfl) rfl ?_
  refine tri_v (opv_load1 rfl rfl rfl) rfl ?_
  refine tM rfl rfl ?_
  refine tri_v (opv_sub rfl rfl (w64 (by omega) (by omega))) rfl ?_
  refine tri_v (opv_buildS rfl rfl) rfl ?_
  refine tri_g opg_alloc rfl ?_
  rintro _ _ _ ⟨b13, rfl, rfl, rfl⟩
  refine tri_g (opg_store rfl rfl rfl rfl rfl rfl) rfl ?_
  rintro _ _ _ ⟨rfl, rfl⟩
  refine tN (tT (tS (tS (tR ?_))))
  refine tri_v (opv_fieldAddr rfl rfl) rfl ?_
  refine tri_v (opv_load1 rfl rfl rfl) rfl ?_
  refine tri_v (opv_eql rfl rfl) rfl ?_
  refine tN (tT ?_)
  refine tri_cond_not rfl (by omega) ?_
  refine tri_skip (tT (tS (tR (tM rfl rfl ?_))))
  refine tri_v (opv_mul rfl rfl (w64 (by omega) (by omega))) rfl ?_
  refine tri_v (opv_max2 rfl rfl) rfl ?_
  rw [hst]
  refine tA rfl rfl (tN (tT (tR ?_)))
  refine tri_v (opv_loadA rfl rfl rfl) rfl ?_
  refine tM rfl rfl ?_
  refine tri_v (opv_fieldAddr rfl rfl) rfl ?_
  refine tri_v (opv_load1 rfl rfl rfl) rfl ?_
  refine tM rfl rfl ?_
  refine tri_v (opv_remE rfl rfl (by omega) (by omega)) rfl ?_
  refine tM rfl rfl ?_
  refine tri_v (opv_mul rfl rfl (w64 (by omega) (by omega))) rfl ?_
  refine tU rfl rfl (by omega) (by omega) rfl ?_
  refine tri_v (opv_fieldAddr rfl rfl) rfl ?_
  refine tri_v (opv_load1 rfl rfl rfl) rfl ?_
  refine tM rfl rfl ?_
  refine tri_v (opv_quoE rfl rfl (by omega) (by omega) (by omega)) rfl ?_
  refine tM rfl rfl ?_
  refine tri_v (opv_mul rfl rfl (w64 (by omega) (by omega))) rfl ?_
  refine tU rfl rfl (by omega) (by omega) rfl ?_
  refine tri_v (opv_buildS rfl rfl) rfl ?_
  refine tM rfl rfl ?_
  refine tri_perm (A := ?a12_0 :: ?a12_1 :: ?T12) (B := ?a12_1 :: ?a12_0 :: ?T12) (by exact permL [1, 0] [?a12_0, ?a12_1] ?T12 (by decide) rfl) ?_
  refine tri_g (opg_call (xs := [_, _, _, _]) rfl (ih m (by omega) _ _ _ _ _ _ _ room _ _ _ ⟨c.x - R7.hh m + 2 ^ m, c.y - R7.hh m + 0⟩ (out ++ r0) r1 (by simp only; omega) (by simp only; omega) hr hs (kid _ (by simp [Node.kids, R6.nd])).1 (kid _ (by simp [Node.kids, R6.nd])).2.2 (by simp only; omega) ((congrArg (R7.flat ns m _) (R7.hh_ok m c (2 ^ m) (0))).trans hr1) (by simp only [List.length_append]; omega))) rfl ?_
  rintro _ _ _ ⟨b1', q1, rfl, rfl, rfl⟩
  refine tA rfl rfl (tN ?_)
  refine tri_inBlock ?_
  refine tT (tR ?_)
  refine tU rfl rfl (by omega) (by omega) rfl ?_
  refine tM rfl rfl (tN (tT ?_))
  refine tri_round ?_
  refine tS (tR ?_)
  refine tri_v (opv_lss rfl rfl) rfl ?_
  refine tN (tT (tS ?_))
  refine tri_perm (A := ?a13_0 :: ?a13_1 :: ?T13) (B := ?a13_1 :: ?a13_0 :: ?T13) (by exact permL [1, 0] [?a13_0, ?a13_1] ?T13 (by decide) rfl) ?_
  refine tri_drop ?_
  skip
  refine tri_cond_is rfl (by decide) ?_
  refine tri_skip (tT (tS (tri_block (tS (tR (tM rfl rfl ?_))))))
  refine tri_v (opv_index rfl rfl (by decide) (by decide) rfl rfl) rfl ?_
  refine tA rfl rfl (tA rfl rfl (tN (tT (tS (tR ?_)))))
  refine tri_v (opv_fieldAddr rfl rfl) rfl ?_
  refine tri_v (opv_load1 rfl rfl rfl) rfl ?_
  refine tM rfl rfl ?_
  refine tri_v (opv_sub rfl rfl (w64 (by omega) (by omega))) rfl ?_
  refine tri_v (opv_fieldAddr rfl rfl) rfl ?_
  refine tri_v (opv_load1 rfl rfl rfl) rfl ?_
  refine tM rfl rfl ?_
  refine tri_v (opv_sub rfl rfl (w64 (by omega) (by omega))) rfl ?_
  refine tri_v (opv_buildS rfl rfl) rfl ?_
  refine tri_g opg_alloc rfl ?_
  rintro _ _ _ ⟨b13, rfl, rfl, rfl⟩
  refine tri_g (opg_store rfl rfl rfl rfl rfl rfl) rfl ?_
  rintro _ _ _ ⟨rfl, rfl⟩
  refine tN (tT (tS (tS (tR ?_))))
  refine tri_v (opv_fieldAddr rfl rfl) rfl ?_
  refine tri_v (opv_load1 rfl rfl rfl) rfl ?_
  refine tri_v (opv_eql rfl rfl) rfl ?_
  refine tN (tT ?_)
  refine tri_cond_not rfl (by omega) ?_
  refine tri_skip (tT (tS (tR (tM rfl rfl ?_))))
  refine tri_v (opv_mul rfl rfl (w64 (by omega) (by omega))) rfl ?_
  refine tri_v (opv_max2 rfl rfl) rfl ?_
  rw [hst]
  refine tA rfl rfl (tN (tT (tR ?_)))
  refine tri_v (opv_loadA rfl rfl rfl) rfl ?_
  refine tM rfl rfl ?_
  refine tri_v (opv_fieldAddr rfl rfl) rfl ?_
  refine tri_v (opv_load1 rfl rfl rfl) rfl ?_
  refine tM rfl rfl ?_
  refine tri_v (opv_remE rfl rfl (by omega) (by omega)) rfl ?_
  refine tM rfl rfl ?_
  refine tri_v (opv_mul rfl rfl (w64 (by omega) (by omega))) rfl ?_
  refine tU rfl rfl (by omega) (by omega) rfl ?_
  refine tri_v (opv_fieldAddr rfl rfl) rfl ?_
  refine tri_v (opv_load1 rfl rfl rfl) rfl ?_
  refine tM rfl rfl ?_
  refine tri_v (opv_quoE rfl rfl (by omega) (by omega) (by omega)) rfl ?_
  refine tM rfl rfl ?_
  refine tri_v (opv_mul rfl rfl (w64 (by omega) (by omega))) rfl ?_
  refine tU rfl rfl (by omega) (by omega) rfl ?_
  refine tri_v (opv_buildS rfl rfl) rfl ?_
  refine tM rfl rfl ?_
  refine tri_perm (A := ?a14_0 :: ?a14_1 :: ?T14) (B := ?a14_1 :: ?a14_0 :: ?T14) (by exact permL [1, 0] [?a14_0, ?a14_1] ?T14 (by decide) rfl) ?_
  refine tri_g (opg_call (xs := [_, _, _, _]) rfl (ih m (by omega) _ _ _ _ _ _ _ room _ _ _ ⟨c.x - R7.hh m + 0, c.y - R7.hh m + 2 ^ m⟩ (out ++ r0 ++ r1) r2 (by simp only; omega) (by simp only; omega) hr hs (kid _ (by simp [Node.kids, R6.nd])).1 (kid _ (by simp [Node.kids, R6.nd])).2.2 (by simp only; omega) ((congrArg (R7.flat ns m _) (R7.hh_ok m c (0) (2 ^ m))).trans hr2) (by simp only [List.length_append]; omega))) rfl ?_
  rintro _ _ _ ⟨b2', q2, rfl, rfl, rfl⟩
  refine tA rfl rfl (tN ?_)
  refine tri_inBlock ?_
  refine tT (tR ?_)
  refine tU rfl rfl (by omega) (by omega) rfl ?_
  refine tM rfl rfl (tN (tT ?_))
  refine tri_round ?_
  refine tS (tR ?_)
  refine tri_v (opv_lss rfl rfl) rfl ?_
  refine tN (tT (tS ?_))
  refine tri_perm (A := ?a15_0 :: ?a15_1 :: ?T15) (B := ?a15_1 :: ?a15_0 :: ?T15) (by exact permL [1, 0] [?a15_0, ?a15_1] ?T15 (by decide) rfl) ?_
  refine tri_drop ?_
  skip
  refine tri_cond_is rfl (by decide) ?_
  refine tri_skip (tT (tS (tri_block (tS (tR (tM rfl rfl ?_))))))
  refine tri_v (opv_index rfl rfl (by decide) (by decide) rfl rfl) rfl ?_
  refine tA rfl rfl (tA rfl rfl (tN (tT (tS (tR ?_)))))
  refine tri_v (opv_fieldAddr rfl rfl) rfl ?_
  refine tri_v (opv_load1 rfl rfl rfl) rfl ?_
  refine tM rfl rfl ?_
  refine tri_v (opv_sub rfl rfl (w64 (by omega) (by omega))) rfl ?_
  refine tri_v (opv_fieldAddr rfl rfl) rfl ?_
  refine tri_v (opv_load1 rfl rfl rfl) rfl ?_
  refine tM rfl rfl ?_
  refine tri_v (opv_sub rfl rfl (w64 (by omega) (by omega))) rfl ?_
  refine tri_v (opv_buildS rfl rfl) rfl ?_
  refine tri_g opg_alloc rfl ?_
  rintro _ _ _ ⟨b13, rfl, rfl, rfl⟩
  refine tri_g (opg_store rfl rfl rfl rfl rfl rfl) rfl ?_
  rintro _ _ _ ⟨rfl, rfl⟩
  refine tN (tT (tS (tS (tR ?_))))
  refine tri_v (opv_fieldAddr rfl rfl) rfl ?_
  refine tri_v (opv_load1 rfl rfl rfl) rfl ?_
  refine tri_v (opv_eql rfl rfl) rfl ?_
  refine tN (tT ?_)
  refine tri_cond_not rfl (by omega) ?_
  refine tri_skip (tT (tS (tR (tM rfl rfl ?_))))
  refine tri_v (opv_mul rfl rfl (w64 (by omega) (by omega))) rfl ?_
  refine tri_v (opv_max2 rfl rfl) rfl ?_
  rw [hst]
  refine tA rfl rfl (tN (tT (tR ?_)))
  refine tri_v (opv_loadA rfl rfl rfl) rfl ?_
  refine tM rfl rfl ?_
  refine tri_v (opv_fieldAddr rfl rfl) rfl ?_
  refine tri_v (opv_load1 rfl rfl rfl) rfl ?_
  refine tM rfl rfl ?_
  refine tri_v (opv_remE rfl rfl (by omega) (by omega)) rfl ?_
  refine tM rfl rfl ?_
  refine tri_v (opv_mul rfl rfl (w64 (by omega) (by omega))) rfl ?_
  refine tU rfl rfl (by omega) (by omega) rfl ?_
  refine tri_v (opv_fieldAddr rfl rfl) rfl ?_
  refine tri_v (opv_load1 rfl rfl rfl) rfl ?_
  refine tM rfl rfl ?_
  refine tri_v (opv_quoE rfl rfl (by omega) (by omega) (by omega)) rfl ?_
  refine tM rfl rfl ?_
  refine tri_v (opv_mul rfl rfl (w64 (by omega) (by omega))) rfl ?_
  refine tU rfl rfl (by omega) (by omega) rfl ?_
  refine tri_v (opv_buildS rfl rfl) rfl ?_
  refine tM rfl rfl ?_
  refine tri_perm (A := ?a16_0 :: ?a16_1 :: ?T16) (B := ?a16_1 :: ?a16_0 :: ?T16) (by exact permL [1, 0] [?a16_0, ?a16_1] ?T16 (by decide) rfl) ?_
  refine tri_g (opg_call (xs := [_, _, _, _]) rfl (ih m (by omega) _ _ _ _ _ _ _ room _ _ _ ⟨c.x - R7.hh m + 2 ^ m, c.y - R7.hh m + 2 ^ m⟩ (out ++ r0 ++ r1 ++ r2) r3 (by simp only; omega) (by simp only; omega) hr hs (kid _ (by simp [Node.kids, R6.nd])).1 (kid _ (by simp [Node.kids, R6.nd])).2.2 (by simp only; omega) ((congrArg (R7.flat ns m _) (R7.hh_ok m c (2 ^ m) (2 ^ m))).trans hr3) (by simp only [List.length_append]; omega))) rfl ?_
  rintro _ _ _ ⟨b3', q3, rfl, rfl, rfl⟩
  refine tA rfl rfl (tN ?_)
  refine tri_inBlock ?_
  refine tT (tR ?_)
  refine tU rfl rfl (by omega) (by omega) rfl ?_
  refine tM rfl rfl (tN (tT ?_))
  refine tri_round ?_
  refine tS (tR ?_)
  refine tri_v (opv_lss rfl rfl) rfl ?_
  refine tN (tT (tS ?_))
  refine tri_perm (A := ?a17_0 :: ?a17_1 :: ?T17) (B := ?a17_1 :: ?a17_0 :: ?T17) (by exact permL [1, 0] [?a17_0, ?a17_1] ?T17 (by decide) rfl) ?_
  refine tri_drop ?_
  refine tri_cond_not rfl (by decide) ?_
  refine tri_exit ?_
  refine tri_then_exit ?_
  refine tri_then_exit ?_
  refine tri_inBlock_hit rfl ?_
  refine tT (tS (tR (tM rfl rfl (tA rfl rfl (tN (tT (tri_ret ?_)))))))
  refine tri_perm (A := ?a18_0 :: ?a18_1 :: ?a18_2 :: ?a18_3 :: ?T18) (B := ?a18_1 :: ?a18_2 :: ?a18_3 :: ?a18_0 :: ?T18) (by exact permL [1, 2, 3, 0] [?a18_0, ?a18_1, ?a18_2, ?a18_3] ?T18 (by decide) rfl) ?_
  refine tri_end (rowC b3' q3 (out ++ r0 ++ r1 ++ r2 ++ r3) :: A) ⟨[_, _, _], rfl⟩ rfl (.cons (rv_tmp rfl) .nil) ⟨b3', q3, by simp only [List.append_assoc]; rfl, by simp only [List.append_assoc], rfl⟩
theorem square_each (lv : Nat) : EachSpec lv := by
 induction lv using Nat.strongRecOn with
 | ind lv ih => exact square_each_step lv ih
end Go.GL


set_option linter.unusedVariables false
namespace Go.GL
/-! ### Stores in which all is right -/
namespace R6
structure Wf (ns : List Node) : Prop where
 len : 2 ≤ ns.length
 z : ns.getD 0 default = n0
 o : ns.getD 1 default = n1
 ok : ∀ i, i < ns.length → 2 ≤ i → fits ns i
theorem right_iff {ns : List Node} {room : Int} : right ns room ↔ (2 ≤ room ∧ room ≤ 100000 ∧ (ns.length : Int) ≤ room) ∧ Wf ns :=
 ⟨fun h => ⟨⟨h.1.1, h.1.2.1, h.1.2.2.2.1⟩, ⟨by have := h.1.2.2.1; omega, h.1.2.2.2.2.1, h.1.2.2.2.2.2, h.2⟩⟩,
  fun ⟨⟨a, b, c⟩, h⟩ => ⟨⟨a, b, by have := h.len; omega, c, h.z, h.o⟩, h.ok⟩⟩
theorem Wf.modTo {ns : List Node} (h : Wf ns) : ModTo ns ns.length := by
 have key : ∀ n, n ≤ ns.length → ModTo ns n := by
  intro n
  induction n with
  | zero => intro _ j hj; omega
  | succ n ih =>
   intro hn
   have hm := ih (by omega)
   by_cases h2 : 2 ≤ n
   ·exact hm.step (h.ok n (by omega) h2)
   ·intro j hj
    rcases (by omega : j = 0 ∨ j = 1) with rfl | rfl
    ·rw [h.z]; decide
    ·rw [h.o]; decide
 exact key _ (Nat.le_refl _)
theorem Wf.mod {ns : List Node} (h : Wf ns) : Mod ns := h.modTo.mod
theorem Wf.lvb {ns : List Node} (h : Wf ns) {n : Int} (hn : inS ns n) : 0 ≤ (nd ns n).lv ∧ (nd ns n).lv ≤ 42 := ⟨(h.mod.nd hn).1, (h.mod.nd hn).2.1⟩
theorem Wf.nd0 {ns : List Node} (h : Wf ns) : nd ns 0 = n0 := h.z
theorem Wf.nd1 {ns : List Node} (h : Wf ns) : nd ns 1 = n1 := h.o
theorem Wf.in0 {ns : List Node} (h : Wf ns) : inS ns 0 := ⟨by omega, by have := h.len; omega⟩
theorem Wf.in1 {ns : List Node} (h : Wf ns) : inS ns 1 := ⟨by omega, by have := h.len; omega⟩
theorem Wf.two {ns : List Node} (h : Wf ns) {n : Int} (hn : inS ns n) (hl : (nd ns n).lv ≠ 0) : 2 ≤ n := by
 rcases Int.lt_or_le n 2 with h2 | h2
 ·exfalso
  have hn0 := hn.1
  rcases (by omega : n = 0 ∨ n = 1) with rfl | rfl
  ·exact hl (by rw [h.nd0]; rfl)
  ·exact hl (by rw [h.nd1]; rfl)
 ·exact h2
theorem Wf.fits {ns : List Node} (h : Wf ns) {n : Int} (hn : inS ns n) (h2 : 2 ≤ n) : fitsX ns n.toNat (nd ns n) := h.ok n.toNat (by have := hn.2; omega) (by omega)
theorem Wf.lv0 {ns : List Node} (h : Wf ns) {n : Int} (hn : inS ns n) (hl : (nd ns n).lv = 0) : n = 0 ∨ n = 1 := by
 rcases Int.lt_or_le n 2 with h2 | h2
 ·have := hn.1; omega
 ·have := (h.fits hn h2).2.2.2.2.1
  omega
theorem Wf.kid {ns : List Node} (h : Wf ns) {n : Int} (hn : inS ns n) (hl : (nd ns n).lv ≠ 0) {q : Int} (hq : q ∈ (nd ns n).kids) : inS ns q ∧ q < n ∧ (nd ns q).lv = (nd ns n).lv - 1 := by
 have h2 := h.two hn hl
 have hn1 := hn.2
 obtain ⟨k0, k1, k2, k3, _⟩ := h.fits hn h2
 have key : kidOk ns n.toNat q (nd ns n).lv := by
  unfold Node.kids at hq
  simp only [List.mem_cons, List.not_mem_nil, or_false] at hq
  rcases hq with rfl | rfl | rfl | rfl
  ·exact k0
  ·exact k1
  ·exact k2
  ·exact k3
 obtain ⟨g1, g2, g3⟩ := key
 exact ⟨⟨g1, by omega⟩, by omega, by omega⟩
theorem Wf.pop {ns : List Node} (h : Wf ns) {n : Int} (hn : inS ns n) (hl : (nd ns n).lv ≠ 0) : (nd ns n).pop = pop4 ns (nd ns n).k0 (nd ns n).k1 (nd ns n).k2 (nd ns n).k3 := (h.fits hn (h.two hn hl)).2.2.2.2.2.2.1
theorem Wf.at_ {ns : List Node} (h : Wf ns) {n : Int} (hn : inS ns n) (hl : (nd ns n).lv ≠ 0) : at_ ns (nd ns n).kids = n := by
 have := (h.fits hn (h.two hn hl)).2.2.2.2.2.2.2
 have := hn.1
 omega
theorem Wf.uniq {ns : List Node} (h : Wf ns) {n m : Int} (hn : inS ns n) (hm : inS ns m) (hl : (nd ns n).lv ≠ 0) (hl2 : (nd ns m).lv ≠ 0) (e : (nd ns n).kids = (nd ns m).kids) : n = m := by
 rw [← h.at_ hn hl, e, h.at_ hm hl2]
/-! #### what is put -/
theorem inS_pre {ns ms : List Node} (h : ns <+: ms) {n : Int} (hn : inS ns n) : inS ms n := ⟨hn.1, by have := h.length_le; have := hn.2; omega⟩
theorem nd_pre {ns ms : List Node} (h : ns <+: ms) {n : Int} (hn : inS ns n) : nd ms n = nd ns n := by
 obtain ⟨t, rfl⟩ := h
 unfold nd
 have : n.toNat < ns.length := by have := hn.1; have := hn.2; omega
 rw [List.getD_eq_getElem?_getD, List.getD_eq_getElem?_getD, List.getElem?_append_left this]
theorem atFrom_found (k : List Int) : ∀ (ns : List Node) (i : Nat), 0 ≤ atFrom k i ns → ∃ j, j < ns.length ∧ atFrom k i ns = ((i + j : Nat) : Int) ∧ (ns.getD j default).kids = k
 | [], i, h => by simp only [atFrom] at h; omega
 | x :: ns, i, h => by
  simp only [atFrom] at h ⊢
  split at h
  ·rename_i hx
   rw [if_pos hx]
   exact ⟨0, by simp, by simp, by simpa using hx⟩
  ·rename_i hx
   rw [if_neg hx]
   obtain ⟨j, h1, h2, h3⟩ := atFrom_found k ns (i + 1) h
   exact ⟨j + 1, by simp only [List.length_cons]; omega, by rw [h2]; omega, by simpa using h3⟩
theorem at_found {ns : List Node} {k : List Int} (h : 0 ≤ R6.at_ ns k) : 2 ≤ R6.at_ ns k ∧ inS ns (R6.at_ ns k) ∧ (nd ns (R6.at_ ns k)).kids = k := by
 unfold R6.at_ at h ⊢
 obtain ⟨j, h1, h2, h3⟩ := atFrom_found k _ 2 h
 rw [List.length_drop] at h1
 rw [h2]
 refine ⟨by omega, ⟨by omega, by omega⟩, ?_⟩
 unfold nd
 have : ((2 + j : Nat) : Int).toNat = 2 + j := by omega
 rw [this]
 simpa [List.getD_eq_getElem?_getD] using h3
theorem at_pre {ns ms : List Node} (h2 : 2 ≤ ns.length) (h : ns <+: ms) {k : List Int} (hk : 0 ≤ R6.at_ ns k) : R6.at_ ms k = R6.at_ ns k := by
 obtain ⟨t, rfl⟩ := h
 unfold R6.at_ at hk ⊢
 rw [List.drop_append_of_le_length h2, atFrom_append, if_pos hk]
theorem pop4_pre {ns ms : List Node} (h : ns <+: ms) {q0 q1 q2 q3 : Int} (h0 : inS ns q0) (h1 : inS ns q1) (h2 : inS ns q2) (h3 : inS ns q3) : pop4 ms q0 q1 q2 q3 = pop4 ns q0 q1 q2 q3 := by
 unfold pop4; rw [nd_pre h h0, nd_pre h h1, nd_pre h h2, nd_pre h h3]
theorem Wf.snoc {ns : List Node} (h : Wf ns) {q0 q1 q2 q3 : Int} (hf : fit4 ns q0 q1 q2 q3) (hat : ¬ 0 ≤ R6.at_ ns [q0, q1, q2, q3]) : Wf (ns ++ [mk4 ns q0 q1 q2 q3]) := by
 have hpre : ns <+: ns ++ [mk4 ns q0 q1 q2 q3] := List.prefix_append _ _
 have hl := h.len
 refine ⟨by simp; omega, ?_, ?_, fun i hi hi2 => ?_⟩
 ·have := nd_pre hpre h.in0; exact this.trans h.z
 ·have := nd_pre hpre h.in1; exact this.trans h.o
 ·simp only [List.length_append, List.length_singleton] at hi
  unfold R6.fits fitsX kidOk
  by_cases e : i < ns.length
  ·have hin : inS ns (i : Int) := ⟨by omega, by omega⟩
   have e1 : (ns ++ [mk4 ns q0 q1 q2 q3]).getD i default = ns.getD i default := nd_pre hpre hin
   rw [e1]
   obtain ⟨⟨a0, a1, a2⟩, ⟨b0, b1, b2⟩, ⟨c0, c1, c2⟩, ⟨d0, d1, d2⟩, f1, f2, f3, f4⟩ := h.ok i e hi2
   have i0 : inS ns (ns.getD i default).k0 := ⟨a0, by omega⟩
   have i1 : inS ns (ns.getD i default).k1 := ⟨b0, by omega⟩
   have i2 : inS ns (ns.getD i default).k2 := ⟨c0, by omega⟩
   have i3 : inS ns (ns.getD i default).k3 := ⟨d0, by omega⟩
   rw [nd_pre hpre i0, nd_pre hpre i1, nd_pre hpre i2, nd_pre hpre i3, pop4_pre hpre i0 i1 i2 i3, at_pre hl hpre (by rw [f4]; omega)]
   exact ⟨⟨a0, a1, a2⟩, ⟨b0, b1, b2⟩, ⟨c0, c1, c2⟩, ⟨d0, d1, d2⟩, f1, f2, f3, f4⟩
  ·have ei : i = ns.length := by omega
   subst ei
   have e1 : (ns ++ [mk4 ns q0 q1 q2 q3]).getD ns.length default = mk4 ns q0 q1 q2 q3 := by simp
   rw [e1]
   obtain ⟨a, ⟨b, b'⟩, ⟨c, c'⟩, ⟨d, d'⟩, f⟩ := hf
   have hlv := h.lvb a
   have x0 : (mk4 ns q0 q1 q2 q3).k0 = q0 := rfl
   have x1 : (mk4 ns q0 q1 q2 q3).k1 = q1 := rfl
   have x2 : (mk4 ns q0 q1 q2 q3).k2 = q2 := rfl
   have x3 : (mk4 ns q0 q1 q2 q3).k3 = q3 := rfl
   have x4 : (mk4 ns q0 q1 q2 q3).lv = (nd ns q0).lv + 1 := rfl
   have x5 : (mk4 ns q0 q1 q2 q3).pop = pop4 ns q0 q1 q2 q3 := rfl
   rw [x0, x1, x2, x3, x4, x5, nd_pre hpre a, nd_pre hpre b, nd_pre hpre c, nd_pre hpre d, pop4_pre hpre a b c d]
   refine ⟨⟨a.1, a.2, by omega⟩, ⟨b.1, b.2, by omega⟩, ⟨c.1, c.2, by omega⟩, ⟨d.1, d.2, by omega⟩, by omega, f, rfl, ?_⟩
   have := at_snoc hl [q0, q1, q2, q3] (mk4 ns q0 q1 q2 q3)
   rw [if_neg hat, if_pos (by rfl)] at this
   exact this
/-- What a put comes to, if it has room. -/
structure PutOk (ns : List Node) (q0 q1 q2 q3 : Int) (ms : List Node) (m : Int) : Prop where
 wf : Wf ms
 pre : ns <+: ms
 mem : inS ms m
 nd : nd ms m = mk4 ns q0 q1 q2 q3
 len : ms.length ≤ ns.length + 1
theorem nd_of_found {ns : List Node} (h : Wf ns) {q0 q1 q2 q3 : Int} (hf : fit4 ns q0 q1 q2 q3) {m : Int} (hm : inS ns m) (hl : (R6.nd ns m).lv ≠ 0) (hk : (R6.nd ns m).kids = [q0, q1, q2, q3]) : R6.nd ns m = mk4 ns q0 q1 q2 q3 := by
 have h2 := h.two hm hl
 obtain ⟨⟨_, _, k⟩, _, _, _, f1, f2, f3, f4⟩ := h.fits hm h2
 unfold Node.kids at hk
 simp only [List.cons.injEq, and_true] at hk
 obtain ⟨e0, e1, e2, e3⟩ := hk
 unfold mk4
 rw [e0, e1, e2, e3] at f3
 rw [e0] at k
 generalize R6.nd ns m = x at *
 cases x
 simp_all
theorem put_ok {ns : List Node} (h : Wf ns) {room : Int} {q0 q1 q2 q3 : Int} (hf : fit4 ns q0 q1 q2 q3) (hr : 0 ≤ R6.at_ ns [q0, q1, q2, q3] ∨ (ns.length : Int) < room) : ∃ ms m, put ns room q0 q1 q2 q3 = (ms, m, 0) ∧ PutOk ns q0 q1 q2 q3 ms m := by
 unfold put
 rw [if_pos hf]
 by_cases hat : 0 ≤ R6.at_ ns [q0, q1, q2, q3]
 ·rw [if_pos hat]
  obtain ⟨h2, h3, h4⟩ := at_found hat
  have hl : (R6.nd ns (R6.at_ ns [q0, q1, q2, q3])).lv ≠ 0 := by have := (h.fits h3 h2).2.2.2.2.1; omega
  exact ⟨_, _, rfl, h, List.prefix_refl _, h3, nd_of_found h hf h3 hl h4, by omega⟩
 ·rw [if_neg hat, if_neg (by have := hr.resolve_left hat; omega)]
  refine ⟨_, _, rfl, h.snoc hf hat, List.prefix_append _ _, ⟨by omega, by simp; omega⟩, ?_, by simp⟩
  unfold R6.nd
  simp
/-- What is there already is found. -/
theorem put_again {ns : List Node} (h : Wf ns) {room : Int} {q0 q1 q2 q3 : Int} (hf : fit4 ns q0 q1 q2 q3) {m : Int} (hm : inS ns m) (hl : (R6.nd ns m).lv ≠ 0) (hk : (R6.nd ns m).kids = [q0, q1, q2, q3]) : put ns room q0 q1 q2 q3 = (ns, m, 0) := by
 have := h.at_ hm hl
 rw [hk] at this
 unfold put
 rw [if_pos hf, if_pos (by rw [this]; exact hm.1), this]
theorem PutOk.kids {ns ms : List Node} {q0 q1 q2 q3 m : Int} (h : PutOk ns q0 q1 q2 q3 ms m) : (R6.nd ms m).kids = [q0, q1, q2, q3] := by rw [h.nd]; rfl
theorem PutOk.lv {ns ms : List Node} {q0 q1 q2 q3 m : Int} (h : PutOk ns q0 q1 q2 q3 ms m) : (R6.nd ms m).lv = (R6.nd ns q0).lv + 1 := by rw [h.nd]; rfl
theorem put_wf {ns : List Node} (h : Wf ns) (room q0 q1 q2 q3 : Int) : Wf (put ns room q0 q1 q2 q3).1 ∧ ns <+: (put ns room q0 q1 q2 q3).1 := by
 unfold put
 split
 ·rename_i hf
  split
  ·exact ⟨h, List.prefix_refl _⟩
  ·rename_i hat
   split
   ·exact ⟨h, List.prefix_refl _⟩
   ·exact ⟨h.snoc hf hat, List.prefix_append _ _⟩
 ·exact ⟨h, List.prefix_refl _⟩
theorem put_room {ns : List Node} {room : Int} (hl : (ns.length : Int) ≤ room) (q0 q1 q2 q3 : Int) : ((put ns room q0 q1 q2 q3).1.length : Int) ≤ room := by
 unfold put
 split
 ·split
  ·exact hl
  ·split
   ·exact hl
   ·simp only [List.length_append, List.length_singleton]; omega
 ·exact hl
end R6
end Go.GL


set_option linter.unusedVariables false
namespace Go.GL
/-! ### What a node stands for -/
namespace R7
open R6
theorem p2s (m : Nat) : (2:Int) ^ (m + 1) = 2 ^ m * 2 := Int.pow_succ 2 m
theorem p2pos (m : Nat) : (0:Int) < 2 ^ m := Int.pow_pos (by omega)
def al (ns : List Node) : Nat → Int → Int → Int → Bool
 | 0, n, _, _ => decide (n = 1)
 | lv + 1, n, x, y =>
  if y < 2 ^ lv then (if x < 2 ^ lv then al ns lv (nd ns n).k0 x y else al ns lv (nd ns n).k1 (x - 2 ^ lv) y)
  else (if x < 2 ^ lv then al ns lv (nd ns n).k2 x (y - 2 ^ lv) else al ns lv (nd ns n).k3 (x - 2 ^ lv) (y - 2 ^ lv))
def inQ (lv : Nat) (x y : Int) : Prop := 0 ≤ x ∧ x < 2 ^ lv ∧ 0 ≤ y ∧ y < 2 ^ lv
/-- A node of a level. -/
def IsN (ns : List Node) (lv : Nat) (n : Int) : Prop := inS ns n ∧ (nd ns n).lv = lv
theorem kids4 {ns : List Node} (h : Wf ns) {lv : Nat} {n : Int} (hn : IsN ns (lv + 1) n) : IsN ns lv (nd ns n).k0 ∧ IsN ns lv (nd ns n).k1 ∧ IsN ns lv (nd ns n).k2 ∧ IsN ns lv (nd ns n).k3 := by
 have hl : (nd ns n).lv ≠ 0 := by rw [hn.2]; omega
 have key : ∀ q, q ∈ (nd ns n).kids → IsN ns lv q := fun q hq => by
  obtain ⟨a, _, b⟩ := h.kid hn.1 hl hq
  refine ⟨a, ?_⟩
  rw [b, hn.2]; omega
 exact ⟨key _ (by simp [Node.kids]), key _ (by simp [Node.kids]), key _ (by simp [Node.kids]), key _ (by simp [Node.kids])⟩
theorem IsN.pre {ns ms : List Node} (hp : ns <+: ms) {lv : Nat} {n : Int} (h : IsN ns lv n) : IsN ms lv n := ⟨inS_pre hp h.1, by rw [nd_pre hp h.1]; exact h.2⟩
theorem al_pre {ns ms : List Node} (h : Wf ns) (hp : ns <+: ms) : ∀ (lv : Nat) (n x y : Int), IsN ns lv n → al ms lv n x y = al ns lv n x y
 | 0, n, x, y, _ => rfl
 | lv + 1, n, x, y, hn => by
  obtain ⟨a, b, c, d⟩ := kids4 h hn
  simp only [al]
  rw [nd_pre hp hn.1, al_pre h hp lv _ _ _ a, al_pre h hp lv _ _ _ b, al_pre h hp lv _ _ _ c, al_pre h hp lv _ _ _ d]
theorem isN0 {ns : List Node} (h : Wf ns) {n : Int} (hn : IsN ns 0 n) : n = 0 ∨ n = 1 := h.lv0 hn.1 hn.2
theorem pop4_zero {ns : List Node} {q0 q1 q2 q3 : Int} (h0 : 0 ≤ (nd ns q0).pop) (h1 : 0 ≤ (nd ns q1).pop) (h2 : 0 ≤ (nd ns q2).pop) (h3 : 0 ≤ (nd ns q3).pop) : pop4 ns q0 q1 q2 q3 = 0 ↔ (nd ns q0).pop = 0 ∧ (nd ns q1).pop = 0 ∧ (nd ns q2).pop = 0 ∧ (nd ns q3).pop = 0 := by
 unfold pop4 mn cap62
 generalize (nd ns q0).pop = a at *
 generalize (nd ns q1).pop = b at *
 generalize (nd ns q2).pop = c at *
 generalize (nd ns q3).pop = d at *
 constructor
 ·intro h
  repeat' split at h
  all_goals omega
 ·rintro ⟨rfl, rfl, rfl, rfl⟩; rfl
theorem dead_kids {ns : List Node} (h : Wf ns) {lv : Nat} {n : Int} (hn : IsN ns (lv + 1) n) : (nd ns n).pop = 0 ↔ (nd ns (nd ns n).k0).pop = 0 ∧ (nd ns (nd ns n).k1).pop = 0 ∧ (nd ns (nd ns n).k2).pop = 0 ∧ (nd ns (nd ns n).k3).pop = 0 := by
 obtain ⟨a, b, c, d⟩ := kids4 h hn
 rw [h.pop hn.1 (by rw [hn.2]; omega)]
 exact pop4_zero (h.mod.nd a.1).2.2.1 (h.mod.nd b.1).2.2.1 (h.mod.nd c.1).2.2.1 (h.mod.nd d.1).2.2.1
theorem al_dead {ns : List Node} (h : Wf ns) : ∀ (lv : Nat) (n x y : Int), IsN ns lv n → (nd ns n).pop = 0 → al ns lv n x y = false
 | 0, n, x, y, hn, hp => by
  rcases isN0 h hn with rfl | rfl
  ·rfl
  ·rw [h.nd1] at hp; cases hp
 | lv + 1, n, x, y, hn, hp => by
  obtain ⟨a, b, c, d⟩ := kids4 h hn
  obtain ⟨a', b', c', d'⟩ := (dead_kids h hn).1 hp
  simp only [al]
  rw [al_dead h lv _ _ _ a a', al_dead h lv _ _ _ b b', al_dead h lv _ _ _ c c', al_dead h lv _ _ _ d d']
  simp
theorem inQ_succ {lv : Nat} {x y : Int} (h : inQ (lv + 1) x y) : (y < 2 ^ lv → x < 2 ^ lv → inQ lv x y) ∧ (y < 2 ^ lv → ¬ x < 2 ^ lv → inQ lv (x - 2 ^ lv) y) ∧ (¬ y < 2 ^ lv → x < 2 ^ lv → inQ lv x (y - 2 ^ lv)) ∧ (¬ y < 2 ^ lv → ¬ x < 2 ^ lv → inQ lv (x - 2 ^ lv) (y - 2 ^ lv)) := by
 unfold inQ at *
 rw [p2s] at h
 have := p2pos lv
 omega
/-- Two nodes of a level that stand for the same are one. -/
theorem al_inj {ns : List Node} (h : Wf ns) : ∀ (lv : Nat) (n m : Int), IsN ns lv n → IsN ns lv m → (∀ x y, inQ lv x y → al ns lv n x y = al ns lv m x y) → n = m
 | 0, n, m, hn, hm, he => by
  have := he 0 0 ⟨by omega, by decide, by omega, by decide⟩
  simp only [al] at this
  rcases isN0 h hn with rfl | rfl <;> rcases isN0 h hm with rfl | rfl <;> simp_all
 | lv + 1, n, m, hn, hm, he => by
  obtain ⟨a, b, c, d⟩ := kids4 h hn
  obtain ⟨a', b', c', d'⟩ := kids4 h hm
  have hp := p2pos lv
  have key : ∀ x y, inQ (lv + 1) x y → _ := he
  simp only [al] at key
  have e0 : (nd ns n).k0 = (nd ns m).k0 := al_inj h lv _ _ a a' fun x y hq => by
   unfold inQ at hq
   have := key x y (by unfold inQ; rw [p2s]; omega)
   rwa [if_pos hq.2.2.2, if_pos hq.2.1, if_pos hq.2.2.2, if_pos hq.2.1] at this
  have e1 : (nd ns n).k1 = (nd ns m).k1 := al_inj h lv _ _ b b' fun x y hq => by
   unfold inQ at hq
   have := key (x + 2 ^ lv) y (by unfold inQ; rw [p2s]; omega)
   rwa [if_pos hq.2.2.2, if_neg (by omega), if_pos hq.2.2.2, if_neg (by omega), show x + 2 ^ lv - 2 ^ lv = x by omega] at this
  have e2 : (nd ns n).k2 = (nd ns m).k2 := al_inj h lv _ _ c c' fun x y hq => by
   unfold inQ at hq
   have := key x (y + 2 ^ lv) (by unfold inQ; rw [p2s]; omega)
   rwa [if_neg (by omega), if_pos hq.2.1, if_neg (by omega), if_pos hq.2.1, show y + 2 ^ lv - 2 ^ lv = y by omega] at this
  have e3 : (nd ns n).k3 = (nd ns m).k3 := al_inj h lv _ _ d d' fun x y hq => by
   unfold inQ at hq
   have := key (x + 2 ^ lv) (y + 2 ^ lv) (by unfold inQ; rw [p2s]; omega)
   rwa [if_neg (by omega), if_neg (by omega), if_neg (by omega), if_neg (by omega), show x + 2 ^ lv - 2 ^ lv = x by omega, show y + 2 ^ lv - 2 ^ lv = y by omega] at this
  refine h.uniq hn.1 hm.1 (by rw [hn.2]; omega) (by rw [hm.2]; omega) ?_
  unfold Node.kids
  rw [e0, e1, e2, e3]
theorem dead_uniq {ns : List Node} (h : Wf ns) {lv : Nat} {n m : Int} (hn : IsN ns lv n) (hm : IsN ns lv m) (dn : (nd ns n).pop = 0) (dm : (nd ns m).pop = 0) : n = m :=
 al_inj h lv n m hn hm fun x y _ => by rw [al_dead h lv n x y hn dn, al_dead h lv m x y hm dm]
/-! #### what is flat -/
theorem mem_flat {ns : List Node} (h : Wf ns) : ∀ (lv : Nat) (n : Int) (o c : Cell), IsN ns lv n → (c ∈ flat ns lv n o ↔ inQ lv (c.x - o.x) (c.y - o.y) ∧ al ns lv n (c.x - o.x) (c.y - o.y) = true)
 | lv, n, o, c, hn => by
  by_cases hp : (nd ns n).pop = 0
  ·have e : flat ns lv n o = [] := by unfold flat; rw [if_pos hp]
   rw [e, al_dead h lv n _ _ hn hp]
   simp
  ·match lv, hn with
   | 0, hn =>
    have e : flat ns 0 n o = [o] := by unfold flat; rw [if_neg hp]
    rw [e, List.mem_singleton]
    have n1 : n = 1 := by
     rcases isN0 h hn with rfl | rfl
     ·exact absurd (by rw [h.nd0]; rfl) hp
     ·rfl
    subst n1
    simp only [al, inQ, Int.pow_zero, decide_true, and_true]
    constructor
    ·rintro rfl; omega
    ·intro hq
     cases c; cases o
     simp only [Cell.mk.injEq] at hq ⊢
     omega
   | lv + 1, hn =>
    obtain ⟨a, b, cc, d⟩ := kids4 h hn
    have e : flat ns (lv + 1) n o = flat ns lv (nd ns n).k0 o ++ flat ns lv (nd ns n).k1 ⟨o.x + 2 ^ lv, o.y⟩ ++ flat ns lv (nd ns n).k2 ⟨o.x, o.y + 2 ^ lv⟩ ++ flat ns lv (nd ns n).k3 ⟨o.x + 2 ^ lv, o.y + 2 ^ lv⟩ := by rw [flat]; rw [if_neg hp]
    rw [e, List.mem_append, List.mem_append, List.mem_append, mem_flat h lv _ _ _ a, mem_flat h lv _ _ _ b, mem_flat h lv _ _ _ cc, mem_flat h lv _ _ _ d]
    simp only [al]
    have hpos := p2pos lv
    rw [show c.x - (o.x + 2 ^ lv) = c.x - o.x - 2 ^ lv by omega, show c.y - (o.y + 2 ^ lv) = c.y - o.y - 2 ^ lv by omega]
    generalize c.x - o.x = x
    generalize c.y - o.y = y
    unfold inQ
    rw [p2s]
    have fw : ∀ {p q r s v : Prop}, (p → v) → (q → v) → (r → v) → (s → v) → ((p ∨ q) ∨ r) ∨ s → v := fun h1 h2 h3 h4 h => h.elim (fun h => h.elim (fun h => h.elim h1 h2) h3) h4
    by_cases hy : y < 2 ^ lv
    ·rw [if_pos hy]
     by_cases hx : x < 2 ^ lv
     ·rw [if_pos hx]
      exact ⟨fw (fun ⟨q, k⟩ => ⟨by omega, k⟩) (fun ⟨q, k⟩ => by exfalso; omega) (fun ⟨q, k⟩ => by exfalso; omega) (fun ⟨q, k⟩ => by exfalso; omega), fun ⟨q, k⟩ => .inl (.inl (.inl ⟨by omega, k⟩))⟩
     ·rw [if_neg hx]
      exact ⟨fw (fun ⟨q, k⟩ => by exfalso; omega) (fun ⟨q, k⟩ => ⟨by omega, k⟩) (fun ⟨q, k⟩ => by exfalso; omega) (fun ⟨q, k⟩ => by exfalso; omega), fun ⟨q, k⟩ => .inl (.inl (.inr ⟨by omega, k⟩))⟩
    ·rw [if_neg hy]
     by_cases hx : x < 2 ^ lv
     ·rw [if_pos hx]
      exact ⟨fw (fun ⟨q, k⟩ => by exfalso; omega) (fun ⟨q, k⟩ => by exfalso; omega) (fun ⟨q, k⟩ => ⟨by omega, k⟩) (fun ⟨q, k⟩ => by exfalso; omega), fun ⟨q, k⟩ => .inl (.inr ⟨by omega, k⟩)⟩
     ·rw [if_neg hx]
      exact ⟨fw (fun ⟨q, k⟩ => by exfalso; omega) (fun ⟨q, k⟩ => by exfalso; omega) (fun ⟨q, k⟩ => by exfalso; omega) (fun ⟨q, k⟩ => ⟨by omega, k⟩), fun ⟨q, k⟩ => .inr ⟨by omega, k⟩⟩
end R7
end Go.GL


set_option linter.unusedVariables false
namespace Go.GL
namespace R7
open R6
theorem pop4_eq {ns : List Node} {q0 q1 q2 q3 : Int} (h0 : 0 ≤ (nd ns q0).pop) (h1 : 0 ≤ (nd ns q1).pop) (h2 : 0 ≤ (nd ns q2).pop) (h3 : 0 ≤ (nd ns q3).pop) (h : pop4 ns q0 q1 q2 q3 < cap62) :
  pop4 ns q0 q1 q2 q3 = (nd ns q0).pop + (nd ns q1).pop + (nd ns q2).pop + (nd ns q3).pop := by
 unfold pop4 mn cap62 at *
 generalize (nd ns q0).pop = a at *
 generalize (nd ns q1).pop = b at *
 generalize (nd ns q2).pop = c at *
 generalize (nd ns q3).pop = d at *
 repeat' split at h
 all_goals (repeat' split)
 all_goals omega
theorem flat_eq {ns : List Node} {m : Nat} {n : Int} {c : Cell} (h : ¬ (nd ns n).pop = 0) : flat ns (m + 1) n c = flat ns m (nd ns n).k0 c ++ flat ns m (nd ns n).k1 ⟨c.x + 2 ^ m, c.y⟩ ++ flat ns m (nd ns n).k2 ⟨c.x, c.y + 2 ^ m⟩ ++ flat ns m (nd ns n).k3 ⟨c.x + 2 ^ m, c.y + 2 ^ m⟩ := by rw [flat]; rw [if_neg h]
/-- A node has as many cells as its Pop tells, below the greatest Pop. -/
theorem flat_pop {ns : List Node} (h : Wf ns) : ∀ (lv : Nat) (n : Int) (c : Cell), IsN ns lv n → (nd ns n).pop < cap62 → ((flat ns lv n c).length : Int) = (nd ns n).pop
 | 0, n, c, hn, hp => by
  rcases isN0 h hn with rfl | rfl
  ·rw [flat]; rw [if_pos (by rw [h.nd0]; rfl), h.nd0]; rfl
  ·rw [flat]; rw [if_neg (by rw [h.nd1]; decide), h.nd1]; rfl
 | lv + 1, n, c, hn, hp => by
  by_cases h0 : (nd ns n).pop = 0
  ·rw [flat]; rw [if_pos h0, h0]; rfl
  ·obtain ⟨a, b, d, e⟩ := kids4 h hn
   have e1 := h.pop hn.1 (by rw [hn.2]; omega)
   have a0 := (h.mod.nd a.1).2.2.1
   have b0 := (h.mod.nd b.1).2.2.1
   have d0 := (h.mod.nd d.1).2.2.1
   have e0 := (h.mod.nd e.1).2.2.1
   have e2 := pop4_eq a0 b0 d0 e0 (by rw [← e1]; exact hp)
   rw [flat_eq h0]
   have f1 := flat_pop h lv _ c a (by omega)
   have f2 := flat_pop h lv _ ⟨c.x + 2 ^ lv, c.y⟩ b (by omega)
   have f3 := flat_pop h lv _ ⟨c.x, c.y + 2 ^ lv⟩ d (by omega)
   have f4 := flat_pop h lv _ ⟨c.x + 2 ^ lv, c.y + 2 ^ lv⟩ e (by omega)
   simp only [List.length_append]
   omega
end R7
end Go.GL


set_option linter.unusedVariables false
namespace Go.GL
open Go.Proofs
attribute [local irreducible] wpList Code.wp Exit.then Exit.inBlock Ends Tri TriH OpV OpG FnC epf wpAnyH
variable {A : List Asrt} {I : List Chunk}
theorem R7.side_p2 {lv : Nat} (h : 1 ≤ lv) : (2:Int) ^ lv = 2 * R7.side lv := by
 obtain ⟨m, rfl⟩ : ∃ m, lv = m + 1 := ⟨lv - 1, by omega⟩
 rw [R7.side_nat rfl, Int.pow_succ]; omega
theorem R7.may.is {ns : List Node} {room n : Int} (h : R7.may ns room n) : R6.inS ns n ∧ ∃ lv : Nat, 1 ≤ lv ∧ lv ≤ 42 ∧ (R6.nd ns n).lv = lv := by
 obtain ⟨hr, h0, h1, hl⟩ := h
 have hm := hr.modTo.mod.nd ⟨h0, h1⟩
 exact ⟨⟨h0, h1⟩, (R6.nd ns n).lv.toNat, by omega, by omega, by omega⟩
end Go.GL


set_option linter.unusedVariables false
namespace Go.GL
open Go.Proofs
attribute [local irreducible] wpList Code.wp Exit.then Exit.inBlock Ends Tri TriH OpV OpG FnC epf wpAnyH
variable {A : List Asrt} {I : List Chunk}
set_option maxHeartbeats 1000000 in
set_option maxRecDepth 100000 in
theorem square_cells {ns : List Node} {a : Option Addr} {cap : Nat} {room n : Int} (hs : StA I a cap ns) (hn : ns.length ≤ 1000000000) :
  FnC Try.prog 17 [storeV a ns.length cap room, .int .i64 n].toArray A I (fun v A' I' => ∃ a' cap', v = .tuple [.slice a' (R7.cells ns room n).1.length cap', .int .i64 (R7.cells ns room n).2].toArray ∧ SlAt I' a' (R7.cells ns room n).1 ∧ A = A' ∧ I ⊆ I') := by
 have hss := hs.sl
 skip
 skip
 refine fn_enter2 Try.func17 rfl Try.ntmps17 rfl fun w0 => ?_
 refine tS (tR ?_)
 refine tri_g (opg_box_agg rfl) rfl ?_
 rintro _ _ _ ⟨b2, rfl, rfl, rfl⟩
 refine tA rfl rfl (tA rfl rfl (tN (tT (tS (tri_block (tS (tR ?_)))))))
 refine tri_v (opv_loadA rfl rfl rfl) rfl ?_
 refine tM rfl rfl ?_
 refine tri_g (opg_call (xs := [_, _]) rfl (square_may hs hn)) rfl ?_
 rintro _ _ _ ⟨rfl, rfl, rfl⟩
 refine tri_v (opv_notD rfl) rfl ?_
 refine tA rfl rfl (tN (tT ?_))
 refine tri_cond_dec rfl (fun h1 => ?_) (fun h1 => ?_)
 ·have e : R7.cells ns room n = ([], 1) := if_neg h1
  refine tS (tR (tA rfl rfl (tA rfl rfl (tN (tT (tri_ret ?_))))))
  refine tri_inBlock_ret ?_
  refine tri_then_ret ?_
  refine tri_end A Suf.h rfl (.cons (rv_tmp rfl) (.cons (rv_tmp rfl) .nil)) ⟨none, 0, by rw [e]; rfl, by rw [e]; exact SlAt.nil, rfl, fun _ h => h⟩
 have h1 : R7.may ns room n := Decidable.not_not.1 h1
 obtain ⟨⟨hn0, hn1⟩, lv, hlv1, hlv2, hlv⟩ := h1.is
 have hcs : R7.cells ns room n = if 2000 < (R6.nd ns n).pop then ([], 3) else R1.of (R7.of ns n) := if_pos h1
 refine tS (tR ?_)
 refine tri_v (opv_fieldAddr rfl rfl) rfl ?_
 refine tri_v (opv_load1 rfl rfl rfl) rfl ?_
 refine tM rfl rfl ?_
 refine tri_v (opv_indexAddrS rfl rfl (by omega) (by omega) (by assumption) rfl) rfl ?_
 refine tri_v (opv_fieldAddrE rfl (by assumption) (by omega) rfl) rfl ?_
 refine tri_v (opv_loadE1 rfl (by assumption) rfl (by omega) rfl rfl) rfl ?_
 refine tri_v (opv_gtr rfl rfl) rfl ?_
 refine tA rfl rfl (tN (tT ?_))
 refine tri_cond_dec rfl (fun h2 => ?_) (fun h2 => ?_)
 ·have e : R7.cells ns room n = ([], 3) := hcs.trans (if_pos h2)
  refine tS (tR (tA rfl rfl (tA rfl rfl (tN (tT (tri_ret ?_))))))
  refine tri_inBlock_ret ?_
  refine tri_then_ret ?_
  refine tri_end A Suf.h rfl (.cons (rv_tmp rfl) (.cons (rv_tmp rfl) .nil)) ⟨none, 0, by rw [e]; rfl, by rw [e]; exact SlAt.nil, rfl, fun _ h => h⟩
 have h2 : ¬ 2000 < (R6.nd ns n).pop := h2
 have hcs := hcs.trans (if_neg h2)
 have hw := (R6.right_iff.1 h1.1).2
 have hlen := R7.flat_pop hw lv n (R7.cn lv ⟨0, 0⟩) ⟨⟨hn0, hn1⟩, hlv⟩ (by unfold R6.cap62; omega)
 have hof : R7.flat ns lv n (R7.cn lv ⟨0, 0⟩) = R7.of ns n := by
  unfold R7.of
  rw [hlv, Int.toNat_natCast]
  congr 1
  obtain ⟨m, rfl⟩ : ∃ m, lv = m + 1 := ⟨lv - 1, by omega⟩
  rw [R7.side_nat rfl]
  simp [R7.cn]
 have hsd := R7.side_bd (lv := lv) (by omega)
 have hp2 := R7.side_p2 hlv1
 rw [hof] at hlen
 skip
 refine tri_skip ?_
 refine tri_inBlock ?_
 refine tT (tS (tR ?_))
 refine tri_v (opv_loadA rfl rfl rfl) rfl ?_
 refine tM rfl rfl ?_
 refine tri_v (opv_buildS rfl rfl) rfl ?_
 refine tri_nilRow (E := 28) (sz := 2) ?_
 refine tri_g (opg_call (xs := [_, _, _, _]) rfl (square_each lv _ _ _ _ _ _ _ room _ _ _ ⟨0, 0⟩ [] (R7.of ns n) rfl rfl h1.1 hss ⟨hn0, hn1⟩ hlv (by simp only; omega) hof (by simp only [List.length_nil]; omega))) rfl ?_
 rintro _ _ _ ⟨b1, q1, rfl, rfl, rfl⟩
 skip
 refine tri_freezeRow rfl fun J hJ hq => ?_
 skip
 refine tri_g (opg_call (xs := [_]) rfl (cells_of hq (by rw [List.nil_append]; omega))) rfl ?_
 rintro _ _ J2 ⟨a2, c2, rfl, hq2, rfl, hJ2⟩
 refine tri_v (opv_extract rfl rfl) rfl ?_
 refine tri_v (opv_extract rfl rfl) rfl ?_
 refine tA rfl rfl (tA rfl rfl (tN (tT (tri_ret ?_))))
 refine tri_end A Suf.h rfl (.cons (rv_tmp rfl) (.cons (rv_tmp rfl) .nil)) ⟨a2, c2, by rw [hcs]; rfl, by rw [hcs]; exact hq2, rfl, fun _ h => hJ2 (hJ h)⟩
end Go.GL


set_option linter.unusedVariables false
namespace Go.GL
open Go.Proofs
attribute [local irreducible] wpList Code.wp Exit.then Exit.inBlock Ends Tri TriH OpV OpG FnC epf wpAnyH
theorem R7.inL_bd {lv : Nat} (h : lv ≤ 42) {c : Cell} (hc : R7.inL lv c) : R2.bd c := by
 have h1 := R7.side_bd (lv := lv) (by omega)
 unfold R7.inL at hc
 unfold R2.bd
 omega
theorem R7.kid_ok {ns : List Node} {room : Int} (hr : R6.right ns room) {n : Int} (hn : R6.inS ns n) {m : Nat} (hl : (R6.nd ns n).lv = ((m + 1 : Nat) : Int)) (k : Nat) : R6.inS ns (R7.kidx (R6.nd ns n) k) ∧ (R6.nd ns (R7.kidx (R6.nd ns n) k)).lv = m := by
 have key := fun q hq => hr.kidN hn hl (q := q) hq
 have hm : R7.kidx (R6.nd ns n) k ∈ (R6.nd ns n).kids := by
  unfold R7.kidx Node.kids
  split
  ·simp
  ·split
   ·simp
   ·split <;> simp
 exact ⟨(key _ hm).1, (key _ hm).2.2⟩
def GetQ (lv : Nat) : Prop := ∀ (A : List Asrt) (I : List Chunk) (ns : List Node) (a : Option Addr) (cap : Nat) (room n cx cy : Int) (c : Cell), cx = c.x → cy = c.y → lv ≤ 42 → R6.right ns room → SlAt I a ns → R6.inS ns n → (R6.nd ns n).lv = lv → R2.bd c →
 FnC Try.prog 60 [storeV a ns.length cap room, .int .i64 n, .agg [.int .i64 cx, .int .i64 cy].toArray].toArray A I (fun v A' I' => v = .bool (R7.getL ns lv n c) ∧ A = A' ∧ I = I')
variable {A : List Asrt} {I : List Chunk}
end Go.GL


set_option linter.unusedVariables false
namespace Go.GL
open Go.Proofs
attribute [local irreducible] wpList Code.wp Exit.then Exit.inBlock Ends Tri TriH OpV OpG FnC epf wpAnyH
variable {A : List Asrt} {I : List Chunk}
set_option maxHeartbeats 1000000 in
set_option maxRecDepth 100000 in
theorem square_get {ns : List Node} {a : Option Addr} {cap : Nat} {room n : Int} {c : Cell} (hs : StA I a cap ns) (hn : ns.length ≤ 1000000000) :
  FnC Try.prog 24 [storeV a ns.length cap room, .int .i64 n, cellV c].toArray A I (fun v A' I' => v = .tuple [.bool (R7.getM ns room n c).1, .int .i64 (R7.getM ns room n c).2].toArray ∧ A = A' ∧ I = I') := by
 have hss := hs.sl
 skip
 skip
 refine fn_enter3 Try.func24 rfl Try.ntmps24 rfl fun w0 => ?_
 refine tS (tR ?_)
 refine tri_g (opg_box_agg rfl) rfl ?_
 rintro _ _ _ ⟨b3, rfl, rfl, rfl⟩
 refine tri_g (opg_box_agg rfl) rfl ?_
 rintro _ _ _ ⟨b5, rfl, rfl, rfl⟩
 refine tA rfl rfl (tA rfl rfl (tN (tT (tS (tS (tR ?_))))))
 refine tri_v (opv_loadA rfl rfl rfl) rfl ?_
 refine tM rfl rfl ?_
 refine tri_g (opg_call (xs := [_, _]) rfl (square_may hs hn)) rfl ?_
 rintro _ _ _ ⟨rfl, rfl, rfl⟩
 refine tri_v (opv_notD rfl) rfl ?_
 refine tN (tT ?_)
 refine tri_cond_dec rfl (fun h1 => ?_) (fun h1 => ?_)
 ·have e : R7.getM ns room n c = (false, 1) := if_neg h1
  refine tS (tR (tA rfl rfl (tA rfl rfl (tN (tT (tri_ret (tri_then_ret ?_)))))))
  refine tri_end A Suf.h rfl (.cons (rv_tmp rfl) (.cons (rv_tmp rfl) .nil)) ⟨by rw [e]; rfl, rfl, rfl⟩
 have h1 : R7.may ns room n := Decidable.not_not.1 h1
 obtain ⟨⟨hn0, hn1⟩, lv, hlv1, hlv2, hlv⟩ := h1.is
 have hr := h1.1
 have hlv' : (ns.getD n.toNat default).lv = lv := hlv
 have hg : R7.getM ns room n c = (decide (R7.inL (R6.nd ns n).lv c) && R7.getL ns (R6.nd ns n).lv.toNat n c, 0) := if_pos h1
 rw [hlv, Int.toNat_natCast] at hg
 skip
 refine tri_skip (tT (tS (tS ?_)))
 refine tri_draw [0, 1, 2, 3, 4, 5, 6, 7, 8] rfl [] rfl mixed ?_
 refine th_take rfl rfl (by kernel_rfl)  (opv_fieldAddr rfl rfl) ?_
 refine th_take rfl rfl (by kernel_rfl)  (opv_load1 rfl rfl rfl) ?_
 refine th_take rfl rfl (by kernel_rfl)  (opv_move rfl) ?_
 refine th_take rfl rfl (by kernel_rfl)  (opv_indexAddrS rfl rfl (by omega) (by omega) (by assumption) rfl) ?_
 refine th_take rfl rfl (by kernel_rfl)  (opv_fieldAddrE rfl (by assumption) (by omega) rfl) ?_
 refine th_take rfl rfl (by kernel_rfl)  (opv_loadE1 rfl (by assumption) rfl (by omega) rfl rfl) ?_
 refine th_take rfl rfl (by kernel_rfl)  (opv_loadA rfl rfl rfl) ?_
 rw [hlv']
 refine th_one (by kernel_rfl) (step_m rfl rfl (opg_call (xs := [_, _]) rfl (square_in (lv := lv) (c := c) hlv1 hlv2)) ?_)
 rintro _ _ _ ⟨rfl, rfl, rfl⟩
 refine ⟨Suf.h, (fun _ h => h), ?_⟩
 refine th_take rfl rfl (by kernel_rfl)  (opv_notD rfl) ?_
 refine th_done (by kernel_rfl) ?_
 refine tT ?_
 refine tri_cond_dec rfl (fun h2 => ?_) (fun h2 => ?_)
 ·have e : R7.getM ns room n c = (false, 0) := by rw [hg, decide_eq_false h2]; rfl
  refine tS (tR (tA rfl rfl (tA rfl rfl (tN (tT (tri_ret (tri_then_ret ?_)))))))
  refine tri_end A Suf.h rfl (.cons (rv_tmp rfl) (.cons (rv_tmp rfl) .nil)) ⟨by rw [e]; rfl, rfl, rfl⟩
 have h2 : R7.inL lv c := Decidable.not_not.1 h2
 rw [decide_eq_true h2, Bool.true_and] at hg
 have hbd := R7.inL_bd hlv2 h2
 obtain ⟨res, hres⟩ : ∃ res, R7.getL ns lv n c = res := ⟨_, rfl⟩
 rw [hres] at hg
 rw [hg]
 clear hg h2 hlv'
 skip
 refine tri_skip (tT (tS (tri_block ?_)))
 refine tri_sub (F' := [(1, .int .i64 n), (3, pt b3 0), (5, pt b5 0)]) ⟨rfl, rfl, rfl, trivial⟩ ?_
 refine loop_ind (G := Nat × Int × Cell) (fun g => g.1) (fun g => g.1 ≤ 42 ∧ R6.inS ns g.2.1 ∧ (R6.nd ns g.2.1).lv = g.1 ∧ R2.bd g.2.2 ∧ R7.getL ns g.1 g.2.1 g.2.2 = res) (fun g => [(1, .int .i64 g.2.1), (3, pt b3 0), (5, pt b5 0)]) (fun g => Box b5 [.int .i64 g.2.2.x, .int .i64 g.2.2.y] 28 :: Box b3 [.slice a ns.length cap, .int .i64 room] 26 :: A) (fun _ => I) ?_ (lv, n, c) ⟨hlv2, ⟨hn0, hn1⟩, hlv, hbd, hres⟩
 clear hres hbd hlv hlv1 hlv2 hn0 hn1 h1
 rintro ⟨lv, n, c⟩ ⟨hlv2, ⟨hn0, hn1⟩, hlv, hbd, hres⟩ K hK
 simp only at hlv2 hn0 hn1 hlv hbd hres hK ⊢
 have hlv' : (ns.getD n.toNat default).lv = lv := hlv
 skip
 refine tS (tS (tR ?_))
 refine tri_v (opv_fieldAddr rfl rfl) rfl ?_
 refine tri_v (opv_load1 rfl rfl rfl) rfl ?_
 refine tM rfl rfl ?_
 refine tri_v (opv_indexAddrS rfl rfl (by omega) (by omega) (by assumption) rfl) rfl ?_
 refine tri_v (opv_fieldAddrE rfl (by assumption) (by omega) rfl) rfl ?_
 refine tri_v (opv_loadE1 rfl (by assumption) rfl (by omega) rfl rfl) rfl ?_
 refine tri_v (opv_gtr rfl rfl) rfl ?_
 refine tN (tT ?_)
 refine tri_cond_dec rfl (fun h3 => ?_) (fun h3 => ?_)
 ·obtain ⟨m, rfl⟩ : ∃ m, lv = m + 1 := ⟨lv - 1, by omega⟩
  obtain ⟨hk1, hk2⟩ := R7.kid_ok hr ⟨hn0, hn1⟩ hlv (R7.qk c)
  have hk4 := R7.qk_4 c
  skip
  refine tri_skip (tT (tri_block (tS (tR (tA rfl rfl (tN (tT ?_)))))))
  refine tS ?_
  refine tri_draw [0, 1, 2, 3, 4, 5, 6, 7, 8, 9, 10, 11, 12] rfl [_] rfl mixed ?_
  refine th_take rfl rfl (by kernel_rfl)  (opv_fieldAddr rfl rfl) ?_
  refine th_take rfl rfl (by kernel_rfl)  (opv_load1 rfl rfl rfl) ?_
  refine th_take rfl rfl (by kernel_rfl)  (opv_move rfl) ?_
  refine th_take rfl rfl (by kernel_rfl)  (opv_indexAddrS rfl rfl (by omega) (by omega) (by assumption) rfl) ?_
  refine th_take rfl rfl (by kernel_rfl)  (opv_fieldAddrE rfl (by assumption) (by omega) rfl) ?_
  refine th_take rfl rfl (by kernel_rfl)  (opv_loadE1 rfl (by assumption) rfl (by omega) rfl rfl) ?_
  refine th_one (by kernel_rfl) (step_m rfl rfl (OpV.toG (opv_loadA rfl rfl rfl)) ?_)
  rintro _ _ _ ⟨rfl, rfl, rfl⟩
  refine ⟨Suf.h, (fun _ h => h), ?_⟩
  rw [hlv']
  refine th_one (by kernel_rfl) (step_m rfl rfl (opg_call (xs := [_, _]) rfl (square_quarter (lv := m + 1) (c := c) hlv2 hbd)) ?_)
  rintro _ _ _ ⟨rfl, rfl, rfl⟩
  refine ⟨Suf.h, (fun _ h => h), ?_⟩
  rcases hk4 with hk | hk | hk | hk
  ·rw [hk] at hk1 hk2 ⊢
   refine th_take rfl rfl (by kernel_rfl)  (opv_move rfl) ?_
   refine th_take rfl rfl (by kernel_rfl)  (opv_extract rfl rfl) ?_
   refine th_take rfl rfl (by kernel_rfl)  (opv_extract rfl rfl) ?_
   refine th_take rfl rfl (by kernel_rfl)  (opv_assign rfl) ?_
   refine th_one (by kernel_rfl) (step_m rfl rfl (opg_store rfl rfl rfl rfl rfl rfl) ?_)
   rintro _ _ _ ⟨rfl, rfl⟩
   refine ⟨Suf.h, (fun _ h => h), ?_⟩
   refine th_done (by kernel_rfl) ?_
   refine tT (tR ?_)
   refine tri_v (opv_fieldAddr rfl rfl) rfl ?_
   refine tri_v (opv_load1 rfl rfl rfl) rfl ?_
   refine tM rfl rfl (tM rfl rfl ?_)
   refine tri_v (opv_indexAddrS rfl rfl (by omega) (by omega) (by assumption) rfl) rfl ?_
   refine tri_v (opv_fieldAddrE rfl (by assumption) (by omega) rfl) rfl ?_
   refine tri_v (opv_indexAddrE rfl (by assumption) (by omega) rfl (by decide) (by decide)) rfl ?_
   refine tri_v (opv_loadE1 rfl (by assumption) rfl (by omega) rfl rfl) rfl ?_
   refine tA rfl rfl (tN ?_)
   refine tri_inBlock ?_
   refine tT ?_
   refine tri_sub ?_ (hK ⟨m, R7.kidx (R6.nd ns n) 0, R7.qd (R7.qh (m + 1)) c⟩ ⟨by simp only; omega, hk1, hk2, R7.qd_bd hlv2 hbd, ?_⟩ (by simp only; omega))
   ·exact ⟨rfl, rfl, rfl, trivial⟩
   ·rw [← hres]
    show R7.getL ns m (R7.kidx (R6.nd ns n) 0) (R7.qd (R7.qh (m + 1)) c) = R7.getL ns m (R7.kidx (R6.nd ns n) (R7.qk c)) (R7.qd (R7.qh (m + 1)) c)
    rw [hk]
  ·rw [hk] at hk1 hk2 ⊢
   refine th_take rfl rfl (by kernel_rfl)  (opv_move rfl) ?_
   refine th_take rfl rfl (by kernel_rfl)  (opv_extract rfl rfl) ?_
   refine th_take rfl rfl (by kernel_rfl)  (opv_extract rfl rfl) ?_
   refine th_take rfl rfl (by kernel_rfl)  (opv_assign rfl) ?_
   refine th_one (by kernel_rfl) (step_m rfl rfl (opg_store rfl rfl rfl rfl rfl rfl) ?_)
   rintro _ _ _ ⟨rfl, rfl⟩
   refine ⟨Suf.h, (fun _ h => h), ?_⟩
   refine th_done (by kernel_rfl) ?_
   refine tT (tR ?_)
   refine tri_v (opv_fieldAddr rfl rfl) rfl ?_
   refine tri_v (opv_load1 rfl rfl rfl) rfl ?_
   refine tM rfl rfl (tM rfl rfl ?_)
   refine tri_v (opv_indexAddrS rfl rfl (by omega) (by omega) (by assumption) rfl) rfl ?_
   refine tri_v (opv_fieldAddrE rfl (by assumption) (by omega) rfl) rfl ?_
   refine tri_v (opv_indexAddrE rfl (by assumption) (by omega) rfl (by decide) (by decide)) rfl ?_
   refine tri_v (opv_loadE1 rfl (by assumption) rfl (by omega) rfl rfl) rfl ?_
   refine tA rfl rfl (tN ?_)
   refine tri_inBlock ?_
   refine tT ?_
   refine tri_sub ?_ (hK ⟨m, R7.kidx (R6.nd ns n) 1, R7.qd (R7.qh (m + 1)) c⟩ ⟨by simp only; omega, hk1, hk2, R7.qd_bd hlv2 hbd, ?_⟩ (by simp only; omega))
   ·exact ⟨rfl, rfl, rfl, trivial⟩
   ·rw [← hres]
    show R7.getL ns m (R7.kidx (R6.nd ns n) 1) (R7.qd (R7.qh (m + 1)) c) = R7.getL ns m (R7.kidx (R6.nd ns n) (R7.qk c)) (R7.qd (R7.qh (m + 1)) c)
    rw [hk]
  ·rw [hk] at hk1 hk2 ⊢
   refine th_take rfl rfl (by kernel_rfl)  (opv_move rfl) ?_
   refine th_take rfl rfl (by kernel_rfl)  (opv_extract rfl rfl) ?_
   refine th_take rfl rfl (by kernel_rfl)  (opv_extract rfl rfl) ?_
   refine th_take rfl rfl (by kernel_rfl)  (opv_assign rfl) ?_
   refine th_one (by kernel_rfl) (step_m rfl rfl (opg_store rfl rfl rfl rfl rfl rfl) ?_)
   rintro _ _ _ ⟨rfl, rfl⟩
   refine ⟨Suf.h, (fun _ h => h), ?_⟩
   refine th_done (by kernel_rfl) ?_
   refine tT (tR ?_)
   refine tri_v (opv_fieldAddr rfl rfl) rfl ?_
   refine tri_v (opv_load1 rfl rfl rfl) rfl ?_
   refine tM rfl rfl (tM rfl rfl ?_)
   refine tri_v (opv_indexAddrS rfl rfl (by omega) (by omega) (by assumption) rfl) rfl ?_
   refine tri_v (opv_fieldAddrE rfl (by assumption) (by omega) rfl) rfl ?_
   refine tri_v (opv_indexAddrE rfl (by assumption) (by omega) rfl (by decide) (by decide)) rfl ?_
   refine tri_v (opv_loadE1 rfl (by assumption) rfl (by omega) rfl rfl) rfl ?_
   refine tA rfl rfl (tN ?_)
   refine tri_inBlock ?_
   refine tT ?_
   refine tri_sub ?_ (hK ⟨m, R7.kidx (R6.nd ns n) 2, R7.qd (R7.qh (m + 1)) c⟩ ⟨by simp only; omega, hk1, hk2, R7.qd_bd hlv2 hbd, ?_⟩ (by simp only; omega))
   ·exact ⟨rfl, rfl, rfl, trivial⟩
   ·rw [← hres]
    show R7.getL ns m (R7.kidx (R6.nd ns n) 2) (R7.qd (R7.qh (m + 1)) c) = R7.getL ns m (R7.kidx (R6.nd ns n) (R7.qk c)) (R7.qd (R7.qh (m + 1)) c)
    rw [hk]
  ·rw [hk] at hk1 hk2 ⊢
   refine th_take rfl rfl (by kernel_rfl)  (opv_move rfl) ?_
   refine th_take rfl rfl (by kernel_rfl)  (opv_extract rfl rfl) ?_
   refine th_take rfl rfl (by kernel_rfl)  (opv_extract rfl rfl) ?_
   refine th_take rfl rfl (by kernel_rfl)  (opv_assign rfl) ?_
   refine th_one (by kernel_rfl) (step_m rfl rfl (opg_store rfl rfl rfl rfl rfl rfl) ?_)
   rintro _ _ _ ⟨rfl, rfl⟩
   refine ⟨Suf.h, (fun _ h => h), ?_⟩
   refine th_done (by kernel_rfl) ?_
   refine tT (tR ?_)
   refine tri_v (opv_fieldAddr rfl rfl) rfl ?_
   refine tri_v (opv_load1 rfl rfl rfl) rfl ?_
   refine tM rfl rfl (tM rfl rfl ?_)
   refine tri_v (opv_indexAddrS rfl rfl (by omega) (by omega) (by assumption) rfl) rfl ?_
   refine tri_v (opv_fieldAddrE rfl (by assumption) (by omega) rfl) rfl ?_
   refine tri_v (opv_indexAddrE rfl (by assumption) (by omega) rfl (by decide) (by decide)) rfl ?_
   refine tri_v (opv_loadE1 rfl (by assumption) rfl (by omega) rfl rfl) rfl ?_
   refine tA rfl rfl (tN ?_)
   refine tri_inBlock ?_
   refine tT ?_
   refine tri_sub ?_ (hK ⟨m, R7.kidx (R6.nd ns n) 3, R7.qd (R7.qh (m + 1)) c⟩ ⟨by simp only; omega, hk1, hk2, R7.qd_bd hlv2 hbd, ?_⟩ (by simp only; omega))
   ·exact ⟨rfl, rfl, rfl, trivial⟩
   ·rw [← hres]
    show R7.getL ns m (R7.kidx (R6.nd ns n) 3) (R7.qd (R7.qh (m + 1)) c) = R7.getL ns m (R7.kidx (R6.nd ns n) (R7.qk c)) (R7.qd (R7.qh (m + 1)) c)
    rw [hk]
 ·have h0 : lv = 0 := by omega
  subst h0
  clear hK
  refine tri_exit ?_
  refine tri_then_exit ?_
  refine tri_then_exit ?_
  refine tri_inBlock_hit rfl ?_
  refine tT (tS (tR ?_))
  refine tri_v (opv_fieldAddr rfl rfl) rfl ?_
  refine tri_v (opv_load1 rfl rfl rfl) rfl ?_
  refine tM rfl rfl ?_
  refine tri_v (opv_indexAddrS rfl rfl (by omega) (by omega) (by assumption) rfl) rfl ?_
  refine tri_v (opv_fieldAddrE rfl (by assumption) (by omega) rfl) rfl ?_
  refine tri_v (opv_loadE1 rfl (by assumption) rfl (by omega) rfl rfl) rfl ?_
  refine tri_v (opv_eql rfl rfl) rfl ?_
  refine tA rfl rfl (tA rfl rfl (tN (tT (tri_ret ?_))))
  refine tri_end A Suf.h rfl (.cons (rv_tmp rfl) (.cons (rv_tmp rfl) .nil)) ⟨?_, rfl, rfl⟩
  rw [← hres]
  rfl
end Go.GL


set_option linter.unusedVariables false
namespace Go.GL
open Go.Proofs
attribute [local irreducible] wpList Code.wp Exit.then Exit.inBlock Ends Tri TriH OpV OpG FnC epf wpAnyH
theorem R7.setL_succ (room to : Int) (m : Nat) (ns : List Node) (n : Int) (c : Cell) {q : List Node × Int × Int} (h : R7.setL room to m ns (R7.kidx (R6.nd ns n) (R7.qk c)) (R7.qd (R7.qh (m + 1)) c) = q) : R7.setL room to (m + 1) ns n c = if q.2.2 ≠ 0 then (ns, 0, q.2.2) else R7.put1 q.1 room (R6.nd ns n) (R7.qk c) q.2.1 := by
 subst h; rfl
def SetS (alive : Bool) (lv : Nat) : Prop := ∀ (A : List Asrt) (I : List Chunk) (ns : List Node) (a : Option Addr) (cap : Nat) (room n cx cy : Int) (c : Cell) (r : List Node × Int × Int), cx = c.x → cy = c.y → lv ≤ 42 → R6.right ns room → StA I a cap ns → R6.inS ns n → (R6.nd ns n).lv = lv → R2.bd c → R7.setL room (if alive then 1 else 0) lv ns n c = r →
 FnC Try.prog 63 [storeV a ns.length cap room, .int .i64 n, .agg [.int .i64 cx, .int .i64 cy].toArray, .bool alive].toArray A I (StoreR r room A I)
variable {A : List Asrt} {I : List Chunk}
end Go.GL


set_option linter.unusedVariables false
namespace Go.GL
open Go.Proofs
attribute [local irreducible] wpList Code.wp Exit.then Exit.inBlock Ends Tri TriH OpV OpG FnC epf wpAnyH
def SetQ (lv : Nat) : Prop := ∀ (A : List Asrt) (I : List Chunk) (ns : List Node) (a : Option Addr) (cap bx mb : Nat) (es : KVs) (room n cx cy to : Int) (c : Cell) (r : List Node × Int × Int), cx = c.x → cy = c.y → lv ≤ 42 → R6.right ns room → Idx ns es → R6.inS ns n → (R6.nd ns n).lv = lv → R2.bd c → R7.setL room to lv ns n c = r →
 FnC Try.prog 62 [mkV bx, .int .i64 n, .agg [.int .i64 cx, .int .i64 cy].toArray, .int .i64 to].toArray (IxA bx mb a cap ns room es A) I (IxQ bx mb r room A I)
set_option maxHeartbeats 4000000 in
set_option maxRecDepth 100000 in
theorem square_set_step (lv : Nat) (ih : ∀ m, m < lv → SetQ m) : SetQ lv := by
 intro A I ns a cap bx mb es room n cx cy to c r hcx hcy hlv42 hr hix hn hlv hbd hset
 subst hcx; subst hcy
 obtain ⟨hn0, hn1⟩ := hn
 obtain ⟨hg, h2n⟩ := right_good7 hr
 have hlv' : (ns.getD n.toNat default).lv = lv := hlv
 skip
 skip
 refine fn_enter4 Try.func62 rfl Try.ntmps62 rfl fun w0 => ?_
 refine tS (tR ?_)
 refine tri_g (opg_box_agg rfl) rfl ?_
 rintro _ _ _ ⟨b4, rfl, rfl, rfl⟩
 refine tri_g (opg_box_agg rfl) rfl ?_
 rintro _ _ _ ⟨b6, rfl, rfl, rfl⟩
 refine tA rfl rfl (tA rfl rfl (tN (tT (tS (tR ?_)))))
 refine tri_v (opv_fieldAddr rfl rfl) rfl ?_
 refine tri_v (opv_load1 rfl rfl rfl) rfl ?_
 refine tri_v (opv_nilCheck rfl) rfl ?_
 refine tri_v (opv_fieldAddr rfl rfl) rfl ?_
 refine tri_v (opv_fieldAddr rfl rfl) rfl ?_
 refine tri_v (opv_load1 rfl rfl rfl) rfl ?_
 refine tM rfl rfl ?_
 refine tri_v (opv_indexAddrR rfl rfl (by omega) (by omega)) rfl ?_
 refine tri_v (opv_loadRXA rfl rfl (by omega) rfl rfl rfl) rfl ?_
 refine tri_g opg_alloc rfl ?_
 rintro _ _ _ ⟨b10, rfl, rfl, rfl⟩
 refine tri_g (opg_store rfl rfl rfl rfl rfl rfl) rfl ?_
 rintro _ _ _ ⟨rfl, rfl⟩
 refine tN (tT (tS (tS (tR ?_))))
 refine tri_v (opv_fieldAddr rfl rfl) rfl ?_
 refine tri_v (opv_load1 rfl rfl rfl) rfl ?_
 refine tri_v (opv_eql rfl rfl) rfl ?_
 refine tN (tT ?_)
 refine tri_cond_dec rfl (fun h0 => ?_) (fun h0 => ?_)
 ·have e0 : lv = 0 := by omega
  subst e0
  subst hset
  refine tS (tR (tM rfl rfl (tA rfl rfl (tA rfl rfl (tN (tT (tri_ret ?_)))))))
  refine tri_then_ret ?_
  refine tri_end _ (⟨[_, _, _], rfl⟩) rfl (.cons (rv_tmp rfl) (.cons (rv_tmp rfl) .nil)) ⟨a, cap, es, ns, rfl, rfl, hix, hg, h2n, fun _ => rfl, rfl⟩
 ·obtain ⟨m, rfl⟩ : ∃ m, lv = m + 1 := ⟨lv - 1, by omega⟩
  obtain ⟨hk1, hk2⟩ := R7.kid_ok hr ⟨hn0, hn1⟩ hlv (R7.qk c)
  have hk4 := R7.qk_4 c
  obtain ⟨q, hq⟩ : ∃ q, R7.setL room to m ns (R7.kidx (R6.nd ns n) (R7.qk c)) (R7.qd (R7.qh (m + 1)) c) = q := ⟨_, rfl⟩
  have hs := R7.setL_succ room to m ns n c hq
  rw [hset] at hs
  have hqd := R7.qd_bd hlv42 hbd
  refine tri_skip (tT (tS (tR ?_)))
  refine tri_v (opv_fieldAddr rfl rfl) rfl ?_
  refine tri_v (opv_load1 rfl rfl rfl) rfl ?_
  refine tri_v (opv_loadA rfl rfl rfl) rfl ?_
  rw [hlv']
  refine tri_g (opg_call (xs := [_, _]) rfl (square_quarter (lv := m + 1) (c := c) hlv42 hbd)) rfl ?_
  rintro _ _ _ ⟨rfl, rfl, rfl⟩
  rw [← hlv']
  rcases hk4 with hk | hk | hk | hk
  ·rw [hk] at hk1 hk2 hq hs ⊢
   refine tM rfl rfl ?_
   refine tri_v (opv_extract rfl rfl) rfl ?_
   refine tri_v (opv_extract rfl rfl) rfl ?_
   refine tri_g opg_alloc rfl ?_
   rintro _ _ _ ⟨b12, rfl, rfl, rfl⟩
   refine tA rfl rfl ?_
   refine tri_g (opg_store rfl rfl rfl rfl rfl rfl) rfl ?_
   rintro _ _ _ ⟨rfl, rfl⟩
   refine tN (tT (tS ?_))
   refine tri_perm (A := ?a1_0 :: ?a1_1 :: ?a1_2 :: ?a1_3 :: ?a1_4 :: ?a1_5 :: ?a1_6 :: ?T1) (B := ?a1_4 :: ?a1_5 :: ?a1_6 :: ?a1_0 :: ?a1_1 :: ?a1_2 :: ?a1_3 :: ?T1) (by exact permL [4, 5, 6, 0, 1, 2, 3] [?a1_0, ?a1_1, ?a1_2, ?a1_3, ?a1_4, ?a1_5, ?a1_6] ?T1 (by decide) rfl) ?_
   skip
   refine tri_draw [0, 1, 2, 3, 4, 5, 6, 7, 8, 9, 10, 11, 12] rfl [_, _, _] rfl mixed ?_
   refine th_take rfl rfl (by kernel_rfl)  (opv_loadA rfl rfl rfl) ?_
   refine th_take rfl rfl (by kernel_rfl)  (opv_move rfl) ?_
   refine th_take rfl rfl (by kernel_rfl)  (opv_fieldAddr rfl rfl) ?_
   refine th_take rfl rfl (by kernel_rfl)  (opv_indexAddrA rfl rfl (by decide) (by decide)) ?_
   refine th_take rfl rfl (by kernel_rfl)  (opv_load1 rfl rfl rfl) ?_
   refine th_take rfl rfl (by kernel_rfl)  (opv_loadA rfl rfl rfl) ?_
   refine th_take rfl rfl (by kernel_rfl)  (opv_move rfl) ?_
   refine th_one (by kernel_rfl) (step_m rfl rfl (opg_call (xs := [_, _, _, _]) rfl (ih m (by omega) _ _ _ _ _ _ _ _ _ _ _ _ _ _ q rfl rfl (by omega) hr hix hk1 hk2 hqd hq)) ?_)
   rintro _ _ _ ⟨d0, f0, es0, ms0, rfl, rfl, hx0, hg0, hl0, hm0, rfl⟩
   refine ⟨Suf.h, (fun _ h => h), ?_⟩
   refine th_take rfl rfl (by kernel_rfl)  (opv_move rfl) ?_
   refine th_take rfl rfl (by kernel_rfl)  (opv_extract rfl rfl) ?_
   refine th_take rfl rfl (by kernel_rfl)  (opv_extract rfl rfl) ?_
   refine th_take rfl rfl (by kernel_rfl)  (opv_assign rfl) ?_
   refine th_take rfl rfl (by kernel_rfl)  (opv_assign rfl) ?_
   refine th_done (by kernel_rfl) ?_
   refine tT (tS (tS (tR (tM rfl rfl ?_))))
   refine tri_v (opv_neq rfl rfl) rfl ?_
   refine tN (tT ?_)
   refine tri_cond_dec rfl (fun x0 => ?_) (fun x0 => ?_)
   ·rw [if_pos x0] at hs
    subst hs
    refine tS (tR (tM rfl rfl (tA rfl rfl (tA rfl rfl (tN (tT (tri_ret ?_)))))))
    refine tri_then_ret ?_
    refine tri_perm (A := ?a2_0 :: ?a2_1 :: ?a2_2 :: ?a2_3 :: ?a2_4 :: ?a2_5 :: ?a2_6 :: ?T2) (B := ?a2_3 :: ?a2_4 :: ?a2_5 :: ?a2_6 :: ?a2_0 :: ?a2_1 :: ?a2_2 :: ?T2) (by exact permL [3, 4, 5, 6, 0, 1, 2] [?a2_0, ?a2_1, ?a2_2, ?a2_3, ?a2_4, ?a2_5, ?a2_6] ?T2 (by decide) rfl) ?_
    refine tri_end _ (⟨[_, _, _, _], rfl⟩) rfl (.cons (rv_tmp rfl) (.cons (rv_tmp rfl) .nil)) ⟨d0, f0, es0, ms0, rfl, rfl, hx0, hg0, hl0, fun h => absurd h x0, rfl⟩
   ·rw [if_neg x0] at hs
    have hm0 := hm0 (Decidable.not_not.1 x0)
    subst hm0
    refine tri_skip (tT (tS (tR (tM rfl rfl (tM rfl rfl ?_)))))
    refine tri_v (opv_fieldAddr rfl rfl) rfl ?_
    refine tri_v (opv_indexAddrA rfl rfl (by decide) (by decide)) rfl ?_
    refine tri_g (opg_store rfl rfl rfl rfl rfl rfl) rfl ?_
    rintro _ _ _ ⟨rfl, rfl⟩
    refine tN (tT (tS (tR ?_)))
    refine tri_v (opv_fieldAddr rfl rfl) rfl ?_
    refine tri_v (opv_load1 rfl rfl rfl) rfl ?_
    refine tri_v (opv_fieldAddr rfl rfl) rfl ?_
    refine tri_v (opv_loadA rfl rfl rfl) rfl ?_
    refine tri_g (opg_call (xs := [_, _]) rfl (node_putR hg0 hl0 hx0 rfl)) rfl ?_
    rintro _ _ _ ⟨d4, f4, es4, rfl, rfl, hx4, rfl⟩
    refine tri_v (opv_extract rfl rfl) rfl ?_
    refine tri_v (opv_extract rfl rfl) rfl ?_
    refine tA rfl rfl (tA rfl rfl (tN (tT (tri_ret ?_))))
    refine tri_perm (A := ?a3_0 :: ?a3_1 :: ?a3_2 :: ?a3_3 :: ?a3_4 :: ?a3_5 :: ?a3_6 :: ?T3) (B := ?a3_3 :: ?a3_4 :: ?a3_5 :: ?a3_6 :: ?a3_0 :: ?a3_1 :: ?a3_2 :: ?T3) (by exact permL [3, 4, 5, 6, 0, 1, 2] [?a3_0, ?a3_1, ?a3_2, ?a3_3, ?a3_4, ?a3_5, ?a3_6] ?T3 (by decide) rfl) ?_
    refine tri_end _ (⟨[_, _, _, _], rfl⟩) rfl (.cons (rv_tmp rfl) (.cons (rv_tmp rfl) .nil)) ⟨d4, f4, es4, _, by rw [hs]; rfl, rfl, hx4, hg0.put _ _ _ _, R6.put_len hl0, fun _ => by rw [hs]; rfl, rfl⟩
  ·rw [hk] at hk1 hk2 hq hs ⊢
   refine tM rfl rfl ?_
   refine tri_v (opv_extract rfl rfl) rfl ?_
   refine tri_v (opv_extract rfl rfl) rfl ?_
   refine tri_g opg_alloc rfl ?_
   rintro _ _ _ ⟨b12, rfl, rfl, rfl⟩
   refine tA rfl rfl ?_
   refine tri_g (opg_store rfl rfl rfl rfl rfl rfl) rfl ?_
   rintro _ _ _ ⟨rfl, rfl⟩
   refine tN (tT (tS ?_))
   refine tri_perm (A := ?a4_0 :: ?a4_1 :: ?a4_2 :: ?a4_3 :: ?a4_4 :: ?a4_5 :: ?a4_6 :: ?T4) (B := ?a4_4 :: ?a4_5 :: ?a4_6 :: ?a4_0 :: ?a4_1 :: ?a4_2 :: ?a4_3 :: ?T4) (by exact permL [4, 5, 6, 0, 1, 2, 3] [?a4_0, ?a4_1, ?a4_2, ?a4_3, ?a4_4, ?a4_5, ?a4_6] ?T4 (by decide) rfl) ?_
   skip
   refine tri_draw [0, 1, 2, 3, 4, 5, 6, 7, 8, 9, 10, 11, 12] rfl [_, _, _] rfl mixed ?_
   refine th_take rfl rfl (by kernel_rfl)  (opv_loadA rfl rfl rfl) ?_
   refine th_take rfl rfl (by kernel_rfl)  (opv_move rfl) ?_
   refine th_take rfl rfl (by kernel_rfl)  (opv_fieldAddr rfl rfl) ?_
   refine th_take rfl rfl (by kernel_rfl)  (opv_indexAddrA rfl rfl (by decide) (by decide)) ?_
   refine th_take rfl rfl (by kernel_rfl)  (opv_load1 rfl rfl rfl) ?_
   refine th_take rfl rfl (by kernel_rfl)  (opv_loadA rfl rfl rfl) ?_
   refine th_take rfl rfl (by kernel_rfl)  (opv_move rfl) ?_
   refine th_one (by kernel_rfl) (step_m rfl rfl (opg_call (xs := [_, _, _, _]) rfl (ih m (by omega) _ _ _ _ _ _ _ _ _ _ _ _ _ _ q rfl rfl (by omega) hr hix hk1 hk2 hqd hq)) ?_)
   rintro _ _ _ ⟨d0, f0, es0, ms0, rfl, rfl, hx0, hg0, hl0, hm0, rfl⟩
   refine ⟨Suf.h, (fun _ h => h), ?_⟩
   refine th_take rfl rfl (by kernel_rfl)  (opv_move rfl) ?_
   refine th_take rfl rfl (by kernel_rfl)  (opv_extract rfl rfl) ?_
   refine th_take rfl rfl (by kernel_rfl)  (opv_extract rfl rfl) ?_
   refine th_take rfl rfl (by kernel_rfl)  (opv_assign rfl) ?_
   refine th_take rfl rfl (by kernel_rfl)  (opv_assign rfl) ?_
   refine th_done (by kernel_rfl) ?_
   refine tT (tS (tS (tR (tM rfl rfl ?_))))
   refine tri_v (opv_neq rfl rfl) rfl ?_
   refine tN (tT ?_)
   refine tri_cond_dec rfl (fun x0 => ?_) (fun x0 => ?_)
   ·rw [if_pos x0] at hs
    subst hs
    refine tS (tR (tM rfl rfl (tA rfl rfl (tA rfl rfl (tN (tT (tri_ret ?_)))))))
    refine tri_then_ret ?_
    refine tri_perm (A := ?a5_0 :: ?a5_1 :: ?a5_2 :: ?a5_3 :: ?a5_4 :: ?a5_5 :: ?a5_6 :: ?T5) (B := ?a5_3 :: ?a5_4 :: ?a5_5 :: ?a5_6 :: ?a5_0 :: ?a5_1 :: ?a5_2 :: ?T5) (by exact permL [3, 4, 5, 6, 0, 1, 2] [?a5_0, ?a5_1, ?a5_2, ?a5_3, ?a5_4, ?a5_5, ?a5_6] ?T5 (by decide) rfl) ?_
    refine tri_end _ (⟨[_, _, _, _], rfl⟩) rfl (.cons (rv_tmp rfl) (.cons (rv_tmp rfl) .nil)) ⟨d0, f0, es0, ms0, rfl, rfl, hx0, hg0, hl0, fun h => absurd h x0, rfl⟩
   ·rw [if_neg x0] at hs
    have hm0 := hm0 (Decidable.not_not.1 x0)
    subst hm0
    refine tri_skip (tT (tS (tR (tM rfl rfl (tM rfl rfl ?_)))))
    refine tri_v (opv_fieldAddr rfl rfl) rfl ?_
    refine tri_v (opv_indexAddrA rfl rfl (by decide) (by decide)) rfl ?_
    refine tri_g (opg_store rfl rfl rfl rfl rfl rfl) rfl ?_
    rintro _ _ _ ⟨rfl, rfl⟩
    refine tN (tT (tS (tR ?_)))
    refine tri_v (opv_fieldAddr rfl rfl) rfl ?_
    refine tri_v (opv_load1 rfl rfl rfl) rfl ?_
    refine tri_v (opv_fieldAddr rfl rfl) rfl ?_
    refine tri_v (opv_loadA rfl rfl rfl) rfl ?_
    refine tri_g (opg_call (xs := [_, _]) rfl (node_putR hg0 hl0 hx0 rfl)) rfl ?_
    rintro _ _ _ ⟨d4, f4, es4, rfl, rfl, hx4, rfl⟩
    refine tri_v (opv_extract rfl rfl) rfl ?_
    refine tri_v (opv_extract rfl rfl) rfl ?_
    refine tA rfl rfl (tA rfl rfl (tN (tT (tri_ret ?_))))
    refine tri_perm (A := ?a6_0 :: ?a6_1 :: ?a6_2 :: ?a6_3 :: ?a6_4 :: ?a6_5 :: ?a6_6 :: ?T6) (B := ?a6_3 :: ?a6_4 :: ?a6_5 :: ?a6_6 :: ?a6_0 :: ?a6_1 :: ?a6_2 :: ?T6) (by exact permL [3, 4, 5, 6, 0, 1, 2] [?a6_0, ?a6_1, ?a6_2, ?a6_3, ?a6_4, ?a6_5, ?a6_6] ?T6 (by decide) rfl) ?_
    refine tri_end _ (⟨[_, _, _, _], rfl⟩) rfl (.cons (rv_tmp rfl) (.cons (rv_tmp rfl) .nil)) ⟨d4, f4, es4, _, by rw [hs]; rfl, rfl, hx4, hg0.put _ _ _ _, R6.put_len hl0, fun _ => by rw [hs]; rfl, rfl⟩
  ·rw [hk] at hk1 hk2 hq hs ⊢
   refine tM rfl rfl ?_
   refine tri_v (opv_extract rfl rfl) rfl ?_
   refine tri_v (opv_extract rfl rfl) rfl ?_
   refine tri_g opg_alloc rfl ?_
   rintro _ _ _ ⟨b12, rfl, rfl, rfl⟩
   refine tA rfl rfl ?_
   refine tri_g (opg_store rfl rfl rfl rfl rfl rfl) rfl ?_
   rintro _ _ _ ⟨rfl, rfl⟩
   refine tN (tT (tS ?_))
   refine tri_perm (A := ?a7_0 :: ?a7_1 :: ?a7_2 :: ?a7_3 :: ?a7_4 :: ?a7_5 :: ?a7_6 :: ?T7) (B := ?a7_4 :: ?a7_5 :: ?a7_6 :: ?a7_0 :: ?a7_1 :: ?a7_2 :: ?a7_3 :: ?T7) (by exact permL [4, 5, 6, 0, 1, 2, 3] [?a7_0, ?a7_1, ?a7_2, ?a7_3, ?a7_4, ?a7_5, ?a7_6] ?T7 (by decide) rfl) ?_
   skip
   refine tri_draw [0, 1, 2, 3, 4, 5, 6, 7, 8, 9, 10, 11, 12] rfl [_, _, _] rfl mixed ?_
   refine th_take rfl rfl (by kernel_rfl)  (opv_loadA rfl rfl rfl) ?_
   refine th_take rfl rfl (by kernel_rfl)  (opv_move rfl) ?_
   refine th_take rfl rfl (by kernel_rfl)  (opv_fieldAddr rfl rfl) ?_
   refine th_take rfl rfl (by kernel_rfl)  (opv_indexAddrA rfl rfl (by decide) (by decide)) ?_
   refine th_take rfl rfl (by kernel_rfl)  (opv_load1 rfl rfl rfl) ?_
   refine th_take rfl rfl (by kernel_rfl)  (opv_loadA rfl rfl rfl) ?_
   refine th_take rfl rfl (by kernel_rfl)  (opv_move rfl) ?_
   refine th_one (by kernel_rfl) (step_m rfl rfl (opg_call (xs := [_, _, _, _]) rfl (ih m (by omega) _ _ _ _ _ _ _ _ _ _ _ _ _ _ q rfl rfl (by omega) hr hix hk1 hk2 hqd hq)) ?_)
   rintro _ _ _ ⟨d0, f0, es0, ms0, rfl, rfl, hx0, hg0, hl0, hm0, rfl⟩
   refine ⟨Suf.h, (fun _ h => h), ?_⟩
   refine th_take rfl rfl (by kernel_rfl)  (opv_move rfl) ?_
   refine th_take rfl rfl (by kernel_rfl)  (opv_extract rfl rfl) ?_
   refine th_take rfl rfl (by kernel_rfl)  (opv_extract rfl rfl) ?_
   refine th_take rfl rfl (by kernel_rfl)  (opv_assign rfl) ?_
   refine th_take rfl rfl (by kernel_rfl)  (opv_assign rfl) ?_
   refine th_done (by kernel_rfl) ?_
   refine tT (tS (tS (tR (tM rfl rfl ?_))))
   refine tri_v (opv_neq rfl rfl) rfl ?_
   refine tN (tT ?_)
   refine tri_cond_dec rfl (fun x0 => ?_) (fun x0 => ?_)
   ·rw [if_pos x0] at hs
    subst hs
    refine tS (tR (tM rfl rfl (tA rfl rfl (tA rfl rfl (tN (tT (tri_ret ?_)))))))
    refine tri_then_ret ?_
    refine tri_perm (A := ?a8_0 :: ?a8_1 :: ?a8_2 :: ?a8_3 :: ?a8_4 :: ?a8_5 :: ?a8_6 :: ?T8) (B := ?a8_3 :: ?a8_4 :: ?a8_5 :: ?a8_6 :: ?a8_0 :: ?a8_1 :: ?a8_2 :: ?T8) (by exact permL [3, 4, 5, 6, 0, 1, 2] [?a8_0, ?a8_1, ?a8_2, ?a8_3, ?a8_4, ?a8_5, ?a8_6] ?T8 (by decide) rfl) ?_
    refine tri_end _ (⟨[_, _, _, _], rfl⟩) rfl (.cons (rv_tmp rfl) (.cons (rv_tmp rfl) .nil)) ⟨d0, f0, es0, ms0, rfl, rfl, hx0, hg0, hl0, fun h => absurd h x0, rfl⟩
   ·rw [if_neg x0] at hs
    have hm0 := hm0 (Decidable.not_not.1 x0)
    subst hm0
    refine tri_skip (tT (tS (tR (tM rfl rfl (tM rfl rfl ?_)))))
    refine tri_v (opv_fieldAddr rfl rfl) rfl ?_
    refine tri_v (opv_indexAddrA rfl rfl (by decide) (by decide)) rfl ?_
    refine tri_g (opg_store rfl rfl rfl rfl rfl rfl) rfl ?_
    rintro _ _ _ ⟨rfl, rfl⟩
    refine tN (tT (tS (tR ?_)))
    refine tri_v (opv_fieldAddr rfl rfl) rfl ?_
    refine tri_v (opv_load1 rfl rfl rfl) rfl ?_
    refine tri_v (opv_fieldAddr rfl rfl) rfl ?_
    refine tri_v (opv_loadA rfl rfl rfl) rfl ?_
    refine tri_g (opg_call (xs := [_, _]) rfl (node_putR hg0 hl0 hx0 rfl)) rfl ?_
    rintro _ _ _ ⟨d4, f4, es4, rfl, rfl, hx4, rfl⟩
    refine tri_v (opv_extract rfl rfl) rfl ?_
    refine tri_v (opv_extract rfl rfl) rfl ?_
    refine tA rfl rfl (tA rfl rfl (tN (tT (tri_ret ?_))))
    refine tri_perm (A := ?a9_0 :: ?a9_1 :: ?a9_2 :: ?a9_3 :: ?a9_4 :: ?a9_5 :: ?a9_6 :: ?T9) (B := ?a9_3 :: ?a9_4 :: ?a9_5 :: ?a9_6 :: ?a9_0 :: ?a9_1 :: ?a9_2 :: ?T9) (by exact permL [3, 4, 5, 6, 0, 1, 2] [?a9_0, ?a9_1, ?a9_2, ?a9_3, ?a9_4, ?a9_5, ?a9_6] ?T9 (by decide) rfl) ?_
    refine tri_end _ (⟨[_, _, _, _], rfl⟩) rfl (.cons (rv_tmp rfl) (.cons (rv_tmp rfl) .nil)) ⟨d4, f4, es4, _, by rw [hs]; rfl, rfl, hx4, hg0.put _ _ _ _, R6.put_len hl0, fun _ => by rw [hs]; rfl, rfl⟩
  ·rw [hk] at hk1 hk2 hq hs ⊢
   refine tM rfl rfl ?_
   refine tri_v (opv_extract rfl rfl) rfl ?_
   refine tri_v (opv_extract rfl rfl) rfl ?_
   refine tri_g opg_alloc rfl ?_
   rintro _ _ _ ⟨b12, rfl, rfl, rfl⟩
   refine tA rfl rfl ?_
   refine tri_g (opg_store rfl rfl rfl rfl rfl rfl) rfl ?_
   rintro _ _ _ ⟨rfl, rfl⟩
   refine tN (tT (tS ?_))
   refine tri_perm (A := ?a10_0 :: ?a10_1 :: ?a10_2 :: ?a10_3 :: ?a10_4 :: ?a10_5 :: ?a10_6 :: ?T10) (B := ?a10_4 :: ?a10_5 :: ?a10_6 :: ?a10_0 :: ?a10_1 :: ?a10_2 :: ?a10_3 :: ?T10) (by exact permL [4, 5, 6, 0, 1, 2, 3] [?a10_0, ?a10_1, ?a10_2, ?a10_3, ?a10_4, ?a10_5, ?a10_6] ?T10 (by decide) rfl) ?_
   skip
   refine tri_draw [0, 1, 2, 3, 4, 5, 6, 7, 8, 9, 10, 11, 12] rfl [_, _, _] rfl mixed ?_
   refine th_take rfl rfl (by kernel_rfl)  (opv_loadA rfl rfl rfl) ?_
   refine th_take rfl rfl (by kernel_rfl)  (opv_move rfl) ?_
   refine th_take rfl rfl (by kernel_rfl)  (opv_fieldAddr rfl rfl) ?_
   refine th_take rfl rfl (by kernel_rfl)  (opv_indexAddrA rfl rfl (by decide) (by decide)) ?_
   refine th_take rfl rfl (by kernel_rfl)  (opv_load1 rfl rfl rfl) ?_
   refine th_take rfl rfl (by kernel_rfl)  (opv_loadA rfl rfl rfl) ?_
   refine th_take rfl rfl (by kernel_rfl)  (opv_move rfl) ?_
   refine th_one (by kernel_rfl) (step_m rfl rfl (opg_call (xs := [_, _, _, _]) rfl (ih m (by omega) _ _ _ _ _ _ _ _ _ _ _ _ _ _ q rfl rfl (by omega) hr hix hk1 hk2 hqd hq)) ?_)
   rintro _ _ _ ⟨d0, f0, es0, ms0, rfl, rfl, hx0, hg0, hl0, hm0, rfl⟩
   refine ⟨Suf.h, (fun _ h => h), ?_⟩
   refine th_take rfl rfl (by kernel_rfl)  (opv_move rfl) ?_
   refine th_take rfl rfl (by kernel_rfl)  (opv_extract rfl rfl) ?_
   refine th_take rfl rfl (by kernel_rfl)  (opv_extract rfl rfl) ?_
   refine th_take rfl rfl (by kernel_rfl)  (opv_assign rfl) ?_
   refine th_take rfl rfl (by kernel_rfl)  (opv_assign rfl) ?_
   refine th_done (by kernel_rfl) ?_
   refine tT (tS (tS (tR (tM rfl rfl ?_))))
   refine tri_v (opv_neq rfl rfl) rfl ?_
   refine tN (tT ?_)
   refine tri_cond_dec rfl (fun x0 => ?_) (fun x0 => ?_)
   ·rw [if_pos x0] at hs
    subst hs
    refine tS (tR (tM rfl rfl (tA rfl rfl (tA rfl rfl (tN (tT (tri_ret ?_)))))))
    refine tri_then_ret ?_
    refine tri_perm (A := ?a11_0 :: ?a11_1 :: ?a11_2 :: ?a11_3 :: ?a11_4 :: ?a11_5 :: ?a11_6 :: ?T11) (B := ?a11_3 :: ?a11_4 :: ?a11_5 :: ?a11_6 :: ?a11_0 :: ?a11_1 :: ?a11_2 :: ?T11) (by exact permL [3, 4, 5, 6, 0, 1, 2] [?a11_0, ?a11_1, ?a11_2, ?a11_3, ?a11_4, ?a11_5, ?a11_6] ?T11 (by decide) rfl) ?_
    refine tri_end _ (⟨[_, _, _, _], rfl⟩) rfl (.cons (rv_tmp rfl) (.cons (rv_tmp rfl) .nil)) ⟨d0, f0, es0, ms0, rfl, rfl, hx0, hg0, hl0, fun h => absurd h x0, rfl⟩
   ·rw [if_neg x0] at hs
    have hm0 := hm0 (Decidable.not_not.1 x0)
    subst hm0
    refine tri_skip (tT (tS (tR (tM rfl rfl (tM rfl rfl ?_)))))
    refine tri_v (opv_fieldAddr rfl rfl) rfl ?_
    refine tri_v (opv_indexAddrA rfl rfl (by decide) (by decide)) rfl ?_
    refine tri_g (opg_store rfl rfl rfl rfl rfl rfl) rfl ?_
    rintro _ _ _ ⟨rfl, rfl⟩
    refine tN (tT (tS (tR ?_)))
    refine tri_v (opv_fieldAddr rfl rfl) rfl ?_
    refine tri_v (opv_load1 rfl rfl rfl) rfl ?_
    refine tri_v (opv_fieldAddr rfl rfl) rfl ?_
    refine tri_v (opv_loadA rfl rfl rfl) rfl ?_
    refine tri_g (opg_call (xs := [_, _]) rfl (node_putR hg0 hl0 hx0 rfl)) rfl ?_
    rintro _ _ _ ⟨d4, f4, es4, rfl, rfl, hx4, rfl⟩
    refine tri_v (opv_extract rfl rfl) rfl ?_
    refine tri_v (opv_extract rfl rfl) rfl ?_
    refine tA rfl rfl (tA rfl rfl (tN (tT (tri_ret ?_))))
    refine tri_perm (A := ?a12_0 :: ?a12_1 :: ?a12_2 :: ?a12_3 :: ?a12_4 :: ?a12_5 :: ?a12_6 :: ?T12) (B := ?a12_3 :: ?a12_4 :: ?a12_5 :: ?a12_6 :: ?a12_0 :: ?a12_1 :: ?a12_2 :: ?T12) (by exact permL [3, 4, 5, 6, 0, 1, 2] [?a12_0, ?a12_1, ?a12_2, ?a12_3, ?a12_4, ?a12_5, ?a12_6] ?T12 (by decide) rfl) ?_
    refine tri_end _ (⟨[_, _, _, _], rfl⟩) rfl (.cons (rv_tmp rfl) (.cons (rv_tmp rfl) .nil)) ⟨d4, f4, es4, _, by rw [hs]; rfl, rfl, hx4, hg0.put _ _ _ _, R6.put_len hl0, fun _ => by rw [hs]; rfl, rfl⟩
theorem square_set (lv : Nat) : SetQ lv := by
 induction lv using Nat.strongRecOn with
 | ind lv ih => exact square_set_step lv ih
end Go.GL


set_option linter.unusedVariables false
namespace Go.GL
open Go.Proofs
attribute [local irreducible] wpList Code.wp Exit.then Exit.inBlock Ends Tri TriH OpV OpG FnC epf wpAnyH
variable {A : List Asrt} {I : List Chunk}
namespace R7
def sq1 (ns : List Node) (room n : Int) (r : List Node × Int × Int) : List Node × Int × Int := if may ns room n then R6.told ns room r else (ns, 0, 1)
def set1 (ns : List Node) (room n : Int) (c : Cell) (to : Int) : List Node × Int × Int := if inL (R6.nd ns n).lv c then setL room to (R6.nd ns n).lv.toNat ns n c else (ns, 0, 2)
theorem sq1_set (ns : List Node) (room n : Int) (c : Cell) (alive : Bool) : sq1 ns room n (set1 ns room n c (if alive then 1 else 0)) = setM ns room n c alive := by
 unfold sq1 setM
 by_cases h : may ns room n
 ·rw [if_pos h, if_pos h]
  have e : ∀ r, R6.told ns room r = if r.2.2 ≠ 0 then (ns, 0, r.2.2) else r := fun r => if_pos h.1
  rw [e]
  unfold set1
  by_cases hi : inL (R6.nd ns n).lv c
  ·rw [if_pos hi, if_pos hi]
  ·rw [if_neg hi, if_neg hi]; rfl
 ·rw [if_neg h, if_neg h]
end R7
set_option maxHeartbeats 1000000 in
set_option maxRecDepth 100000 in
theorem square_square {ns : List Node} {a : Option Addr} {cap f1 : Nat} {room n : Int} {ca1 : List Value} {r : List Node × Int × Int} [FnI Try.prog f1] (hs : StA I a cap ns) (hn : ns.length ≤ 1000000000)
  (hc1 : R7.may ns room n → ∀ bx mb a cap es (X Y Z W : Asrt), Idx ns es → FnC Try.prog f1 ([] ++ [mkV bx] ++ ca1).toArray (IxA bx mb a cap ns room es (X :: Y :: Z :: W :: A)) I (IxM bx mb r room (X :: Y :: Z :: W :: A) I)) :
  FnC Try.prog 54 [storeV a ns.length cap room, .int .i64 n, .func (.func f1) [].toArray ca1.toArray].toArray A I (StoreR (R7.sq1 ns room n r) room A I) := by
 skip
 skip
 refine fn_enter3 Try.func54 rfl Try.ntmps54 rfl fun w0 => ?_
 refine tS (tR ?_)
 refine tri_g (opg_box_agg rfl) rfl ?_
 rintro _ _ _ ⟨b3, rfl, rfl, rfl⟩
 refine tri_g opg_alloc rfl ?_
 rintro _ _ _ ⟨b6, rfl, rfl, rfl⟩
 refine tA rfl rfl (tA rfl rfl (tN (tT (tS (tS (tR ?_))))))
 refine tri_v (opv_loadA rfl rfl rfl) rfl ?_
 refine tM rfl rfl ?_
 refine tri_g (opg_call (xs := [_, _]) rfl (square_may hs hn)) rfl ?_
 rintro _ _ _ ⟨rfl, rfl, rfl⟩
 refine tri_v (opv_notD rfl) rfl ?_
 refine tN (tT ?_)
 refine tri_cond_dec rfl (fun h1 => ?_) (fun h1 => ?_)
 ·have e : R7.sq1 ns room n r = (ns, 0, 1) := if_neg h1
  refine tS (tR ?_)
  refine tri_v (opv_loadA rfl rfl rfl) rfl ?_
  refine tri_g (opg_store rfl rfl rfl rfl rfl rfl) rfl ?_
  rintro _ _ _ ⟨rfl, rfl⟩
  refine tA rfl rfl (tA rfl rfl (tN (tT (tri_ret (tri_then_ret ?_)))))
  refine tri_end A Suf.h rfl (.cons (rv_cellA rfl rfl rfl) (.cons (rv_tmp rfl) (.cons (rv_tmp rfl) .nil))) ?_
  rw [e]
  exact ⟨a, cap, rfl, hs, rfl, fun _ h => h⟩
 ·have h1 : R7.may ns room n := Decidable.not_not.1 h1
  have e : R7.sq1 ns room n r = R6.told ns room r := if_pos h1
  rw [e]
  refine tri_skip (tT (tS (tR ?_)))
  refine tri_v (opv_loadA rfl rfl rfl) rfl ?_
  refine tM rfl rfl ?_
  refine tri_g (opg_call (xs := [_, _]) rfl (square_told (r := r) (ca1 := ca1) hs hn (fun hr bx mb a cap es X Y hi => hc1 h1 bx mb a cap es X Y _ _ hi))) rfl ?_
  rintro _ _ I1 ⟨a1, c1, rfl, hs1, rfl, hI1⟩
  refine tri_v (opv_extract rfl rfl) rfl ?_
  refine tri_v (opv_extract rfl rfl) rfl ?_
  refine tri_v (opv_extract rfl rfl) rfl ?_
  refine tri_g (opg_store rfl rfl rfl rfl rfl rfl) rfl ?_
  rintro _ _ _ ⟨rfl, rfl⟩
  refine tA rfl rfl (tA rfl rfl (tN (tT (tri_ret ?_))))
  refine tri_end A Suf.h rfl (.cons (rv_cellA rfl rfl rfl) (.cons (rv_tmp rfl) (.cons (rv_tmp rfl) .nil))) ⟨a1, c1, rfl, hs1, rfl, hI1⟩
set_option maxHeartbeats 2000000 in
set_option maxRecDepth 100000 in
theorem square_set1 {ns : List Node} {a : Option Addr} {cap bx mb b5 b6 b7 : Nat} {room n : Int} {c : Cell} {alive : Bool} {es : KVs} {T1 T2 T3 : TypeId} {X Y Z W V : Asrt} (hm : R7.may ns room n) (hix : Idx ns es) :
  FnC Try.prog 61 ([] ++ [mkV bx] ++ [pt b7 0, pt b5 0, pt b6 0]).toArray (IxA bx mb a cap ns room es (X :: Y :: Z :: W :: V :: Box b7 [.bool alive] T1 :: Box b6 [.int .i64 c.x, .int .i64 c.y] T2 :: Box b5 [.int .i64 n] T3 :: A)) I (IxM bx mb (R7.set1 ns room n c (if alive then 1 else 0)) room (X :: Y :: Z :: W :: V :: Box b7 [.bool alive] T1 :: Box b6 [.int .i64 c.x, .int .i64 c.y] T2 :: Box b5 [.int .i64 n] T3 :: A) I) := by
 show FnC Try.prog _ [mkV bx, pt b7 0, pt b5 0, pt b6 0].toArray _ _ _
 obtain ⟨⟨hn0, hn1⟩, lv, hlv1, hlv2, hlv⟩ := hm.is
 have hr := hm.1
 obtain ⟨hg, h2n⟩ := right_good7 hr
 have hlv' : (ns.getD n.toNat default).lv = lv := hlv
 have hbad : ¬ R7.inL lv c → ∀ to, R7.set1 ns room n c to = (ns, 0, 2) := fun h to => if_neg (by rw [hlv]; exact h)
 have hok : R7.inL lv c → ∀ to, R7.set1 ns room n c to = R7.setL room to lv ns n c := fun h to => (if_pos (by rw [hlv]; exact h)).trans (by rw [hlv, Int.toNat_natCast])
 skip
 skip
 refine fn_enter4 Try.func61 rfl Try.ntmps61 rfl fun w0 => ?_
 refine tS (tR ?_)
 refine tri_g (opg_box_agg rfl) rfl ?_
 rintro _ _ _ ⟨b4, rfl, rfl, rfl⟩
 refine tA rfl rfl (tA rfl rfl (tN (tT (tS (tR (tA rfl rfl (tN ?_)))))))
 refine tT (tS (tS (tR ?_)))
 refine tri_v (opv_load1 rfl rfl rfl) rfl ?_
 refine tN (tT ?_)
 refine tri_cond rfl (fun ha => ?_) (fun ha => ?_)
 ·subst ha
  show Tri _ _ _ _ _ _
  refine tR (tA rfl rfl (tN (tT (tS (tS ?_)))))
  refine tri_draw [0, 1, 2, 3, 4, 5, 6, 7, 8, 9, 10, 11, 12] rfl [] rfl mixed ?_
  refine th_take rfl rfl (by kernel_rfl)  (opv_fieldAddr rfl rfl) ?_
  refine th_take rfl rfl (by kernel_rfl)  (opv_load1 rfl rfl rfl) ?_
  refine th_take rfl rfl (by kernel_rfl)  (opv_nilCheck rfl) ?_
  refine th_take rfl rfl (by kernel_rfl)  (opv_fieldAddr rfl rfl) ?_
  refine th_take rfl rfl (by kernel_rfl)  (opv_fieldAddr rfl rfl) ?_
  refine th_take rfl rfl (by kernel_rfl)  (opv_load1 rfl rfl rfl) ?_
  refine th_take rfl rfl (by kernel_rfl)  (opv_load1 rfl rfl rfl) ?_
  refine th_take rfl rfl (by kernel_rfl)  (opv_indexAddrR rfl rfl (by omega) (by omega)) ?_
  refine th_take rfl rfl (by kernel_rfl)  (opv_fieldAddrR rfl (by omega) rfl) ?_
  refine th_take rfl rfl (by kernel_rfl)  (opv_loadRX1 rfl rfl (by omega) rfl rfl) ?_
  refine th_take rfl rfl (by kernel_rfl)  (opv_loadA rfl rfl rfl) ?_
  rw [hlv']
  refine th_one (by kernel_rfl) (step_m rfl rfl (opg_call (xs := [_, _]) rfl (square_in (lv := lv) (c := c) hlv1 hlv2)) ?_)
  rintro _ _ _ ⟨rfl, rfl, rfl⟩
  refine ⟨Suf.h, (fun _ h => h), ?_⟩
  rw [← hlv']
  refine th_take rfl rfl (by kernel_rfl)  (opv_notD rfl) ?_
  refine th_done (by kernel_rfl) ?_
  refine tT ?_
  refine tri_cond_dec rfl (fun h2 => ?_) (fun h2 => ?_)
  ·have e := hbad (by rw [← hlv']; exact h2) (if true then 1 else 0)
   rw [e]
   refine tS (tR (tA rfl rfl (tA rfl rfl (tN (tT (tri_ret (tri_then_ret ?_)))))))
   refine tri_end _ (⟨[_], rfl⟩) rfl (.cons (rv_tmp rfl) (.cons (rv_tmp rfl) .nil)) ⟨I, ⟨a, cap, es, ns, rfl, rfl, hix, hg, h2n, fun _ => rfl, rfl⟩, fun _ h => h⟩
  ·have h2 : R7.inL lv c := by rw [← hlv']; exact Decidable.not_not.1 h2
   have e := hok h2 (if true then 1 else 0)
   have hbd := R7.inL_bd hlv2 h2
   refine tri_skip (tT (tS (tR ?_)))
   refine tri_v (opv_loadA rfl rfl rfl) rfl ?_
   refine tri_v (opv_load1 rfl rfl rfl) rfl ?_
   refine tri_v (opv_loadA rfl rfl rfl) rfl ?_
   refine tM rfl rfl ?_
   refine tri_perm (A := ?a1_0 :: ?a1_1 :: ?a1_2 :: ?a1_3 :: ?T1) (B := ?a1_1 :: ?a1_2 :: ?a1_3 :: ?a1_0 :: ?T1) (by exact permL [1, 2, 3, 0] [?a1_0, ?a1_1, ?a1_2, ?a1_3] ?T1 (by decide) rfl) ?_
   refine tri_g (opg_call (xs := [_, _, _, _]) rfl (square_set lv _ _ _ _ _ _ _ _ _ _ _ _ _ c _ rfl rfl hlv2 hr hix ⟨hn0, hn1⟩ hlv hbd e.symm)) rfl ?_
   rintro _ _ _ ⟨d0, f0, es0, ms0, rfl, rfl, hx0, hg0, hl0, hm0, rfl⟩
   refine tri_v (opv_extract rfl rfl) rfl ?_
   refine tri_v (opv_extract rfl rfl) rfl ?_
   refine tA rfl rfl (tA rfl rfl (tN (tT (tri_ret ?_))))
   refine tri_perm (A := ?a2_0 :: ?a2_1 :: ?a2_2 :: ?a2_3 :: ?T2) (B := ?a2_3 :: ?a2_0 :: ?a2_1 :: ?a2_2 :: ?T2) (by exact permL [3, 0, 1, 2] [?a2_0, ?a2_1, ?a2_2, ?a2_3] ?T2 (by decide) rfl) ?_
   refine tri_end _ (⟨[_], rfl⟩) rfl (.cons (rv_tmp rfl) (.cons (rv_tmp rfl) .nil)) ⟨I, ⟨d0, f0, es0, ms0, rfl, rfl, hx0, hg0, hl0, hm0, rfl⟩, fun _ h => h⟩
 ·subst ha
  refine tri_skip (tT (tS (tS ?_)))
  refine tri_draw [0, 1, 2, 3, 4, 5, 6, 7, 8, 9, 10, 11, 12] rfl [] rfl mixed ?_
  refine th_take rfl rfl (by kernel_rfl)  (opv_fieldAddr rfl rfl) ?_
  refine th_take rfl rfl (by kernel_rfl)  (opv_load1 rfl rfl rfl) ?_
  refine th_take rfl rfl (by kernel_rfl)  (opv_nilCheck rfl) ?_
  refine th_take rfl rfl (by kernel_rfl)  (opv_fieldAddr rfl rfl) ?_
  refine th_take rfl rfl (by kernel_rfl)  (opv_fieldAddr rfl rfl) ?_
  refine th_take rfl rfl (by kernel_rfl)  (opv_load1 rfl rfl rfl) ?_
  refine th_take rfl rfl (by kernel_rfl)  (opv_load1 rfl rfl rfl) ?_
  refine th_take rfl rfl (by kernel_rfl)  (opv_indexAddrR rfl rfl (by omega) (by omega)) ?_
  refine th_take rfl rfl (by kernel_rfl)  (opv_fieldAddrR rfl (by omega) rfl) ?_
  refine th_take rfl rfl (by kernel_rfl)  (opv_loadRX1 rfl rfl (by omega) rfl rfl) ?_
  refine th_take rfl rfl (by kernel_rfl)  (opv_loadA rfl rfl rfl) ?_
  rw [hlv']
  refine th_one (by kernel_rfl) (step_m rfl rfl (opg_call (xs := [_, _]) rfl (square_in (lv := lv) (c := c) hlv1 hlv2)) ?_)
  rintro _ _ _ ⟨rfl, rfl, rfl⟩
  refine ⟨Suf.h, (fun _ h => h), ?_⟩
  rw [← hlv']
  refine th_take rfl rfl (by kernel_rfl)  (opv_notD rfl) ?_
  refine th_done (by kernel_rfl) ?_
  refine tT ?_
  refine tri_cond_dec rfl (fun h2 => ?_) (fun h2 => ?_)
  ·have e := hbad (by rw [← hlv']; exact h2) (if false then 1 else 0)
   rw [e]
   refine tS (tR (tA rfl rfl (tA rfl rfl (tN (tT (tri_ret (tri_then_ret ?_)))))))
   refine tri_end _ (⟨[_], rfl⟩) rfl (.cons (rv_tmp rfl) (.cons (rv_tmp rfl) .nil)) ⟨I, ⟨a, cap, es, ns, rfl, rfl, hix, hg, h2n, fun _ => rfl, rfl⟩, fun _ h => h⟩
  ·have h2 : R7.inL lv c := by rw [← hlv']; exact Decidable.not_not.1 h2
   have e := hok h2 (if false then 1 else 0)
   have hbd := R7.inL_bd hlv2 h2
   refine tri_skip (tT (tS (tR ?_)))
   refine tri_v (opv_loadA rfl rfl rfl) rfl ?_
   refine tri_v (opv_load1 rfl rfl rfl) rfl ?_
   refine tri_v (opv_loadA rfl rfl rfl) rfl ?_
   refine tM rfl rfl ?_
   refine tri_perm (A := ?a3_0 :: ?a3_1 :: ?a3_2 :: ?a3_3 :: ?T3) (B := ?a3_1 :: ?a3_2 :: ?a3_3 :: ?a3_0 :: ?T3) (by exact permL [1, 2, 3, 0] [?a3_0, ?a3_1, ?a3_2, ?a3_3] ?T3 (by decide) rfl) ?_
   refine tri_g (opg_call (xs := [_, _, _, _]) rfl (square_set lv _ _ _ _ _ _ _ _ _ _ _ _ _ c _ rfl rfl hlv2 hr hix ⟨hn0, hn1⟩ hlv hbd e.symm)) rfl ?_
   rintro _ _ _ ⟨d0, f0, es0, ms0, rfl, rfl, hx0, hg0, hl0, hm0, rfl⟩
   refine tri_v (opv_extract rfl rfl) rfl ?_
   refine tri_v (opv_extract rfl rfl) rfl ?_
   refine tA rfl rfl (tA rfl rfl (tN (tT (tri_ret ?_))))
   refine tri_perm (A := ?a4_0 :: ?a4_1 :: ?a4_2 :: ?a4_3 :: ?T4) (B := ?a4_3 :: ?a4_0 :: ?a4_1 :: ?a4_2 :: ?T4) (by exact permL [3, 0, 1, 2] [?a4_0, ?a4_1, ?a4_2, ?a4_3] ?T4 (by decide) rfl) ?_
   refine tri_end _ (⟨[_], rfl⟩) rfl (.cons (rv_tmp rfl) (.cons (rv_tmp rfl) .nil)) ⟨I, ⟨d0, f0, es0, ms0, rfl, rfl, hx0, hg0, hl0, hm0, rfl⟩, fun _ h => h⟩
set_option maxHeartbeats 1000000 in
set_option maxRecDepth 100000 in
theorem square_setT {ns : List Node} {a : Option Addr} {cap : Nat} {room n : Int} {c : Cell} {alive : Bool} (hs : StA I a cap ns) (hn : ns.length ≤ 1000000000) :
  FnC Try.prog 26 [storeV a ns.length cap room, .int .i64 n, cellV c, .bool alive].toArray A I (StoreR (R7.setM ns room n c alive) room A I) := by
 rw [← R7.sq1_set]
 skip
 skip
 refine fn_enter4 Try.func26 rfl Try.ntmps26 rfl fun w0 => ?_
 refine tS (tR ?_)
 refine tri_g (opg_box_agg rfl) rfl ?_
 rintro _ _ _ ⟨b4, rfl, rfl, rfl⟩
 refine tri_g (opg_box1 rfl rfl) rfl ?_
 rintro _ _ _ ⟨b5, rfl, rfl, rfl⟩
 refine tri_g (opg_box_agg rfl) rfl ?_
 rintro _ _ _ ⟨b6, rfl, rfl, rfl⟩
 refine tri_g (opg_box1 rfl rfl) rfl ?_
 rintro _ _ _ ⟨b7, rfl, rfl, rfl⟩
 refine tri_g opg_alloc rfl ?_
 rintro _ _ _ ⟨b8, rfl, rfl, rfl⟩
 refine tA rfl rfl (tA rfl rfl (tN (tT (tS (tR ?_)))))
 refine tri_v (opv_loadA rfl rfl rfl) rfl ?_
 refine tri_v (opv_load1 rfl rfl rfl) rfl ?_
 refine tri_v (opv_makeFunc (fs := []) (cs := [_, _, _]) (vf := []) (vc := [_, _, _]) rfl rfl) rfl ?_
 refine tri_g (opg_call (xs := [_, _, _]) rfl (square_square (r := R7.set1 ns room n c (if alive then 1 else 0)) (ca1 := [pt b7 0, pt b5 0, pt b6 0]) hs hn (fun hm bx mb a cap es X Y Z W hi => square_set1 hm hi))) rfl ?_
 rintro _ _ I1 ⟨a1, c1, rfl, hs1, rfl, hI1⟩
 refine tri_v (opv_extract rfl rfl) rfl ?_
 refine tri_v (opv_extract rfl rfl) rfl ?_
 refine tri_v (opv_extract rfl rfl) rfl ?_
 refine tri_g (opg_store rfl rfl rfl rfl rfl rfl) rfl ?_
 rintro _ _ _ ⟨rfl, rfl⟩
 refine tA rfl rfl (tA rfl rfl (tN (tT (tri_ret ?_))))
 refine tri_end A Suf.h rfl (.cons (rv_cellA rfl rfl rfl) (.cons (rv_tmp rfl) (.cons (rv_tmp rfl) .nil))) ⟨a1, c1, rfl, hs1, rfl, hI1⟩
end Go.GL


set_option linter.unusedVariables false
namespace Go.GL
open Go.Proofs
attribute [local irreducible] wpList Code.wp Exit.then Exit.inBlock Ends Tri TriH OpV OpG FnC epf wpAnyH
variable {A : List Asrt} {I : List Chunk}
namespace R7
def grow1 (ns : List Node) (room n : Int) : List Node × Int × Int := if (R6.nd ns n).lv = 42 then (ns, 0, 1) else larger ns room n
theorem sq1_grow (ns : List Node) (room n : Int) : sq1 ns room n (grow1 ns room n) = growM ns room n := by
 by_cases h : may ns room n
 ·obtain ⟨_, lv, h1, h2, h3⟩ := h.is
  have e0 : ∀ r, sq1 ns room n r = R6.told ns room r := fun r => if_pos h
  have e : ∀ r, R6.told ns room r = if r.2.2 ≠ 0 then (ns, 0, r.2.2) else r := fun r => if_pos h.1
  rw [e0, e]
  by_cases hi : (R6.nd ns n).lv = 42
  ·have e1 : grow1 ns room n = (ns, 0, 1) := if_pos hi
   have e2 : growM ns room n = (ns, 0, 1) := if_neg (fun k => by omega)
   rw [e1, e2]; rfl
  ·have e1 : grow1 ns room n = larger ns room n := if_neg hi
   have e2 : growM ns room n = larger ns room n := if_pos ⟨h, by omega⟩
   rw [e1, e2]
   by_cases k : (larger ns room n).2.2 ≠ 0
   ·rw [if_pos k]; exact (larger_err ns room n k).symm
   ·rw [if_neg k]
 ·have e1 : sq1 ns room n (grow1 ns room n) = (ns, 0, 1) := if_neg h
  have e2 : growM ns room n = (ns, 0, 1) := if_neg (fun k => h k.1)
  rw [e1, e2]
end R7
set_option maxHeartbeats 4000000 in
set_option maxRecDepth 100000 in
theorem square_grow1 {ns : List Node} {a : Option Addr} {cap bx mb b3 : Nat} {room n : Int} {es : KVs} {T : TypeId} {X Y Z W V : Asrt} (hm : R7.may ns room n) (hix : Idx ns es) :
  FnC Try.prog 55 ([] ++ [mkV bx] ++ [pt b3 0]).toArray (IxA bx mb a cap ns room es (X :: Y :: Z :: W :: V :: Box b3 [.int .i64 n] T :: A)) I (IxM bx mb (R7.grow1 ns room n) room (X :: Y :: Z :: W :: V :: Box b3 [.int .i64 n] T :: A) I) := by
 show FnC Try.prog _ [mkV bx, pt b3 0].toArray _ _ _
 obtain ⟨⟨hn0, hn1⟩, lv, hlv1, hlv2, hlv⟩ := hm.is
 have hr := hm.1
 obtain ⟨hg, h2n⟩ := right_good7 hr
 have hlv' : (ns.getD n.toNat default).lv = lv := hlv
 obtain ⟨m, rfl⟩ : ∃ m, lv = m + 1 := ⟨lv - 1, by omega⟩
 obtain ⟨d, hd⟩ : ∃ r, R7.empty ns room m = r := ⟨_, rfl⟩
 obtain ⟨r0, hr0⟩ : ∃ r, R6.put d.1 room d.2.1 d.2.1 d.2.1 (R6.nd ns n).k0 = r := ⟨_, rfl⟩
 obtain ⟨r1, hr1⟩ : ∃ r, R6.put r0.1 room d.2.1 d.2.1 (R6.nd ns n).k1 d.2.1 = r := ⟨_, rfl⟩
 obtain ⟨r2, hr2⟩ : ∃ r, R6.put r1.1 room d.2.1 (R6.nd ns n).k2 d.2.1 d.2.1 = r := ⟨_, rfl⟩
 obtain ⟨r3, hr3⟩ : ∃ r, R6.put r2.1 room (R6.nd ns n).k3 d.2.1 d.2.1 d.2.1 = r := ⟨_, rfl⟩
 obtain ⟨r4, hr4⟩ : ∃ r, R6.put r3.1 room r0.2.1 r1.2.1 r2.2.1 r3.2.1 = r := ⟨_, rfl⟩
 have hL := R7.larger_eq (by rw [hlv, show (((m + 1 : Nat) : Int) - 1).toNat = m by omega]; exact hd) hr0 hr1 hr2 hr3 hr4
 have hgd : R6.Good d.1 room := by rw [← hd]; exact R7.emptyF_good room m ns 0 hg
 have h2d : 2 ≤ d.1.length := by rw [← hd]; exact R7.emptyF_len2 room m 0 h2n
 have hgood : ∀ {ms : List Node} {q : List Node × Int × Int} {q0 q1 q2 q3 : Int}, R6.Good ms room → 2 ≤ ms.length → R6.put ms room q0 q1 q2 q3 = q → R6.Good q.1 room ∧ 2 ≤ q.1.length := fun h1 h2 e => by rw [← e]; exact ⟨h1.put _ _ _ _, R6.put_len h2⟩
 obtain ⟨hg0, h20⟩ := hgood hgd h2d hr0
 obtain ⟨hg1, h21⟩ := hgood hg0 h20 hr1
 obtain ⟨hg2, h22⟩ := hgood hg1 h21 hr2
 obtain ⟨hg3, h23⟩ := hgood hg2 h22 hr3
 obtain ⟨hg4, h24⟩ := hgood hg3 h23 hr4
 skip
 skip
 refine fn_enter2 Try.func55 rfl Try.ntmps55 rfl fun w0 => ?_
 refine tS (tR ?_)
 refine tri_g (opg_box_agg rfl) rfl ?_
 rintro _ _ _ ⟨b2, rfl, rfl, rfl⟩
 refine tA rfl rfl (tA rfl rfl (tN (tT (tS ?_))))
 refine tri_draw [0, 1, 2, 3, 4, 5, 6, 7, 8, 9, 10] rfl [] rfl mixed ?_
 refine th_take rfl rfl (by kernel_rfl)  (opv_fieldAddr rfl rfl) ?_
 refine th_take rfl rfl (by kernel_rfl)  (opv_load1 rfl rfl rfl) ?_
 refine th_take rfl rfl (by kernel_rfl)  (opv_nilCheck rfl) ?_
 refine th_take rfl rfl (by kernel_rfl)  (opv_fieldAddr rfl rfl) ?_
 refine th_take rfl rfl (by kernel_rfl)  (opv_fieldAddr rfl rfl) ?_
 refine th_take rfl rfl (by kernel_rfl)  (opv_load1 rfl rfl rfl) ?_
 refine th_take rfl rfl (by kernel_rfl)  (opv_load1 rfl rfl rfl) ?_
 refine th_take rfl rfl (by kernel_rfl)  (opv_indexAddrR rfl rfl (by omega) (by omega)) ?_
 refine th_take rfl rfl (by kernel_rfl)  (opv_loadRXA rfl rfl (by omega) rfl rfl rfl) ?_
 refine th_one (by kernel_rfl) (step_m rfl rfl opg_alloc ?_)
 rintro _ _ _ ⟨b5, rfl, rfl, rfl⟩
 refine ⟨Suf.h, (fun _ h => h), ?_⟩
 refine th_one (by kernel_rfl) (step_m rfl rfl (opg_store rfl rfl rfl rfl rfl rfl) ?_)
 rintro _ _ _ ⟨rfl, rfl⟩
 refine ⟨Suf.h, (fun _ h => h), ?_⟩
 refine th_done (by kernel_rfl) ?_
 refine tT (tS (tS (tR ?_)))
 refine tri_v (opv_fieldAddr rfl rfl) rfl ?_
 refine tri_v (opv_load1 rfl rfl rfl) rfl ?_
 refine tri_v (opv_eql rfl rfl) rfl ?_
 refine tN (tT ?_)
 refine tri_cond_dec rfl (fun h0 => ?_) (fun h0 => ?_)
 ·have e : R7.grow1 ns room n = (ns, 0, 1) := if_pos h0
  rw [e]
  refine tS (tR (tA rfl rfl (tA rfl rfl (tN (tT (tri_ret (tri_then_ret ?_)))))))
  refine tri_end _ (⟨[_, _], rfl⟩) rfl (.cons (rv_tmp rfl) (.cons (rv_tmp rfl) .nil)) ⟨I, ⟨a, cap, es, ns, rfl, rfl, hix, hg, h2n, fun _ => rfl, rfl⟩, fun _ h => h⟩
 ·have e : R7.grow1 ns room n = R7.larger ns room n := if_neg h0
  rw [e]
  generalize R7.larger ns room n = res at hL ⊢
  refine tri_skip (tT (tS (tR ?_)))
  refine tri_v (opv_fieldAddr rfl rfl) rfl ?_
  refine tri_v (opv_load1 rfl rfl rfl) rfl ?_
  refine tri_v (opv_fieldAddr rfl rfl) rfl ?_
  refine tri_v (opv_load1 rfl rfl rfl) rfl ?_
  refine tri_v (opv_sub rfl rfl (w64 (by omega) (by omega))) rfl ?_
  rw [show (ns.getD n.toNat default).lv - 1 = (m : Int) by omega]
  refine tri_perm (A := ?a1_0 :: ?a1_1 :: ?a1_2 :: ?a1_3 :: ?a1_4 :: ?T1) (B := ?a1_2 :: ?a1_3 :: ?a1_4 :: ?a1_0 :: ?a1_1 :: ?T1) (by exact permL [2, 3, 4, 0, 1] [?a1_0, ?a1_1, ?a1_2, ?a1_3, ?a1_4] ?T1 (by decide) rfl) ?_
  refine tri_g (opg_call (xs := [_, _]) rfl (index_empty (lv := m) (by omega) hg h2n hix)) rfl ?_
  rintro _ _ _ ⟨d0, f0, es0, rfl, rfl, hx0, rfl⟩
  rw [hd] at hx0 ⊢
  refine tM rfl rfl ?_
  refine tri_v (opv_extract rfl rfl) rfl ?_
  refine tri_v (opv_extract rfl rfl) rfl ?_
  refine tA rfl rfl (tA rfl rfl (tN (tT (tS (tS (tR (tM rfl rfl ?_)))))))
  refine tri_v (opv_neq rfl rfl) rfl ?_
  refine tN (tT ?_)
  refine tri_cond_dec rfl (fun h1 => ?_) (fun h1 => ?_)
  ·rw [if_pos h1] at hL
   subst hL
   refine tS (tR (tM rfl rfl (tA rfl rfl (tA rfl rfl (tN (tT (tri_ret ?_)))))))
   refine tri_then_ret ?_
   refine tri_perm (A := ?a2_0 :: ?a2_1 :: ?a2_2 :: ?a2_3 :: ?a2_4 :: ?T2) (B := ?a2_3 :: ?a2_4 :: ?a2_0 :: ?a2_1 :: ?a2_2 :: ?T2) (by exact permL [3, 4, 0, 1, 2] [?a2_0, ?a2_1, ?a2_2, ?a2_3, ?a2_4] ?T2 (by decide) rfl) ?_
   refine tri_end _ (⟨[_, _], rfl⟩) rfl (.cons (rv_tmp rfl) (.cons (rv_tmp rfl) .nil)) ⟨I, ⟨d0, f0, es0, _, rfl, rfl, hx0, hgd, h2d, fun h => absurd h h1, rfl⟩, fun _ h => h⟩
  ·rw [if_neg h1] at hL
   refine tri_skip (tT (tS (tR ?_)))
   refine tri_g opg_alloc rfl ?_
   rintro _ _ _ ⟨b8, rfl, rfl, rfl⟩
   refine tN (tT (tS (tS (tR ?_))))
   refine tri_v (opv_fieldAddr rfl rfl) rfl ?_
   refine tri_v (opv_loadA rfl rfl rfl) rfl ?_
   refine tM rfl rfl (tN (tT (tri_block ?_)))
   refine tri_rounds 5 ?_
   refine tri_round ?_
   refine tS (tR ?_)
   refine tri_v (opv_lss rfl rfl) rfl ?_
   refine tN (tT (tS ?_))
   refine tri_cond_is rfl (by decide) ?_
   refine tri_skip (tT (tS (tri_block (tS (tR (tM rfl rfl ?_))))))
   refine tri_v (opv_index rfl rfl (by decide) (by decide) rfl rfl) rfl ?_
   refine tA rfl rfl (tA rfl rfl (tN (tT (tS (tR (tM rfl rfl (tM rfl rfl ?_)))))))
   refine tM rfl rfl (tM rfl rfl ?_)
   refine tri_v (opv_buildA rfl rfl) rfl ?_
   refine tri_g opg_alloc rfl ?_
   rintro _ _ _ ⟨b11, rfl, rfl, rfl⟩
   refine tri_g (opg_store rfl rfl rfl rfl rfl rfl) rfl ?_
   rintro _ _ _ ⟨rfl, rfl⟩
   refine tN (tT (tS (tR (tM rfl rfl ?_))))
   refine tri_v (opv_sub rfl rfl (w64 (by omega) (by omega))) rfl ?_
   refine tM rfl rfl ?_
   refine tri_v (opv_indexAddrA rfl rfl (by decide) (by decide)) rfl ?_
   refine tri_g (opg_store rfl rfl rfl rfl rfl rfl) rfl ?_
   rintro _ _ _ ⟨rfl, rfl⟩
   refine tN (tT (tS (tR (tM rfl rfl ?_))))
   refine tri_v (opv_fieldAddr rfl rfl) rfl ?_
   refine tri_v (opv_load1 rfl rfl rfl) rfl ?_
   refine tri_v (opv_loadA rfl rfl rfl) rfl ?_
   refine tri_perm (A := ?a3_0 :: ?a3_1 :: ?a3_2 :: ?a3_3 :: ?a3_4 :: ?T3) (B := ?a3_2 :: ?a3_3 :: ?a3_4 :: ?a3_0 :: ?a3_1 :: ?T3) (by exact permL [2, 3, 4, 0, 1] [?a3_0, ?a3_1, ?a3_2, ?a3_3, ?a3_4] ?T3 (by decide) rfl) ?_
   refine tri_g (opg_call (xs := [_, _]) rfl (node_putR hgd h2d hx0 hr0)) rfl ?_
   rintro _ _ _ ⟨d1, f1, es1, rfl, rfl, hx1, rfl⟩
   refine tM rfl rfl ?_
   refine tri_v (opv_extract rfl rfl) rfl ?_
   refine tri_v (opv_extract rfl rfl) rfl ?_
   refine tri_v (opv_indexAddrA rfl rfl (by decide) (by decide)) rfl ?_
   refine tri_g (opg_store rfl rfl rfl rfl rfl rfl) rfl ?_
   rintro _ _ _ ⟨rfl, rfl⟩
   refine tA rfl rfl (tN (tT (tS (tR (tM rfl rfl ?_)))))
   refine tri_v (opv_neq rfl rfl) rfl ?_
   refine tN (tT ?_)
   refine tri_cond_dec rfl (fun y0 => ?_) (fun y0 => ?_)
   ·rw [if_pos y0] at hL
    subst hL
    refine tS (tR (tM rfl rfl (tA rfl rfl (tA rfl rfl (tN (tT (tri_ret ?_)))))))
    refine tri_inBlock_ret ?_
    refine tri_then_ret (tri_then_ret ?_)
    refine tri_inBlock_ret ?_
    refine tri_then_ret ?_
    refine tri_perm (A := ?a4_0 :: ?a4_1 :: ?a4_2 :: ?a4_3 :: ?a4_4 :: ?a4_5 :: ?a4_6 :: ?T4) (B := ?a4_3 :: ?a4_4 :: ?a4_5 :: ?a4_6 :: ?a4_0 :: ?a4_1 :: ?a4_2 :: ?T4) (by exact permL [3, 4, 5, 6, 0, 1, 2] [?a4_0, ?a4_1, ?a4_2, ?a4_3, ?a4_4, ?a4_5, ?a4_6] ?T4 (by decide) rfl) ?_
    refine tri_end _ (⟨[_, _, _, _], rfl⟩) rfl (.cons (rv_tmp rfl) (.cons (rv_tmp rfl) .nil)) ⟨I, ⟨d1, f1, es1, _, rfl, rfl, hx1, hg0, h20, fun h => absurd h y0, rfl⟩, fun _ h => h⟩
   rw [if_neg y0] at hL
   skip
   refine tri_skip ?_
   refine tri_inBlock ?_
   refine tT (tR ?_)
   refine tU rfl rfl (by omega) (by omega) rfl ?_
   refine tM rfl rfl (tN (tT ?_))
   refine tri_round ?_
   refine tS (tR ?_)
   refine tri_v (opv_lss rfl rfl) rfl ?_
   refine tN (tT (tS ?_))
   refine tri_perm (A := ?a5_0 :: ?a5_1 :: ?a5_2 :: ?a5_3 :: ?T5) (B := ?a5_3 :: ?a5_0 :: ?a5_1 :: ?a5_2 :: ?T5) (by exact permL [3, 0, 1, 2] [?a5_0, ?a5_1, ?a5_2, ?a5_3] ?T5 (by decide) rfl) ?_
   refine tri_drop ?_
   skip
   refine tri_cond_is rfl (by decide) ?_
   refine tri_skip (tT (tS (tri_block (tS (tR (tM rfl rfl ?_))))))
   refine tri_v (opv_index rfl rfl (by decide) (by decide) rfl rfl) rfl ?_
   refine tA rfl rfl (tA rfl rfl (tN (tT (tS (tR (tM rfl rfl (tM rfl rfl ?_)))))))
   refine tM rfl rfl (tM rfl rfl ?_)
   refine tri_v (opv_buildA rfl rfl) rfl ?_
   refine tri_g opg_alloc rfl ?_
   rintro _ _ _ ⟨b11, rfl, rfl, rfl⟩
   refine tri_g (opg_store rfl rfl rfl rfl rfl rfl) rfl ?_
   rintro _ _ _ ⟨rfl, rfl⟩
   refine tN (tT (tS (tR (tM rfl rfl ?_))))
   refine tri_v (opv_sub rfl rfl (w64 (by omega) (by omega))) rfl ?_
   refine tM rfl rfl ?_
   refine tri_v (opv_indexAddrA rfl rfl (by decide) (by decide)) rfl ?_
   refine tri_g (opg_store rfl rfl rfl rfl rfl rfl) rfl ?_
   rintro _ _ _ ⟨rfl, rfl⟩
   refine tN (tT (tS (tR (tM rfl rfl ?_))))
   refine tri_v (opv_fieldAddr rfl rfl) rfl ?_
   refine tri_v (opv_load1 rfl rfl rfl) rfl ?_
   refine tri_v (opv_loadA rfl rfl rfl) rfl ?_
   refine tri_perm (A := ?a6_0 :: ?a6_1 :: ?a6_2 :: ?a6_3 :: ?T6) (B := ?a6_1 :: ?a6_2 :: ?a6_3 :: ?a6_0 :: ?T6) (by exact permL [1, 2, 3, 0] [?a6_0, ?a6_1, ?a6_2, ?a6_3] ?T6 (by decide) rfl) ?_
   refine tri_g (opg_call (xs := [_, _]) rfl (node_putR hg0 h20 hx1 hr1)) rfl ?_
   rintro _ _ _ ⟨d2, f2, es2, rfl, rfl, hx2, rfl⟩
   refine tM rfl rfl ?_
   refine tri_v (opv_extract rfl rfl) rfl ?_
   refine tri_v (opv_extract rfl rfl) rfl ?_
   refine tri_v (opv_indexAddrA rfl rfl (by decide) (by decide)) rfl ?_
   refine tri_g (opg_store rfl rfl rfl rfl rfl rfl) rfl ?_
   rintro _ _ _ ⟨rfl, rfl⟩
   refine tA rfl rfl (tN (tT (tS (tR (tM rfl rfl ?_)))))
   refine tri_v (opv_neq rfl rfl) rfl ?_
   refine tN (tT ?_)
   refine tri_cond_dec rfl (fun y1 => ?_) (fun y1 => ?_)
   ·rw [if_pos y1] at hL
    subst hL
    refine tS (tR (tM rfl rfl (tA rfl rfl (tA rfl rfl (tN (tT (tri_ret ?_)))))))
    refine tri_inBlock_ret ?_
    refine tri_then_ret (tri_then_ret ?_)
    refine tri_inBlock_ret ?_
    refine tri_then_ret ?_
    refine tri_perm (A := ?a7_0 :: ?a7_1 :: ?a7_2 :: ?a7_3 :: ?a7_4 :: ?a7_5 :: ?a7_6 :: ?T7) (B := ?a7_3 :: ?a7_4 :: ?a7_5 :: ?a7_6 :: ?a7_0 :: ?a7_1 :: ?a7_2 :: ?T7) (by exact permL [3, 4, 5, 6, 0, 1, 2] [?a7_0, ?a7_1, ?a7_2, ?a7_3, ?a7_4, ?a7_5, ?a7_6] ?T7 (by decide) rfl) ?_
    refine tri_end _ (⟨[_, _, _, _], rfl⟩) rfl (.cons (rv_tmp rfl) (.cons (rv_tmp rfl) .nil)) ⟨I, ⟨d2, f2, es2, _, rfl, rfl, hx2, hg1, h21, fun h => absurd h y1, rfl⟩, fun _ h => h⟩
   rw [if_neg y1] at hL
   skip
   refine tri_skip ?_
   refine tri_inBlock ?_
   refine tT (tR ?_)
   refine tU rfl rfl (by omega) (by omega) rfl ?_
   refine tM rfl rfl (tN (tT ?_))
   refine tri_round ?_
   refine tS (tR ?_)
   refine tri_v (opv_lss rfl rfl) rfl ?_
   refine tN (tT (tS ?_))
   refine tri_perm (A := ?a8_0 :: ?a8_1 :: ?a8_2 :: ?a8_3 :: ?T8) (B := ?a8_3 :: ?a8_0 :: ?a8_1 :: ?a8_2 :: ?T8) (by exact permL [3, 0, 1, 2] [?a8_0, ?a8_1, ?a8_2, ?a8_3] ?T8 (by decide) rfl) ?_
   refine tri_drop ?_
   skip
   refine tri_cond_is rfl (by decide) ?_
   refine tri_skip (tT (tS (tri_block (tS (tR (tM rfl rfl ?_))))))
   refine tri_v (opv_index rfl rfl (by decide) (by decide) rfl rfl) rfl ?_
   refine tA rfl rfl (tA rfl rfl (tN (tT (tS (tR (tM rfl rfl (tM rfl rfl ?_)))))))
   refine tM rfl rfl (tM rfl rfl ?_)
   refine tri_v (opv_buildA rfl rfl) rfl ?_
   refine tri_g opg_alloc rfl ?_
   rintro _ _ _ ⟨b11, rfl, rfl, rfl⟩
   refine tri_g (opg_store rfl rfl rfl rfl rfl rfl) rfl ?_
   rintro _ _ _ ⟨rfl, rfl⟩
   refine tN (tT (tS (tR (tM rfl rfl ?_))))
   refine tri_v (opv_sub rfl rfl (w64 (by omega) (by omega))) rfl ?_
   refine tM rfl rfl ?_
   refine tri_v (opv_indexAddrA rfl rfl (by decide) (by decide)) rfl ?_
   refine tri_g (opg_store rfl rfl rfl rfl rfl rfl) rfl ?_
   rintro _ _ _ ⟨rfl, rfl⟩
   refine tN (tT (tS (tR (tM rfl rfl ?_))))
   refine tri_v (opv_fieldAddr rfl rfl) rfl ?_
   refine tri_v (opv_load1 rfl rfl rfl) rfl ?_
   refine tri_v (opv_loadA rfl rfl rfl) rfl ?_
   refine tri_perm (A := ?a9_0 :: ?a9_1 :: ?a9_2 :: ?a9_3 :: ?T9) (B := ?a9_1 :: ?a9_2 :: ?a9_3 :: ?a9_0 :: ?T9) (by exact permL [1, 2, 3, 0] [?a9_0, ?a9_1, ?a9_2, ?a9_3] ?T9 (by decide) rfl) ?_
   refine tri_g (opg_call (xs := [_, _]) rfl (node_putR hg1 h21 hx2 hr2)) rfl ?_
   rintro _ _ _ ⟨d3, f3, es3, rfl, rfl, hx3, rfl⟩
   refine tM rfl rfl ?_
   refine tri_v (opv_extract rfl rfl) rfl ?_
   refine tri_v (opv_extract rfl rfl) rfl ?_
   refine tri_v (opv_indexAddrA rfl rfl (by decide) (by decide)) rfl ?_
   refine tri_g (opg_store rfl rfl rfl rfl rfl rfl) rfl ?_
   rintro _ _ _ ⟨rfl, rfl⟩
   refine tA rfl rfl (tN (tT (tS (tR (tM rfl rfl ?_)))))
   refine tri_v (opv_neq rfl rfl) rfl ?_
   refine tN (tT ?_)
   refine tri_cond_dec rfl (fun y2 => ?_) (fun y2 => ?_)
   ·rw [if_pos y2] at hL
    subst hL
    refine tS (tR (tM rfl rfl (tA rfl rfl (tA rfl rfl (tN (tT (tri_ret ?_)))))))
    refine tri_inBlock_ret ?_
    refine tri_then_ret (tri_then_ret ?_)
    refine tri_inBlock_ret ?_
    refine tri_then_ret ?_
    refine tri_perm (A := ?a10_0 :: ?a10_1 :: ?a10_2 :: ?a10_3 :: ?a10_4 :: ?a10_5 :: ?a10_6 :: ?T10) (B := ?a10_3 :: ?a10_4 :: ?a10_5 :: ?a10_6 :: ?a10_0 :: ?a10_1 :: ?a10_2 :: ?T10) (by exact permL [3, 4, 5, 6, 0, 1, 2] [?a10_0, ?a10_1, ?a10_2, ?a10_3, ?a10_4, ?a10_5, ?a10_6] ?T10 (by decide) rfl) ?_
    refine tri_end _ (⟨[_, _, _, _], rfl⟩) rfl (.cons (rv_tmp rfl) (.cons (rv_tmp rfl) .nil)) ⟨I, ⟨d3, f3, es3, _, rfl, rfl, hx3, hg2, h22, fun h => absurd h y2, rfl⟩, fun _ h => h⟩
   rw [if_neg y2] at hL
   skip
   refine tri_skip ?_
   refine tri_inBlock ?_
   refine tT (tR ?_)
   refine tU rfl rfl (by omega) (by omega) rfl ?_
   refine tM rfl rfl (tN (tT ?_))
   refine tri_round ?_
   refine tS (tR ?_)
   refine tri_v (opv_lss rfl rfl) rfl ?_
   refine tN (tT (tS ?_))
   refine tri_perm (A := ?a11_0 :: ?a11_1 :: ?a11_2 :: ?a11_3 :: ?T11) (B := ?a11_3 :: ?a11_0 :: ?a11_1 :: ?a11_2 :: ?T11) (by exact permL [3, 0, 1, 2] [?a11_0, ?a11_1, ?a11_2, ?a11_3] ?T11 (by decide) rfl) ?_
   refine tri_drop ?_
   skip
   refine tri_cond_is rfl (by decide) ?_
   refine tri_skip (tT (tS (tri_block (tS (tR (tM rfl rfl ?_))))))
   refine tri_v (opv_index rfl rfl (by decide) (by decide) rfl rfl) rfl ?_
   refine tA rfl rfl (tA rfl rfl (tN (tT (tS (tR (tM rfl rfl (tM rfl rfl ?_)))))))
   refine tM rfl rfl (tM rfl rfl ?_)
   refine tri_v (opv_buildA rfl rfl) rfl ?_
   refine tri_g opg_alloc rfl ?_
   rintro _ _ _ ⟨b11, rfl, rfl, rfl⟩
   refine tri_g (opg_store rfl rfl rfl rfl rfl rfl) rfl ?_
   rintro _ _ _ ⟨rfl, rfl⟩
   refine tN (tT (tS (tR (tM rfl rfl ?_))))
   refine tri_v (opv_sub rfl rfl (w64 (by omega) (by omega))) rfl ?_
   refine tM rfl rfl ?_
   refine tri_v (opv_indexAddrA rfl rfl (by decide) (by decide)) rfl ?_
   refine tri_g (opg_store rfl rfl rfl rfl rfl rfl) rfl ?_
   rintro _ _ _ ⟨rfl, rfl⟩
   refine tN (tT (tS (tR (tM rfl rfl ?_))))
   refine tri_v (opv_fieldAddr rfl rfl) rfl ?_
   refine tri_v (opv_load1 rfl rfl rfl) rfl ?_
   refine tri_v (opv_loadA rfl rfl rfl) rfl ?_
   refine tri_perm (A := ?a12_0 :: ?a12_1 :: ?a12_2 :: ?a12_3 :: ?T12) (B := ?a12_1 :: ?a12_2 :: ?a12_3 :: ?a12_0 :: ?T12) (by exact permL [1, 2, 3, 0] [?a12_0, ?a12_1, ?a12_2, ?a12_3] ?T12 (by decide) rfl) ?_
   refine tri_g (opg_call (xs := [_, _]) rfl (node_putR hg2 h22 hx3 hr3)) rfl ?_
   rintro _ _ _ ⟨d4, f4, es4, rfl, rfl, hx4, rfl⟩
   refine tM rfl rfl ?_
   refine tri_v (opv_extract rfl rfl) rfl ?_
   refine tri_v (opv_extract rfl rfl) rfl ?_
   refine tri_v (opv_indexAddrA rfl rfl (by decide) (by decide)) rfl ?_
   refine tri_g (opg_store rfl rfl rfl rfl rfl rfl) rfl ?_
   rintro _ _ _ ⟨rfl, rfl⟩
   refine tA rfl rfl (tN (tT (tS (tR (tM rfl rfl ?_)))))
   refine tri_v (opv_neq rfl rfl) rfl ?_
   refine tN (tT ?_)
   refine tri_cond_dec rfl (fun y3 => ?_) (fun y3 => ?_)
   ·rw [if_pos y3] at hL
    subst hL
    refine tS (tR (tM rfl rfl (tA rfl rfl (tA rfl rfl (tN (tT (tri_ret ?_)))))))
    refine tri_inBlock_ret ?_
    refine tri_then_ret (tri_then_ret ?_)
    refine tri_inBlock_ret ?_
    refine tri_then_ret ?_
    refine tri_perm (A := ?a13_0 :: ?a13_1 :: ?a13_2 :: ?a13_3 :: ?a13_4 :: ?a13_5 :: ?a13_6 :: ?T13) (B := ?a13_3 :: ?a13_4 :: ?a13_5 :: ?a13_6 :: ?a13_0 :: ?a13_1 :: ?a13_2 :: ?T13) (by exact permL [3, 4, 5, 6, 0, 1, 2] [?a13_0, ?a13_1, ?a13_2, ?a13_3, ?a13_4, ?a13_5, ?a13_6] ?T13 (by decide) rfl) ?_
    refine tri_end _ (⟨[_, _, _, _], rfl⟩) rfl (.cons (rv_tmp rfl) (.cons (rv_tmp rfl) .nil)) ⟨I, ⟨d4, f4, es4, _, rfl, rfl, hx4, hg3, h23, fun h => absurd h y3, rfl⟩, fun _ h => h⟩
   rw [if_neg y3] at hL
   skip
   refine tri_skip ?_
   refine tri_inBlock ?_
   refine tT (tR ?_)
   refine tU rfl rfl (by omega) (by omega) rfl ?_
   refine tM rfl rfl (tN (tT ?_))
   refine tri_round ?_
   refine tS (tR ?_)
   refine tri_v (opv_lss rfl rfl) rfl ?_
   refine tN (tT (tS ?_))
   refine tri_perm (A := ?a14_0 :: ?a14_1 :: ?a14_2 :: ?a14_3 :: ?T14) (B := ?a14_3 :: ?a14_0 :: ?a14_1 :: ?a14_2 :: ?T14) (by exact permL [3, 0, 1, 2] [?a14_0, ?a14_1, ?a14_2, ?a14_3] ?T14 (by decide) rfl) ?_
   refine tri_drop ?_
   refine tri_cond_not rfl (by decide) ?_
   refine tri_exit ?_
   refine tri_then_exit ?_
   refine tri_then_exit ?_
   refine tri_inBlock_hit rfl ?_
   refine tT (tS (tR ?_))
   refine tri_v (opv_fieldAddr rfl rfl) rfl ?_
   refine tri_v (opv_load1 rfl rfl rfl) rfl ?_
   refine tri_v (opv_loadA rfl rfl rfl) rfl ?_
   refine tri_g (opg_call (xs := [_, _]) rfl (node_putR hg3 h23 hx4 hr4)) rfl ?_
   rintro _ _ _ ⟨d5, f5, es5, rfl, rfl, hx5, rfl⟩
   refine tri_v (opv_extract rfl rfl) rfl ?_
   refine tri_v (opv_extract rfl rfl) rfl ?_
   refine tA rfl rfl (tA rfl rfl (tN (tT (tri_ret ?_))))
   refine tri_perm (A := ?a15_0 :: ?a15_1 :: ?a15_2 :: ?a15_3 :: ?a15_4 :: ?a15_5 :: ?T15) (B := ?a15_3 :: ?a15_4 :: ?a15_5 :: ?a15_0 :: ?a15_1 :: ?a15_2 :: ?T15) (by exact permL [3, 4, 5, 0, 1, 2] [?a15_0, ?a15_1, ?a15_2, ?a15_3, ?a15_4, ?a15_5] ?T15 (by decide) rfl) ?_
   have hv : res.2.1 = r4.2.1 ∧ res.2.2 = r4.2.2 ∧ (res.2.2 = 0 → r4.1 = res.1) := by
    by_cases h : r4.2.2 = 0
    ·rw [if_neg (fun k => k h)] at hL
     rw [hL]; exact ⟨rfl, rfl, fun _ => rfl⟩
    ·rw [if_pos h] at hL
     rw [hL]; exact ⟨(by rw [← hr4]; exact (congrArg (·.2.1) (R6.put_err (by rw [hr4]; exact h))).symm), rfl, fun k => absurd k h⟩
   obtain ⟨hv1, hv2, hv3⟩ := hv
   refine tri_end _ (⟨[_, _, _], rfl⟩) rfl (.cons (rv_tmp rfl) (.cons (rv_tmp rfl) .nil)) ⟨I, ⟨d5, f5, es5, _, by rw [hv1, hv2]; rfl, rfl, hx5, hg4, h24, hv3, rfl⟩, fun _ h => h⟩
set_option maxHeartbeats 1000000 in
set_option maxRecDepth 100000 in
theorem square_grow {ns : List Node} {a : Option Addr} {cap : Nat} {room n : Int} (hs : StA I a cap ns) (hn : ns.length ≤ 1000000000) :
  FnC Try.prog 21 [storeV a ns.length cap room, .int .i64 n].toArray A I (StoreR (R7.growM ns room n) room A I) := by
 rw [← R7.sq1_grow]
 skip
 skip
 refine fn_enter2 Try.func21 rfl Try.ntmps21 rfl fun w0 => ?_
 refine tS (tR ?_)
 refine tri_g (opg_box_agg rfl) rfl ?_
 rintro _ _ _ ⟨b2, rfl, rfl, rfl⟩
 refine tri_g (opg_box1 rfl rfl) rfl ?_
 rintro _ _ _ ⟨b3, rfl, rfl, rfl⟩
 refine tri_g opg_alloc rfl ?_
 rintro _ _ _ ⟨b4, rfl, rfl, rfl⟩
 refine tA rfl rfl (tA rfl rfl (tN (tT (tS (tR ?_)))))
 refine tri_v (opv_loadA rfl rfl rfl) rfl ?_
 refine tri_v (opv_load1 rfl rfl rfl) rfl ?_
 refine tri_v (opv_makeFunc (fs := []) (cs := [_]) (vf := []) (vc := [_]) rfl rfl) rfl ?_
 refine tri_g (opg_call (xs := [_, _, _]) rfl (square_square (r := R7.grow1 ns room n) (ca1 := [pt b3 0]) hs hn (fun hm bx mb a cap es X Y Z W hi => square_grow1 hm hi))) rfl ?_
 rintro _ _ I1 ⟨a1, c1, rfl, hs1, rfl, hI1⟩
 refine tri_v (opv_extract rfl rfl) rfl ?_
 refine tri_v (opv_extract rfl rfl) rfl ?_
 refine tri_v (opv_extract rfl rfl) rfl ?_
 refine tri_g (opg_store rfl rfl rfl rfl rfl rfl) rfl ?_
 rintro _ _ _ ⟨rfl, rfl⟩
 refine tA rfl rfl (tA rfl rfl (tN (tT (tri_ret ?_))))
 refine tri_end A Suf.h rfl (.cons (rv_cellA rfl rfl rfl) (.cons (rv_tmp rfl) (.cons (rv_tmp rfl) .nil))) ⟨a1, c1, rfl, hs1, rfl, hI1⟩
end Go.GL


set_option linter.unusedVariables false
namespace Go.GL
/-! ### Shift and Box, as the document has them -/
namespace R1
def mv (dx dy : Int) (c : Cell) : Cell := ⟨c.x + dx, c.y + dy⟩
def shift (l : List Cell) (dx dy : Int) : List Cell × Int :=
 if right l then (if ∀ i, i < l.length → inB (mv dx dy (g l i)) then (l.map (mv dx dy), 0) else ([], 2)) else ([], 1)
def mnC (a b : Cell) : Cell := ⟨if b.x < a.x then b.x else a.x, if b.y < a.y then b.y else a.y⟩
def mxC (a b : Cell) : Cell := ⟨if a.x < b.x then b.x else a.x, if a.y < b.y then b.y else a.y⟩
def lo (l : List Cell) (c : Cell) : Cell := l.foldl mnC c
def hi (l : List Cell) (c : Cell) : Cell := l.foldl mxC c
structure Rect where
 x : Int
 y : Int
 w : Int
 h : Int
 deriving DecidableEq, Inhabited
def box (l : List Cell) : Rect × Bool :=
 if l.length = 0 ∨ ¬ right l then (⟨0, 0, 0, 0⟩, false)
 else (⟨(lo l (g l 0)).x, (lo l (g l 0)).y, (hi l (g l 0)).x - (lo l (g l 0)).x + 1, (hi l (g l 0)).y - (lo l (g l 0)).y + 1⟩, true)
/-- Where the least and greatest are. -/
def bdC (c : Cell) : Prop := -1099511627776 ≤ c.x ∧ c.x ≤ 1099511627776 ∧ -1099511627776 ≤ c.y ∧ c.y ≤ 1099511627776
theorem lo_le {l : List Cell} {c : Cell} : ((lo l c).x ≤ c.x ∧ (lo l c).y ≤ c.y) ∧ ∀ d ∈ l, (lo l c).x ≤ d.x ∧ (lo l c).y ≤ d.y := by
 unfold lo
 induction l generalizing c with
 | nil => exact ⟨by simp, by simp⟩
 | cons a l ih =>
  have h := ih (c := mnC c a)
  simp only [List.foldl_cons]
  have e : (mnC c a).x ≤ c.x ∧ (mnC c a).y ≤ c.y ∧ (mnC c a).x ≤ a.x ∧ (mnC c a).y ≤ a.y := by
   unfold mnC
   simp only
   split <;> split <;> omega
  refine ⟨by omega, fun d hd => ?_⟩
  rcases List.mem_cons.1 hd with rfl | hd
  ·omega
  ·exact h.2 d hd
theorem hi_ge {l : List Cell} {c : Cell} : (c.x ≤ (hi l c).x ∧ c.y ≤ (hi l c).y) ∧ ∀ d ∈ l, d.x ≤ (hi l c).x ∧ d.y ≤ (hi l c).y := by
 unfold hi
 induction l generalizing c with
 | nil => exact ⟨by simp, by simp⟩
 | cons a l ih =>
  have h := ih (c := mxC c a)
  simp only [List.foldl_cons]
  have e : c.x ≤ (mxC c a).x ∧ c.y ≤ (mxC c a).y ∧ a.x ≤ (mxC c a).x ∧ a.y ≤ (mxC c a).y := by
   unfold mxC
   simp only
   split <;> split <;> omega
  refine ⟨by omega, fun d hd => ?_⟩
  rcases List.mem_cons.1 hd with rfl | hd
  ·omega
  ·exact h.2 d hd
theorem lo_at {l : List Cell} {c : Cell} : ((lo l c).x = c.x ∨ ∃ d ∈ l, (lo l c).x = d.x) ∧ ((lo l c).y = c.y ∨ ∃ d ∈ l, (lo l c).y = d.y) := by
 unfold lo
 induction l generalizing c with
 | nil => exact ⟨.inl rfl, .inl rfl⟩
 | cons a l ih =>
  obtain ⟨h1, h2⟩ := ih (c := mnC c a)
  simp only [List.foldl_cons]
  have e1 : (mnC c a).x = c.x ∨ (mnC c a).x = a.x := by unfold mnC; simp only; split <;> simp
  have e2 : (mnC c a).y = c.y ∨ (mnC c a).y = a.y := by unfold mnC; simp only; split <;> simp
  constructor
  ·rcases h1 with h1 | ⟨d, hd, h1⟩
   ·rcases e1 with e1 | e1
    ·exact .inl (h1.trans e1)
    ·exact .inr ⟨a, List.mem_cons_self, h1.trans e1⟩
   ·exact .inr ⟨d, List.mem_cons_of_mem _ hd, h1⟩
  ·rcases h2 with h1 | ⟨d, hd, h1⟩
   ·rcases e2 with e1 | e1
    ·exact .inl (h1.trans e1)
    ·exact .inr ⟨a, List.mem_cons_self, h1.trans e1⟩
   ·exact .inr ⟨d, List.mem_cons_of_mem _ hd, h1⟩
theorem hi_at {l : List Cell} {c : Cell} : ((hi l c).x = c.x ∨ ∃ d ∈ l, (hi l c).x = d.x) ∧ ((hi l c).y = c.y ∨ ∃ d ∈ l, (hi l c).y = d.y) := by
 unfold hi
 induction l generalizing c with
 | nil => exact ⟨.inl rfl, .inl rfl⟩
 | cons a l ih =>
  obtain ⟨h1, h2⟩ := ih (c := mxC c a)
  simp only [List.foldl_cons]
  have e1 : (mxC c a).x = c.x ∨ (mxC c a).x = a.x := by unfold mxC; simp only; split <;> simp
  have e2 : (mxC c a).y = c.y ∨ (mxC c a).y = a.y := by unfold mxC; simp only; split <;> simp
  constructor
  ·rcases h1 with h1 | ⟨d, hd, h1⟩
   ·rcases e1 with e1 | e1
    ·exact .inl (h1.trans e1)
    ·exact .inr ⟨a, List.mem_cons_self, h1.trans e1⟩
   ·exact .inr ⟨d, List.mem_cons_of_mem _ hd, h1⟩
  ·rcases h2 with h1 | ⟨d, hd, h1⟩
   ·rcases e2 with e1 | e1
    ·exact .inl (h1.trans e1)
    ·exact .inr ⟨a, List.mem_cons_self, h1.trans e1⟩
   ·exact .inr ⟨d, List.mem_cons_of_mem _ hd, h1⟩
end R1
end Go.GL


set_option linter.unusedVariables false
namespace Go.GL
namespace R7
open R6
/-! ### The least box about what a node stands for -/
/-- Two edges (from, to) together, the second one so much further on. -/
def jn (a b : Cell) (d : Int) : Cell :=
 if b.x = b.y then a else if a.x = a.y then ⟨b.x + d, b.y + d⟩ else ⟨if b.x + d < a.x then b.x + d else a.x, if a.y < b.y + d then b.y + d else a.y⟩
def ex (ns : List Node) (ax : Bool) : Nat → Int → Cell
 | 0, n => ⟨0, (nd ns n).pop⟩
 | m + 1, n => jn (jn (jn (jn ⟨0, 0⟩ (ex ns ax m (nd ns n).k0) 0) (ex ns ax m (nd ns n).k1) (if ax then 2 ^ m else 0)) (ex ns ax m (nd ns n).k2) (if ax then 0 else 2 ^ m)) (ex ns ax m (nd ns n).k3) (2 ^ m)
def boxM (ns : List Node) (room n : Int) : R1.Rect × Bool :=
 if may ns room n ∧ (nd ns n).pop ≠ 0 then
  (⟨(ex ns true (nd ns n).lv.toNat n).x - side (nd ns n).lv, (ex ns false (nd ns n).lv.toNat n).x - side (nd ns n).lv, (ex ns true (nd ns n).lv.toNat n).y - (ex ns true (nd ns n).lv.toNat n).x, (ex ns false (nd ns n).lv.toNat n).y - (ex ns false (nd ns n).lv.toNat n).x⟩, true)
 else (⟨0, 0, 0, 0⟩, false)
/-- What an edge within a width keeps to. -/
def Eg (w : Int) (e : Cell) : Prop := (0 ≤ e.x ∧ e.x < e.y ∧ e.y ≤ w) ∨ (e.x = 0 ∧ e.y = 0)
theorem Eg.jn {w v d : Int} {a b : Cell} (ha : Eg w a) (hb : Eg v b) (hd : 0 ≤ d) (h : v + d ≤ w) : Eg w (jn a b d) ∧ ((jn a b d).x = (jn a b d).y ↔ a.x = a.y ∧ b.x = b.y) := by
 unfold Eg R7.jn at *
 split
 ·exact ⟨ha, by omega⟩
 ·split
  ·simp only; omega
  ·simp only
   split <;> split <;> omega
theorem Eg.mono {w v : Int} {a : Cell} (ha : Eg w a) (h : w ≤ v) : Eg v a := by unfold Eg at *; omega
theorem ex_ok {ns : List Node} (h : Wf ns) (ax : Bool) : ∀ (lv : Nat) (n : Int), IsN ns lv n → Eg (2 ^ lv) (ex ns ax lv n) ∧ ((ex ns ax lv n).x = (ex ns ax lv n).y ↔ (nd ns n).pop = 0)
 | 0, n, hn => by
  rcases isN0 h hn with rfl | rfl
  ·unfold ex; rw [h.nd0]; exact ⟨.inr ⟨rfl, rfl⟩, ⟨fun _ => rfl, fun _ => rfl⟩⟩
  ·unfold ex; rw [h.nd1]; exact ⟨.inl ⟨by decide, by decide, by decide⟩, ⟨fun k => absurd k (by decide), fun k => absurd k (by decide)⟩⟩
 | m + 1, n, hn => by
  obtain ⟨a, b, c, d⟩ := kids4 h hn
  have hp := p2pos m
  obtain ⟨a1, a2⟩ := ex_ok h ax m _ a
  obtain ⟨b1, b2⟩ := ex_ok h ax m _ b
  obtain ⟨c1, c2⟩ := ex_ok h ax m _ c
  obtain ⟨d1, d2⟩ := ex_ok h ax m _ d
  have hdd := dead_kids h hn
  unfold ex
  rw [p2s]
  generalize ex ns ax m (nd ns n).k0 = e0 at *
  generalize ex ns ax m (nd ns n).k1 = e1 at *
  generalize ex ns ax m (nd ns n).k2 = e2 at *
  generalize ex ns ax m (nd ns n).k3 = e3 at *
  generalize (2:Int) ^ m = w at *
  have z : Eg (w * 2) ⟨0, 0⟩ := .inr ⟨rfl, rfl⟩
  obtain ⟨s0, t0⟩ := z.jn (d := 0) a1 (by omega) (by omega)
  obtain ⟨s1, t1⟩ := s0.jn (d := if ax then w else 0) b1 (by split <;> omega) (by split <;> omega)
  obtain ⟨s2, t2⟩ := s1.jn (d := if ax then 0 else w) c1 (by split <;> omega) (by split <;> omega)
  obtain ⟨s3, t3⟩ := s2.jn (d := w) d1 (by omega) (by omega)
  refine ⟨s3, ?_⟩
  rw [t3, t2, t1, t0, hdd, a2, b2, c2, d2]
  simp only [true_and]
  constructor
  ·rintro ⟨⟨⟨k0, k1⟩, k2⟩, k3⟩; exact ⟨k0, k1, k2, k3⟩
  ·rintro ⟨k0, k1, k2, k3⟩; exact ⟨⟨⟨k0, k1⟩, k2⟩, k3⟩
end R7
end Go.GL


set_option linter.unusedVariables false
namespace Go.GL
open Go.Proofs
attribute [local irreducible] wpList Code.wp Exit.then Exit.inBlock Ends Tri TriH OpV OpG FnC epf wpAnyH
variable {A : List Asrt} {I : List Chunk}
set_option maxHeartbeats 1000000 in
set_option maxRecDepth 100000 in
theorem edge_join {a b : Cell} {d e w : Int} (he : d = e) (ha : R7.Eg w a) (hb : R7.Eg w b) (h0 : 0 ≤ d) (h1 : d ≤ w) (hw : w ≤ 4398046511104) :
  FnC Try.prog 52 [cellV a, cellV b, .int .i64 d].toArray A I (fun v A' I' => v = cellV (R7.jn a b e) ∧ A = A' ∧ I = I') := by
 subst he
 unfold R7.Eg at ha hb
 skip
 skip
 refine fn_enter3 Try.func52 rfl Try.ntmps52 rfl fun w0 => ?_
 refine tS (tR ?_)
 refine tri_g (opg_box_agg rfl) rfl ?_
 rintro _ _ _ ⟨b3, rfl, rfl, rfl⟩
 refine tri_g (opg_box_agg rfl) rfl ?_
 rintro _ _ _ ⟨b4, rfl, rfl, rfl⟩
 refine tri_g opg_alloc rfl ?_
 rintro _ _ _ ⟨b6, rfl, rfl, rfl⟩
 refine tN (tT (tS (tri_block (tS (tR ?_)))))
 refine tri_v (opv_fieldAddr rfl rfl) rfl ?_
 refine tri_v (opv_load1 rfl rfl rfl) rfl ?_
 refine tri_v (opv_fieldAddr rfl rfl) rfl ?_
 refine tri_v (opv_load1 rfl rfl rfl) rfl ?_
 refine tri_v (opv_eql rfl rfl) rfl ?_
 refine tA rfl rfl (tN (tT ?_))
 refine tri_cond_dec rfl (fun g1 => ?_) (fun g1 => ?_)
 ·refine tS (tR ?_)
  refine tri_v (opv_loadA rfl rfl rfl) rfl ?_
  refine tri_g (opg_store rfl rfl rfl rfl rfl rfl) rfl ?_
  rintro _ _ _ ⟨rfl, rfl⟩
  refine tN (tT (tri_ret ?_))
  refine tri_inBlock_ret ?_
  refine tri_then_ret ?_
  refine tri_end A Suf.h rfl (.cons (rv_cellA rfl rfl rfl) .nil) ⟨?_, rfl, rfl⟩
  rw [show R7.jn a b d = a from if_pos g1]
  rfl
 refine tS (tR ?_)
 refine tri_v (opv_fieldAddr rfl rfl) rfl ?_
 refine tri_v (opv_load1 rfl rfl rfl) rfl ?_
 refine tri_v (opv_fieldAddr rfl rfl) rfl ?_
 refine tri_v (opv_load1 rfl rfl rfl) rfl ?_
 refine tri_v (opv_eql rfl rfl) rfl ?_
 refine tA rfl rfl (tN (tT ?_))
 refine tri_cond_dec rfl (fun g2 => ?_) (fun g2 => ?_)
 ·refine tS (tR ?_)
  refine tri_v (opv_fieldAddr rfl rfl) rfl ?_
  refine tri_v (opv_load1 rfl rfl rfl) rfl ?_
  refine tM rfl rfl ?_
  refine tU rfl rfl (by omega) (by omega) rfl ?_
  refine tri_v (opv_fieldAddr rfl rfl) rfl ?_
  refine tri_v (opv_load1 rfl rfl rfl) rfl ?_
  refine tM rfl rfl ?_
  refine tU rfl rfl (by omega) (by omega) rfl ?_
  refine tri_v (opv_buildS rfl rfl) rfl ?_
  refine tri_g (opg_store rfl rfl rfl rfl rfl rfl) rfl ?_
  rintro _ _ _ ⟨rfl, rfl⟩
  refine tN (tT (tri_ret ?_))
  refine tri_inBlock_ret ?_
  refine tri_then_ret ?_
  refine tri_end A Suf.h rfl (.cons (rv_cellA rfl rfl rfl) .nil) ⟨?_, rfl, rfl⟩
  rw [show R7.jn a b d = ⟨b.x + d, b.y + d⟩ from (if_neg g1).trans (if_pos g2)]
  rfl
 skip
 refine tri_skip ?_
 refine tri_inBlock ?_
 refine tT (tS (tR ?_))
 refine tri_v (opv_fieldAddr rfl rfl) rfl ?_
 refine tri_v (opv_load1 rfl rfl rfl) rfl ?_
 refine tri_v (opv_fieldAddr rfl rfl) rfl ?_
 refine tri_v (opv_load1 rfl rfl rfl) rfl ?_
 refine tM rfl rfl ?_
 refine tU rfl rfl (by omega) (by omega) rfl ?_
 refine tri_v (opv_min2 rfl rfl) rfl ?_
 refine tri_v (opv_fieldAddr rfl rfl) rfl ?_
 refine tri_v (opv_load1 rfl rfl rfl) rfl ?_
 refine tri_v (opv_fieldAddr rfl rfl) rfl ?_
 refine tri_v (opv_load1 rfl rfl rfl) rfl ?_
 refine tM rfl rfl ?_
 refine tU rfl rfl (by omega) (by omega) rfl ?_
 refine tri_v (opv_max2 rfl rfl) rfl ?_
 refine tri_v (opv_buildS rfl rfl) rfl ?_
 refine tri_g (opg_store rfl rfl rfl rfl rfl rfl) rfl ?_
 rintro _ _ _ ⟨rfl, rfl⟩
 refine tN (tT (tri_ret ?_))
 refine tri_end A Suf.h rfl (.cons (rv_cellA rfl rfl rfl) .nil) ⟨?_, rfl, rfl⟩
 rw [show R7.jn a b d = ⟨if b.x + d < a.x then b.x + d else a.x, if a.y < b.y + d then b.y + d else a.y⟩ from (if_neg g1).trans (if_neg g2)]
 rfl
end Go.GL


set_option linter.unusedVariables false
namespace Go.GL
open Go.Proofs
attribute [local irreducible] wpList Code.wp Exit.then Exit.inBlock Ends Tri TriH OpV OpG FnC epf wpAnyH
variable {A : List Asrt} {I : List Chunk}
abbrev rectV (r : R1.Rect) : Value := .agg [.int .i64 r.x, .int .i64 r.y, .int .i64 r.w, .int .i64 r.h].toArray
end Go.GL


set_option linter.unusedVariables false
set_option linter.unusedSimpArgs false
namespace Go.GL
/-! ### Slices moved within their own row; the kit's slices.overlaps -/
theorem reps_cell0 : ∀ n, reps n [.int .i64 0, .int .i64 0] = encs (List.replicate n (⟨0, 0⟩ : Cell))
 | 0 => rfl
 | n + 1 => by
  show [_, _] ++ reps n _ = _
  rw [reps_cell0 n, List.replicate_succ, encs_cons]
  rfl
section
variable {w0 : World} {n : Nat} {F : Frm} {A : List Asrt} {I : List Chunk} {P : Program} {dst : Option Tmp} {ty t : TypeId} {pos : String} {af : Array Edge} {gd : Option (Nat × Bool)} {x y ix : Operand} {d d' : TypeDesc} {s s' by_ by' : Nat} {z z' : List Value}
theorem CellsOf.nil {w : World} {a : Option Addr} : CellsOf w a [] := .inl rfl
def mx2 (a b : Int) : Int := if a < b then b else a
end
end Go.GL


set_option linter.unusedVariables false
namespace Go.GL
open Go.Proofs
attribute [local irreducible] wpList Code.wp Exit.then Exit.inBlock Ends Tri TriH OpV OpG FnC epf wpAnyH
variable {A : List Asrt} {I : List Chunk}
namespace R7
/-- The edges of the first nodes; nothing for the others. -/
def edl (ns : List Node) (ax : Bool) (N i : Nat) : List Cell := (List.range N).map fun j => if j < i then ex ns ax (ns.getD j default).lv.toNat j else ⟨0, 0⟩
theorem edl_len (ns : List Node) (ax : Bool) (N i : Nat) : (edl ns ax N i).length = N := by simp [edl]
theorem edl_zero (ns : List Node) (ax : Bool) (N : Nat) : edl ns ax N 0 = List.replicate N ⟨0, 0⟩ := by
 apply List.ext_getElem
 ·simp [edl]
 ·intro j h1 h2; simp [edl]
theorem edl_at {ns : List Node} {ax : Bool} {N i j : Nat} (hj : j < N) : (edl ns ax N i).getD j default = if j < i then ex ns ax (ns.getD j default).lv.toNat j else ⟨0, 0⟩ := by
 simp [edl, hj]
theorem edl_set {ns : List Node} {ax : Bool} {N i : Nat} {v : Cell} (h : ex ns ax (ns.getD i default).lv.toNat i = v) : (edl ns ax N i).set i v = edl ns ax N (i + 1) := by
 subst h
 apply List.ext_getElem
 ·simp [edl]
 ·intro j h1 h2
  simp only [edl, List.length_set, List.length_map, List.length_range] at h1
  rw [List.getElem_set]
  by_cases e : i = j
  ·subst e
   simp [edl]
  ·rw [if_neg e]
   simp only [edl, List.getElem_map, List.getElem_range]
   by_cases k : j < i
   ·rw [if_pos k, if_pos (by omega)]
   ·rw [if_neg k, if_neg (by omega)]
theorem edl_self {ns : List Node} {ax : Bool} {N i : Nat} : (edl ns ax N i).set i ⟨0, 0⟩ = edl ns ax N i := by
 apply List.ext_getElem
 ·simp
 ·intro j h1 h2
  rw [List.getElem_set]
  by_cases e : i = j
  ·subst e; simp [edl]
  ·rw [if_neg e]
theorem set_at {l : List Cell} {i : Nat} {v : Cell} (h : i < l.length) : (l.set i v).getD i default = v := by simp [h]
theorem set_ne {l : List Cell} {i j : Nat} {v : Cell} (h : i ≠ j) : (l.set i v).getD j default = l.getD j default := by simp [h]
end R7
set_option maxHeartbeats 8000000 in
set_option maxRecDepth 100000 in
theorem square_box {ns : List Node} {a : Option Addr} {cap : Nat} {room n : Int} (hs : StA I a cap ns) (hn : ns.length ≤ 1000000000) :
  FnC Try.prog 19 [storeV a ns.length cap room, .int .i64 n].toArray A I (fun v A' I' => v = .tuple [rectV (R7.boxM ns room n).1, .bool (R7.boxM ns room n).2].toArray ∧ A = A' ∧ I = I') := by
 have hss := hs.sl
 skip
 skip
 skip
 refine fn_enter2 Try.func19 rfl Try.ntmps19 rfl fun w0 => ?_
 refine tS (tR ?_)
 refine tri_g (opg_box_agg rfl) rfl ?_
 rintro _ _ _ ⟨b2, rfl, rfl, rfl⟩
 refine tri_g opg_alloc rfl ?_
 rintro _ _ _ ⟨b4, rfl, rfl, rfl⟩
 refine tA rfl rfl (tN (tT (tS (tS (tR ?_)))))
 refine tri_v (opv_loadA rfl rfl rfl) rfl ?_
 refine tM rfl rfl ?_
 refine tri_g (opg_call (xs := [_, _]) rfl (square_may hs hn)) rfl ?_
 rintro _ _ _ ⟨rfl, rfl, rfl⟩
 refine tri_v (opv_notD rfl) rfl ?_
 refine tM rfl rfl ?_
 refine tri_split rfl rfl (fun g0 => ?_) (fun g0 => ?_)
 ·refine tri_guard_skip rfl rfl rfl rfl (tri_guard_skip rfl rfl rfl rfl (tri_guard_skip rfl rfl rfl rfl (tri_guard_skip rfl rfl rfl rfl (tri_guard_skip rfl rfl rfl rfl (tri_guard_skip rfl rfl rfl rfl (tri_guard_skip rfl rfl rfl rfl ?_))))))
  refine tri_v (opv_pick_t rfl rfl) rfl ?_
  refine tN (tT ?_)
  refine tri_cond_true rfl ?_
  refine tS (tR ?_)
  refine tri_v (opv_buildS rfl rfl) rfl ?_
  refine tri_g (opg_store rfl rfl rfl rfl rfl rfl) rfl ?_
  rintro _ _ _ ⟨rfl, rfl⟩
  refine tA rfl rfl (tN (tT (tri_ret (tri_then_ret ?_))))
  have e : R7.boxM ns room n = (⟨0, 0, 0, 0⟩, false) := if_neg (fun h => g0 h.1)
  skip
  refine tri_end A Suf.h rfl (.cons (rv_cellA rfl rfl rfl) (.cons (rv_tmp rfl) .nil)) ⟨by rw [e]; rfl, rfl, rfl⟩
 ·have h1 : R7.may ns room n := Decidable.not_not.1 g0
  obtain ⟨⟨hn0, hn1⟩, lv, hlv1, hlv2, hlv⟩ := h1.is
  have hr := h1.1
  have hw := (R6.right_iff.1 hr).2
  refine tri_guard_run rfl rfl rfl ?_
  refine tri_v (opv_fieldAddr rfl rfl) rfl ?_
  refine tri_guard_run rfl rfl rfl ?_
  refine tri_v (opv_load1 rfl rfl rfl) rfl ?_
  refine tri_guard_run rfl rfl rfl (tM rfl rfl (tri_guard_run rfl rfl rfl ?_))
  refine tri_v (opv_indexAddrS rfl rfl (by omega) (by omega) (by assumption) rfl) rfl ?_
  refine tri_guard_run rfl rfl rfl ?_
  refine tri_v (opv_fieldAddrE rfl (by assumption) (by omega) rfl) rfl ?_
  refine tri_guard_run rfl rfl rfl ?_
  refine tri_v (opv_loadE1 rfl (by assumption) rfl (by omega) rfl rfl) rfl ?_
  refine tri_guard_run rfl rfl rfl ?_
  refine tri_v (opv_eql rfl rfl) rfl ?_
  refine tri_v (opv_pick_f rfl rfl) rfl ?_
  refine tN (tT ?_)
  refine tri_cond rfl (fun h2 => ?_) (fun h2 => ?_)
  ·have h2 : (R6.nd ns n).pop = 0 := of_decide_eq_true h2
   have e : R7.boxM ns room n = (⟨0, 0, 0, 0⟩, false) := if_neg (fun h => h.2 h2)
   refine tS (tR ?_)
   refine tri_v (opv_buildS rfl rfl) rfl ?_
   refine tri_g (opg_store rfl rfl rfl rfl rfl rfl) rfl ?_
   rintro _ _ _ ⟨rfl, rfl⟩
   refine tA rfl rfl (tN (tT (tri_ret (tri_then_ret ?_))))
   refine tri_end A Suf.h rfl (.cons (rv_cellA rfl rfl rfl) (.cons (rv_tmp rfl) .nil)) ⟨by rw [e]; rfl, rfl, rfl⟩
  have h2 : ¬ (R6.nd ns n).pop = 0 := of_decide_eq_false h2
  have hbx : R7.boxM ns room n = (⟨(R7.ex ns true lv n).x - R7.side lv, (R7.ex ns false lv n).x - R7.side lv, (R7.ex ns true lv n).y - (R7.ex ns true lv n).x, (R7.ex ns false lv n).y - (R7.ex ns false lv n).x⟩, true) := by
   unfold R7.boxM
   rw [if_pos ⟨h1, h2⟩, hlv, Int.toNat_natCast]
  have hsd := R7.side_bd (lv := lv) (by omega)
  have hp2 := R7.side_p2 hlv1
  rw [hbx]
  clear hbx h2
  obtain ⟨k, rfl⟩ : ∃ k : Nat, n = k := ⟨n.toNat, by omega⟩
  have hlen : ns.length ≤ 100000 := by have := hr.1.2.1; have := hr.1.2.2.2.1; omega
  have hkn : k < ns.length := by omega
  skip
  refine tri_skip (tT (tS ?_))
  skip
  refine tri_cut (fun F' A' J => ∃ (ac dn : Option Addr) (L : List Asrt), F' = [(1, .int .i64 (k : Nat)), (2, pt b2 0), (4, pt b4 0), (6, .slice ac (k + 1) (k + 1)), (7, .slice dn (k + 1) (k + 1))] ∧ A' = L ++ Box b4 [.int .i64 0, .int .i64 0, .int .i64 0, .int .i64 0] 45 :: Box b2 [.slice a ns.length cap, .int .i64 room] 26 :: A ∧ L.Perm [Row ac (k + 1) (k + 1) 87 2 (reps (k + 1) [.int .i64 0, .int .i64 0]), Row dn (k + 1) (k + 1) 87 2 (reps (k + 1) [.int .i64 0, .int .i64 0])] ∧ (ac ≠ none ∧ dn ≠ none) ∧ I = J) ?_ ?_
  ·refine tri_draw [0, 1, 3, 4, 2, 6, 5, 7] rfl [] rfl mixed ?_
   refine th_take rfl rfl (by kernel_rfl)  (opv_move rfl) ?_
   refine th_take rfl rfl (by kernel_rfl)  (opv_add rfl rfl (w64 (by omega) (by omega))) ?_
   refine th_take rfl rfl (by kernel_rfl)  (opv_move rfl) ?_
   refine th_take rfl rfl (by kernel_rfl)  (opv_add rfl rfl (w64 (by omega) (by omega))) ?_
   refine th_two (j := 5) [2, 6, 7] (by kernel_rfl) rfl ?_ ?_
   ·refine (step_m rfl rfl (opg_makeSliceN (m := k + 1) rfl rfl rfl (by omega) (by omega)) ?_)
    rintro _ _ _ ⟨ac, hac, rfl, rfl, rfl⟩
    refine ⟨Suf.h, (fun _ h => h), ?_⟩
    refine th_take rfl rfl (by kernel_rfl)  (opv_assign rfl) ?_
    refine th_one (by kernel_rfl) (step_m rfl rfl (opg_makeSliceN (m := k + 1) rfl rfl rfl (by omega) (by omega)) ?_)
    rintro _ _ _ ⟨dn, hdn, rfl, rfl, rfl⟩
    refine ⟨Suf.h, (fun _ h => h), ?_⟩
    refine th_take rfl rfl (by kernel_rfl)  (opv_assign rfl) ?_
    refine th_done (by kernel_rfl) ?_
    exact tri_cutEnd _ ⟨ac, dn, [_, _], rfl, rfl, (List.Perm.swap _ _ _), ⟨hac, hdn⟩, rfl⟩ ⟨rfl, rfl, rfl, rfl, rfl, trivial⟩
   ·refine (step_m rfl rfl (opg_makeSliceN (m := k + 1) rfl rfl rfl (by omega) (by omega)) ?_)
    rintro _ _ _ ⟨dn, hdn, rfl, rfl, rfl⟩
    refine ⟨Suf.h, (fun _ h => h), ?_⟩
    refine th_one (by kernel_rfl) (step_m rfl rfl (opg_makeSliceN (m := k + 1) rfl rfl rfl (by omega) (by omega)) ?_)
    rintro _ _ _ ⟨ac, hac, rfl, rfl, rfl⟩
    refine ⟨Suf.h, (fun _ h => h), ?_⟩
    refine th_take rfl rfl (by kernel_rfl)  (opv_assign rfl) ?_
    refine th_take rfl rfl (by kernel_rfl)  (opv_assign rfl) ?_
    refine th_done (by kernel_rfl) ?_
    exact tri_cutEnd _ ⟨ac, dn, [_, _], rfl, rfl, (List.Perm.refl _), ⟨hac, hdn⟩, rfl⟩ ⟨rfl, rfl, rfl, rfl, rfl, trivial⟩
  rintro _ _ _ ⟨ac0, dn0, L, rfl, rfl, hL, ⟨hac, hdn⟩, rfl⟩
  refine tri_perm (B := Row ac0 (k + 1) (k + 1) 87 2 (reps (k + 1) [.int .i64 0, .int .i64 0]) :: Row dn0 (k + 1) (k + 1) 87 2 (reps (k + 1) [.int .i64 0, .int .i64 0]) :: Box b4 [.int .i64 0, .int .i64 0, .int .i64 0, .int .i64 0] 45 :: Box b2 [.slice a ns.length cap, .int .i64 room] 26 :: A) (hL.append_right _) ?_
  have ez := fun ax => (reps_cell0 (k + 1)).trans (congrArg encs (R7.edl_zero ns ax (k + 1)).symm)
  refine tri_rowEq rfl (ez true) ?_
  refine tri_rowPt hac fun ac e1 => ?_
  subst e1
  refine tri_pull1 ?_
  refine tri_rowEq rfl (ez false) ?_
  refine tri_rowPt hdn fun dn e1 => ?_
  subst e1
  refine tri_pull1 ?_
  clear hL hac hdn
  refine tT (tS (tS (tR ?_)))
  refine tri_v (opv_fieldAddr rfl rfl) rfl ?_
  refine tri_v (opv_load1 rfl rfl rfl) rfl ?_
  refine tM rfl rfl ?_
  refine tU rfl rfl (by omega) (by omega) rfl ?_
  skip
  refine tri_v (opv_sliceHi rfl rfl (by omega) (by omega) hs rfl) rfl ?_
  rw [show (ns.take ((k : Int) + 1).toNat).length = k + 1 by rw [List.length_take]; omega]
  have hst := hss.take (k + 1)
  have htl : (ns.take (k + 1)).length = k + 1 := by rw [List.length_take]; omega
  refine tri_v (opv_len rfl) rfl ?_
  refine tM rfl rfl (tN (tT (tri_block ?_)))
  refine tri_sub (F' := [(1, .int .i64 (k : Nat)), (2, pt b2 0), (4, pt b4 0), (6, .slice (some ⟨ac, 0, none⟩) (k + 1) (k + 1)), (7, .slice (some ⟨dn, 0, none⟩) (k + 1) (k + 1)), (38, .slice a (k + 1) cap), (39, .int .i64 ((k + 1 : Nat) : Int)), (40, .int .i64 (0 : Nat))]) ⟨rfl, rfl, rfl, rfl, rfl, rfl, rfl, rfl, trivial⟩ ?_
  refine loop_ind (G := Nat) (fun i => k + 1 - i) (fun i => i ≤ k + 1) (fun i => [(1, .int .i64 (k : Nat)), (2, pt b2 0), (4, pt b4 0), (6, .slice (some ⟨ac, 0, none⟩) (k + 1) (k + 1)), (7, .slice (some ⟨dn, 0, none⟩) (k + 1) (k + 1)), (38, .slice a (k + 1) cap), (39, .int .i64 ((k + 1 : Nat) : Int)), (40, .int .i64 (i : Nat))]) (fun i => Row (some ⟨ac, 0, none⟩) (k + 1) (k + 1) 87 2 (encs (R7.edl ns true (k + 1) i)) :: Row (some ⟨dn, 0, none⟩) (k + 1) (k + 1) 87 2 (encs (R7.edl ns false (k + 1) i)) :: Box b4 [.int .i64 0, .int .i64 0, .int .i64 0, .int .i64 0] 45 :: Box b2 [.slice a ns.length cap, .int .i64 room] 26 :: A) (fun _ => I) ?_ 0 (Nat.zero_le _)
  rintro i hi K hK
  skip
  refine tS (tR ?_)
  refine tri_v (opv_lss rfl rfl) rfl ?_
  refine tN (tT (tS ?_))
  refine tri_cond_dec rfl (fun h3 => ?_) (fun h3 => ?_)
  ·have hlt : i < k + 1 := by omega
   have hil : i < ns.length := by omega
   have htk : (ns.take (k + 1)).getD i default = ns.getD i default := by
    simp [hlt]
   have hnd : R6.nd ns ((i : Nat) : Int) = ns.getD i default := by
    unfold R6.nd
    rw [Int.toNat_natCast]
   obtain ⟨x, hx⟩ : ∃ x, ns.getD i default = x := ⟨_, rfl⟩
   rw [hx] at hnd htk
   have hin : R6.inS ns ((i : Nat) : Int) := ⟨by omega, by omega⟩
   have hmd := hr.modTo.mod.nd hin
   rw [hnd] at hmd
   obtain ⟨lvi, hlvi⟩ : ∃ lvi : Nat, x.lv = lvi := ⟨x.lv.toNat, by omega⟩
   refine tri_skip (tT (tS (tri_block (tS (tR (tM rfl rfl ?_))))))
   refine tri_v (opv_indexAddrSN rfl rfl (by omega) (by assumption) (by omega)) rfl ?_
   refine tri_v (opv_loadEA rfl (by assumption) rfl (by omega) rfl rfl) rfl ?_
   refine tri_g opg_alloc rfl ?_
   rintro _ _ _ ⟨b9, rfl, rfl, rfl⟩
   refine tA rfl rfl ?_
   refine tri_g (opg_store rfl rfl rfl rfl rfl rfl) rfl ?_
   rintro _ _ _ ⟨rfl, rfl⟩
   refine tN (tT (tS (tS (tR ?_))))
   refine tri_v (opv_fieldAddr rfl rfl) rfl ?_
   refine tri_v (opv_load1 rfl rfl rfl) rfl ?_
   refine tri_v (opv_eql rfl rfl) rfl ?_
   refine tN (tT ?_)
   rw [htk]
   refine tri_perm (A := ?a1_0 :: ?a1_1 :: ?a1_2 :: ?T1) (B := ?a1_1 :: ?a1_2 :: ?a1_0 :: ?T1) (by exact permL [1, 2, 0] [?a1_0, ?a1_1, ?a1_2] ?T1 (by decide) rfl) ?_
   refine tri_cond_dec rfl (fun h4 => ?_) (fun h4 => ?_)
   ·have e0 : lvi = 0 := by omega
    subst e0
    have ev : ∀ ax, R7.ex ns ax (ns.getD i default).lv.toNat i = ⟨0, x.pop⟩ := fun ax => by
     rw [hx, hlvi]
     show (⟨0, (R6.nd ns (i : Nat)).pop⟩ : Cell) = _
     rw [hnd]
    refine tS ?_
    skip
    refine tri_cut (fun F' A' J => F' = [(1, .int .i64 (k : Nat)), (2, pt b2 0), (4, pt b4 0), (6, .slice (some ⟨ac, 0, none⟩) (k + 1) (k + 1)), (7, .slice (some ⟨dn, 0, none⟩) (k + 1) (k + 1)), (38, .slice a (k + 1) cap), (39, .int .i64 ((k + 1 : Nat) : Int)), (40, .int .i64 (i : Nat))] ∧ A' = Row (some ⟨ac, 0, none⟩) (k + 1) (k + 1) 87 2 (encs ((R7.edl ns true (k + 1) i).set i ⟨0, x.pop⟩)) :: Row (some ⟨dn, 0, none⟩) (k + 1) (k + 1) 87 2 (encs ((R7.edl ns false (k + 1) i).set i ⟨0, x.pop⟩)) :: Box b9 [.int .i64 x.lv, .int .i64 x.k0, .int .i64 x.k1, .int .i64 x.k2, .int .i64 x.k3, .int .i64 x.pop] 63 :: Box b4 [.int .i64 0, .int .i64 0, .int .i64 0, .int .i64 0] 45 :: Box b2 [.slice a ns.length cap, .int .i64 room] 26 :: A ∧ I = J) ?_ ?_
    ·refine tri_draw [0, 1, 2, 3, 4, 5, 6, 7, 8, 9, 10, 11, 12, 13] rfl [_, _] rfl mixed ?_
     refine th_take rfl rfl (by kernel_rfl)  (opv_move rfl) ?_
     refine th_take rfl rfl (by kernel_rfl)  (opv_move rfl) ?_
     refine th_take rfl rfl (by kernel_rfl)  (opv_move rfl) ?_
     refine th_take rfl rfl (by kernel_rfl)  (opv_move rfl) ?_
     refine th_take rfl rfl (by kernel_rfl)  (opv_fieldAddr rfl rfl) ?_
     refine th_take rfl rfl (by kernel_rfl)  (opv_load1 rfl rfl rfl) ?_
     refine th_take rfl rfl (by kernel_rfl)  (opv_buildS rfl rfl) ?_
     refine th_take rfl rfl (by kernel_rfl)  (opv_fieldAddr rfl rfl) ?_
     refine th_take rfl rfl (by kernel_rfl)  (opv_load1 rfl rfl rfl) ?_
     refine th_take rfl rfl (by kernel_rfl)  (opv_buildS rfl rfl) ?_
     refine th_take rfl rfl (by kernel_rfl)  (opv_indexAddrSP rfl rfl (by omega) (by omega)) ?_
     refine th_one (by kernel_rfl) (step_m rfl rfl (opg_storeRX (⟨0, x.pop⟩ : Cell) rfl rfl rfl (by rw [R7.edl_len]; omega) (by rw [R7.edl_len]) rfl rfl rfl rfl) ?_)
     rintro _ _ _ ⟨rfl, rfl⟩
     refine ⟨Suf.h, (fun _ h => h), ?_⟩
     refine th_take rfl rfl (by kernel_rfl)  (opv_indexAddrSP rfl rfl (by omega) (by omega)) ?_
     refine th_one (by kernel_rfl) (step_m rfl rfl (opg_storeRX (⟨0, x.pop⟩ : Cell) rfl rfl rfl (by rw [R7.edl_len]; omega) (by rw [R7.edl_len]) rfl rfl rfl rfl) ?_)
     rintro _ _ _ ⟨rfl, rfl⟩
     refine ⟨Suf.h, (fun _ h => h), ?_⟩
     refine th_done (by kernel_rfl) ?_
     exact tri_cutEnd _ ⟨rfl, rfl, rfl⟩ ⟨rfl, rfl, rfl, rfl, rfl, rfl, rfl, rfl, trivial⟩
    rintro _ _ _ ⟨rfl, rfl, rfl⟩
    rw [R7.edl_set (ev true), R7.edl_set (ev false)]
    refine tT ?_
    refine tri_exit ?_
    refine tri_then_exit ?_
    refine tri_inBlock_hit rfl ?_
    refine tT (tR ?_)
    refine tU rfl rfl (by omega) (by omega) rfl ?_
    refine tM rfl rfl (tN (tT ?_))
    skip
    refine tri_perm (A := ?a2_0 :: ?a2_1 :: ?a2_2 :: ?T2) (B := ?a2_2 :: ?a2_0 :: ?a2_1 :: ?T2) (by exact permL [2, 0, 1] [?a2_0, ?a2_1, ?a2_2] ?T2 (by decide) rfl) ?_
    refine tri_drop ?_
    refine tri_sub ?_ (hK (i + 1) (by omega) (by omega))
    exact ⟨rfl, rfl, rfl, rfl, rfl, rfl, rfl, rfl, trivial⟩
   ·obtain ⟨m, rfl⟩ : ∃ m, lvi = m + 1 := ⟨lvi - 1, by omega⟩
    have kid := fun q hq => hr.kidN hin (m := m) (by rw [hnd]; exact hlvi) (q := q) hq
    rw [hnd] at kid
    have hpow : (2:Int) ^ (m + 1) = 2 ^ m * 2 := Int.pow_succ 2 m
    have hpos : (0:Int) < 2 ^ m := Int.pow_pos (by omega)
    have hple : (2:Int) ^ m ≤ 2199023255552 := by
     have h3 : (2:Nat) ^ m ≤ 2 ^ 41 := Nat.pow_le_pow_right (by omega) (by omega)
     have h4 : (2:Int) ^ m = ((2 ^ m : Nat) : Int) := by simp
     rw [h4]
     generalize (2:Nat) ^ m = k at h3
     omega
    have kk := fun q (hq : q ∈ x.kids) => R7.ex_ok hw true m q ⟨(kid q hq).1, (kid q hq).2.2⟩
    have kf := fun q (hq : q ∈ x.kids) => R7.ex_ok hw false m q ⟨(kid q hq).1, (kid q hq).2.2⟩
    have kg : ∀ ax q, q ∈ x.kids → q.toNat < i ∧ (R7.edl ns ax (k + 1) i).getD q.toNat default = R7.ex ns ax m q := fun ax q hq => by
     obtain ⟨⟨k1, _⟩, k2, k3⟩ := kid q hq
     refine ⟨by omega, ?_⟩
     rw [R7.edl_at (by omega), if_pos (by omega)]
     have e1 : ns.getD q.toNat default = R6.nd ns q := rfl
     rw [e1, k3, Int.toNat_natCast, Int.toNat_of_nonneg k1]
    have q0 := kg true x.k0 (by simp [Node.kids])
    have p0 := (kg false x.k0 (by simp [Node.kids])).2
    obtain ⟨q0, g0⟩ := q0
    have w0 := (kid x.k0 (by simp [Node.kids])).1
    obtain ⟨w0, v0⟩ := w0
    have bt0 := (kk x.k0 (by simp [Node.kids])).1
    have bf0 := (kf x.k0 (by simp [Node.kids])).1
    have q1 := kg true x.k1 (by simp [Node.kids])
    have p1 := (kg false x.k1 (by simp [Node.kids])).2
    obtain ⟨q1, g1⟩ := q1
    have w1 := (kid x.k1 (by simp [Node.kids])).1
    obtain ⟨w1, v1⟩ := w1
    have bt1 := (kk x.k1 (by simp [Node.kids])).1
    have bf1 := (kf x.k1 (by simp [Node.kids])).1
    have q2 := kg true x.k2 (by simp [Node.kids])
    have p2 := (kg false x.k2 (by simp [Node.kids])).2
    obtain ⟨q2, g2⟩ := q2
    have w2 := (kid x.k2 (by simp [Node.kids])).1
    obtain ⟨w2, v2⟩ := w2
    have bt2 := (kk x.k2 (by simp [Node.kids])).1
    have bf2 := (kf x.k2 (by simp [Node.kids])).1
    have q3 := kg true x.k3 (by simp [Node.kids])
    have p3 := (kg false x.k3 (by simp [Node.kids])).2
    obtain ⟨q3, g3⟩ := q3
    have w3 := (kid x.k3 (by simp [Node.kids])).1
    obtain ⟨w3, v3⟩ := w3
    have bt3 := (kk x.k3 (by simp [Node.kids])).1
    have bf3 := (kf x.k3 (by simp [Node.kids])).1
    have ext : R7.ex ns true (m + 1) (i : Nat) = R7.jn (R7.jn (R7.jn (R7.jn ⟨0, 0⟩ (R7.ex ns true m x.k0) 0) (R7.ex ns true m x.k1) (2 ^ m)) (R7.ex ns true m x.k2) 0) (R7.ex ns true m x.k3) (2 ^ m) := by
     rw [R7.ex, hnd]; rfl
    have exf : R7.ex ns false (m + 1) (i : Nat) = R7.jn (R7.jn (R7.jn (R7.jn ⟨0, 0⟩ (R7.ex ns false m x.k0) 0) (R7.ex ns false m x.k1) 0) (R7.ex ns false m x.k2) (2 ^ m)) (R7.ex ns false m x.k3) (2 ^ m) := by
     rw [R7.ex, hnd]; rfl
    generalize R7.ex ns true m x.k0 = et0 at *
    generalize R7.ex ns true m x.k1 = et1 at *
    generalize R7.ex ns true m x.k2 = et2 at *
    generalize R7.ex ns true m x.k3 = et3 at *
    generalize R7.ex ns false m x.k0 = ef0 at *
    generalize R7.ex ns false m x.k1 = ef1 at *
    generalize R7.ex ns false m x.k2 = ef2 at *
    generalize R7.ex ns false m x.k3 = ef3 at *
    have z : R7.Eg (2 ^ m * 2) ⟨0, 0⟩ := .inr ⟨rfl, rfl⟩
    have t0 := (z.jn (d := 0) bt0 (by omega) (by omega)).1
    have t1 := (t0.jn (d := 2 ^ m) bt1 (by omega) (by omega)).1
    have t2 := (t1.jn (d := 0) bt2 (by omega) (by omega)).1
    have f0 := (z.jn (d := 0) bf0 (by omega) (by omega)).1
    have f1 := (f0.jn (d := 0) bf1 (by omega) (by omega)).1
    have f2 := (f1.jn (d := 2 ^ m) bf2 (by omega) (by omega)).1
    have evt : R7.ex ns true (ns.getD i default).lv.toNat i = _ := (by rw [hx, hlvi, Int.toNat_natCast] : _ = R7.ex ns true (m + 1) i).trans ext
    have evf : R7.ex ns false (ns.getD i default).lv.toNat i = _ := (by rw [hx, hlvi, Int.toNat_natCast] : _ = R7.ex ns false (m + 1) i).trans exf
    refine tri_skip (tT (tS (tR ?_)))
    refine tri_v (opv_fieldAddr rfl rfl) rfl ?_
    refine tri_v (opv_load1 rfl rfl rfl) rfl ?_
    refine tri_v (opv_shl1 rfl rfl (by omega) (by omega)) rfl ?_
    skip
    refine tri_v (opv_shrN (k := 1) rfl rfl (by exact Int.le_of_lt (Int.pow_pos (by decide))) rfl (by decide)) rfl ?_
    rw [show (2:Int) ^ x.lv.toNat / 2 ^ 1 = 2 ^ m by rw [hlvi, Int.toNat_natCast, hpow]; omega]
    refine tri_rowEq rfl (congrArg encs R7.edl_self.symm) ?_
    refine tri_pull1 ?_
    refine tri_rowEq rfl (congrArg encs R7.edl_self.symm) ?_
    refine tri_pull1 ?_
    refine tA rfl rfl (tN (tT (tS (tR ?_))))
    refine tri_v (opv_fieldAddr rfl rfl) rfl ?_
    refine tri_v (opv_loadA rfl rfl rfl) rfl ?_
    refine tM rfl rfl (tN (tT (tri_block ?_)))
    refine tri_sub (F' := [(1, .int .i64 (k : Nat)), (2, pt b2 0), (4, pt b4 0), (6, .slice (some ⟨ac, 0, none⟩) (k + 1) (k + 1)), (7, .slice (some ⟨dn, 0, none⟩) (k + 1) (k + 1)), (38, .slice a (k + 1) cap), (39, .int .i64 ((k + 1 : Nat) : Int)), (40, .int .i64 (i : Nat)), (8, .int .i64 (i : Nat)), (9, pt b9 0), (10, .int .i64 (2 ^ m)), (65, .agg [.int .i64 x.k0, .int .i64 x.k1, .int .i64 x.k2, .int .i64 x.k3].toArray), (66, .int .i64 0)]) ⟨rfl, rfl, rfl, rfl, rfl, rfl, rfl, rfl, rfl, rfl, rfl, rfl, rfl, trivial⟩ ?_
    refine tri_rounds 5 ?_
    refine tri_round ?_
    refine tS (tR ?_)
    refine tri_v (opv_lss rfl rfl) rfl ?_
    refine tN (tT (tS ?_))
    refine tri_cond_is rfl (by decide) ?_
    refine tri_skip (tT (tS (tri_block (tS (tR (tM rfl rfl ?_))))))
    refine tri_v (opv_index rfl rfl (by decide) (by decide) rfl rfl) rfl ?_
    refine tA rfl rfl (tA rfl rfl (tN (tT (tS ?_))))
    skip
    have ln : ((R7.edl ns true (k + 1) i).set i ⟨0, 0⟩).length = k + 1 := by rw [List.length_set, R7.edl_len]
    have gg1 : ((R7.edl ns true (k + 1) i).set i ⟨0, 0⟩).getD i default = ⟨0, 0⟩ := R7.set_at (by rw [R7.edl_len]; omega)
    have gg2 : ((R7.edl ns true (k + 1) i).set i ⟨0, 0⟩).getD x.k0.toNat default = et0 := (R7.set_ne (by omega)).trans g0
    have ha : R7.Eg (2 ^ m * 2) (((R7.edl ns true (k + 1) i).set i ⟨0, 0⟩).getD i default) := by rw [gg1]; exact z
    have hb : R7.Eg (2 ^ m * 2) (((R7.edl ns true (k + 1) i).set i ⟨0, 0⟩).getD x.k0.toNat default) := by rw [gg2]; exact bt0.mono (by omega)
    have es : ((R7.edl ns true (k + 1) i).set i ⟨0, 0⟩).set i (R7.jn (((R7.edl ns true (k + 1) i).set i ⟨0, 0⟩).getD i default) (((R7.edl ns true (k + 1) i).set i ⟨0, 0⟩).getD x.k0.toNat default) 0) = (R7.edl ns true (k + 1) i).set i (R7.jn ⟨0, 0⟩ et0 0) := by rw [gg1, gg2, List.set_set]
    skip
    refine tri_cut (fun F' A' J => F' = [(1, .int .i64 (k : Nat)), (2, pt b2 0), (4, pt b4 0), (6, .slice (some ⟨ac, 0, none⟩) (k + 1) (k + 1)), (7, .slice (some ⟨dn, 0, none⟩) (k + 1) (k + 1)), (38, .slice a (k + 1) cap), (39, .int .i64 ((k + 1 : Nat) : Int)), (40, .int .i64 (i : Nat)), (8, .int .i64 (i : Nat)), (9, pt b9 0), (10, .int .i64 (2 ^ m)), (11, .int .i64 0), (12, .int .i64 x.k0), (65, .agg [.int .i64 x.k0, .int .i64 x.k1, .int .i64 x.k2, .int .i64 x.k3].toArray), (66, .int .i64 0)] ∧ A' = Row (some ⟨ac, 0, none⟩) (k + 1) (k + 1) 87 2 (encs (((R7.edl ns true (k + 1) i).set i ⟨0, 0⟩).set i (R7.jn (((R7.edl ns true (k + 1) i).set i ⟨0, 0⟩).getD i default) (((R7.edl ns true (k + 1) i).set i ⟨0, 0⟩).getD x.k0.toNat default) 0))) :: Row (some ⟨dn, 0, none⟩) (k + 1) (k + 1) 87 2 (encs ((R7.edl ns false (k + 1) i).set i ⟨0, 0⟩)) :: Box b9 [.int .i64 x.lv, .int .i64 x.k0, .int .i64 x.k1, .int .i64 x.k2, .int .i64 x.k3, .int .i64 x.pop] 63 :: Box b4 [.int .i64 0, .int .i64 0, .int .i64 0, .int .i64 0] 45 :: Box b2 [.slice a ns.length cap, .int .i64 room] 26 :: A ∧ I = J) ?_ ?_
    ·refine tri_draw [0, 1, 2, 3, 4, 6, 7, 8, 10, 11, 12, 13, 5, 9, 14, 15, 16] rfl [_] rfl mixed ?_
     refine th_take rfl rfl (by kernel_rfl)  (opv_move rfl) ?_
     refine th_take rfl rfl (by kernel_rfl)  (opv_move rfl) ?_
     refine th_take rfl rfl (by kernel_rfl)  (opv_move rfl) ?_
     refine th_take rfl rfl (by kernel_rfl)  (opv_move rfl) ?_
     refine th_take rfl rfl (by kernel_rfl)  (opv_indexAddrSP rfl rfl (by omega) (by omega)) ?_
     refine th_take rfl rfl (by kernel_rfl)  (opv_move rfl) ?_
     refine th_take rfl rfl (by kernel_rfl)  (opv_move rfl) ?_
     refine th_take rfl rfl (by kernel_rfl)  (opv_indexAddrSP rfl rfl (by omega) (by omega)) ?_
     refine th_take rfl rfl (by kernel_rfl)  (opv_move rfl) ?_
     refine th_take rfl rfl (by kernel_rfl)  (opv_remE rfl rfl (by omega) (by omega)) ?_
     refine th_take rfl rfl (by kernel_rfl)  (opv_move rfl) ?_
     refine th_take rfl rfl (by kernel_rfl)  (opv_mul rfl rfl (w64 (by omega) (by omega))) ?_
     refine th_two (j := 9) [5, 14, 15, 16] (by kernel_rfl) rfl ?_ ?_
     ·refine (step_m rfl rfl (OpV.toG (opv_loadRXA rfl rfl (by omega) rfl rfl rfl)) ?_)
      rintro _ _ _ ⟨rfl, rfl, rfl⟩
      refine ⟨Suf.h, (fun _ h => h), ?_⟩
      refine th_one (by kernel_rfl) (step_m rfl rfl (OpV.toG (opv_loadRXA rfl rfl (by omega) rfl rfl rfl)) ?_)
      rintro _ _ _ ⟨rfl, rfl, rfl⟩
      refine ⟨Suf.h, (fun _ h => h), ?_⟩
      refine th_one (by kernel_rfl) (step_m rfl rfl (opg_call (xs := [_, _, _]) rfl (edge_join (e := 0) (by omega) ha hb (by omega) (by omega) (by omega))) ?_)
      rintro _ _ _ ⟨rfl, rfl, rfl⟩
      refine ⟨Suf.h, (fun _ h => h), ?_⟩
      refine th_take rfl rfl (by kernel_rfl)  (opv_indexAddrSP rfl rfl (by omega) (by omega)) ?_
      refine th_one (by kernel_rfl) (step_m rfl rfl (opg_storeRX (R7.jn (((R7.edl ns true (k + 1) i).set i ⟨0, 0⟩).getD i default) (((R7.edl ns true (k + 1) i).set i ⟨0, 0⟩).getD x.k0.toNat default) 0) rfl rfl rfl (by omega) ln.symm rfl rfl rfl rfl) ?_)
      rintro _ _ _ ⟨rfl, rfl⟩
      refine ⟨Suf.h, (fun _ h => h), ?_⟩
      refine th_done (by kernel_rfl) ?_
      exact tri_cutEnd _ ⟨rfl, rfl, rfl⟩ ⟨rfl, rfl, rfl, rfl, rfl, rfl, rfl, rfl, rfl, rfl, rfl, rfl, rfl, rfl, rfl, trivial⟩
     ·refine (step_m rfl rfl (OpV.toG (opv_loadRXA rfl rfl (by omega) rfl rfl rfl)) ?_)
      rintro _ _ _ ⟨rfl, rfl, rfl⟩
      refine ⟨Suf.h, (fun _ h => h), ?_⟩
      refine th_one (by kernel_rfl) (step_m rfl rfl (OpV.toG (opv_loadRXA rfl rfl (by omega) rfl rfl rfl)) ?_)
      rintro _ _ _ ⟨rfl, rfl, rfl⟩
      refine ⟨Suf.h, (fun _ h => h), ?_⟩
      refine th_one (by kernel_rfl) (step_m rfl rfl (opg_call (xs := [_, _, _]) rfl (edge_join (e := 0) (by omega) ha hb (by omega) (by omega) (by omega))) ?_)
      rintro _ _ _ ⟨rfl, rfl, rfl⟩
      refine ⟨Suf.h, (fun _ h => h), ?_⟩
      refine th_take rfl rfl (by kernel_rfl)  (opv_indexAddrSP rfl rfl (by omega) (by omega)) ?_
      refine th_one (by kernel_rfl) (step_m rfl rfl (opg_storeRX (R7.jn (((R7.edl ns true (k + 1) i).set i ⟨0, 0⟩).getD i default) (((R7.edl ns true (k + 1) i).set i ⟨0, 0⟩).getD x.k0.toNat default) 0) rfl rfl rfl (by omega) ln.symm rfl rfl rfl rfl) ?_)
      rintro _ _ _ ⟨rfl, rfl⟩
      refine ⟨Suf.h, (fun _ h => h), ?_⟩
      refine th_done (by kernel_rfl) ?_
      exact tri_cutEnd _ ⟨rfl, rfl, rfl⟩ ⟨rfl, rfl, rfl, rfl, rfl, rfl, rfl, rfl, rfl, rfl, rfl, rfl, rfl, rfl, rfl, trivial⟩
    rintro _ _ _ ⟨rfl, rfl, rfl⟩
    rw [es]
    clear ln gg1 gg2 ha hb es
    refine tT ?_
    have ln : ((R7.edl ns false (k + 1) i).set i ⟨0, 0⟩).length = k + 1 := by rw [List.length_set, R7.edl_len]
    have gg1 : ((R7.edl ns false (k + 1) i).set i ⟨0, 0⟩).getD i default = ⟨0, 0⟩ := R7.set_at (by rw [R7.edl_len]; omega)
    have gg2 : ((R7.edl ns false (k + 1) i).set i ⟨0, 0⟩).getD x.k0.toNat default = ef0 := (R7.set_ne (by omega)).trans p0
    have ha : R7.Eg (2 ^ m * 2) (((R7.edl ns false (k + 1) i).set i ⟨0, 0⟩).getD i default) := by rw [gg1]; exact z
    have hb : R7.Eg (2 ^ m * 2) (((R7.edl ns false (k + 1) i).set i ⟨0, 0⟩).getD x.k0.toNat default) := by rw [gg2]; exact bf0.mono (by omega)
    have es : ((R7.edl ns false (k + 1) i).set i ⟨0, 0⟩).set i (R7.jn (((R7.edl ns false (k + 1) i).set i ⟨0, 0⟩).getD i default) (((R7.edl ns false (k + 1) i).set i ⟨0, 0⟩).getD x.k0.toNat default) 0) = (R7.edl ns false (k + 1) i).set i (R7.jn ⟨0, 0⟩ ef0 0) := by rw [gg1, gg2, List.set_set]
    refine tri_perm (A := ?a3_0 :: ?a3_1 :: ?T3) (B := ?a3_1 :: ?a3_0 :: ?T3) (by exact permL [1, 0] [?a3_0, ?a3_1] ?T3 (by decide) rfl) ?_
    skip
    refine tri_cut (fun F' A' J => F' = [(1, .int .i64 (k : Nat)), (2, pt b2 0), (4, pt b4 0), (6, .slice (some ⟨ac, 0, none⟩) (k + 1) (k + 1)), (7, .slice (some ⟨dn, 0, none⟩) (k + 1) (k + 1)), (38, .slice a (k + 1) cap), (39, .int .i64 ((k + 1 : Nat) : Int)), (40, .int .i64 (i : Nat)), (8, .int .i64 (i : Nat)), (9, pt b9 0), (10, .int .i64 (2 ^ m)), (11, .int .i64 0), (12, .int .i64 x.k0), (65, .agg [.int .i64 x.k0, .int .i64 x.k1, .int .i64 x.k2, .int .i64 x.k3].toArray), (66, .int .i64 0)] ∧ A' = Row (some ⟨dn, 0, none⟩) (k + 1) (k + 1) 87 2 (encs (((R7.edl ns false (k + 1) i).set i ⟨0, 0⟩).set i (R7.jn (((R7.edl ns false (k + 1) i).set i ⟨0, 0⟩).getD i default) (((R7.edl ns false (k + 1) i).set i ⟨0, 0⟩).getD x.k0.toNat default) 0))) :: Row (some ⟨ac, 0, none⟩) (k + 1) (k + 1) 87 2 (encs ((R7.edl ns true (k + 1) i).set i (R7.jn ⟨0, 0⟩ et0 0))) :: Box b9 [.int .i64 x.lv, .int .i64 x.k0, .int .i64 x.k1, .int .i64 x.k2, .int .i64 x.k3, .int .i64 x.pop] 63 :: Box b4 [.int .i64 0, .int .i64 0, .int .i64 0, .int .i64 0] 45 :: Box b2 [.slice a ns.length cap, .int .i64 room] 26 :: A ∧ I = J) ?_ ?_
    ·refine tri_draw [0, 1, 2, 3, 4, 6, 7, 8, 10, 11, 12, 13, 5, 9, 14, 15, 16] rfl [_] rfl mixed ?_
     refine th_take rfl rfl (by kernel_rfl)  (opv_move rfl) ?_
     refine th_take rfl rfl (by kernel_rfl)  (opv_move rfl) ?_
     refine th_take rfl rfl (by kernel_rfl)  (opv_move rfl) ?_
     refine th_take rfl rfl (by kernel_rfl)  (opv_move rfl) ?_
     refine th_take rfl rfl (by kernel_rfl)  (opv_indexAddrSP rfl rfl (by omega) (by omega)) ?_
     refine th_take rfl rfl (by kernel_rfl)  (opv_move rfl) ?_
     refine th_take rfl rfl (by kernel_rfl)  (opv_move rfl) ?_
     refine th_take rfl rfl (by kernel_rfl)  (opv_indexAddrSP rfl rfl (by omega) (by omega)) ?_
     refine th_take rfl rfl (by kernel_rfl)  (opv_move rfl) ?_
     refine th_take rfl rfl (by kernel_rfl)  (opv_quoE rfl rfl (by omega) (by omega) (by omega)) ?_
     refine th_take rfl rfl (by kernel_rfl)  (opv_move rfl) ?_
     refine th_take rfl rfl (by kernel_rfl)  (opv_mul rfl rfl (w64 (by omega) (by omega))) ?_
     refine th_two (j := 9) [5, 14, 15, 16] (by kernel_rfl) rfl ?_ ?_
     ·refine (step_m rfl rfl (OpV.toG (opv_loadRXA rfl rfl (by omega) rfl rfl rfl)) ?_)
      rintro _ _ _ ⟨rfl, rfl, rfl⟩
      refine ⟨Suf.h, (fun _ h => h), ?_⟩
      refine th_one (by kernel_rfl) (step_m rfl rfl (OpV.toG (opv_loadRXA rfl rfl (by omega) rfl rfl rfl)) ?_)
      rintro _ _ _ ⟨rfl, rfl, rfl⟩
      refine ⟨Suf.h, (fun _ h => h), ?_⟩
      refine th_one (by kernel_rfl) (step_m rfl rfl (opg_call (xs := [_, _, _]) rfl (edge_join (e := 0) (by omega) ha hb (by omega) (by omega) (by omega))) ?_)
      rintro _ _ _ ⟨rfl, rfl, rfl⟩
      refine ⟨Suf.h, (fun _ h => h), ?_⟩
      refine th_take rfl rfl (by kernel_rfl)  (opv_indexAddrSP rfl rfl (by omega) (by omega)) ?_
      refine th_one (by kernel_rfl) (step_m rfl rfl (opg_storeRX (R7.jn (((R7.edl ns false (k + 1) i).set i ⟨0, 0⟩).getD i default) (((R7.edl ns false (k + 1) i).set i ⟨0, 0⟩).getD x.k0.toNat default) 0) rfl rfl rfl (by omega) ln.symm rfl rfl rfl rfl) ?_)
      rintro _ _ _ ⟨rfl, rfl⟩
      refine ⟨Suf.h, (fun _ h => h), ?_⟩
      refine th_done (by kernel_rfl) ?_
      exact tri_cutEnd _ ⟨rfl, rfl, rfl⟩ ⟨rfl, rfl, rfl, rfl, rfl, rfl, rfl, rfl, rfl, rfl, rfl, rfl, rfl, rfl, rfl, trivial⟩
     ·refine (step_m rfl rfl (OpV.toG (opv_loadRXA rfl rfl (by omega) rfl rfl rfl)) ?_)
      rintro _ _ _ ⟨rfl, rfl, rfl⟩
      refine ⟨Suf.h, (fun _ h => h), ?_⟩
      refine th_one (by kernel_rfl) (step_m rfl rfl (OpV.toG (opv_loadRXA rfl rfl (by omega) rfl rfl rfl)) ?_)
      rintro _ _ _ ⟨rfl, rfl, rfl⟩
      refine ⟨Suf.h, (fun _ h => h), ?_⟩
      refine th_one (by kernel_rfl) (step_m rfl rfl (opg_call (xs := [_, _, _]) rfl (edge_join (e := 0) (by omega) ha hb (by omega) (by omega) (by omega))) ?_)
      rintro _ _ _ ⟨rfl, rfl, rfl⟩
      refine ⟨Suf.h, (fun _ h => h), ?_⟩
      refine th_take rfl rfl (by kernel_rfl)  (opv_indexAddrSP rfl rfl (by omega) (by omega)) ?_
      refine th_one (by kernel_rfl) (step_m rfl rfl (opg_storeRX (R7.jn (((R7.edl ns false (k + 1) i).set i ⟨0, 0⟩).getD i default) (((R7.edl ns false (k + 1) i).set i ⟨0, 0⟩).getD x.k0.toNat default) 0) rfl rfl rfl (by omega) ln.symm rfl rfl rfl rfl) ?_)
      rintro _ _ _ ⟨rfl, rfl⟩
      refine ⟨Suf.h, (fun _ h => h), ?_⟩
      refine th_done (by kernel_rfl) ?_
      exact tri_cutEnd _ ⟨rfl, rfl, rfl⟩ ⟨rfl, rfl, rfl, rfl, rfl, rfl, rfl, rfl, rfl, rfl, rfl, rfl, rfl, rfl, rfl, trivial⟩
    rintro _ _ _ ⟨rfl, rfl, rfl⟩
    rw [es]
    clear ln gg1 gg2 ha hb es
    refine tri_inBlock ?_
    refine tT (tR ?_)
    refine tU rfl rfl (by omega) (by omega) rfl ?_
    refine tM rfl rfl (tN (tT ?_))
    refine tri_round ?_
    refine tS (tR ?_)
    refine tri_v (opv_lss rfl rfl) rfl ?_
    refine tN (tT (tS ?_))
    refine tri_perm (A := ?a4_0 :: ?a4_1 :: ?T4) (B := ?a4_1 :: ?a4_0 :: ?T4) (by exact permL [1, 0] [?a4_0, ?a4_1] ?T4 (by decide) rfl) ?_
    skip
    refine tri_cond_is rfl (by decide) ?_
    refine tri_skip (tT (tS (tri_block (tS (tR (tM rfl rfl ?_))))))
    refine tri_v (opv_index rfl rfl (by decide) (by decide) rfl rfl) rfl ?_
    refine tA rfl rfl (tA rfl rfl (tN (tT (tS ?_))))
    skip
    have ln : ((R7.edl ns true (k + 1) i).set i (R7.jn ⟨0, 0⟩ et0 0)).length = k + 1 := by rw [List.length_set, R7.edl_len]
    have gg1 : ((R7.edl ns true (k + 1) i).set i (R7.jn ⟨0, 0⟩ et0 0)).getD i default = (R7.jn ⟨0, 0⟩ et0 0) := R7.set_at (by rw [R7.edl_len]; omega)
    have gg2 : ((R7.edl ns true (k + 1) i).set i (R7.jn ⟨0, 0⟩ et0 0)).getD x.k1.toNat default = et1 := (R7.set_ne (by omega)).trans g1
    have ha : R7.Eg (2 ^ m * 2) (((R7.edl ns true (k + 1) i).set i (R7.jn ⟨0, 0⟩ et0 0)).getD i default) := by rw [gg1]; exact t0
    have hb : R7.Eg (2 ^ m * 2) (((R7.edl ns true (k + 1) i).set i (R7.jn ⟨0, 0⟩ et0 0)).getD x.k1.toNat default) := by rw [gg2]; exact bt1.mono (by omega)
    have es : ((R7.edl ns true (k + 1) i).set i (R7.jn ⟨0, 0⟩ et0 0)).set i (R7.jn (((R7.edl ns true (k + 1) i).set i (R7.jn ⟨0, 0⟩ et0 0)).getD i default) (((R7.edl ns true (k + 1) i).set i (R7.jn ⟨0, 0⟩ et0 0)).getD x.k1.toNat default) (2 ^ m)) = (R7.edl ns true (k + 1) i).set i (R7.jn (R7.jn ⟨0, 0⟩ et0 0) et1 (2 ^ m)) := by rw [gg1, gg2, List.set_set]
    skip
    refine tri_cut (fun F' A' J => F' = [(1, .int .i64 (k : Nat)), (2, pt b2 0), (4, pt b4 0), (6, .slice (some ⟨ac, 0, none⟩) (k + 1) (k + 1)), (7, .slice (some ⟨dn, 0, none⟩) (k + 1) (k + 1)), (38, .slice a (k + 1) cap), (39, .int .i64 ((k + 1 : Nat) : Int)), (40, .int .i64 (i : Nat)), (8, .int .i64 (i : Nat)), (9, pt b9 0), (10, .int .i64 (2 ^ m)), (11, .int .i64 1), (12, .int .i64 x.k1), (65, .agg [.int .i64 x.k0, .int .i64 x.k1, .int .i64 x.k2, .int .i64 x.k3].toArray), (66, .int .i64 1)] ∧ A' = Row (some ⟨ac, 0, none⟩) (k + 1) (k + 1) 87 2 (encs (((R7.edl ns true (k + 1) i).set i (R7.jn ⟨0, 0⟩ et0 0)).set i (R7.jn (((R7.edl ns true (k + 1) i).set i (R7.jn ⟨0, 0⟩ et0 0)).getD i default) (((R7.edl ns true (k + 1) i).set i (R7.jn ⟨0, 0⟩ et0 0)).getD x.k1.toNat default) (2 ^ m)))) :: Row (some ⟨dn, 0, none⟩) (k + 1) (k + 1) 87 2 (encs ((R7.edl ns false (k + 1) i).set i (R7.jn ⟨0, 0⟩ ef0 0))) :: Box b9 [.int .i64 x.lv, .int .i64 x.k0, .int .i64 x.k1, .int .i64 x.k2, .int .i64 x.k3, .int .i64 x.pop] 63 :: Box b4 [.int .i64 0, .int .i64 0, .int .i64 0, .int .i64 0] 45 :: Box b2 [.slice a ns.length cap, .int .i64 room] 26 :: A ∧ I = J) ?_ ?_
    ·refine tri_draw [0, 1, 2, 3, 4, 6, 7, 8, 10, 11, 12, 13, 5, 9, 14, 15, 16] rfl [_] rfl mixed ?_
     refine th_take rfl rfl (by kernel_rfl)  (opv_move rfl) ?_
     refine th_take rfl rfl (by kernel_rfl)  (opv_move rfl) ?_
     refine th_take rfl rfl (by kernel_rfl)  (opv_move rfl) ?_
     refine th_take rfl rfl (by kernel_rfl)  (opv_move rfl) ?_
     refine th_take rfl rfl (by kernel_rfl)  (opv_indexAddrSP rfl rfl (by omega) (by omega)) ?_
     refine th_take rfl rfl (by kernel_rfl)  (opv_move rfl) ?_
     refine th_take rfl rfl (by kernel_rfl)  (opv_move rfl) ?_
     refine th_take rfl rfl (by kernel_rfl)  (opv_indexAddrSP rfl rfl (by omega) (by omega)) ?_
     refine th_take rfl rfl (by kernel_rfl)  (opv_move rfl) ?_
     refine th_take rfl rfl (by kernel_rfl)  (opv_remE rfl rfl (by omega) (by omega)) ?_
     refine th_take rfl rfl (by kernel_rfl)  (opv_move rfl) ?_
     refine th_take rfl rfl (by kernel_rfl)  (opv_mul rfl rfl (w64 (by omega) (by omega))) ?_
     refine th_two (j := 9) [5, 14, 15, 16] (by kernel_rfl) rfl ?_ ?_
     ·refine (step_m rfl rfl (OpV.toG (opv_loadRXA rfl rfl (by omega) rfl rfl rfl)) ?_)
      rintro _ _ _ ⟨rfl, rfl, rfl⟩
      refine ⟨Suf.h, (fun _ h => h), ?_⟩
      refine th_one (by kernel_rfl) (step_m rfl rfl (OpV.toG (opv_loadRXA rfl rfl (by omega) rfl rfl rfl)) ?_)
      rintro _ _ _ ⟨rfl, rfl, rfl⟩
      refine ⟨Suf.h, (fun _ h => h), ?_⟩
      refine th_one (by kernel_rfl) (step_m rfl rfl (opg_call (xs := [_, _, _]) rfl (edge_join (e := (2 ^ m)) (by omega) ha hb (by omega) (by omega) (by omega))) ?_)
      rintro _ _ _ ⟨rfl, rfl, rfl⟩
      refine ⟨Suf.h, (fun _ h => h), ?_⟩
      refine th_take rfl rfl (by kernel_rfl)  (opv_indexAddrSP rfl rfl (by omega) (by omega)) ?_
      refine th_one (by kernel_rfl) (step_m rfl rfl (opg_storeRX (R7.jn (((R7.edl ns true (k + 1) i).set i (R7.jn ⟨0, 0⟩ et0 0)).getD i default) (((R7.edl ns true (k + 1) i).set i (R7.jn ⟨0, 0⟩ et0 0)).getD x.k1.toNat default) (2 ^ m)) rfl rfl rfl (by omega) ln.symm rfl rfl rfl rfl) ?_)
      rintro _ _ _ ⟨rfl, rfl⟩
      refine ⟨Suf.h, (fun _ h => h), ?_⟩
      refine th_done (by kernel_rfl) ?_
      exact tri_cutEnd _ ⟨rfl, rfl, rfl⟩ ⟨rfl, rfl, rfl, rfl, rfl, rfl, rfl, rfl, rfl, rfl, rfl, rfl, rfl, rfl, rfl, trivial⟩
     ·refine (step_m rfl rfl (OpV.toG (opv_loadRXA rfl rfl (by omega) rfl rfl rfl)) ?_)
      rintro _ _ _ ⟨rfl, rfl, rfl⟩
      refine ⟨Suf.h, (fun _ h => h), ?_⟩
      refine th_one (by kernel_rfl) (step_m rfl rfl (OpV.toG (opv_loadRXA rfl rfl (by omega) rfl rfl rfl)) ?_)
      rintro _ _ _ ⟨rfl, rfl, rfl⟩
      refine ⟨Suf.h, (fun _ h => h), ?_⟩
      refine th_one (by kernel_rfl) (step_m rfl rfl (opg_call (xs := [_, _, _]) rfl (edge_join (e := (2 ^ m)) (by omega) ha hb (by omega) (by omega) (by omega))) ?_)
      rintro _ _ _ ⟨rfl, rfl, rfl⟩
      refine ⟨Suf.h, (fun _ h => h), ?_⟩
      refine th_take rfl rfl (by kernel_rfl)  (opv_indexAddrSP rfl rfl (by omega) (by omega)) ?_
      refine th_one (by kernel_rfl) (step_m rfl rfl (opg_storeRX (R7.jn (((R7.edl ns true (k + 1) i).set i (R7.jn ⟨0, 0⟩ et0 0)).getD i default) (((R7.edl ns true (k + 1) i).set i (R7.jn ⟨0, 0⟩ et0 0)).getD x.k1.toNat default) (2 ^ m)) rfl rfl rfl (by omega) ln.symm rfl rfl rfl rfl) ?_)
      rintro _ _ _ ⟨rfl, rfl⟩
      refine ⟨Suf.h, (fun _ h => h), ?_⟩
      refine th_done (by kernel_rfl) ?_
      exact tri_cutEnd _ ⟨rfl, rfl, rfl⟩ ⟨rfl, rfl, rfl, rfl, rfl, rfl, rfl, rfl, rfl, rfl, rfl, rfl, rfl, rfl, rfl, trivial⟩
    rintro _ _ _ ⟨rfl, rfl, rfl⟩
    rw [es]
    clear ln gg1 gg2 ha hb es
    refine tT ?_
    have ln : ((R7.edl ns false (k + 1) i).set i (R7.jn ⟨0, 0⟩ ef0 0)).length = k + 1 := by rw [List.length_set, R7.edl_len]
    have gg1 : ((R7.edl ns false (k + 1) i).set i (R7.jn ⟨0, 0⟩ ef0 0)).getD i default = (R7.jn ⟨0, 0⟩ ef0 0) := R7.set_at (by rw [R7.edl_len]; omega)
    have gg2 : ((R7.edl ns false (k + 1) i).set i (R7.jn ⟨0, 0⟩ ef0 0)).getD x.k1.toNat default = ef1 := (R7.set_ne (by omega)).trans p1
    have ha : R7.Eg (2 ^ m * 2) (((R7.edl ns false (k + 1) i).set i (R7.jn ⟨0, 0⟩ ef0 0)).getD i default) := by rw [gg1]; exact f0
    have hb : R7.Eg (2 ^ m * 2) (((R7.edl ns false (k + 1) i).set i (R7.jn ⟨0, 0⟩ ef0 0)).getD x.k1.toNat default) := by rw [gg2]; exact bf1.mono (by omega)
    have es : ((R7.edl ns false (k + 1) i).set i (R7.jn ⟨0, 0⟩ ef0 0)).set i (R7.jn (((R7.edl ns false (k + 1) i).set i (R7.jn ⟨0, 0⟩ ef0 0)).getD i default) (((R7.edl ns false (k + 1) i).set i (R7.jn ⟨0, 0⟩ ef0 0)).getD x.k1.toNat default) 0) = (R7.edl ns false (k + 1) i).set i (R7.jn (R7.jn ⟨0, 0⟩ ef0 0) ef1 0) := by rw [gg1, gg2, List.set_set]
    refine tri_perm (A := ?a5_0 :: ?a5_1 :: ?T5) (B := ?a5_1 :: ?a5_0 :: ?T5) (by exact permL [1, 0] [?a5_0, ?a5_1] ?T5 (by decide) rfl) ?_
    skip
    refine tri_cut (fun F' A' J => F' = [(1, .int .i64 (k : Nat)), (2, pt b2 0), (4, pt b4 0), (6, .slice (some ⟨ac, 0, none⟩) (k + 1) (k + 1)), (7, .slice (some ⟨dn, 0, none⟩) (k + 1) (k + 1)), (38, .slice a (k + 1) cap), (39, .int .i64 ((k + 1 : Nat) : Int)), (40, .int .i64 (i : Nat)), (8, .int .i64 (i : Nat)), (9, pt b9 0), (10, .int .i64 (2 ^ m)), (11, .int .i64 1), (12, .int .i64 x.k1), (65, .agg [.int .i64 x.k0, .int .i64 x.k1, .int .i64 x.k2, .int .i64 x.k3].toArray), (66, .int .i64 1)] ∧ A' = Row (some ⟨dn, 0, none⟩) (k + 1) (k + 1) 87 2 (encs (((R7.edl ns false (k + 1) i).set i (R7.jn ⟨0, 0⟩ ef0 0)).set i (R7.jn (((R7.edl ns false (k + 1) i).set i (R7.jn ⟨0, 0⟩ ef0 0)).getD i default) (((R7.edl ns false (k + 1) i).set i (R7.jn ⟨0, 0⟩ ef0 0)).getD x.k1.toNat default) 0))) :: Row (some ⟨ac, 0, none⟩) (k + 1) (k + 1) 87 2 (encs ((R7.edl ns true (k + 1) i).set i (R7.jn (R7.jn ⟨0, 0⟩ et0 0) et1 (2 ^ m)))) :: Box b9 [.int .i64 x.lv, .int .i64 x.k0, .int .i64 x.k1, .int .i64 x.k2, .int .i64 x.k3, .int .i64 x.pop] 63 :: Box b4 [.int .i64 0, .int .i64 0, .int .i64 0, .int .i64 0] 45 :: Box b2 [.slice a ns.length cap, .int .i64 room] 26 :: A ∧ I = J) ?_ ?_
    ·refine tri_draw [0, 1, 2, 3, 4, 6, 7, 8, 10, 11, 12, 13, 5, 9, 14, 15, 16] rfl [_] rfl mixed ?_
     refine th_take rfl rfl (by kernel_rfl)  (opv_move rfl) ?_
     refine th_take rfl rfl (by kernel_rfl)  (opv_move rfl) ?_
     refine th_take rfl rfl (by kernel_rfl)  (opv_move rfl) ?_
     refine th_take rfl rfl (by kernel_rfl)  (opv_move rfl) ?_
     refine th_take rfl rfl (by kernel_rfl)  (opv_indexAddrSP rfl rfl (by omega) (by omega)) ?_
     refine th_take rfl rfl (by kernel_rfl)  (opv_move rfl) ?_
     refine th_take rfl rfl (by kernel_rfl)  (opv_move rfl) ?_
     refine th_take rfl rfl (by kernel_rfl)  (opv_indexAddrSP rfl rfl (by omega) (by omega)) ?_
     refine th_take rfl rfl (by kernel_rfl)  (opv_move rfl) ?_
     refine th_take rfl rfl (by kernel_rfl)  (opv_quoE rfl rfl (by omega) (by omega) (by omega)) ?_
     refine th_take rfl rfl (by kernel_rfl)  (opv_move rfl) ?_
     refine th_take rfl rfl (by kernel_rfl)  (opv_mul rfl rfl (w64 (by omega) (by omega))) ?_
     refine th_two (j := 9) [5, 14, 15, 16] (by kernel_rfl) rfl ?_ ?_
     ·refine (step_m rfl rfl (OpV.toG (opv_loadRXA rfl rfl (by omega) rfl rfl rfl)) ?_)
      rintro _ _ _ ⟨rfl, rfl, rfl⟩
      refine ⟨Suf.h, (fun _ h => h), ?_⟩
      refine th_one (by kernel_rfl) (step_m rfl rfl (OpV.toG (opv_loadRXA rfl rfl (by omega) rfl rfl rfl)) ?_)
      rintro _ _ _ ⟨rfl, rfl, rfl⟩
      refine ⟨Suf.h, (fun _ h => h), ?_⟩
      refine th_one (by kernel_rfl) (step_m rfl rfl (opg_call (xs := [_, _, _]) rfl (edge_join (e := 0) (by omega) ha hb (by omega) (by omega) (by omega))) ?_)
      rintro _ _ _ ⟨rfl, rfl, rfl⟩
      refine ⟨Suf.h, (fun _ h => h), ?_⟩
      refine th_take rfl rfl (by kernel_rfl)  (opv_indexAddrSP rfl rfl (by omega) (by omega)) ?_
      refine th_one (by kernel_rfl) (step_m rfl rfl (opg_storeRX (R7.jn (((R7.edl ns false (k + 1) i).set i (R7.jn ⟨0, 0⟩ ef0 0)).getD i default) (((R7.edl ns false (k + 1) i).set i (R7.jn ⟨0, 0⟩ ef0 0)).getD x.k1.toNat default) 0) rfl rfl rfl (by omega) ln.symm rfl rfl rfl rfl) ?_)
      rintro _ _ _ ⟨rfl, rfl⟩
      refine ⟨Suf.h, (fun _ h => h), ?_⟩
      refine th_done (by kernel_rfl) ?_
      exact tri_cutEnd _ ⟨rfl, rfl, rfl⟩ ⟨rfl, rfl, rfl, rfl, rfl, rfl, rfl, rfl, rfl, rfl, rfl, rfl, rfl, rfl, rfl, trivial⟩
     ·refine (step_m rfl rfl (OpV.toG (opv_loadRXA rfl rfl (by omega) rfl rfl rfl)) ?_)
      rintro _ _ _ ⟨rfl, rfl, rfl⟩
      refine ⟨Suf.h, (fun _ h => h), ?_⟩
      refine th_one (by kernel_rfl) (step_m rfl rfl (OpV.toG (opv_loadRXA rfl rfl (by omega) rfl rfl rfl)) ?_)
      rintro _ _ _ ⟨rfl, rfl, rfl⟩
      refine ⟨Suf.h, (fun _ h => h), ?_⟩
      refine th_one (by kernel_rfl) (step_m rfl rfl (opg_call (xs := [_, _, _]) rfl (edge_join (e := 0) (by omega) ha hb (by omega) (by omega) (by omega))) ?_)
      rintro _ _ _ ⟨rfl, rfl, rfl⟩
      refine ⟨Suf.h, (fun _ h => h), ?_⟩
      refine th_take rfl rfl (by kernel_rfl)  (opv_indexAddrSP rfl rfl (by omega) (by omega)) ?_
      refine th_one (by kernel_rfl) (step_m rfl rfl (opg_storeRX (R7.jn (((R7.edl ns false (k + 1) i).set i (R7.jn ⟨0, 0⟩ ef0 0)).getD i default) (((R7.edl ns false (k + 1) i).set i (R7.jn ⟨0, 0⟩ ef0 0)).getD x.k1.toNat default) 0) rfl rfl rfl (by omega) ln.symm rfl rfl rfl rfl) ?_)
      rintro _ _ _ ⟨rfl, rfl⟩
      refine ⟨Suf.h, (fun _ h => h), ?_⟩
      refine th_done (by kernel_rfl) ?_
      exact tri_cutEnd _ ⟨rfl, rfl, rfl⟩ ⟨rfl, rfl, rfl, rfl, rfl, rfl, rfl, rfl, rfl, rfl, rfl, rfl, rfl, rfl, rfl, trivial⟩
    rintro _ _ _ ⟨rfl, rfl, rfl⟩
    rw [es]
    clear ln gg1 gg2 ha hb es
    refine tri_inBlock ?_
    refine tT (tR ?_)
    refine tU rfl rfl (by omega) (by omega) rfl ?_
    refine tM rfl rfl (tN (tT ?_))
    refine tri_round ?_
    refine tS (tR ?_)
    refine tri_v (opv_lss rfl rfl) rfl ?_
    refine tN (tT (tS ?_))
    refine tri_perm (A := ?a6_0 :: ?a6_1 :: ?T6) (B := ?a6_1 :: ?a6_0 :: ?T6) (by exact permL [1, 0] [?a6_0, ?a6_1] ?T6 (by decide) rfl) ?_
    skip
    refine tri_cond_is rfl (by decide) ?_
    refine tri_skip (tT (tS (tri_block (tS (tR (tM rfl rfl ?_))))))
    refine tri_v (opv_index rfl rfl (by decide) (by decide) rfl rfl) rfl ?_
    refine tA rfl rfl (tA rfl rfl (tN (tT (tS ?_))))
    skip
    have ln : ((R7.edl ns true (k + 1) i).set i (R7.jn (R7.jn ⟨0, 0⟩ et0 0) et1 (2 ^ m))).length = k + 1 := by rw [List.length_set, R7.edl_len]
    have gg1 : ((R7.edl ns true (k + 1) i).set i (R7.jn (R7.jn ⟨0, 0⟩ et0 0) et1 (2 ^ m))).getD i default = (R7.jn (R7.jn ⟨0, 0⟩ et0 0) et1 (2 ^ m)) := R7.set_at (by rw [R7.edl_len]; omega)
    have gg2 : ((R7.edl ns true (k + 1) i).set i (R7.jn (R7.jn ⟨0, 0⟩ et0 0) et1 (2 ^ m))).getD x.k2.toNat default = et2 := (R7.set_ne (by omega)).trans g2
    have ha : R7.Eg (2 ^ m * 2) (((R7.edl ns true (k + 1) i).set i (R7.jn (R7.jn ⟨0, 0⟩ et0 0) et1 (2 ^ m))).getD i default) := by rw [gg1]; exact t1
    have hb : R7.Eg (2 ^ m * 2) (((R7.edl ns true (k + 1) i).set i (R7.jn (R7.jn ⟨0, 0⟩ et0 0) et1 (2 ^ m))).getD x.k2.toNat default) := by rw [gg2]; exact bt2.mono (by omega)
    have es : ((R7.edl ns true (k + 1) i).set i (R7.jn (R7.jn ⟨0, 0⟩ et0 0) et1 (2 ^ m))).set i (R7.jn (((R7.edl ns true (k + 1) i).set i (R7.jn (R7.jn ⟨0, 0⟩ et0 0) et1 (2 ^ m))).getD i default) (((R7.edl ns true (k + 1) i).set i (R7.jn (R7.jn ⟨0, 0⟩ et0 0) et1 (2 ^ m))).getD x.k2.toNat default) 0) = (R7.edl ns true (k + 1) i).set i (R7.jn (R7.jn (R7.jn ⟨0, 0⟩ et0 0) et1 (2 ^ m)) et2 0) := by rw [gg1, gg2, List.set_set]
    skip
    refine tri_cut (fun F' A' J => F' = [(1, .int .i64 (k : Nat)), (2, pt b2 0), (4, pt b4 0), (6, .slice (some ⟨ac, 0, none⟩) (k + 1) (k + 1)), (7, .slice (some ⟨dn, 0, none⟩) (k + 1) (k + 1)), (38, .slice a (k + 1) cap), (39, .int .i64 ((k + 1 : Nat) : Int)), (40, .int .i64 (i : Nat)), (8, .int .i64 (i : Nat)), (9, pt b9 0), (10, .int .i64 (2 ^ m)), (11, .int .i64 2), (12, .int .i64 x.k2), (65, .agg [.int .i64 x.k0, .int .i64 x.k1, .int .i64 x.k2, .int .i64 x.k3].toArray), (66, .int .i64 2)] ∧ A' = Row (some ⟨ac, 0, none⟩) (k + 1) (k + 1) 87 2 (encs (((R7.edl ns true (k + 1) i).set i (R7.jn (R7.jn ⟨0, 0⟩ et0 0) et1 (2 ^ m))).set i (R7.jn (((R7.edl ns true (k + 1) i).set i (R7.jn (R7.jn ⟨0, 0⟩ et0 0) et1 (2 ^ m))).getD i default) (((R7.edl ns true (k + 1) i).set i (R7.jn (R7.jn ⟨0, 0⟩ et0 0) et1 (2 ^ m))).getD x.k2.toNat default) 0))) :: Row (some ⟨dn, 0, none⟩) (k + 1) (k + 1) 87 2 (encs ((R7.edl ns false (k + 1) i).set i (R7.jn (R7.jn ⟨0, 0⟩ ef0 0) ef1 0))) :: Box b9 [.int .i64 x.lv, .int .i64 x.k0, .int .i64 x.k1, .int .i64 x.k2, .int .i64 x.k3, .int .i64 x.pop] 63 :: Box b4 [.int .i64 0, .int .i64 0, .int .i64 0, .int .i64 0] 45 :: Box b2 [.slice a ns.length cap, .int .i64 room] 26 :: A ∧ I = J) ?_ ?_
    ·refine tri_draw [0, 1, 2, 3, 4, 6, 7, 8, 10, 11, 12, 13, 5, 9, 14, 15, 16] rfl [_] rfl mixed ?_
     refine th_take rfl rfl (by kernel_rfl)  (opv_move rfl) ?_
     refine th_take rfl rfl (by kernel_rfl)  (opv_move rfl) ?_
     refine th_take rfl rfl (by kernel_rfl)  (opv_move rfl) ?_
     refine th_take rfl rfl (by kernel_rfl)  (opv_move rfl) ?_
     refine th_take rfl rfl (by kernel_rfl)  (opv_indexAddrSP rfl rfl (by omega) (by omega)) ?_
     refine th_take rfl rfl (by kernel_rfl)  (opv_move rfl) ?_
     refine th_take rfl rfl (by kernel_rfl)  (opv_move rfl) ?_
     refine th_take rfl rfl (by kernel_rfl)  (opv_indexAddrSP rfl rfl (by omega) (by omega)) ?_
     refine th_take rfl rfl (by kernel_rfl)  (opv_move rfl) ?_
     refine th_take rfl rfl (by kernel_rfl)  (opv_remE rfl rfl (by omega) (by omega)) ?_
     refine th_take rfl rfl (by kernel_rfl)  (opv_move rfl) ?_
     refine th_take rfl rfl (by kernel_rfl)  (opv_mul rfl rfl (w64 (by omega) (by omega))) ?_
     refine th_two (j := 9) [5, 14, 15, 16] (by kernel_rfl) rfl ?_ ?_
     ·refine (step_m rfl rfl (OpV.toG (opv_loadRXA rfl rfl (by omega) rfl rfl rfl)) ?_)
      rintro _ _ _ ⟨rfl, rfl, rfl⟩
      refine ⟨Suf.h, (fun _ h => h), ?_⟩
      refine th_one (by kernel_rfl) (step_m rfl rfl (OpV.toG (opv_loadRXA rfl rfl (by omega) rfl rfl rfl)) ?_)
      rintro _ _ _ ⟨rfl, rfl, rfl⟩
      refine ⟨Suf.h, (fun _ h => h), ?_⟩
      refine th_one (by kernel_rfl) (step_m rfl rfl (opg_call (xs := [_, _, _]) rfl (edge_join (e := 0) (by omega) ha hb (by omega) (by omega) (by omega))) ?_)
      rintro _ _ _ ⟨rfl, rfl, rfl⟩
      refine ⟨Suf.h, (fun _ h => h), ?_⟩
      refine th_take rfl rfl (by kernel_rfl)  (opv_indexAddrSP rfl rfl (by omega) (by omega)) ?_
      refine th_one (by kernel_rfl) (step_m rfl rfl (opg_storeRX (R7.jn (((R7.edl ns true (k + 1) i).set i (R7.jn (R7.jn ⟨0, 0⟩ et0 0) et1 (2 ^ m))).getD i default) (((R7.edl ns true (k + 1) i).set i (R7.jn (R7.jn ⟨0, 0⟩ et0 0) et1 (2 ^ m))).getD x.k2.toNat default) 0) rfl rfl rfl (by omega) ln.symm rfl rfl rfl rfl) ?_)
      rintro _ _ _ ⟨rfl, rfl⟩
      refine ⟨Suf.h, (fun _ h => h), ?_⟩
      refine th_done (by kernel_rfl) ?_
      exact tri_cutEnd _ ⟨rfl, rfl, rfl⟩ ⟨rfl, rfl, rfl, rfl, rfl, rfl, rfl, rfl, rfl, rfl, rfl, rfl, rfl, rfl, rfl, trivial⟩
     ·refine (step_m rfl rfl (OpV.toG (opv_loadRXA rfl rfl (by omega) rfl rfl rfl)) ?_)
      rintro _ _ _ ⟨rfl, rfl, rfl⟩
      refine ⟨Suf.h, (fun _ h => h), ?_⟩
      refine th_one (by kernel_rfl) (step_m rfl rfl (OpV.toG (opv_loadRXA rfl rfl (by omega) rfl rfl rfl)) ?_)
      rintro _ _ _ ⟨rfl, rfl, rfl⟩
      refine ⟨Suf.h, (fun _ h => h), ?_⟩
      refine th_one (by kernel_rfl) (step_m rfl rfl (opg_call (xs := [_, _, _]) rfl (edge_join (e := 0) (by omega) ha hb (by omega) (by omega) (by omega))) ?_)
      rintro _ _ _ ⟨rfl, rfl, rfl⟩
      refine ⟨Suf.h, (fun _ h => h), ?_⟩
      refine th_take rfl rfl (by kernel_rfl)  (opv_indexAddrSP rfl rfl (by omega) (by omega)) ?_
      refine th_one (by kernel_rfl) (step_m rfl rfl (opg_storeRX (R7.jn (((R7.edl ns true (k + 1) i).set i (R7.jn (R7.jn ⟨0, 0⟩ et0 0) et1 (2 ^ m))).getD i default) (((R7.edl ns true (k + 1) i).set i (R7.jn (R7.jn ⟨0, 0⟩ et0 0) et1 (2 ^ m))).getD x.k2.toNat default) 0) rfl rfl rfl (by omega) ln.symm rfl rfl rfl rfl) ?_)
      rintro _ _ _ ⟨rfl, rfl⟩
      refine ⟨Suf.h, (fun _ h => h), ?_⟩
      refine th_done (by kernel_rfl) ?_
      exact tri_cutEnd _ ⟨rfl, rfl, rfl⟩ ⟨rfl, rfl, rfl, rfl, rfl, rfl, rfl, rfl, rfl, rfl, rfl, rfl, rfl, rfl, rfl, trivial⟩
    rintro _ _ _ ⟨rfl, rfl, rfl⟩
    rw [es]
    clear ln gg1 gg2 ha hb es
    refine tT ?_
    have ln : ((R7.edl ns false (k + 1) i).set i (R7.jn (R7.jn ⟨0, 0⟩ ef0 0) ef1 0)).length = k + 1 := by rw [List.length_set, R7.edl_len]
    have gg1 : ((R7.edl ns false (k + 1) i).set i (R7.jn (R7.jn ⟨0, 0⟩ ef0 0) ef1 0)).getD i default = (R7.jn (R7.jn ⟨0, 0⟩ ef0 0) ef1 0) := R7.set_at (by rw [R7.edl_len]; omega)
    have gg2 : ((R7.edl ns false (k + 1) i).set i (R7.jn (R7.jn ⟨0, 0⟩ ef0 0) ef1 0)).getD x.k2.toNat default = ef2 := (R7.set_ne (by omega)).trans p2
    have ha : R7.Eg (2 ^ m * 2) (((R7.edl ns false (k + 1) i).set i (R7.jn (R7.jn ⟨0, 0⟩ ef0 0) ef1 0)).getD i default) := by rw [gg1]; exact f1
    have hb : R7.Eg (2 ^ m * 2) (((R7.edl ns false (k + 1) i).set i (R7.jn (R7.jn ⟨0, 0⟩ ef0 0) ef1 0)).getD x.k2.toNat default) := by rw [gg2]; exact bf2.mono (by omega)
    have es : ((R7.edl ns false (k + 1) i).set i (R7.jn (R7.jn ⟨0, 0⟩ ef0 0) ef1 0)).set i (R7.jn (((R7.edl ns false (k + 1) i).set i (R7.jn (R7.jn ⟨0, 0⟩ ef0 0) ef1 0)).getD i default) (((R7.edl ns false (k + 1) i).set i (R7.jn (R7.jn ⟨0, 0⟩ ef0 0) ef1 0)).getD x.k2.toNat default) (2 ^ m)) = (R7.edl ns false (k + 1) i).set i (R7.jn (R7.jn (R7.jn ⟨0, 0⟩ ef0 0) ef1 0) ef2 (2 ^ m)) := by rw [gg1, gg2, List.set_set]
    refine tri_perm (A := ?a7_0 :: ?a7_1 :: ?T7) (B := ?a7_1 :: ?a7_0 :: ?T7) (by exact permL [1, 0] [?a7_0, ?a7_1] ?T7 (by decide) rfl) ?_
    skip
    refine tri_cut (fun F' A' J => F' = [(1, .int .i64 (k : Nat)), (2, pt b2 0), (4, pt b4 0), (6, .slice (some ⟨ac, 0, none⟩) (k + 1) (k + 1)), (7, .slice (some ⟨dn, 0, none⟩) (k + 1) (k + 1)), (38, .slice a (k + 1) cap), (39, .int .i64 ((k + 1 : Nat) : Int)), (40, .int .i64 (i : Nat)), (8, .int .i64 (i : Nat)), (9, pt b9 0), (10, .int .i64 (2 ^ m)), (11, .int .i64 2), (12, .int .i64 x.k2), (65, .agg [.int .i64 x.k0, .int .i64 x.k1, .int .i64 x.k2, .int .i64 x.k3].toArray), (66, .int .i64 2)] ∧ A' = Row (some ⟨dn, 0, none⟩) (k + 1) (k + 1) 87 2 (encs (((R7.edl ns false (k + 1) i).set i (R7.jn (R7.jn ⟨0, 0⟩ ef0 0) ef1 0)).set i (R7.jn (((R7.edl ns false (k + 1) i).set i (R7.jn (R7.jn ⟨0, 0⟩ ef0 0) ef1 0)).getD i default) (((R7.edl ns false (k + 1) i).set i (R7.jn (R7.jn ⟨0, 0⟩ ef0 0) ef1 0)).getD x.k2.toNat default) (2 ^ m)))) :: Row (some ⟨ac, 0, none⟩) (k + 1) (k + 1) 87 2 (encs ((R7.edl ns true (k + 1) i).set i (R7.jn (R7.jn (R7.jn ⟨0, 0⟩ et0 0) et1 (2 ^ m)) et2 0))) :: Box b9 [.int .i64 x.lv, .int .i64 x.k0, .int .i64 x.k1, .int .i64 x.k2, .int .i64 x.k3, .int .i64 x.pop] 63 :: Box b4 [.int .i64 0, .int .i64 0, .int .i64 0, .int .i64 0] 45 :: Box b2 [.slice a ns.length cap, .int .i64 room] 26 :: A ∧ I = J) ?_ ?_
    ·refine tri_draw [0, 1, 2, 3, 4, 6, 7, 8, 10, 11, 12, 13, 5, 9, 14, 15, 16] rfl [_] rfl mixed ?_
     refine th_take rfl rfl (by kernel_rfl)  (opv_move rfl) ?_
     refine th_take rfl rfl (by kernel_rfl)  (opv_move rfl) ?_
     refine th_take rfl rfl (by kernel_rfl)  (opv_move rfl) ?_
     refine th_take rfl rfl (by kernel_rfl)  (opv_move rfl) ?_
     refine th_take rfl rfl (by kernel_rfl)  (opv_indexAddrSP rfl rfl (by omega) (by omega)) ?_
     refine th_take rfl rfl (by kernel_rfl)  (opv_move rfl) ?_
     refine th_take rfl rfl (by kernel_rfl)  (opv_move rfl) ?_
     refine th_take rfl rfl (by kernel_rfl)  (opv_indexAddrSP rfl rfl (by omega) (by omega)) ?_
     refine th_take rfl rfl (by kernel_rfl)  (opv_move rfl) ?_
     refine th_take rfl rfl (by kernel_rfl)  (opv_quoE rfl rfl (by omega) (by omega) (by omega)) ?_
     refine th_take rfl rfl (by kernel_rfl)  (opv_move rfl) ?_
     refine th_take rfl rfl (by kernel_rfl)  (opv_mul rfl rfl (w64 (by omega) (by omega))) ?_
     refine th_two (j := 9) [5, 14, 15, 16] (by kernel_rfl) rfl ?_ ?_
     ·refine (step_m rfl rfl (OpV.toG (opv_loadRXA rfl rfl (by omega) rfl rfl rfl)) ?_)
      rintro _ _ _ ⟨rfl, rfl, rfl⟩
      refine ⟨Suf.h, (fun _ h => h), ?_⟩
      refine th_one (by kernel_rfl) (step_m rfl rfl (OpV.toG (opv_loadRXA rfl rfl (by omega) rfl rfl rfl)) ?_)
      rintro _ _ _ ⟨rfl, rfl, rfl⟩
      refine ⟨Suf.h, (fun _ h => h), ?_⟩
      refine th_one (by kernel_rfl) (step_m rfl rfl (opg_call (xs := [_, _, _]) rfl (edge_join (e := (2 ^ m)) (by omega) ha hb (by omega) (by omega) (by omega))) ?_)
      rintro _ _ _ ⟨rfl, rfl, rfl⟩
      refine ⟨Suf.h, (fun _ h => h), ?_⟩
      refine th_take rfl rfl (by kernel_rfl)  (opv_indexAddrSP rfl rfl (by omega) (by omega)) ?_
      refine th_one (by kernel_rfl) (step_m rfl rfl (opg_storeRX (R7.jn (((R7.edl ns false (k + 1) i).set i (R7.jn (R7.jn ⟨0, 0⟩ ef0 0) ef1 0)).getD i default) (((R7.edl ns false (k + 1) i).set i (R7.jn (R7.jn ⟨0, 0⟩ ef0 0) ef1 0)).getD x.k2.toNat default) (2 ^ m)) rfl rfl rfl (by omega) ln.symm rfl rfl rfl rfl) ?_)
      rintro _ _ _ ⟨rfl, rfl⟩
      refine ⟨Suf.h, (fun _ h => h), ?_⟩
      refine th_done (by kernel_rfl) ?_
      exact tri_cutEnd _ ⟨rfl, rfl, rfl⟩ ⟨rfl, rfl, rfl, rfl, rfl, rfl, rfl, rfl, rfl, rfl, rfl, rfl, rfl, rfl, rfl, trivial⟩
     ·refine (step_m rfl rfl (OpV.toG (opv_loadRXA rfl rfl (by omega) rfl rfl rfl)) ?_)
      rintro _ _ _ ⟨rfl, rfl, rfl⟩
      refine ⟨Suf.h, (fun _ h => h), ?_⟩
      refine th_one (by kernel_rfl) (step_m rfl rfl (OpV.toG (opv_loadRXA rfl rfl (by omega) rfl rfl rfl)) ?_)
      rintro _ _ _ ⟨rfl, rfl, rfl⟩
      refine ⟨Suf.h, (fun _ h => h), ?_⟩
      refine th_one (by kernel_rfl) (step_m rfl rfl (opg_call (xs := [_, _, _]) rfl (edge_join (e := (2 ^ m)) (by omega) ha hb (by omega) (by omega) (by omega))) ?_)
      rintro _ _ _ ⟨rfl, rfl, rfl⟩
      refine ⟨Suf.h, (fun _ h => h), ?_⟩
      refine th_take rfl rfl (by kernel_rfl)  (opv_indexAddrSP rfl rfl (by omega) (by omega)) ?_
      refine th_one (by kernel_rfl) (step_m rfl rfl (opg_storeRX (R7.jn (((R7.edl ns false (k + 1) i).set i (R7.jn (R7.jn ⟨0, 0⟩ ef0 0) ef1 0)).getD i default) (((R7.edl ns false (k + 1) i).set i (R7.jn (R7.jn ⟨0, 0⟩ ef0 0) ef1 0)).getD x.k2.toNat default) (2 ^ m)) rfl rfl rfl (by omega) ln.symm rfl rfl rfl rfl) ?_)
      rintro _ _ _ ⟨rfl, rfl⟩
      refine ⟨Suf.h, (fun _ h => h), ?_⟩
      refine th_done (by kernel_rfl) ?_
      exact tri_cutEnd _ ⟨rfl, rfl, rfl⟩ ⟨rfl, rfl, rfl, rfl, rfl, rfl, rfl, rfl, rfl, rfl, rfl, rfl, rfl, rfl, rfl, trivial⟩
    rintro _ _ _ ⟨rfl, rfl, rfl⟩
    rw [es]
    clear ln gg1 gg2 ha hb es
    refine tri_inBlock ?_
    refine tT (tR ?_)
    refine tU rfl rfl (by omega) (by omega) rfl ?_
    refine tM rfl rfl (tN (tT ?_))
    refine tri_round ?_
    refine tS (tR ?_)
    refine tri_v (opv_lss rfl rfl) rfl ?_
    refine tN (tT (tS ?_))
    refine tri_perm (A := ?a8_0 :: ?a8_1 :: ?T8) (B := ?a8_1 :: ?a8_0 :: ?T8) (by exact permL [1, 0] [?a8_0, ?a8_1] ?T8 (by decide) rfl) ?_
    skip
    refine tri_cond_is rfl (by decide) ?_
    refine tri_skip (tT (tS (tri_block (tS (tR (tM rfl rfl ?_))))))
    refine tri_v (opv_index rfl rfl (by decide) (by decide) rfl rfl) rfl ?_
    refine tA rfl rfl (tA rfl rfl (tN (tT (tS ?_))))
    skip
    have ln : ((R7.edl ns true (k + 1) i).set i (R7.jn (R7.jn (R7.jn ⟨0, 0⟩ et0 0) et1 (2 ^ m)) et2 0)).length = k + 1 := by rw [List.length_set, R7.edl_len]
    have gg1 : ((R7.edl ns true (k + 1) i).set i (R7.jn (R7.jn (R7.jn ⟨0, 0⟩ et0 0) et1 (2 ^ m)) et2 0)).getD i default = (R7.jn (R7.jn (R7.jn ⟨0, 0⟩ et0 0) et1 (2 ^ m)) et2 0) := R7.set_at (by rw [R7.edl_len]; omega)
    have gg2 : ((R7.edl ns true (k + 1) i).set i (R7.jn (R7.jn (R7.jn ⟨0, 0⟩ et0 0) et1 (2 ^ m)) et2 0)).getD x.k3.toNat default = et3 := (R7.set_ne (by omega)).trans g3
    have ha : R7.Eg (2 ^ m * 2) (((R7.edl ns true (k + 1) i).set i (R7.jn (R7.jn (R7.jn ⟨0, 0⟩ et0 0) et1 (2 ^ m)) et2 0)).getD i default) := by rw [gg1]; exact t2
    have hb : R7.Eg (2 ^ m * 2) (((R7.edl ns true (k + 1) i).set i (R7.jn (R7.jn (R7.jn ⟨0, 0⟩ et0 0) et1 (2 ^ m)) et2 0)).getD x.k3.toNat default) := by rw [gg2]; exact bt3.mono (by omega)
    have es : ((R7.edl ns true (k + 1) i).set i (R7.jn (R7.jn (R7.jn ⟨0, 0⟩ et0 0) et1 (2 ^ m)) et2 0)).set i (R7.jn (((R7.edl ns true (k + 1) i).set i (R7.jn (R7.jn (R7.jn ⟨0, 0⟩ et0 0) et1 (2 ^ m)) et2 0)).getD i default) (((R7.edl ns true (k + 1) i).set i (R7.jn (R7.jn (R7.jn ⟨0, 0⟩ et0 0) et1 (2 ^ m)) et2 0)).getD x.k3.toNat default) (2 ^ m)) = (R7.edl ns true (k + 1) i).set i (R7.jn (R7.jn (R7.jn (R7.jn ⟨0, 0⟩ et0 0) et1 (2 ^ m)) et2 0) et3 (2 ^ m)) := by rw [gg1, gg2, List.set_set]
    skip
    refine tri_cut (fun F' A' J => F' = [(1, .int .i64 (k : Nat)), (2, pt b2 0), (4, pt b4 0), (6, .slice (some ⟨ac, 0, none⟩) (k + 1) (k + 1)), (7, .slice (some ⟨dn, 0, none⟩) (k + 1) (k + 1)), (38, .slice a (k + 1) cap), (39, .int .i64 ((k + 1 : Nat) : Int)), (40, .int .i64 (i : Nat)), (8, .int .i64 (i : Nat)), (9, pt b9 0), (10, .int .i64 (2 ^ m)), (11, .int .i64 3), (12, .int .i64 x.k3), (65, .agg [.int .i64 x.k0, .int .i64 x.k1, .int .i64 x.k2, .int .i64 x.k3].toArray), (66, .int .i64 3)] ∧ A' = Row (some ⟨ac, 0, none⟩) (k + 1) (k + 1) 87 2 (encs (((R7.edl ns true (k + 1) i).set i (R7.jn (R7.jn (R7.jn ⟨0, 0⟩ et0 0) et1 (2 ^ m)) et2 0)).set i (R7.jn (((R7.edl ns true (k + 1) i).set i (R7.jn (R7.jn (R7.jn ⟨0, 0⟩ et0 0) et1 (2 ^ m)) et2 0)).getD i default) (((R7.edl ns true (k + 1) i).set i (R7.jn (R7.jn (R7.jn ⟨0, 0⟩ et0 0) et1 (2 ^ m)) et2 0)).getD x.k3.toNat default) (2 ^ m)))) :: Row (some ⟨dn, 0, none⟩) (k + 1) (k + 1) 87 2 (encs ((R7.edl ns false (k + 1) i).set i (R7.jn (R7.jn (R7.jn ⟨0, 0⟩ ef0 0) ef1 0) ef2 (2 ^ m)))) :: Box b9 [.int .i64 x.lv, .int .i64 x.k0, .int .i64 x.k1, .int .i64 x.k2, .int .i64 x.k3, .int .i64 x.pop] 63 :: Box b4 [.int .i64 0, .int .i64 0, .int .i64 0, .int .i64 0] 45 :: Box b2 [.slice a ns.length cap, .int .i64 room] 26 :: A ∧ I = J) ?_ ?_
    ·refine tri_draw [0, 1, 2, 3, 4, 6, 7, 8, 10, 11, 12, 13, 5, 9, 14, 15, 16] rfl [_] rfl mixed ?_
     refine th_take rfl rfl (by kernel_rfl)  (opv_move rfl) ?_
     refine th_take rfl rfl (by kernel_rfl)  (opv_move rfl) ?_
     refine th_take rfl rfl (by kernel_rfl)  (opv_move rfl) ?_
     refine th_take rfl rfl (by kernel_rfl)  (opv_move rfl) ?_
     refine th_take rfl rfl (by kernel_rfl)  (opv_indexAddrSP rfl rfl (by omega) (by omega)) ?_
     refine th_take rfl rfl (by kernel_rfl)  (opv_move rfl) ?_
     refine th_take rfl rfl (by kernel_rfl)  (opv_move rfl) ?_
     refine th_take rfl rfl (by kernel_rfl)  (opv_indexAddrSP rfl rfl (by omega) (by omega)) ?_
     refine th_take rfl rfl (by kernel_rfl)  (opv_move rfl) ?_
     refine th_take rfl rfl (by kernel_rfl)  (opv_remE rfl rfl (by omega) (by omega)) ?_
     refine th_take rfl rfl (by kernel_rfl)  (opv_move rfl) ?_
     refine th_take rfl rfl (by kernel_rfl)  (opv_mul rfl rfl (w64 (by omega) (by omega))) ?_
     refine th_two (j := 9) [5, 14, 15, 16] (by kernel_rfl) rfl ?_ ?_
     ·refine (step_m rfl rfl (OpV.toG (opv_loadRXA rfl rfl (by omega) rfl rfl rfl)) ?_)
      rintro _ _ _ ⟨rfl, rfl, rfl⟩
      refine ⟨Suf.h, (fun _ h => h), ?_⟩
      refine th_one (by kernel_rfl) (step_m rfl rfl (OpV.toG (opv_loadRXA rfl rfl (by omega) rfl rfl rfl)) ?_)
      rintro _ _ _ ⟨rfl, rfl, rfl⟩
      refine ⟨Suf.h, (fun _ h => h), ?_⟩
      refine th_one (by kernel_rfl) (step_m rfl rfl (opg_call (xs := [_, _, _]) rfl (edge_join (e := (2 ^ m)) (by omega) ha hb (by omega) (by omega) (by omega))) ?_)
      rintro _ _ _ ⟨rfl, rfl, rfl⟩
      refine ⟨Suf.h, (fun _ h => h), ?_⟩
      refine th_take rfl rfl (by kernel_rfl)  (opv_indexAddrSP rfl rfl (by omega) (by omega)) ?_
      refine th_one (by kernel_rfl) (step_m rfl rfl (opg_storeRX (R7.jn (((R7.edl ns true (k + 1) i).set i (R7.jn (R7.jn (R7.jn ⟨0, 0⟩ et0 0) et1 (2 ^ m)) et2 0)).getD i default) (((R7.edl ns true (k + 1) i).set i (R7.jn (R7.jn (R7.jn ⟨0, 0⟩ et0 0) et1 (2 ^ m)) et2 0)).getD x.k3.toNat default) (2 ^ m)) rfl rfl rfl (by omega) ln.symm rfl rfl rfl rfl) ?_)
      rintro _ _ _ ⟨rfl, rfl⟩
      refine ⟨Suf.h, (fun _ h => h), ?_⟩
      refine th_done (by kernel_rfl) ?_
      exact tri_cutEnd _ ⟨rfl, rfl, rfl⟩ ⟨rfl, rfl, rfl, rfl, rfl, rfl, rfl, rfl, rfl, rfl, rfl, rfl, rfl, rfl, rfl, trivial⟩
     ·refine (step_m rfl rfl (OpV.toG (opv_loadRXA rfl rfl (by omega) rfl rfl rfl)) ?_)
      rintro _ _ _ ⟨rfl, rfl, rfl⟩
      refine ⟨Suf.h, (fun _ h => h), ?_⟩
      refine th_one (by kernel_rfl) (step_m rfl rfl (OpV.toG (opv_loadRXA rfl rfl (by omega) rfl rfl rfl)) ?_)
      rintro _ _ _ ⟨rfl, rfl, rfl⟩
      refine ⟨Suf.h, (fun _ h => h), ?_⟩
      refine th_one (by kernel_rfl) (step_m rfl rfl (opg_call (xs := [_, _, _]) rfl (edge_join (e := (2 ^ m)) (by omega) ha hb (by omega) (by omega) (by omega))) ?_)
      rintro _ _ _ ⟨rfl, rfl, rfl⟩
      refine ⟨Suf.h, (fun _ h => h), ?_⟩
      refine th_take rfl rfl (by kernel_rfl)  (opv_indexAddrSP rfl rfl (by omega) (by omega)) ?_
      refine th_one (by kernel_rfl) (step_m rfl rfl (opg_storeRX (R7.jn (((R7.edl ns true (k + 1) i).set i (R7.jn (R7.jn (R7.jn ⟨0, 0⟩ et0 0) et1 (2 ^ m)) et2 0)).getD i default) (((R7.edl ns true (k + 1) i).set i (R7.jn (R7.jn (R7.jn ⟨0, 0⟩ et0 0) et1 (2 ^ m)) et2 0)).getD x.k3.toNat default) (2 ^ m)) rfl rfl rfl (by omega) ln.symm rfl rfl rfl rfl) ?_)
      rintro _ _ _ ⟨rfl, rfl⟩
      refine ⟨Suf.h, (fun _ h => h), ?_⟩
      refine th_done (by kernel_rfl) ?_
      exact tri_cutEnd _ ⟨rfl, rfl, rfl⟩ ⟨rfl, rfl, rfl, rfl, rfl, rfl, rfl, rfl, rfl, rfl, rfl, rfl, rfl, rfl, rfl, trivial⟩
    rintro _ _ _ ⟨rfl, rfl, rfl⟩
    rw [es]
    clear ln gg1 gg2 ha hb es
    refine tT ?_
    have ln : ((R7.edl ns false (k + 1) i).set i (R7.jn (R7.jn (R7.jn ⟨0, 0⟩ ef0 0) ef1 0) ef2 (2 ^ m))).length = k + 1 := by rw [List.length_set, R7.edl_len]
    have gg1 : ((R7.edl ns false (k + 1) i).set i (R7.jn (R7.jn (R7.jn ⟨0, 0⟩ ef0 0) ef1 0) ef2 (2 ^ m))).getD i default = (R7.jn (R7.jn (R7.jn ⟨0, 0⟩ ef0 0) ef1 0) ef2 (2 ^ m)) := R7.set_at (by rw [R7.edl_len]; omega)
    have gg2 : ((R7.edl ns false (k + 1) i).set i (R7.jn (R7.jn (R7.jn ⟨0, 0⟩ ef0 0) ef1 0) ef2 (2 ^ m))).getD x.k3.toNat default = ef3 := (R7.set_ne (by omega)).trans p3
    have ha : R7.Eg (2 ^ m * 2) (((R7.edl ns false (k + 1) i).set i (R7.jn (R7.jn (R7.jn ⟨0, 0⟩ ef0 0) ef1 0) ef2 (2 ^ m))).getD i default) := by rw [gg1]; exact f2
    have hb : R7.Eg (2 ^ m * 2) (((R7.edl ns false (k + 1) i).set i (R7.jn (R7.jn (R7.jn ⟨0, 0⟩ ef0 0) ef1 0) ef2 (2 ^ m))).getD x.k3.toNat default) := by rw [gg2]; exact bf3.mono (by omega)
    have es : ((R7.edl ns false (k + 1) i).set i (R7.jn (R7.jn (R7.jn ⟨0, 0⟩ ef0 0) ef1 0) ef2 (2 ^ m))).set i (R7.jn (((R7.edl ns false (k + 1) i).set i (R7.jn (R7.jn (R7.jn ⟨0, 0⟩ ef0 0) ef1 0) ef2 (2 ^ m))).getD i default) (((R7.edl ns false (k + 1) i).set i (R7.jn (R7.jn (R7.jn ⟨0, 0⟩ ef0 0) ef1 0) ef2 (2 ^ m))).getD x.k3.toNat default) (2 ^ m)) = (R7.edl ns false (k + 1) i).set i (R7.jn (R7.jn (R7.jn (R7.jn ⟨0, 0⟩ ef0 0) ef1 0) ef2 (2 ^ m)) ef3 (2 ^ m)) := by rw [gg1, gg2, List.set_set]
    refine tri_perm (A := ?a9_0 :: ?a9_1 :: ?T9) (B := ?a9_1 :: ?a9_0 :: ?T9) (by exact permL [1, 0] [?a9_0, ?a9_1] ?T9 (by decide) rfl) ?_
    skip
    refine tri_cut (fun F' A' J => F' = [(1, .int .i64 (k : Nat)), (2, pt b2 0), (4, pt b4 0), (6, .slice (some ⟨ac, 0, none⟩) (k + 1) (k + 1)), (7, .slice (some ⟨dn, 0, none⟩) (k + 1) (k + 1)), (38, .slice a (k + 1) cap), (39, .int .i64 ((k + 1 : Nat) : Int)), (40, .int .i64 (i : Nat)), (8, .int .i64 (i : Nat)), (9, pt b9 0), (10, .int .i64 (2 ^ m)), (11, .int .i64 3), (12, .int .i64 x.k3), (65, .agg [.int .i64 x.k0, .int .i64 x.k1, .int .i64 x.k2, .int .i64 x.k3].toArray), (66, .int .i64 3)] ∧ A' = Row (some ⟨dn, 0, none⟩) (k + 1) (k + 1) 87 2 (encs (((R7.edl ns false (k + 1) i).set i (R7.jn (R7.jn (R7.jn ⟨0, 0⟩ ef0 0) ef1 0) ef2 (2 ^ m))).set i (R7.jn (((R7.edl ns false (k + 1) i).set i (R7.jn (R7.jn (R7.jn ⟨0, 0⟩ ef0 0) ef1 0) ef2 (2 ^ m))).getD i default) (((R7.edl ns false (k + 1) i).set i (R7.jn (R7.jn (R7.jn ⟨0, 0⟩ ef0 0) ef1 0) ef2 (2 ^ m))).getD x.k3.toNat default) (2 ^ m)))) :: Row (some ⟨ac, 0, none⟩) (k + 1) (k + 1) 87 2 (encs ((R7.edl ns true (k + 1) i).set i (R7.jn (R7.jn (R7.jn (R7.jn ⟨0, 0⟩ et0 0) et1 (2 ^ m)) et2 0) et3 (2 ^ m)))) :: Box b9 [.int .i64 x.lv, .int .i64 x.k0, .int .i64 x.k1, .int .i64 x.k2, .int .i64 x.k3, .int .i64 x.pop] 63 :: Box b4 [.int .i64 0, .int .i64 0, .int .i64 0, .int .i64 0] 45 :: Box b2 [.slice a ns.length cap, .int .i64 room] 26 :: A ∧ I = J) ?_ ?_
    ·refine tri_draw [0, 1, 2, 3, 4, 6, 7, 8, 10, 11, 12, 13, 5, 9, 14, 15, 16] rfl [_] rfl mixed ?_
     refine th_take rfl rfl (by kernel_rfl)  (opv_move rfl) ?_
     refine th_take rfl rfl (by kernel_rfl)  (opv_move rfl) ?_
     refine th_take rfl rfl (by kernel_rfl)  (opv_move rfl) ?_
     refine th_take rfl rfl (by kernel_rfl)  (opv_move rfl) ?_
     refine th_take rfl rfl (by kernel_rfl)  (opv_indexAddrSP rfl rfl (by omega) (by omega)) ?_
     refine th_take rfl rfl (by kernel_rfl)  (opv_move rfl) ?_
     refine th_take rfl rfl (by kernel_rfl)  (opv_move rfl) ?_
     refine th_take rfl rfl (by kernel_rfl)  (opv_indexAddrSP rfl rfl (by omega) (by omega)) ?_
     refine th_take rfl rfl (by kernel_rfl)  (opv_move rfl) ?_
     refine th_take rfl rfl (by kernel_rfl)  (opv_quoE rfl rfl (by omega) (by omega) (by omega)) ?_
     refine th_take rfl rfl (by kernel_rfl)  (opv_move rfl) ?_
     refine th_take rfl rfl (by kernel_rfl)  (opv_mul rfl rfl (w64 (by omega) (by omega))) ?_
     refine th_two (j := 9) [5, 14, 15, 16] (by kernel_rfl) rfl ?_ ?_
     ·refine (step_m rfl rfl (OpV.toG (opv_loadRXA rfl rfl (by omega) rfl rfl rfl)) ?_)
      rintro _ _ _ ⟨rfl, rfl, rfl⟩
      refine ⟨Suf.h, (fun _ h => h), ?_⟩
      refine th_one (by kernel_rfl) (step_m rfl rfl (OpV.toG (opv_loadRXA rfl rfl (by omega) rfl rfl rfl)) ?_)
      rintro _ _ _ ⟨rfl, rfl, rfl⟩
      refine ⟨Suf.h, (fun _ h => h), ?_⟩
      refine th_one (by kernel_rfl) (step_m rfl rfl (opg_call (xs := [_, _, _]) rfl (edge_join (e := (2 ^ m)) (by omega) ha hb (by omega) (by omega) (by omega))) ?_)
      rintro _ _ _ ⟨rfl, rfl, rfl⟩
      refine ⟨Suf.h, (fun _ h => h), ?_⟩
      refine th_take rfl rfl (by kernel_rfl)  (opv_indexAddrSP rfl rfl (by omega) (by omega)) ?_
      refine th_one (by kernel_rfl) (step_m rfl rfl (opg_storeRX (R7.jn (((R7.edl ns false (k + 1) i).set i (R7.jn (R7.jn (R7.jn ⟨0, 0⟩ ef0 0) ef1 0) ef2 (2 ^ m))).getD i default) (((R7.edl ns false (k + 1) i).set i (R7.jn (R7.jn (R7.jn ⟨0, 0⟩ ef0 0) ef1 0) ef2 (2 ^ m))).getD x.k3.toNat default) (2 ^ m)) rfl rfl rfl (by omega) ln.symm rfl rfl rfl rfl) ?_)
      rintro _ _ _ ⟨rfl, rfl⟩
      refine ⟨Suf.h, (fun _ h => h), ?_⟩
      refine th_done (by kernel_rfl) ?_
      exact tri_cutEnd _ ⟨rfl, rfl, rfl⟩ ⟨rfl, rfl, rfl, rfl, rfl, rfl, rfl, rfl, rfl, rfl, rfl, rfl, rfl, rfl, rfl, trivial⟩
     ·refine (step_m rfl rfl (OpV.toG (opv_loadRXA rfl rfl (by omega) rfl rfl rfl)) ?_)
      rintro _ _ _ ⟨rfl, rfl, rfl⟩
      refine ⟨Suf.h, (fun _ h => h), ?_⟩
      refine th_one (by kernel_rfl) (step_m rfl rfl (OpV.toG (opv_loadRXA rfl rfl (by omega) rfl rfl rfl)) ?_)
      rintro _ _ _ ⟨rfl, rfl, rfl⟩
      refine ⟨Suf.h, (fun _ h => h), ?_⟩
      refine th_one (by kernel_rfl) (step_m rfl rfl (opg_call (xs := [_, _, _]) rfl (edge_join (e := (2 ^ m)) (by omega) ha hb (by omega) (by omega) (by omega))) ?_)
      rintro _ _ _ ⟨rfl, rfl, rfl⟩
      refine ⟨Suf.h, (fun _ h => h), ?_⟩
      refine th_take rfl rfl (by kernel_rfl)  (opv_indexAddrSP rfl rfl (by omega) (by omega)) ?_
      refine th_one (by kernel_rfl) (step_m rfl rfl (opg_storeRX (R7.jn (((R7.edl ns false (k + 1) i).set i (R7.jn (R7.jn (R7.jn ⟨0, 0⟩ ef0 0) ef1 0) ef2 (2 ^ m))).getD i default) (((R7.edl ns false (k + 1) i).set i (R7.jn (R7.jn (R7.jn ⟨0, 0⟩ ef0 0) ef1 0) ef2 (2 ^ m))).getD x.k3.toNat default) (2 ^ m)) rfl rfl rfl (by omega) ln.symm rfl rfl rfl rfl) ?_)
      rintro _ _ _ ⟨rfl, rfl⟩
      refine ⟨Suf.h, (fun _ h => h), ?_⟩
      refine th_done (by kernel_rfl) ?_
      exact tri_cutEnd _ ⟨rfl, rfl, rfl⟩ ⟨rfl, rfl, rfl, rfl, rfl, rfl, rfl, rfl, rfl, rfl, rfl, rfl, rfl, rfl, rfl, trivial⟩
    rintro _ _ _ ⟨rfl, rfl, rfl⟩
    rw [es]
    clear ln gg1 gg2 ha hb es
    refine tri_inBlock ?_
    refine tT (tR ?_)
    refine tU rfl rfl (by omega) (by omega) rfl ?_
    refine tM rfl rfl (tN (tT ?_))
    refine tri_round ?_
    refine tS (tR ?_)
    refine tri_v (opv_lss rfl rfl) rfl ?_
    refine tN (tT (tS ?_))
    refine tri_perm (A := ?a10_0 :: ?a10_1 :: ?T10) (B := ?a10_1 :: ?a10_0 :: ?T10) (by exact permL [1, 0] [?a10_0, ?a10_1] ?T10 (by decide) rfl) ?_
    rw [R7.edl_set evt, R7.edl_set evf]
    skip
    refine tri_cond_not rfl (by decide) ?_
    refine tri_exit ?_
    refine tri_then_exit ?_
    refine tri_then_exit ?_
    refine tri_inBlock_hit rfl ?_
    refine tri_inBlock ?_
    refine tT (tR ?_)
    refine tU rfl rfl (by omega) (by omega) rfl ?_
    refine tM rfl rfl (tN (tT ?_))
    refine tri_perm (A := ?a11_0 :: ?a11_1 :: ?a11_2 :: ?T11) (B := ?a11_2 :: ?a11_0 :: ?a11_1 :: ?T11) (by exact permL [2, 0, 1] [?a11_0, ?a11_1, ?a11_2] ?T11 (by decide) rfl) ?_
    refine tri_drop ?_
    refine tri_sub ?_ (hK (i + 1) (by omega) (by omega))
    exact ⟨rfl, rfl, rfl, rfl, rfl, rfl, rfl, rfl, trivial⟩
  ·have ei : i = k + 1 := by omega
   subst ei
   clear hK
   have hlk : (ns.getD k default).lv = lv := hlv
   have hg : ∀ ax, (R7.edl ns ax (k + 1) (k + 1)).getD k default = R7.ex ns ax lv (k : Nat) := fun ax => by
    rw [R7.edl_at (by omega), if_pos (by omega), hlk, Int.toNat_natCast]
   have hl1 := R7.edl_len ns true (k + 1) (k + 1)
   have hl2 := R7.edl_len ns false (k + 1) (k + 1)
   have hgt := hg true
   have hgf := hg false
   have kt := (R7.ex_ok hw true lv (k : Nat) ⟨⟨hn0, hn1⟩, hlv⟩).1
   have kf := (R7.ex_ok hw false lv (k : Nat) ⟨⟨hn0, hn1⟩, hlv⟩).1
   rw [← hgt] at kt ⊢
   rw [← hgf] at kf ⊢
   unfold R7.Eg at kt kf
   clear hgt hgf hg hst htl
   refine tri_exit ?_
   refine tri_then_exit ?_
   refine tri_then_exit ?_
   refine tri_inBlock_hit rfl ?_
   refine tT (tS (tR ?_))
   refine tri_v (opv_fieldAddr rfl rfl) rfl ?_
   refine tri_v (opv_load1 rfl rfl rfl) rfl ?_
   refine tM rfl rfl ?_
   refine tri_v (opv_indexAddrSN rfl rfl (by omega) (by assumption) rfl) rfl ?_
   refine tri_v (opv_fieldAddrE rfl (by assumption) (by omega) rfl) rfl ?_
   refine tri_v (opv_loadE1 rfl (by assumption) rfl (by omega) rfl rfl) rfl ?_
   refine tri_v (opv_shl1 rfl rfl (by omega) (by omega)) rfl ?_
   skip
   refine tri_v (opv_shrN (k := 1) rfl rfl (by exact Int.le_of_lt (Int.pow_pos (by decide))) rfl (by decide)) rfl ?_
   rw [show (2:Int) ^ (ns.getD k default).lv.toNat / 2 ^ 1 = R7.side lv by rw [hlk, Int.toNat_natCast, hp2]; omega]
   refine tA rfl rfl (tN (tT (tS ?_)))
   refine tri_perm (A := ?a12_0 :: ?a12_1 :: ?a12_2 :: ?T12) (B := ?a12_2 :: ?a12_0 :: ?a12_1 :: ?T12) (by exact permL [2, 0, 1] [?a12_0, ?a12_1, ?a12_2] ?T12 (by decide) rfl) ?_
   skip
   refine tri_draw [0, 1, 2, 3, 4, 5, 6, 7, 8, 9, 10, 11, 12, 13, 14, 15, 16, 17, 18, 19, 20, 21, 22, 23, 24, 25, 26, 27, 28, 29, 30, 31, 32, 33, 34, 35, 36, 37, 38] rfl [_] rfl mixed ?_
   refine th_take rfl rfl (by kernel_rfl)  (opv_move rfl) ?_
   refine th_take rfl rfl (by kernel_rfl)  (opv_move rfl) ?_
   refine th_take rfl rfl (by kernel_rfl)  (opv_indexAddrRN rfl rfl (by omega)) ?_
   refine th_take rfl rfl (by kernel_rfl)  (opv_fieldAddrR rfl (by omega) rfl) ?_
   refine th_take rfl rfl (by kernel_rfl)  (opv_loadRX1 rfl rfl (by omega) rfl rfl) ?_
   refine th_take rfl rfl (by kernel_rfl)  (opv_move rfl) ?_
   refine th_take rfl rfl (by kernel_rfl)  (opv_sub rfl rfl (w64 (by omega) (by omega))) ?_
   refine th_take rfl rfl (by kernel_rfl)  (opv_move rfl) ?_
   refine th_take rfl rfl (by kernel_rfl)  (opv_move rfl) ?_
   refine th_take rfl rfl (by kernel_rfl)  (opv_indexAddrRN rfl rfl (by omega)) ?_
   refine th_take rfl rfl (by kernel_rfl)  (opv_fieldAddrR rfl (by omega) rfl) ?_
   refine th_take rfl rfl (by kernel_rfl)  (opv_loadRX1 rfl rfl (by omega) rfl rfl) ?_
   refine th_take rfl rfl (by kernel_rfl)  (opv_move rfl) ?_
   refine th_take rfl rfl (by kernel_rfl)  (opv_sub rfl rfl (w64 (by omega) (by omega))) ?_
   refine th_take rfl rfl (by kernel_rfl)  (opv_move rfl) ?_
   refine th_take rfl rfl (by kernel_rfl)  (opv_move rfl) ?_
   refine th_take rfl rfl (by kernel_rfl)  (opv_indexAddrRN rfl rfl (by omega)) ?_
   refine th_take rfl rfl (by kernel_rfl)  (opv_fieldAddrR rfl (by omega) rfl) ?_
   refine th_take rfl rfl (by kernel_rfl)  (opv_loadRX1 rfl rfl (by omega) rfl rfl) ?_
   refine th_take rfl rfl (by kernel_rfl)  (opv_move rfl) ?_
   refine th_take rfl rfl (by kernel_rfl)  (opv_move rfl) ?_
   refine th_take rfl rfl (by kernel_rfl)  (opv_indexAddrRN rfl rfl (by omega)) ?_
   refine th_take rfl rfl (by kernel_rfl)  (opv_fieldAddrR rfl (by omega) rfl) ?_
   refine th_take rfl rfl (by kernel_rfl)  (opv_loadRX1 rfl rfl (by omega) rfl rfl) ?_
   refine th_take rfl rfl (by kernel_rfl)  (opv_sub rfl rfl (w64 (by omega) (by omega))) ?_
   refine th_take rfl rfl (by kernel_rfl)  (opv_move rfl) ?_
   refine th_take rfl rfl (by kernel_rfl)  (opv_move rfl) ?_
   refine th_take rfl rfl (by kernel_rfl)  (opv_indexAddrRN rfl rfl (by omega)) ?_
   refine th_take rfl rfl (by kernel_rfl)  (opv_fieldAddrR rfl (by omega) rfl) ?_
   refine th_take rfl rfl (by kernel_rfl)  (opv_loadRX1 rfl rfl (by omega) rfl rfl) ?_
   refine th_take rfl rfl (by kernel_rfl)  (opv_move rfl) ?_
   refine th_take rfl rfl (by kernel_rfl)  (opv_move rfl) ?_
   refine th_take rfl rfl (by kernel_rfl)  (opv_indexAddrRN rfl rfl (by omega)) ?_
   refine th_take rfl rfl (by kernel_rfl)  (opv_fieldAddrR rfl (by omega) rfl) ?_
   refine th_take rfl rfl (by kernel_rfl)  (opv_loadRX1 rfl rfl (by omega) rfl rfl) ?_
   refine th_take rfl rfl (by kernel_rfl)  (opv_sub rfl rfl (w64 (by omega) (by omega))) ?_
   refine th_take rfl rfl (by kernel_rfl)  (opv_buildS rfl rfl) ?_
   refine th_one (by kernel_rfl) (step_m rfl rfl (opg_store rfl rfl rfl rfl rfl rfl) ?_)
   rintro _ _ _ ⟨rfl, rfl⟩
   refine ⟨Suf.h, (fun _ h => h), ?_⟩
   refine th_take rfl rfl (by kernel_rfl)  (opv_assign rfl) ?_
   refine th_done (by kernel_rfl) ?_
   refine tT (tri_ret ?_)
   refine tri_end A Suf.h rfl (.cons (rv_cellA rfl rfl rfl) (.cons (rv_tmp rfl) .nil)) ⟨rfl, rfl, rfl⟩
end Go.GL


set_option linter.unusedVariables false
namespace Go.GL
open Go.Proofs
attribute [local irreducible] wpList Code.wp Exit.then Exit.inBlock Ends Tri TriH OpV OpG FnC epf wpAnyH
variable {A : List Asrt} {I : List Chunk}
set_option maxRecDepth 100000 in
theorem law07_pick {c n : Int} (h0 : -9223372036854775808 ≤ c) (h1 : c ≤ 9223372036854775807) (hn : 0 < n) : FnC Try.prog 12 [.int .i64 c, .int .i64 n].toArray A I (fun v A' I' => v = .int .i64 (pk c n) ∧ A = A' ∧ I = I') := by
 refine fn_enter2 Try.func12 rfl Try.ntmps12 rfl fun w0 => ?_
 refine tS (tR (tA rfl rfl (tN (tT (tS (tS (tR ?_)))))))
 refine tM rfl rfl ?_
 refine tri_v (opv_lss rfl rfl) rfl ?_
 refine tN (tT ?_)
 refine tri_cond_dec rfl (fun h => ?_) (fun h => ?_)
 ·refine tR (tM rfl rfl ?_)
  refine tU rfl rfl (by omega) (by omega) rfl ?_
  refine tri_v (opv_negE rfl (by omega) (by omega)) rfl ?_
  refine tA rfl rfl (tN (tT (tS (tR (tM rfl rfl (tM rfl rfl ?_))))))
  refine tri_v (opv_remE rfl rfl (by omega) (by omega)) rfl ?_
  refine tA rfl rfl (tN (tT (tri_ret ?_)))
  refine tri_end A Suf.h rfl (.cons (rv_tmp rfl) .nil) ⟨?_, rfl, rfl⟩
  rw [pk, if_pos h]; rfl
 ·refine tri_skip (tT (tS (tR (tM rfl rfl (tM rfl rfl ?_)))))
  refine tri_v (opv_remE rfl rfl (by omega) (by omega)) rfl ?_
  refine tA rfl rfl (tN (tT (tri_ret ?_)))
  refine tri_end A Suf.h rfl (.cons (rv_tmp rfl) .nil) ⟨?_, rfl, rfl⟩
  rw [pk, if_neg h]; rfl
namespace RL
theorem set_len7 (raw : List Cell) : (set raw).length ≤ 60 := by
 unfold set
 have h := R1.puts_len ((raw.take 60).map cell16)
 rw [List.length_map, List.length_take] at h
 omega
theorem store_good7 {rm : Int} (h2 : 2 ≤ rm) (h3 : rm ≤ 100000) (l : List Five) : R6.Good (store rm l) rm := foldl_good h2 h3 _ _ (store0_good h2 h3)
end RL
set_option maxRecDepth 100000 in
theorem law07_square {nodes : List Five} {raw : List Cell} {a a2 : Option Addr} {cap cap2 : Nat} {c level : Int} (h0 : I64 c) (hs : SlAt I a nodes) (hf : RL.Fs nodes) (hs2 : SlAt I a2 raw) (hc : RL.Cs raw) (hl : I64 level) :
  FnC Try.prog 11 [.int .i64 c, .slice a nodes.length cap, .slice a2 raw.length cap2, .int .i64 level].toArray A I (fun v A' I' => ∃ a' cap', v = .tuple [storeV a' (RL.square c nodes raw level).1.length cap' (RL.room c + 500), .int .i64 (RL.square c nodes raw level).2.1].toArray ∧ StA I' a' cap' (RL.square c nodes raw level).1 ∧ A = A' ∧ I ⊆ I') := by
 have hrm := RL.room_bd c
 have hpk := pk_bd (c := level) (n := 4) (by decide)
 have hg := RL.store_good7 (rm := RL.room c) (by omega) (by omega) nodes
 have hsl := RL.set_len7 raw
 skip
 refine fn_enter4 Try.func11 rfl Try.ntmps11 rfl fun w0 => ?_
 refine tS (tR ?_)
 refine tri_g opg_alloc rfl ?_
 rintro _ _ _ ⟨b8, rfl, rfl, rfl⟩
 refine tA rfl rfl (tN (tT (tS (tR (tM rfl rfl (tM rfl rfl ?_))))))
 refine tri_g (opg_call (xs := [_, _]) rfl (law06_store h0 hs hf)) rfl ?_
 rintro _ _ I0 ⟨a0, cap0, rfl, hs0, rfl, hI0⟩
 refine tri_g opg_alloc rfl ?_
 rintro _ _ _ ⟨b10, rfl, rfl, rfl⟩
 refine tri_g (opg_store rfl rfl rfl rfl rfl rfl) rfl ?_
 rintro _ _ _ ⟨rfl, rfl⟩
 refine tN (tT (tS (tR ?_)))
 refine tri_v (opv_fieldAddr rfl rfl) rfl ?_
 refine tri_v (opv_load1 rfl rfl rfl) rfl ?_
 refine tU rfl rfl (by omega) (by omega) rfl ?_
 refine tri_v (opv_fieldAddr rfl rfl) rfl ?_
 refine tri_g (opg_store rfl rfl rfl rfl rfl rfl) rfl ?_
 rintro _ _ _ ⟨rfl, rfl⟩
 refine tN (tT (tS ?_))
 refine tri_draw [0, 1, 3, 2, 4, 5, 6, 7, 8, 9, 10, 11, 12, 13, 14] rfl [] rfl mixed ?_
 refine th_take rfl rfl (by kernel_rfl)  (opv_loadA rfl rfl rfl) ?_
 refine th_take rfl rfl (by kernel_rfl)  (opv_move rfl) ?_
 refine th_take rfl rfl (by kernel_rfl)  (opv_move rfl) ?_
 refine th_two (j := 11) [2, 4, 5, 6, 7, 8, 9, 10, 12, 13, 14] (by kernel_rfl) rfl ?_ ?_
 ·refine (step_m rfl rfl (opg_call (xs := [_]) rfl (law01_set (hs2.mono hI0) hc)) ?_)
  rintro _ _ I1 ⟨a1, cap1, rfl, hs1, rfl, hI1⟩
  refine ⟨Suf.h, hI1, ?_⟩
  refine th_two (j := 11) [4, 5, 6, 7, 8, 9, 10, 12, 13, 14] (by kernel_rfl) rfl ?_ ?_
  ·refine (step_m rfl rfl (opg_call (xs := [_, _]) rfl (law07_pick hl.1 hl.2 (by decide))) ?_)
   rintro _ _ _ ⟨rfl, rfl, rfl⟩
   refine ⟨Suf.h, fun _ h => hI1 h, ?_⟩
   refine th_take rfl rfl (by kernel_rfl)  (opv_add rfl rfl (w64 (by omega) (by omega))) ?_
   refine th_two (j := 11) [6, 7, 8, 9, 10, 12, 13, 14] (by kernel_rfl) rfl ?_ ?_
   ·refine (step_m rfl rfl (opg_call (xs := [_, _, _]) rfl (ref07_make (room := RL.room c + 500) (lv := 4 + pk level 4) (hs0.mono hI1) hg.len hg.mod.rng hs1 (by omega))) ?_)
    rintro _ _ I2 ⟨a3, cap3, rfl, hs3, rfl, hI2⟩
    refine ⟨Suf.h, fun _ h => hI2 (hI1 h), ?_⟩
    have hI12 : I0 ⊆ I2 := fun _ h => hI2 (hI1 h)
    refine th_take rfl rfl (by kernel_rfl)  (opv_move rfl) ?_
    refine th_take rfl rfl (by kernel_rfl)  (opv_extract rfl rfl) ?_
    refine th_take rfl rfl (by kernel_rfl)  (opv_extract rfl rfl) ?_
    refine th_take rfl rfl (by kernel_rfl)  (opv_extract rfl rfl) ?_
    refine th_one (by kernel_rfl) (step_m rfl rfl opg_alloc ?_)
    rintro _ _ _ ⟨b11, rfl, rfl, rfl⟩
    refine ⟨Suf.h, (by assumption), ?_⟩
    refine th_one (by kernel_rfl) (step_m rfl rfl (opg_store rfl rfl rfl rfl rfl rfl) ?_)
    rintro _ _ _ ⟨rfl, rfl⟩
    refine ⟨Suf.h, (by assumption), ?_⟩
    refine th_take rfl rfl (by kernel_rfl)  (opv_assign rfl) ?_
    refine th_take rfl rfl (by kernel_rfl)  (opv_assign rfl) ?_
    refine th_done (by kernel_rfl) ?_
    refine tT (tS (tR ?_))
    refine tri_v (opv_loadA rfl rfl rfl) rfl ?_
    refine tM rfl rfl ?_
    refine tri_g (opg_store rfl rfl rfl rfl rfl rfl) rfl ?_
    rintro _ _ _ ⟨rfl, rfl⟩
    refine tA rfl rfl (tN (tT (tri_ret ?_)))
    refine tri_end A Suf.h rfl (.cons (rv_cellA rfl rfl rfl) (.cons (rv_tmp rfl) .nil)) ⟨a3, cap3, rfl, hs3, rfl, fun _ h => hI2 (hI1 (hI0 h))⟩
   ·refine (step_m rfl rfl opg_alloc ?_)
    rintro _ _ _ ⟨b11, rfl, rfl, rfl⟩
    refine ⟨Suf.h, (by assumption), ?_⟩
    refine th_one (by kernel_rfl) (step_m rfl rfl (opg_call (xs := [_, _, _]) rfl (ref07_make (room := RL.room c + 500) (lv := 4 + pk level 4) (hs0.mono hI1) hg.len hg.mod.rng hs1 (by omega))) ?_)
    rintro _ _ I2 ⟨a3, cap3, rfl, hs3, rfl, hI2⟩
    refine ⟨Suf.h, fun _ h => hI2 (hI1 h), ?_⟩
    have hI12 : I0 ⊆ I2 := fun _ h => hI2 (hI1 h)
    refine th_take rfl rfl (by kernel_rfl)  (opv_move rfl) ?_
    refine th_take rfl rfl (by kernel_rfl)  (opv_extract rfl rfl) ?_
    refine th_take rfl rfl (by kernel_rfl)  (opv_extract rfl rfl) ?_
    refine th_take rfl rfl (by kernel_rfl)  (opv_extract rfl rfl) ?_
    refine th_one (by kernel_rfl) (step_m rfl rfl (opg_store rfl rfl rfl rfl rfl rfl) ?_)
    rintro _ _ _ ⟨rfl, rfl⟩
    refine ⟨Suf.h, (by assumption), ?_⟩
    refine th_take rfl rfl (by kernel_rfl)  (opv_assign rfl) ?_
    refine th_take rfl rfl (by kernel_rfl)  (opv_assign rfl) ?_
    refine th_done (by kernel_rfl) ?_
    refine tT (tS (tR ?_))
    refine tri_v (opv_loadA rfl rfl rfl) rfl ?_
    refine tM rfl rfl ?_
    refine tri_g (opg_store rfl rfl rfl rfl rfl rfl) rfl ?_
    rintro _ _ _ ⟨rfl, rfl⟩
    refine tA rfl rfl (tN (tT (tri_ret ?_)))
    refine tri_end A Suf.h rfl (.cons (rv_cellA rfl rfl rfl) (.cons (rv_tmp rfl) .nil)) ⟨a3, cap3, rfl, hs3, rfl, fun _ h => hI2 (hI1 (hI0 h))⟩
  ·refine (step_m rfl rfl opg_alloc ?_)
   rintro _ _ _ ⟨b11, rfl, rfl, rfl⟩
   refine ⟨Suf.h, (by assumption), ?_⟩
   refine th_one (by kernel_rfl) (step_m rfl rfl (opg_call (xs := [_, _]) rfl (law07_pick hl.1 hl.2 (by decide))) ?_)
   rintro _ _ _ ⟨rfl, rfl, rfl⟩
   refine ⟨Suf.h, fun _ h => hI1 h, ?_⟩
   refine th_take rfl rfl (by kernel_rfl)  (opv_add rfl rfl (w64 (by omega) (by omega))) ?_
   refine th_one (by kernel_rfl) (step_m rfl rfl (opg_call (xs := [_, _, _]) rfl (ref07_make (room := RL.room c + 500) (lv := 4 + pk level 4) (hs0.mono hI1) hg.len hg.mod.rng hs1 (by omega))) ?_)
   rintro _ _ I2 ⟨a3, cap3, rfl, hs3, rfl, hI2⟩
   refine ⟨Suf.h, fun _ h => hI2 (hI1 h), ?_⟩
   have hI12 : I0 ⊆ I2 := fun _ h => hI2 (hI1 h)
   refine th_take rfl rfl (by kernel_rfl)  (opv_move rfl) ?_
   refine th_take rfl rfl (by kernel_rfl)  (opv_extract rfl rfl) ?_
   refine th_take rfl rfl (by kernel_rfl)  (opv_extract rfl rfl) ?_
   refine th_take rfl rfl (by kernel_rfl)  (opv_extract rfl rfl) ?_
   refine th_one (by kernel_rfl) (step_m rfl rfl (opg_store rfl rfl rfl rfl rfl rfl) ?_)
   rintro _ _ _ ⟨rfl, rfl⟩
   refine ⟨Suf.h, (by assumption), ?_⟩
   refine th_take rfl rfl (by kernel_rfl)  (opv_assign rfl) ?_
   refine th_take rfl rfl (by kernel_rfl)  (opv_assign rfl) ?_
   refine th_done (by kernel_rfl) ?_
   refine tT (tS (tR ?_))
   refine tri_v (opv_loadA rfl rfl rfl) rfl ?_
   refine tM rfl rfl ?_
   refine tri_g (opg_store rfl rfl rfl rfl rfl rfl) rfl ?_
   rintro _ _ _ ⟨rfl, rfl⟩
   refine tA rfl rfl (tN (tT (tri_ret ?_)))
   refine tri_end A Suf.h rfl (.cons (rv_cellA rfl rfl rfl) (.cons (rv_tmp rfl) .nil)) ⟨a3, cap3, rfl, hs3, rfl, fun _ h => hI2 (hI1 (hI0 h))⟩
 ·refine (step_m rfl rfl opg_alloc ?_)
  rintro _ _ _ ⟨b11, rfl, rfl, rfl⟩
  refine ⟨Suf.h, (fun _ h => h), ?_⟩
  refine th_one (by kernel_rfl) (step_m rfl rfl (opg_call (xs := [_]) rfl (law01_set (hs2.mono hI0) hc)) ?_)
  rintro _ _ I1 ⟨a1, cap1, rfl, hs1, rfl, hI1⟩
  refine ⟨Suf.h, hI1, ?_⟩
  refine th_one (by kernel_rfl) (step_m rfl rfl (opg_call (xs := [_, _]) rfl (law07_pick hl.1 hl.2 (by decide))) ?_)
  rintro _ _ _ ⟨rfl, rfl, rfl⟩
  refine ⟨Suf.h, fun _ h => hI1 h, ?_⟩
  refine th_take rfl rfl (by kernel_rfl)  (opv_add rfl rfl (w64 (by omega) (by omega))) ?_
  refine th_one (by kernel_rfl) (step_m rfl rfl (opg_call (xs := [_, _, _]) rfl (ref07_make (room := RL.room c + 500) (lv := 4 + pk level 4) (hs0.mono hI1) hg.len hg.mod.rng hs1 (by omega))) ?_)
  rintro _ _ I2 ⟨a3, cap3, rfl, hs3, rfl, hI2⟩
  refine ⟨Suf.h, fun _ h => hI2 (hI1 h), ?_⟩
  have hI12 : I0 ⊆ I2 := fun _ h => hI2 (hI1 h)
  refine th_take rfl rfl (by kernel_rfl)  (opv_move rfl) ?_
  refine th_take rfl rfl (by kernel_rfl)  (opv_extract rfl rfl) ?_
  refine th_take rfl rfl (by kernel_rfl)  (opv_extract rfl rfl) ?_
  refine th_take rfl rfl (by kernel_rfl)  (opv_extract rfl rfl) ?_
  refine th_one (by kernel_rfl) (step_m rfl rfl (opg_store rfl rfl rfl rfl rfl rfl) ?_)
  rintro _ _ _ ⟨rfl, rfl⟩
  refine ⟨Suf.h, (by assumption), ?_⟩
  refine th_take rfl rfl (by kernel_rfl)  (opv_assign rfl) ?_
  refine th_take rfl rfl (by kernel_rfl)  (opv_assign rfl) ?_
  refine th_done (by kernel_rfl) ?_
  refine tT (tS (tR ?_))
  refine tri_v (opv_loadA rfl rfl rfl) rfl ?_
  refine tM rfl rfl ?_
  refine tri_g (opg_store rfl rfl rfl rfl rfl rfl) rfl ?_
  rintro _ _ _ ⟨rfl, rfl⟩
  refine tA rfl rfl (tN (tT (tri_ret ?_)))
  refine tri_end A Suf.h rfl (.cons (rv_cellA rfl rfl rfl) (.cons (rv_tmp rfl) .nil)) ⟨a3, cap3, rfl, hs3, rfl, fun _ h => hI2 (hI1 (hI0 h))⟩
set_option maxHeartbeats 4000000 in
set_option maxRecDepth 100000 in
theorem law07_awake : FnC Try.prog 10 [].toArray A I (fun v A' I' => v = .bool true ∧ A = A' ∧ I ⊆ I') := by
 have fn : R6.new 50 = ([R6.n0, R6.n1], 50) := rfl
 obtain ⟨ms, hms⟩ : ∃ l : List Node, l = [R6.n0, R6.n1, ⟨1, 0, 0, 0, 1, 1⟩] := ⟨_, rfl⟩
 obtain ⟨ts, hts⟩ : ∃ l : List Node, l = [R6.n0, R6.n1, ⟨1, 0, 0, 0, 1, 1⟩, ⟨1, 0, 0, 0, 0, 0⟩, ⟨1, 1, 0, 0, 0, 1⟩, ⟨2, 3, 3, 3, 4, 1⟩] := ⟨_, rfl⟩
 obtain ⟨us, hus⟩ : ∃ l : List Node, l = [R6.n0, R6.n1, ⟨1, 0, 0, 0, 1, 1⟩, ⟨1, 0, 0, 0, 0, 0⟩, ⟨1, 1, 0, 0, 0, 1⟩, ⟨2, 3, 3, 3, 4, 1⟩, ⟨1, 0, 0, 1, 0, 1⟩, ⟨2, 3, 3, 6, 4, 2⟩] := ⟨_, rfl⟩
 obtain ⟨cs, hcs⟩ : ∃ l : List Cell, l = [⟨0, 0⟩] := ⟨_, rfl⟩
 have lcs : cs.length = 1 := by subst hcs; rfl
 have vcs : cs.getD 0 default = ⟨0, 0⟩ := by subst hcs; rfl
 have lms : ms.length = 3 := by subst hms; rfl
 have lts : ts.length = 6 := by subst hts; rfl
 have lus : us.length = 8 := by subst hus; rfl
 have fmk : R7.make [R6.n0, R6.n1] 50 [⟨0, 0⟩] 1 = (ms, 2, 0) := by subst hms; decide +kernel
 have fgr : R7.growM ms 50 2 = (ts, 5, 0) := by subst hms; subst hts; decide +kernel
 have fce : R7.cells ts 50 5 = (cs, 0) := by subst hcs; subst hts; decide +kernel
 have fge : R7.getM ts 50 5 ⟨0, 0⟩ = (true, 0) := by subst hts; decide +kernel
 have fse : R7.setM ts 50 5 ⟨-2, 1⟩ true = (us, 7, 0) := by subst hts; subst hus; decide +kernel
 have fbo : R7.boxM us 50 7 = (⟨-2, 0, 3, 2⟩, true) := by subst hus; decide +kernel
 have fmb : R7.make ms 50 [⟨1, 0⟩] 1 = (ms, 0, 2) := by subst hms; decide +kernel
 have fno : R7.boxM ms 50 0 = (⟨0, 0, 0, 0⟩, false) := by subst hms; decide +kernel
 have kms : (ms.getD 2 default).k0 = 0 ∧ (ms.getD 2 default).k1 = 0 ∧ (ms.getD 2 default).k2 = 0 ∧ (ms.getD 2 default).k3 = 1 := by subst hms; decide
 have vts : (ts.getD 5 default).lv = 2 := by subst hts; rfl
 clear hms hts hus hcs
 skip
 skip
 refine fn_enter0 Try.func10 rfl Try.ntmps10 rfl fun w0 => ?_
 refine tS (tR (tA rfl rfl (tN (tT (tS (tR ?_))))))
 refine tri_g (opg_call (xs := [_]) rfl (ref06_new)) rfl ?_
 rintro _ _ I0 ⟨a0, c0, rfl, hs0, rfl, hI0⟩
 rw [fn] at hs0 ⊢
 refine tri_v (opv_buildS rfl rfl) rfl ?_
 refine tri_g (opg_buildSlice rfl rfl rfl rfl) rfl ?_
 rintro _ _ _ ⟨b24, rfl, rfl, rfl⟩
 refine tri_freezeBoxS ([⟨0, 0⟩] : List Cell) rfl fun J1 hJ1 hl1 => ?_
 refine tri_g (opg_call (xs := [_, _, _]) rfl (square_make (hs0.mono hJ1) (by decide) hl1 (by decide))) rfl ?_
 rintro _ _ I1 ⟨a1, c1, rfl, hs1, rfl, hI1⟩
 rw [fmk] at hs1 ⊢
 simp only at hs1 ⊢
 refine tM rfl rfl ?_
 refine tri_v (opv_extract rfl rfl) rfl ?_
 refine tri_v (opv_extract rfl rfl) rfl ?_
 refine tri_v (opv_extract rfl rfl) rfl ?_
 refine tri_g opg_alloc rfl ?_
 rintro _ _ _ ⟨b1, rfl, rfl, rfl⟩
 refine tri_g (opg_store rfl rfl rfl rfl rfl rfl) rfl ?_
 rintro _ _ _ ⟨rfl, rfl⟩
 refine tA rfl rfl (tA rfl rfl (tN (tT (tS (tR ?_)))))
 refine tri_v (opv_loadA rfl rfl rfl) rfl ?_
 refine tM rfl rfl ?_
 refine tri_g (opg_call (xs := [_, _]) rfl (square_grow hs1 (by omega))) rfl ?_
 rintro _ _ I2 ⟨a2, c2, rfl, hs2, rfl, hI2⟩
 rw [fgr] at hs2 ⊢
 simp only at hs2 ⊢
 refine tM rfl rfl ?_
 refine tri_v (opv_extract rfl rfl) rfl ?_
 refine tri_v (opv_extract rfl rfl) rfl ?_
 refine tri_v (opv_extract rfl rfl) rfl ?_
 refine tri_g opg_alloc rfl ?_
 rintro _ _ _ ⟨b4, rfl, rfl, rfl⟩
 refine tri_g (opg_store rfl rfl rfl rfl rfl rfl) rfl ?_
 rintro _ _ _ ⟨rfl, rfl⟩
 refine tA rfl rfl (tA rfl rfl (tN (tT (tS (tR ?_)))))
 refine tri_v (opv_loadA rfl rfl rfl) rfl ?_
 refine tM rfl rfl ?_
 refine tri_g (opg_call (xs := [_, _]) rfl (square_cells hs2 (by omega))) rfl ?_
 rintro _ _ I3 ⟨a3, c3, rfl, hs3, rfl, hI3⟩
 rw [fce] at hs3 ⊢
 simp only at hs3 ⊢
 refine tM rfl rfl ?_
 refine tri_v (opv_extract rfl rfl) rfl ?_
 refine tri_v (opv_extract rfl rfl) rfl ?_
 refine tA rfl rfl (tA rfl rfl (tN (tT (tS (tR ?_)))))
 refine tri_v (opv_loadA rfl rfl rfl) rfl ?_
 refine tM rfl rfl ?_
 refine tri_v (opv_buildS rfl rfl) rfl ?_
 refine tri_g (opg_call (xs := [_, _, _]) rfl (square_get (c := (⟨0, 0⟩ : Cell)) (hs2.mono hI3) (by omega))) rfl ?_
 rintro _ _ _ ⟨rfl, rfl, rfl⟩
 rw [fge]
 refine tM rfl rfl ?_
 refine tri_v (opv_extract rfl rfl) rfl ?_
 refine tri_v (opv_extract rfl rfl) rfl ?_
 refine tA rfl rfl (tA rfl rfl (tN (tT (tS (tR ?_)))))
 refine tri_v (opv_loadA rfl rfl rfl) rfl ?_
 refine tM rfl rfl ?_
 refine tri_v (opv_buildS rfl rfl) rfl ?_
 refine tri_g (opg_call (xs := [_, _, _, _]) rfl (square_setT (c := (⟨-2, 1⟩ : Cell)) (alive := true) (hs2.mono hI3) (by omega))) rfl ?_
 rintro _ _ I4 ⟨a4, c4, rfl, hs4, rfl, hI4⟩
 rw [fse] at hs4 ⊢
 simp only at hs4 ⊢
 refine tM rfl rfl ?_
 refine tri_v (opv_extract rfl rfl) rfl ?_
 refine tri_v (opv_extract rfl rfl) rfl ?_
 refine tri_v (opv_extract rfl rfl) rfl ?_
 refine tri_g opg_alloc rfl ?_
 rintro _ _ _ ⟨b11, rfl, rfl, rfl⟩
 refine tri_g (opg_store rfl rfl rfl rfl rfl rfl) rfl ?_
 rintro _ _ _ ⟨rfl, rfl⟩
 refine tA rfl rfl (tA rfl rfl (tN (tT (tS (tR ?_)))))
 refine tri_v (opv_loadA rfl rfl rfl) rfl ?_
 refine tM rfl rfl ?_
 refine tri_g (opg_call (xs := [_, _]) rfl (square_box hs4 (by omega))) rfl ?_
 rintro _ _ _ ⟨rfl, rfl, rfl⟩
 rw [fbo]
 refine tM rfl rfl ?_
 refine tri_v (opv_extract rfl rfl) rfl ?_
 refine tri_v (opv_extract rfl rfl) rfl ?_
 refine tri_g opg_alloc rfl ?_
 rintro _ _ _ ⟨b14, rfl, rfl, rfl⟩
 refine tri_g (opg_store rfl rfl rfl rfl rfl rfl) rfl ?_
 rintro _ _ _ ⟨rfl, rfl⟩
 refine tA rfl rfl (tN (tT (tS (tR ?_))))
 refine tri_v (opv_loadA rfl rfl rfl) rfl ?_
 refine tri_v (opv_buildS rfl rfl) rfl ?_
 refine tri_g (opg_buildSlice rfl rfl rfl rfl) rfl ?_
 rintro _ _ _ ⟨b66, rfl, rfl, rfl⟩
 refine tri_freezeBoxS ([⟨1, 0⟩] : List Cell) rfl fun J5 hJ5 hl5 => ?_
 have hs1 := hs1.mono fun _ h => hJ5 (hI4 (hI3 (hI2 h)))
 refine tri_g (opg_call (xs := [_, _, _]) rfl (square_make hs1 (by omega) hl5 (by decide))) rfl ?_
 rintro _ _ I5 ⟨a5, c5, rfl, hs5, rfl, hI5⟩
 rw [fmb] at hs5 ⊢
 simp only at hs5 ⊢
 have hs1 := hs1.mono hI5
 refine tM rfl rfl ?_
 refine tri_v (opv_extract rfl rfl) rfl ?_
 refine tri_v (opv_extract rfl rfl) rfl ?_
 refine tri_v (opv_extract rfl rfl) rfl ?_
 refine tri_g opg_alloc rfl ?_
 rintro _ _ _ ⟨b16, rfl, rfl, rfl⟩
 refine tri_g (opg_store rfl rfl rfl rfl rfl rfl) rfl ?_
 rintro _ _ _ ⟨rfl, rfl⟩
 refine tA rfl rfl (tA rfl rfl (tN (tT (tS (tR ?_)))))
 refine tri_v (opv_loadA rfl rfl rfl) rfl ?_
 refine tri_g (opg_call (xs := [_, _]) rfl (square_box hs1 (by omega))) rfl ?_
 rintro _ _ _ ⟨rfl, rfl, rfl⟩
 rw [fno]
 have hs2 := hs2.mono fun _ h => hI5 (hJ5 (hI4 (hI3 h)))
 have hs3 := hs3.mono fun _ h => hI5 (hJ5 (hI4 h))
 have hI06 : I ⊆ I5 := fun _ h => hI5 (hJ5 (hI4 (hI3 (hI2 (hI1 (hJ1 (hI0 h)))))))
 have hr1 := hs1.sl
 have hr2 := hs2.sl
 refine tM rfl rfl ?_
 refine tri_v (opv_extract rfl rfl) rfl ?_
 refine tri_v (opv_extract rfl rfl) rfl ?_
 refine tri_g opg_alloc rfl ?_
 rintro _ _ _ ⟨b19, rfl, rfl, rfl⟩
 refine tri_g (opg_store rfl rfl rfl rfl rfl rfl) rfl ?_
 rintro _ _ _ ⟨rfl, rfl⟩
 refine tA rfl rfl (tN (tT (tS (tS (tR ?_)))))
 refine tri_v (opv_fieldAddr rfl rfl) rfl ?_
 refine tri_v (opv_load1 rfl rfl rfl) rfl ?_
 refine tri_v (opv_len rfl) rfl ?_
 refine tri_v (opv_neq rfl rfl) rfl ?_
 refine tM rfl rfl ?_
 refine tri_false rfl rfl (by omega) ?_
 refine tri_guard_run rfl rfl rfl (tM rfl rfl (tri_guard_run rfl rfl rfl ?_))
 refine tri_v (opv_len rfl) rfl ?_
 refine tri_guard_run rfl rfl rfl ?_
 refine tri_v (opv_neq rfl rfl) rfl ?_
 refine tri_v (opv_pick_f rfl rfl) rfl ?_
 refine tN (tT ?_)
 refine tri_cond_not rfl (by omega) ?_
 refine tri_skip (tT (tS (tR (tM rfl rfl ?_))))
 refine tri_v (opv_eql rfl rfl) rfl ?_
 refine tM rfl rfl ?_
 refine tri_true rfl rfl (rfl) ?_
 refine tri_guard_run rfl rfl rfl (tM rfl rfl (tri_guard_run rfl rfl rfl ?_))
 refine tri_v (opv_eql rfl rfl) rfl ?_
 refine tri_v (opv_pick_t rfl rfl) rfl ?_
 refine tM rfl rfl ?_
 refine tri_true rfl rfl (rfl) ?_
 refine tri_guard_run rfl rfl rfl ?_
 refine tri_v (opv_fieldAddr rfl rfl) rfl ?_
 refine tri_guard_run rfl rfl rfl ?_
 refine tri_v (opv_load1 rfl rfl rfl) rfl ?_
 refine tri_guard_run rfl rfl rfl ?_
 refine tri_v (opv_indexAddrS rfl rfl (by omega) (by omega) (by assumption) rfl) rfl ?_
 refine tri_guard_run rfl rfl rfl ?_
 refine tri_v (opv_fieldAddrE rfl (by assumption) (by omega) rfl) rfl ?_
 refine tri_guard_run rfl rfl rfl ?_
 refine tri_v (opv_loadEA rfl (by assumption) rfl (by omega) rfl rfl) rfl ?_
 refine tri_guard_run rfl rfl rfl ?_
 refine tri_v (opv_buildA rfl rfl) rfl ?_
 refine tri_guard_run rfl rfl rfl ?_
 refine tri_v (opv_eqlI rfl rfl rfl rfl rfl rfl) rfl ?_
 refine tri_v (opv_pick_t rfl rfl) rfl ?_
 refine tM rfl rfl ?_
 refine tri_true rfl rfl (by show [(ms.getD 2 default).k0, (ms.getD 2 default).k1, (ms.getD 2 default).k2, (ms.getD 2 default).k3] = _; rw [kms.1, kms.2.1, kms.2.2.1, kms.2.2.2]) ?_
 refine tri_guard_run rfl rfl rfl (tM rfl rfl (tri_guard_run rfl rfl rfl ?_))
 refine tri_v (opv_eql rfl rfl) rfl ?_
 refine tri_v (opv_pick_t rfl rfl) rfl ?_
 refine tM rfl rfl ?_
 refine tri_true rfl rfl (rfl) ?_
 refine tri_guard_run rfl rfl rfl ?_
 refine tri_v (opv_fieldAddr rfl rfl) rfl ?_
 refine tri_guard_run rfl rfl rfl ?_
 refine tri_v (opv_load1 rfl rfl rfl) rfl ?_
 refine tri_guard_run rfl rfl rfl (tM rfl rfl (tri_guard_run rfl rfl rfl ?_))
 refine tri_v (opv_indexAddrS rfl rfl (by omega) (by omega) (by assumption) rfl) rfl ?_
 refine tri_guard_run rfl rfl rfl ?_
 refine tri_v (opv_fieldAddrE rfl (by assumption) (by omega) rfl) rfl ?_
 refine tri_guard_run rfl rfl rfl ?_
 refine tri_v (opv_loadE1 rfl (by assumption) rfl (by omega) rfl rfl) rfl ?_
 refine tri_guard_run rfl rfl rfl ?_
 refine tri_v (opv_eql rfl rfl) rfl ?_
 refine tri_v (opv_pick_t rfl rfl) rfl ?_
 refine tM rfl rfl ?_
 refine tri_true rfl rfl (by show (ts.getD 5 default).lv = 2; exact vts) ?_
 refine tri_guard_run rfl rfl rfl (tM rfl rfl (tri_guard_run rfl rfl rfl ?_))
 refine tri_v (opv_eql rfl rfl) rfl ?_
 refine tri_v (opv_pick_t rfl rfl) rfl ?_
 refine tM rfl rfl ?_
 refine tri_true rfl rfl (rfl) ?_
 refine tri_guard_run rfl rfl rfl (tM rfl rfl (tri_guard_run rfl rfl rfl ?_))
 refine tri_v (opv_indexAddrS rfl rfl (by omega) (by omega) (by assumption) rfl) rfl ?_
 refine tri_guard_run rfl rfl rfl ?_
 refine tri_v (opv_loadEA rfl (by assumption) rfl (by omega) rfl rfl) rfl ?_
 refine tri_guard_run rfl rfl rfl ?_
 refine tri_v (opv_buildS rfl rfl) rfl ?_
 refine tri_guard_run rfl rfl rfl ?_
 refine tri_v (opv_eqlI rfl rfl rfl rfl rfl rfl) rfl ?_
 refine tri_v (opv_pick_t rfl rfl) rfl ?_
 refine tM rfl rfl ?_
 refine tri_true rfl rfl (by show [(cs.getD 0 default).x, (cs.getD 0 default).y] = _; rw [vcs]) ?_
 refine tri_guard_run rfl rfl rfl (tM rfl rfl ?_)
 refine tri_v (opv_pick_t rfl rfl) rfl ?_
 refine tM rfl rfl ?_
 refine tri_bool 127 rfl (fun _ => ?_) (fun h => absurd h (by decide))
 refine tri_guard_run rfl rfl rfl (tM rfl rfl (tri_guard_run rfl rfl rfl ?_))
 refine tri_v (opv_eql rfl rfl) rfl ?_
 refine tri_v (opv_pick_t rfl rfl) rfl ?_
 refine tM rfl rfl ?_
 refine tri_true rfl rfl (rfl) ?_
 refine tri_guard_run rfl rfl rfl (tM rfl rfl (tri_guard_run rfl rfl rfl ?_))
 refine tri_v (opv_eql rfl rfl) rfl ?_
 refine tri_v (opv_pick_t rfl rfl) rfl ?_
 refine tM rfl rfl ?_
 refine tri_true rfl rfl (rfl) ?_
 refine tri_guard_run rfl rfl rfl ?_
 refine tri_v (opv_loadA rfl rfl rfl) rfl ?_
 refine tri_guard_run rfl rfl rfl ?_
 refine tri_v (opv_buildS rfl rfl) rfl ?_
 refine tri_guard_run rfl rfl rfl ?_
 refine tri_v (opv_eqlI rfl rfl rfl rfl rfl rfl) rfl ?_
 refine tri_v (opv_pick_t rfl rfl) rfl ?_
 refine tM rfl rfl ?_
 refine tri_true rfl rfl (rfl) ?_
 refine tri_guard_run rfl rfl rfl (tM rfl rfl ?_)
 refine tri_v (opv_pick_t rfl rfl) rfl ?_
 refine tM rfl rfl ?_
 refine tri_bool 143 rfl (fun _ => ?_) (fun h => absurd h (by decide))
 refine tri_guard_run rfl rfl rfl (tM rfl rfl (tri_guard_run rfl rfl rfl ?_))
 refine tri_v (opv_eql rfl rfl) rfl ?_
 refine tri_v (opv_pick_t rfl rfl) rfl ?_
 refine tM rfl rfl ?_
 refine tri_true rfl rfl (rfl) ?_
 refine tri_guard_run rfl rfl rfl (tM rfl rfl (tri_guard_run rfl rfl rfl ?_))
 refine tri_v (opv_not rfl) rfl ?_
 refine tri_v (opv_pick_t rfl rfl) rfl ?_
 refine tA rfl rfl (tN (tT (tri_ret ?_)))
 refine tri_end A Suf.h rfl (.cons (rv_tmp rfl) .nil) ⟨rfl, rfl, hI06⟩
end Go.GL


set_option linter.unusedVariables false
namespace Go.GL
/-! ### Layer 9, as the document has it -/
namespace R9
/-- What was leapt: a node, an exponent, what it came to. -/
abbrev Memo := List (Int × Int × Int)
structure LS where
 ns : List Node
 mm : Memo
/-- A state, a node, an error. -/
abbrev L9 := LS × Int × Int
def look9 : Memo → Int → Int → Option Int
 | [], _, _ => none
 | p :: mm, n, j => if p.1 = n ∧ p.2.1 = j then some p.2.2 else look9 mm n j
def putS (room : Int) (s : LS) (q0 q1 q2 q3 : Int) : L9 := (⟨(R6.put s.ns room q0 q1 q2 q3).1, s.mm⟩, (R6.put s.ns room q0 q1 q2 q3).2.1, (R6.put s.ns room q0 q1 q2 q3).2.2)
def midS (room : Int) (s : LS) (n : Int) : L9 := putS room s (R8.g (R8.s16 s.ns n) 5) (R8.g (R8.s16 s.ns n) 6) (R8.g (R8.s16 s.ns n) 9) (R8.g (R8.s16 s.ns n) 10)
def oneS (room : Int) (s : LS) (n : Int) : L9 := (⟨(R8.one s.ns room n).1, s.mm⟩, (R8.one s.ns room n).2.1, (R8.one s.ns room n).2.2)
def mapS (f : LS → Int → L9) : LS → List Int → LS × List Int × Int
 | s, [] => (s, [], 0)
 | s, q :: qs => if (f s q).2.2 ≠ 0 then ((f s q).1, [], (f s q).2.2) else ((mapS f (f s q).1 qs).1, (f s q).2.1 :: (mapS f (f s q).1 qs).2.1, (mapS f (f s q).1 qs).2.2)
def fourP (room : Int) (l : List Int) (s : LS) (k : Int) : L9 := putS room s (R8.g l k) (R8.g l (k + 1)) (R8.g l (k + 3)) (R8.g l (k + 4))
def fourE : List Int := [0, 1, 3, 4]
def halfF (lp : LS → Int → Int → L9) (room : Int) (full : Bool) (j : Int) : LS → Int → L9 := fun s q => if full = true then lp s q (j - 1) else midS room s q
/-- The nine squares of a node, each behind half of a leap, or where it stands. -/
def half (lp : LS → Int → Int → L9) (room : Int) (full : Bool) (s : LS) (n j : Int) : LS × List Int × Int :=
 if (R8.all s.ns room n).2.2 ≠ 0 then (s, [], (R8.all s.ns room n).2.2) else mapS (halfF lp room full j) ⟨(R8.all s.ns room n).1, s.mm⟩ (R8.all s.ns room n).2.1
def bindM (r : LS × List Int × Int) (f : LS → List Int → L9) : L9 := if r.2.2 ≠ 0 then (r.1, 0, r.2.2) else f r.1 r.2.1
def put4 (room : Int) (s : LS) (l : List Int) : L9 := putS room s (R8.g l 0) (R8.g l 1) (R8.g l 2) (R8.g l 3)
def lastF (lp : LS → Int → Int → L9) (j : Int) : LS → Int → L9 := fun s q => lp s q j
def far (lp : LS → Int → Int → L9) (room : Int) (full : Bool) (s : LS) (n j : Int) : L9 :=
 bindM (half lp room full s n j) fun t l => bindM (mapS (fourP room l) t fourE) fun t l => bindM (mapS (lastF lp (if full = true then j - 1 else j)) t l) (put4 room)
/-- What was leapt is kept. -/
def keep (n j : Int) (r : L9) : L9 := if r.2.2 ≠ 0 then (r.1, 0, r.2.2) else (⟨r.1.ns, r.1.mm ++ [(n, j, r.2.1)]⟩, r.2.1, 0)
/-- A leap of a node of the level k + 2. -/
def leap (room : Int) : Nat → LS → Int → Int → L9
 | 0, s, n, j => match look9 s.mm n j with
  | some to => (s, to, 0)
  | none => keep n j (oneS room s n)
 | k + 1, s, n, j => match look9 s.mm n j with
  | some to => (s, to, 0)
  | none => keep n j (far (leap room k) room (decide (j = k + 1)) s n j)
/-- Is one of the sixteen, but the four in the middle, not dead? -/
def edged (ns : List Node) (n : Int) : Bool := [0, 1, 2, 3, 4, 7, 8, 11, 12, 13, 14, 15].any fun i => decide ((R6.nd ns (R8.g (R8.s16 ns n) i)).pop ≠ 0)
/-- Of a node of the level k + 2. -/
def trim (room : Int) : Nat → LS → Int → L9
 | 0, s, n => (s, n, 0)
 | k + 1, s, n => if edged s.ns n = true then (s, n, 0) else if (midS room s n).2.2 ≠ 0 then ((midS room s n).1, 0, (midS room s n).2.2) else trim room k (midS room s n).1 (midS room s n).2.1
/-- A kid of the larger node. -/
def bigK (dead : Int) (k : Nat) (kid : Int) (i : Nat) : Int := if i + k = 3 then kid else dead
def grow (room : Int) (s : LS) (n : Int) : L9 :=
 let x := R6.nd s.ns n
 if 42 ≤ x.lv then (s, 0, 2) else
 let d := R7.empty s.ns room (x.lv - 1).toNat
 if d.2.2 ≠ 0 then (s, 0, d.2.2) else
 let r := mapS (fun s k => putS room s (bigK d.2.1 k.toNat (x.kids.getD k.toNat default) 0) (bigK d.2.1 k.toNat (x.kids.getD k.toNat default) 1) (bigK d.2.1 k.toNat (x.kids.getD k.toNat default) 2) (bigK d.2.1 k.toNat (x.kids.getD k.toNat default) 3)) ⟨d.1, s.mm⟩ [0, 1, 2, 3]
 if r.2.2 ≠ 0 then (r.1, 0, r.2.2) else
 putS room r.1 (R8.g r.2.1 0) (R8.g r.2.1 1) (R8.g r.2.1 2) (R8.g r.2.1 3)
def bindS (r : L9) (f : LS → Int → L9) : L9 := if r.2.2 ≠ 0 then (r.1, 0, r.2.2) else f r.1 r.2.1
def lvS (s : LS) (n : Int) : Nat := ((R6.nd s.ns n).lv - 2).toNat
def trimS (room : Int) (s : LS) (n : Int) : L9 := trim room (lvS s n) s n
/-- Grown while it is too small (at most so often). -/
def growTo (room : Int) (j : Int) : Nat → LS → Int → L9
 | 0, s, n => (s, n, 0)
 | i + 1, s, n => if (R6.nd s.ns n).lv < j + 3 then bindS (grow room s n) (growTo room j i) else (s, n, 0)
def power (room : Int) (s : LS) (n j : Int) : L9 :=
 bindS (bindS (bindS (bindS (trimS room s n) (grow room)) (grow room)) (growTo room j 64)) fun s m => leap room (lvS s m) s m j
def runL (room : Int) : List Int → LS → Int → L9
 | [], s, n => trimS room s n
 | j :: js, s, n => bindS (power room s n j) (runL room js)
def bits (c : Int) : List Int := ((List.range 62).filter fun i => decide (c / 2 ^ i % 2 = 1)).map fun i => ((i : Nat) : Int)
/-- A store behind what was made in it, or as it was. -/
def out (ns : List Node) (r : L9) : List Node × Int × Int := if r.2.2 ≠ 0 then (ns, 0, r.2.2) else (r.1.ns, r.2.1, 0)
def leapT (ns : List Node) (room n j : Int) : List Node × Int × Int := if R8.may ns room n 2 ∧ 0 ≤ j ∧ j ≤ (R6.nd ns n).lv - 2 then out ns (leap room (lvS ⟨ns, []⟩ n) ⟨ns, []⟩ n j) else (ns, 0, 1)
def trimT (ns : List Node) (room n : Int) : List Node × Int × Int := if R8.may ns room n 2 then out ns (trimS room ⟨ns, []⟩ n) else (ns, 0, 1)
def runT (ns : List Node) (room n c : Int) : List Node × Int × Int := if R8.may ns room n 2 ∧ 0 ≤ c ∧ c ≤ 4611686018427387903 then out ns (runL room (bits c) ⟨ns, []⟩ n) else (ns, 0, 1)
end R9
end Go.GL


set_option linter.unusedVariables false
namespace Go.GL
open R6 R7
/-! ### What leaps keep to -/
namespace R9
def MemOk (ns : List Node) (mm : Memo) : Prop := ∀ p ∈ mm, ∃ lv : Nat, IsN ns (lv + 2) p.1 ∧ IsN ns (lv + 1) p.2.2
theorem MemOk.pre {ns ms : List Node} (hp : ns <+: ms) {mm : Memo} (h : MemOk ns mm) : MemOk ms mm := fun p hm => by
 obtain ⟨lv, a, b⟩ := h p hm
 exact ⟨lv, a.pre hp, b.pre hp⟩
structure Lk (room : Int) (s : LS) : Prop where
 right : R6.right s.ns room
 mem : MemOk s.ns s.mm
theorem Lk.wf {room : Int} {s : LS} (h : Lk room s) : Wf s.ns := (right_iff.1 h.right).2
/-- What came of a state without an error. -/
structure Gd (room : Int) (s : LS) (r : L9) (lv : Nat) : Prop where
 lk : Lk room r.1
 pre : s.ns <+: r.1.ns
 is : IsN r.1.ns lv r.2.1
theorem s16_isN {ns : List Node} (h : Wf ns) {lv : Nat} {n : Int} (hn : IsN ns (lv + 2) n) : ∀ i : Int, 0 ≤ i → i < 16 → IsN ns lv (R8.g (R8.s16 ns n) i) := by
 obtain ⟨a, b, c, d⟩ := kids4 h hn
 obtain ⟨a0, a1, a2, a3⟩ := kids4 h a
 obtain ⟨b0, b1, b2, b3⟩ := kids4 h b
 obtain ⟨c0, c1, c2, c3⟩ := kids4 h c
 obtain ⟨d0, d1, d2, d3⟩ := kids4 h d
 intro i h0 h16
 obtain ⟨k, rfl⟩ : ∃ k : Nat, i = k := ⟨i.toNat, by omega⟩
 have hk : k < 16 := by omega
 unfold R8.g R8.s16
 rw [Int.toNat_natCast]
 match k, hk with
 | 0, _ => exact a0
 | 1, _ => exact a1
 | 2, _ => exact b0
 | 3, _ => exact b1
 | 4, _ => exact a2
 | 5, _ => exact a3
 | 6, _ => exact b2
 | 7, _ => exact b3
 | 8, _ => exact c0
 | 9, _ => exact c1
 | 10, _ => exact d0
 | 11, _ => exact d1
 | 12, _ => exact c2
 | 13, _ => exact c3
 | 14, _ => exact d2
 | 15, _ => exact d3
/-! #### what is new of what was leapt -/
/-- What came to be kept is of nodes of the levels to K + 2. -/
def New (K : Nat) (mm mm' : Memo) (ns' : List Node) : Prop := ∃ add, mm' = mm ++ add ∧ ∀ p ∈ add, ∃ lv, lv ≤ K ∧ IsN ns' (lv + 2) p.1
theorem New.refl (K : Nat) (mm : Memo) (ns' : List Node) : New K mm mm ns' := ⟨[], by simp, by simp⟩
theorem New.trans {K : Nat} {a b c : Memo} {ns ms : List Node} (h : New K a b ns) (hp : ns <+: ms) (k : New K b c ms) : New K a c ms := by
 obtain ⟨x, rfl, hx⟩ := h
 obtain ⟨y, rfl, hy⟩ := k
 refine ⟨x ++ y, by rw [List.append_assoc], fun p hm => ?_⟩
 rcases List.mem_append.1 hm with hm | hm
 ·obtain ⟨lv, h1, h2⟩ := hx p hm
  exact ⟨lv, h1, h2.pre hp⟩
 ·exact hy p hm
theorem look9_app : ∀ {mm add : Memo} {n j : Int}, (∀ p ∈ add, p.1 ≠ n) → look9 (mm ++ add) n j = look9 mm n j
 | [], [], n, j, _ => rfl
 | [], p :: add, n, j, h => by
  have h1 := h p List.mem_cons_self
  have ih := look9_app (mm := []) (n := n) (j := j) fun q hq => h q (List.mem_cons_of_mem _ hq)
  simp only [List.nil_append] at ih ⊢
  unfold look9
  rw [if_neg (fun e => h1 e.1), ih]
  rfl
 | p :: mm, add, n, j, h => by
  simp only [List.cons_append]
  unfold look9
  split
  ·rfl
  ·exact look9_app h
theorem New.look {K : Nat} {mm mm' : Memo} {ns' : List Node} (h : New K mm mm' ns') {lv : Nat} {n j : Int} (hn : IsN ns' (lv + 2) n) (hlv : K < lv) (hl : look9 mm n j = none) : look9 mm' n j = none := by
 obtain ⟨add, rfl, ha⟩ := h
 rw [look9_app, hl]
 rintro p hp rfl
 obtain ⟨lv', h1, h2⟩ := ha p hp
 have e1 := h2.2
 have e2 := hn.2
 omega
end R9
end Go.GL


set_option linter.unusedVariables false
namespace Go.GL
open R6 R7
namespace R9
/-! #### empty, grow -/
def growF (room d : Int) (ks : List Int) : LS → Int → L9 := fun s k => putS room s (bigK d k.toNat (ks.getD k.toNat default) 0) (bigK d k.toNat (ks.getD k.toNat default) 1) (bigK d k.toNat (ks.getD k.toNat default) 2) (bigK d k.toNat (ks.getD k.toNat default) 3)
def k4 : List Int := [0, 1, 2, 3]
theorem kids_getD {ns : List Node} (h : Wf ns) {lv : Nat} {n : Int} (hn : IsN ns (lv + 1) n) {k : Nat} (hk : k < 4) : IsN ns lv ((nd ns n).kids.getD k default) := by
 obtain ⟨a, b, c, d⟩ := kids4 h hn
 match k, hk with
 | 0, _ => exact a
 | 1, _ => exact b
 | 2, _ => exact c
 | 3, _ => exact d
/-! #### trim, power, run -/
/-- As Gd, of some level from 2 on. -/
structure Ge (room : Int) (s : LS) (r : L9) : Prop where
 lk : Lk room r.1
 pre : s.ns <+: r.1.ns
 is : ∃ k : Nat, IsN r.1.ns (k + 2) r.2.1
theorem Ge.trans {room : Int} {s t : LS} {r : L9} (h : Ge room t r) (hp : s.ns <+: t.ns) : Ge room s r := ⟨h.lk, hp.trans h.pre, h.is⟩
/-- The loop of power: grown i times. -/
def more (room : Int) (j : Int) : Nat → LS → Int → L9
 | 0, s, n => bindS (bindS (grow room s n) (grow room)) (growTo room j 64)
 | 1, s, n => bindS (grow room s n) (growTo room j 64)
 | i + 2, s, n => growTo room j (64 - i) s n
/-- As Ge, of some level from k + 2 on. -/
def Gk (room : Int) (s : LS) (r : L9) (k : Nat) : Prop := Lk room r.1 ∧ s.ns <+: r.1.ns ∧ ∃ k' : Nat, k ≤ k' ∧ IsN r.1.ns (k' + 2) r.2.1
theorem Gk.le {room : Int} {s : LS} {r : L9} {k k2 : Nat} (h : Gk room s r k) (hk : k2 ≤ k) : Gk room s r k2 := by
 obtain ⟨a, b, k', c, d⟩ := h
 exact ⟨a, b, k', by omega, d⟩
end R9
end Go.GL


set_option linter.unusedVariables false
namespace Go.GL
/-! ### What is made of cells -/
namespace R7
open R6
def deadB (ns : List Node) (j : Nat) : Bool := ns.any fun x => decide (x.lv = (j : Int) ∧ x.pop = 0)
/-- Of how many levels there is no node yet in which all is dead. -/
def E (ns : List Node) : Nat → Nat
 | 0 => 0
 | L + 1 => E ns L + if deadB ns (L + 1) = true then 0 else 1
theorem deadB_iff {ns : List Node} {j : Nat} : deadB ns j = true ↔ ∃ n, IsN ns j n ∧ (nd ns n).pop = 0 := by
 unfold deadB
 rw [List.any_eq_true]
 constructor
 ·rintro ⟨x, hx, h⟩
  obtain ⟨i, hi, rfl⟩ := List.getElem_of_mem hx
  have h' := of_decide_eq_true h
  have e : nd ns (i : Int) = ns[i] := by simp [nd, hi]
  exact ⟨i, ⟨⟨by omega, by omega⟩, by rw [e]; exact h'.1⟩, by rw [e]; exact h'.2⟩
 ·rintro ⟨n, ⟨⟨h0, h1⟩, h2⟩, h3⟩
  have hlt : n.toNat < ns.length := by omega
  have e : nd ns n = ns[n.toNat] := by simp [nd, hlt]
  rw [e] at h2 h3
  exact ⟨_, List.getElem_mem hlt, by simp [h2, h3]⟩
theorem deadB_pre {ns ms : List Node} (h : ns <+: ms) {j : Nat} (hd : deadB ns j = true) : deadB ms j = true := by
 obtain ⟨t, rfl⟩ := h
 unfold deadB at *
 rw [List.any_append, hd]; rfl
theorem E_pre {ns ms : List Node} (h : ns <+: ms) : ∀ L, E ms L ≤ E ns L
 | 0 => Nat.le_refl _
 | L + 1 => by
  have := E_pre h L
  simp only [E]
  by_cases hd : deadB ns (L + 1) = true
  ·rw [if_pos hd, if_pos (deadB_pre h hd)]; omega
  ·rw [if_neg hd]; split <;> omega
theorem E_new {ns ms : List Node} (h : ns <+: ms) {j : Nat} (h0 : ¬ deadB ns (j + 1) = true) (h1 : deadB ms (j + 1) = true) : ∀ L, j < L → E ms L + 1 ≤ E ns L
 | 0, hj => absurd hj (by omega)
 | L + 1, hj => by
  simp only [E]
  by_cases e : j = L
  ·subst e
   have := E_pre h j
   rw [if_neg h0, if_pos h1]; omega
  ·have := E_new h h0 h1 L (by omega)
   by_cases hd : deadB ns (L + 1) = true
   ·rw [if_pos hd, if_pos (deadB_pre h hd)]; omega
   ·rw [if_neg hd]; split <;> omega
theorem E_le (ns : List Node) : ∀ L, E ns L ≤ L
 | 0 => Nat.le_refl _
 | L + 1 => by have := E_le ns L; simp only [E]; split <;> omega
theorem E_pos {ns : List Node} {j L : Nat} (hj : j < L) (h0 : ¬ deadB ns (j + 1) = true) : 1 ≤ E ns L := by
 induction L with
 | zero => omega
 | succ L ih =>
  simp only [E]
  by_cases e : j = L
  ·subst e; rw [if_neg h0]; omega
  ·have := ih (by omega); omega
/-- A node of a level is made; it cost so many nodes, and what was dead of the levels to L. -/
structure Mk (ns : List Node) (L cost lv : Nat) (ms : List Node) (m : Int) : Prop where
 wf : Wf ms
 pre : ns <+: ms
 is : IsN ms lv m
 len : ms.length + E ms L ≤ ns.length + E ns L + cost
theorem fit4_of {ns : List Node} {lv : Nat} (hl : lv + 1 ≤ 42) {a b c d : Int} (ha : IsN ns lv a) (hb : IsN ns lv b) (hc : IsN ns lv c) (hd : IsN ns lv d) : fit4 ns a b c d := by
 refine ⟨ha.1, ⟨hb.1, ?_⟩, ⟨hc.1, ?_⟩, ⟨hd.1, ?_⟩, ?_⟩
 ·rw [hb.2, ha.2]
 ·rw [hc.2, ha.2]
 ·rw [hd.2, ha.2]
 ·rw [ha.2]; omega
theorem dead_found {ns : List Node} (h : Wf ns) {j : Nat} {n d : Int} (hn : IsN ns j n) (hp : (nd ns n).pop = 0) (hd : IsN ns (j + 1) d) (hdp : (nd ns d).pop = 0) : R6.at_ ns [n, n, n, n] = d := by
 obtain ⟨a, b, c, e⟩ := kids4 h hd
 obtain ⟨a', b', c', e'⟩ := (dead_kids h hd).1 hdp
 have := h.at_ hd.1 (by rw [hd.2]; omega)
 unfold Node.kids at this
 rwa [dead_uniq h a hn a' hp, dead_uniq h b hn b' hp, dead_uniq h c hn c' hp, dead_uniq h e hn e' hp] at this
theorem emptyF_ok {room : Int} {L : Nat} (hL : L ≤ 42) : ∀ (k : Nat) (ns : List Node) (n : Int) (j : Nat), Wf ns → IsN ns j n → (nd ns n).pop = 0 → j + k ≤ L → ((ns.length + E ns L : Nat) : Int) ≤ room →
  ∃ ms m, emptyF room k ns n = (ms, m, 0) ∧ Mk ns L 0 (j + k) ms m ∧ (nd ms m).pop = 0
 | 0, ns, n, j, h, hn, hp, hj, hr => ⟨ns, n, rfl, ⟨h, List.prefix_refl _, hn, Nat.le_refl _⟩, hp⟩
 | k + 1, ns, n, j, h, hn, hp, hj, hr => by
  have hf := fit4_of (by omega) hn hn hn hn
  have hroom : 0 ≤ R6.at_ ns [n, n, n, n] ∨ (ns.length : Int) < room := by
   by_cases hd : deadB ns (j + 1) = true
   ·obtain ⟨d, hd1, hd2⟩ := deadB_iff.1 hd
    rw [dead_found h hn hp hd1 hd2]; exact .inl hd1.1.1
   ·have := E_pos (L := L) (by omega) hd
    exact .inr (by omega)
  obtain ⟨ms, m, e, ok⟩ := put_ok h hf hroom
  have him : IsN ms (j + 1) m := ⟨ok.mem, by rw [ok.lv, hn.2]; omega⟩
  have hpm : (nd ms m).pop = 0 := by rw [ok.nd]; exact (pop4_zero (by omega) (by omega) (by omega) (by omega)).2 ⟨hp, hp, hp, hp⟩
  have hlen : ms.length + E ms L ≤ ns.length + E ns L := by
   by_cases hd : deadB ns (j + 1) = true
   ·obtain ⟨d, hd1, hd2⟩ := deadB_iff.1 hd
    have hat := dead_found h hn hp hd1 hd2
    have : put ns room n n n n = (ns, d, 0) := put_again h hf hd1.1 (by rw [hd1.2]; omega) (by rw [← hat]; exact (at_found (by rw [hat]; exact hd1.1.1)).2.2)
    rw [this] at e
    cases e
    exact Nat.le_refl _
   ·have := E_new ok.pre hd (deadB_iff.2 ⟨m, him, hpm⟩) L (by omega)
    have := ok.len
    omega
  obtain ⟨ms2, m2, e2, ok2, hp2⟩ := emptyF_ok (room := room) hL k ms m (j + 1) ok.wf him hpm (by omega) (by omega)
  refine ⟨ms2, m2, ?_, ⟨ok2.wf, ok.pre.trans ok2.pre, by rw [show j + (k + 1) = j + 1 + k by omega]; exact ok2.is, by have := ok2.len; omega⟩, hp2⟩
  simp only [emptyF, e]
  rw [if_neg (by omega)]
  exact e2
theorem empty_ok {room : Int} {L : Nat} (hL : L ≤ 42) {ns : List Node} {lv : Nat} (h : Wf ns) (hlv : lv ≤ L) (hr : ((ns.length + E ns L : Nat) : Int) ≤ room) : ∃ ms m, empty ns room lv = (ms, m, 0) ∧ Mk ns L 0 lv ms m ∧ (nd ms m).pop = 0 := by
 have := emptyF_ok (room := room) hL lv ns 0 0 h ⟨h.in0, by rw [h.nd0]; rfl⟩ (by rw [h.nd0]; rfl) (by omega) hr
 unfold empty
 simpa using this
/-! #### the quarters of a list of cells -/
def qx' (h : Int) (c : Cell) : Nat := qx h c
theorem part_sum (h : Int) (l : List Cell) : (part h 0 l).length + (part h 1 l).length + (part h 2 l).length + (part h 3 l).length = l.length := by
 induction l with
 | nil => rfl
 | cons c l ih =>
  unfold part at *
  simp only [List.length_map] at *
  have hk : qx h c = 0 ∨ qx h c = 1 ∨ qx h c = 2 ∨ qx h c = 3 := by unfold qx; split <;> split <;> simp
  rcases hk with e | e | e | e <;> simp only [List.filter_cons, e] <;> simp <;> omega
theorem part_in {lv : Nat} {l : List Cell} (hb : ∀ c ∈ l, inQ (lv + 1) c.x c.y) (k : Nat) : ∀ c ∈ part (2 ^ lv) k l, inQ lv c.x c.y := by
 intro c hc
 obtain ⟨d, hd, rfl⟩ := List.mem_map.1 hc
 have := hb d (List.mem_filter.1 hd).1
 unfold inQ at *
 rw [p2s] at this
 have := p2pos lv
 unfold qc
 simp only
 split <;> split <;> omega
theorem mem_part {lv : Nat} {l : List Cell} (hb : ∀ c ∈ l, inQ (lv + 1) c.x c.y) {x y : Int} (hq : inQ lv x y) :
  ((⟨x, y⟩ : Cell) ∈ part (2 ^ lv) 0 l ↔ (⟨x, y⟩ : Cell) ∈ l) ∧ ((⟨x, y⟩ : Cell) ∈ part (2 ^ lv) 1 l ↔ (⟨x + 2 ^ lv, y⟩ : Cell) ∈ l) ∧ ((⟨x, y⟩ : Cell) ∈ part (2 ^ lv) 2 l ↔ (⟨x, y + 2 ^ lv⟩ : Cell) ∈ l) ∧ ((⟨x, y⟩ : Cell) ∈ part (2 ^ lv) 3 l ↔ (⟨x + 2 ^ lv, y + 2 ^ lv⟩ : Cell) ∈ l) := by
 have hp := p2pos lv
 unfold inQ at hq
 have key : ∀ k (X Y : Int), qx (2 ^ lv) ⟨X, Y⟩ = k → qc (2 ^ lv) ⟨X, Y⟩ = ⟨x, y⟩ → (∀ c ∈ l, qx (2 ^ lv) c = k → qc (2 ^ lv) c = ⟨x, y⟩ → c = ⟨X, Y⟩) → ((⟨x, y⟩ : Cell) ∈ part (2 ^ lv) k l ↔ (⟨X, Y⟩ : Cell) ∈ l) := by
  intro k X Y h1 h2 h3
  unfold part
  rw [List.mem_map]
  constructor
  ·rintro ⟨c, hc, e⟩
   obtain ⟨hc1, hc2⟩ := List.mem_filter.1 hc
   have := h3 c hc1 (by simpa using hc2) e
   rwa [this] at hc1
  ·intro hm
   exact ⟨_, List.mem_filter.2 ⟨hm, by simp [h1]⟩, h2⟩
 refine ⟨key 0 x y ?_ ?_ ?_, key 1 _ _ ?_ ?_ ?_, key 2 _ _ ?_ ?_ ?_, key 3 _ _ ?_ ?_ ?_⟩
 all_goals simp only [qx, qc]
 all_goals first
  | (rintro ⟨cx, cy⟩ hc; have := hb _ hc; unfold inQ at this; simp only [Cell.mk.injEq] at *; intro h1 h2; revert h1 h2; split <;> split <;> intro h1 h2 <;> omega)
  | (split <;> split <;> omega)
  | (simp only [Cell.mk.injEq]; constructor <;> split <;> omega)
end R7
end Go.GL


set_option linter.unusedVariables false
namespace Go.GL
namespace R7
open R6
theorem build_nl (room : Int) (lv : Nat) (ns : List Node) : build room lv ns [] = empty ns room lv := by cases lv <;> rfl
theorem build_sc (room : Int) (lv : Nat) (ns : List Node) {l : List Cell} (h : l ≠ []) {a0 a1 a2 a3 : List Node} {m0 m1 m2 m3 : Int} (h0 : build room lv ns (part (2 ^ lv) 0 l) = (a0, m0, 0)) (h1 : build room lv a0 (part (2 ^ lv) 1 l) = (a1, m1, 0)) (h2 : build room lv a1 (part (2 ^ lv) 2 l) = (a2, m2, 0)) (h3 : build room lv a2 (part (2 ^ lv) 3 l) = (a3, m3, 0)) :
  build room (lv + 1) ns l = R6.put a3 room m0 m1 m2 m3 := by
 cases l with
 | nil => exact absurd rfl h
 | cons c l =>
  simp only [build, h0, h1, h2, h3]
  rfl
theorem al_put {ns ms : List Node} {lv : Nat} {a b c d m : Int} (h : Wf ns) (ha : IsN ns lv a) (hb : IsN ns lv b) (hc : IsN ns lv c) (hd : IsN ns lv d) (ok : PutOk ns a b c d ms m) (x y : Int) :
  al ms (lv + 1) m x y = if y < 2 ^ lv then (if x < 2 ^ lv then al ns lv a x y else al ns lv b (x - 2 ^ lv) y) else (if x < 2 ^ lv then al ns lv c x (y - 2 ^ lv) else al ns lv d (x - 2 ^ lv) (y - 2 ^ lv)) := by
 simp only [al, ok.nd, mk4]
 rw [al_pre h ok.pre _ _ _ _ ha, al_pre h ok.pre _ _ _ _ hb, al_pre h ok.pre _ _ _ _ hc, al_pre h ok.pre _ _ _ _ hd]
theorem build_ok {room : Int} {L : Nat} (hL : L ≤ 42) : ∀ (lv : Nat) (ns : List Node) (l : List Cell), lv ≤ L → Wf ns → (∀ c ∈ l, inQ lv c.x c.y) → ((ns.length + E ns L + l.length * lv : Nat) : Int) ≤ room →
  ∃ ms m, build room lv ns l = (ms, m, 0) ∧ Mk ns L (l.length * lv) lv ms m ∧ ∀ x y, inQ lv x y → al ms lv m x y = decide ((⟨x, y⟩ : Cell) ∈ l)
 | lv, ns, [], hlv, h, hb, hr => by
  obtain ⟨ms, m, e, ok, hp⟩ := empty_ok (room := room) hL h hlv (by simpa using hr)
  refine ⟨ms, m, by rw [build_nl]; exact e, ?_, fun x y _ => ?_⟩
  ·simpa using ok
  ·rw [al_dead ok.wf lv m x y ok.is hp]; simp
 | 0, ns, c :: l, hlv, h, hb, hr => by
  refine ⟨ns, 1, rfl, ⟨h, List.prefix_refl _, ⟨h.in1, by rw [h.nd1]; rfl⟩, by omega⟩, fun x y hq => ?_⟩
  have hc := hb c List.mem_cons_self
  unfold inQ at hq hc
  simp only [Int.pow_zero] at hq hc
  have e : (⟨x, y⟩ : Cell) = c := by cases c; simp only [Cell.mk.injEq] at *; omega
  rw [e]
  simp [al]
 | lv + 1, ns, c :: l, hlv, h, hb, hr => by
  have hne : c :: l ≠ [] := by simp
  generalize hls : c :: l = ls at *
  have hpl := part_sum (2 ^ lv) ls
  have hlpos : 1 ≤ ls.length := by rw [← hls]; simp
  have hpb := part_in hb
  have hmul : (part (2 ^ lv) 0 ls).length * lv + (part (2 ^ lv) 1 ls).length * lv + (part (2 ^ lv) 2 ls).length * lv + (part (2 ^ lv) 3 ls).length * lv = ls.length * lv := by rw [← Nat.add_mul, ← Nat.add_mul, ← Nat.add_mul, hpl]
  have hmul2 : ls.length * (lv + 1) = ls.length * lv + ls.length := Nat.mul_succ _ _
  rw [hmul2] at hr
  obtain ⟨a0, m0, e0, k0, s0⟩ := build_ok (room := room) hL lv ns (part (2 ^ lv) 0 ls) (by omega) h (hpb 0) (by omega)
  have l0 := k0.len
  obtain ⟨a1, m1, e1, k1, s1⟩ := build_ok (room := room) hL lv a0 (part (2 ^ lv) 1 ls) (by omega) k0.wf (hpb 1) (by omega)
  have l1 := k1.len
  obtain ⟨a2, m2, e2, k2, s2⟩ := build_ok (room := room) hL lv a1 (part (2 ^ lv) 2 ls) (by omega) k1.wf (hpb 2) (by omega)
  have l2 := k2.len
  obtain ⟨a3, m3, e3, k3, s3⟩ := build_ok (room := room) hL lv a2 (part (2 ^ lv) 3 ls) (by omega) k2.wf (hpb 3) (by omega)
  have l3 := k3.len
  have i0 : IsN a3 lv m0 := ((k0.is.pre k1.pre).pre k2.pre).pre k3.pre
  have i1 : IsN a3 lv m1 := (k1.is.pre k2.pre).pre k3.pre
  have i2 : IsN a3 lv m2 := k2.is.pre k3.pre
  have i3 : IsN a3 lv m3 := k3.is
  obtain ⟨ms, m, e, ok⟩ := put_ok k3.wf (room := room) (fit4_of (by omega) i0 i1 i2 i3) (.inr (by omega))
  refine ⟨ms, m, by rw [build_sc room lv ns hne e0 e1 e2 e3]; exact e, ⟨ok.wf, ((((k0.pre.trans k1.pre).trans k2.pre).trans k3.pre).trans ok.pre), ⟨ok.mem, by rw [ok.lv, i0.2]; omega⟩, ?_⟩, fun x y hq => ?_⟩
  ·have := E_pre ok.pre L
   have := ok.len
   omega
  ·rw [al_put k3.wf i0 i1 i2 i3 ok]
   obtain ⟨q0, q1, q2, q3⟩ := inQ_succ hq
   by_cases hy : y < 2 ^ lv
   ·rw [if_pos hy]
    by_cases hx : x < 2 ^ lv
    ·rw [if_pos hx, al_pre k2.wf k3.pre _ _ _ _ ((k0.is.pre k1.pre).pre k2.pre), al_pre k1.wf k2.pre _ _ _ _ (k0.is.pre k1.pre), al_pre k0.wf k1.pre _ _ _ _ k0.is, s0 _ _ (q0 hy hx)]
     exact decide_eq_decide.2 (mem_part hb (q0 hy hx)).1
    ·rw [if_neg hx, al_pre k2.wf k3.pre _ _ _ _ (k1.is.pre k2.pre), al_pre k1.wf k2.pre _ _ _ _ k1.is, s1 _ _ (q1 hy hx)]
     have := (mem_part hb (q1 hy hx)).2.1
     rw [show x - 2 ^ lv + 2 ^ lv = x by omega] at this
     exact decide_eq_decide.2 this
   ·rw [if_neg hy]
    by_cases hx : x < 2 ^ lv
    ·rw [if_pos hx, al_pre k2.wf k3.pre _ _ _ _ k2.is, s2 _ _ (q2 hy hx)]
     have := (mem_part hb (q2 hy hx)).2.2.1
     rw [show y - 2 ^ lv + 2 ^ lv = y by omega] at this
     exact decide_eq_decide.2 this
    ·rw [if_neg hx, s3 _ _ (q3 hy hx)]
     have := (mem_part hb (q3 hy hx)).2.2.2
     rw [show y - 2 ^ lv + 2 ^ lv = y by omega, show x - 2 ^ lv + 2 ^ lv = x by omega] at this
     exact decide_eq_decide.2 this
theorem side_succ (lv : Nat) : side ((lv + 1 : Nat) : Int) = 2 ^ lv := by
 unfold side
 have : (((lv + 1 : Nat) : Int) - 1).toNat = lv := by omega
 rw [this]
/-- What 'make' comes to. -/
theorem make_ok {ns : List Node} {room : Int} {l : List Cell} {lv : Nat} {L : Nat} (hL : L ≤ 42) (hlv : lv + 1 ≤ L) (h : R6.right ns room) (hl : R1.right l) (hb : ∀ c ∈ l, inL ((lv + 1 : Nat) : Int) c) (hr : ((ns.length + E ns L + l.length * (lv + 1) : Nat) : Int) ≤ room) :
  ∃ ms m, make ns room l ((lv + 1 : Nat) : Int) = (ms, m, 0) ∧ Mk ns L (l.length * (lv + 1)) (lv + 1) ms m ∧ ∀ c : Cell, inL ((lv + 1 : Nat) : Int) c → al ms (lv + 1) m (c.x + 2 ^ lv) (c.y + 2 ^ lv) = decide (c ∈ l) := by
 have hw := (right_iff.1 h).2
 have hs := side_succ lv
 have hp := p2pos lv
 have hcb : ∀ c ∈ corner (side ((lv + 1 : Nat) : Int)) l, inQ (lv + 1) c.x c.y := fun c hc => by
  obtain ⟨d, hd, rfl⟩ := List.mem_map.1 hc
  have := hb d hd
  unfold inL at this
  rw [hs] at this
  unfold inQ
  rw [p2s, hs]
  simp only
  omega
 obtain ⟨ms, m, e, ok, sem⟩ := build_ok (room := room) hL (lv + 1) ns (corner (side ((lv + 1 : Nat) : Int)) l) hlv hw hcb (by unfold corner; rw [List.length_map]; exact hr)
 have hlen : (corner (side ((lv + 1 : Nat) : Int)) l).length = l.length := by unfold corner; rw [List.length_map]
 rw [hlen] at ok
 refine ⟨ms, m, ?_, ok, fun c hc => ?_⟩
 ·unfold make
  rw [if_pos ⟨h, by omega, by omega, hl⟩, if_pos (fun i hi => ?_)]
  ·have e3 : ((lv + 1 : Nat) : Int).toNat = lv + 1 := by omega
   rw [e3, e]
   simp
  ·have e4 : R1.g l i = l[i] := by simp [R1.g, hi]
   rw [e4]; exact hb _ (List.getElem_mem hi)
 ·unfold inL at hc
  rw [hs] at hc
  rw [sem _ _ (by unfold inQ; rw [p2s]; omega)]
  refine decide_eq_decide.2 ?_
  unfold corner
  rw [List.mem_map, hs]
  constructor
  ·rintro ⟨d, hd, e⟩
   have : d = c := by cases d; cases c; simp only [Cell.mk.injEq] at *; omega
   rwa [this] at hd
  ·intro hc
   exact ⟨c, hc, rfl⟩
/-- What 'of' tells. -/
theorem mem_of {ns : List Node} (h : Wf ns) {lv : Nat} {n : Int} (hn : IsN ns (lv + 1) n) (c : Cell) : c ∈ of ns n ↔ inL ((lv + 1 : Nat) : Int) c ∧ al ns (lv + 1) n (c.x + 2 ^ lv) (c.y + 2 ^ lv) = true := by
 unfold of
 have hs := side_succ lv
 have e3 : ((lv + 1 : Nat) : Int).toNat = lv + 1 := by omega
 rw [hn.2, e3, mem_flat h _ _ _ _ hn, hs]
 simp only
 rw [show c.x - -2 ^ lv = c.x + 2 ^ lv by omega, show c.y - -2 ^ lv = c.y + 2 ^ lv by omega]
 unfold inQ inL
 rw [hs, p2s]
 constructor
 ·rintro ⟨q, k⟩; exact ⟨by omega, k⟩
 ·rintro ⟨q, k⟩; exact ⟨by omega, k⟩
end R7
end Go.GL


set_option linter.unusedVariables false
namespace Go.GL
open R6 R7
/-! ### What the laws' squares are -/
namespace RL
theorem new_wf : Wf [n0, n1] := ⟨by decide, rfl, rfl, fun i hi h2 => absurd hi (by simp; omega)⟩
theorem putRaw_ok {rm : Int} (h2 : 2 ≤ rm) (h3 : rm ≤ 100000) {ns : List Node} (h : Wf ns) (hl : (ns.length : Int) ≤ rm) (r : Five) : Wf (putRaw rm ns r) ∧ ((putRaw rm ns r).length : Int) ≤ rm ∧ ns <+: putRaw rm ns r := by
 unfold putRaw intern
 rw [if_pos (right_iff.2 ⟨⟨h2, h3, hl⟩, h⟩)]
 exact ⟨(put_wf h _ _ _ _ _).1, put_room hl _ _ _ _, (put_wf h _ _ _ _ _).2⟩
theorem foldl_ok {rm : Int} (h2 : 2 ≤ rm) (h3 : rm ≤ 100000) : ∀ (l : List Five) (ns : List Node), Wf ns → (ns.length : Int) ≤ rm → Wf (l.foldl (putRaw rm) ns) ∧ ((l.foldl (putRaw rm) ns).length : Int) ≤ rm
 | [], ns, h, hl => ⟨h, hl⟩
 | r :: l, ns, h, hl => by
  obtain ⟨a, b, _⟩ := putRaw_ok h2 h3 h hl r
  exact foldl_ok h2 h3 l _ a b
theorem store_ok {rm : Int} (h2 : 2 ≤ rm) (h3 : rm ≤ 100000) (l : List Five) : Wf (store rm l) ∧ ((store rm l).length : Int) ≤ rm := foldl_ok h2 h3 _ _ new_wf (by simpa using h2)
theorem cell16_bd (r : Cell) : -8 ≤ (cell16 r).x ∧ (cell16 r).x < 8 ∧ -8 ≤ (cell16 r).y ∧ (cell16 r).y < 8 := by
 have a := pk_bd (c := r.x) (n := 16) (by omega)
 have b := pk_bd (c := r.y) (n := 16) (by omega)
 unfold cell16
 simp only
 omega
theorem mem_set {raw : List Cell} {c : Cell} (h : c ∈ set raw) : -8 ≤ c.x ∧ c.x < 8 ∧ -8 ≤ c.y ∧ c.y < 8 := by
 unfold set at h
 rw [R1.mem_puts] at h
 obtain ⟨r, _, rfl⟩ := List.mem_map.1 h
 exact cell16_bd r
theorem set_le (raw : List Cell) : (set raw).length ≤ 60 := by
 have key : ∀ (l acc : List Cell), (l.foldl R1.put acc).length ≤ acc.length + l.length := by
  intro l
  induction l with
  | nil => intro acc; simp
  | cons c l ih =>
   intro acc
   have h1 := ih (R1.put acc c)
   have h2 := R1.put_len acc c
   simp only [List.foldl_cons, List.length_cons]
   omega
 have := key ((raw.take 60).map cell16) []
 rw [List.length_map, List.length_take] at this
 unfold set R1.puts
 simp only [List.length_nil] at this
 omega
theorem set_right (raw : List Cell) : R1.right (set raw) := R1.right_of (R1.puts_srt _) (fun c hc => by have := mem_set hc; unfold R1.inB; omega) (by have := set_le raw; omega)
theorem p8 {lv : Nat} (h : 3 ≤ lv) : (8:Int) ≤ 2 ^ lv := by
 have h2 : (2:Nat) ^ 3 ≤ 2 ^ lv := Nat.pow_le_pow_right (by omega) h
 have h3 : (2:Int) ^ lv = ((2 ^ lv : Nat) : Int) := by simp
 rw [h3]; omega
/-- The raw square: a node of the set's cells. -/
structure Sq (c : Int) (nodes : List Five) (raw : List Cell) (level : Int) (lv : Nat) (ms : List Node) (m : Int) : Prop where
 lv3 : 3 ≤ lv ∧ lv ≤ 6
 lve : ((lv + 1 : Nat) : Int) = 4 + pk level 4
 eq : square c nodes raw level = (ms, m, 0)
 wf : Wf ms
 is : IsN ms (lv + 1) m
 len : (ms.length : Int) ≤ room c + 427
 pre : store (room c) nodes <+: ms
 sem : ∀ d : Cell, inL ((lv + 1 : Nat) : Int) d → al ms (lv + 1) m (d.x + 2 ^ lv) (d.y + 2 ^ lv) = decide (d ∈ set raw)
theorem square_ok (c : Int) (nodes : List Five) (raw : List Cell) (level : Int) : ∃ lv ms m, Sq c nodes raw level lv ms m := by
 have hrm := room_bd c
 have hpk := pk_bd (c := level) (n := 4) (by omega)
 obtain ⟨hw, hl⟩ := store_ok (rm := room c) (by omega) (by omega) nodes
 obtain ⟨lv, hlv⟩ : ∃ lv : Nat, ((lv + 1 : Nat) : Int) = 4 + pk level 4 := ⟨(3 + pk level 4).toNat, by omega⟩
 have hs := side_succ lv
 have h8 := p8 (lv := lv) (by omega)
 have hlen := set_le raw
 have hE := E_le (store (room c) nodes) 7
 have hmul : (set raw).length * (lv + 1) ≤ 60 * 7 := Nat.mul_le_mul hlen (by omega)
 obtain ⟨ms, m, e, ok, sem⟩ := make_ok (room := room c + 500) (L := 7) (lv := lv) (by omega) (by omega) (right_iff.2 ⟨⟨by omega, by omega, by omega⟩, hw⟩) (set_right raw) (fun d hd => by have := mem_set hd; unfold inL; rw [hs]; omega) (by omega)
 refine ⟨lv, ms, m, ⟨by omega, hlv, ?_, ok.wf, ok.is, ?_, ok.pre, sem⟩⟩
 ·unfold square; rw [← hlv]; exact e
 ·have := ok.len; omega
end RL
/-! ### Sixteen and nine -/
namespace R8
/-- A square of the sixteen. -/
def sqK (l : List Int) (y x : Int) : List Int := [g l (4 * y + x), g l (4 * y + x + 1), g l (4 * y + x + 4), g l (4 * y + x + 5)]
/-- A node that is a square of the sixteen. -/
structure IsSq (ms : List Node) (lv : Nat) (l : List Int) (y x m : Int) : Prop where
 is : IsN ms (lv + 1) m
 kids : (nd ms m).kids = sqK l y x
theorem IsSq.pre {ns ms : List Node} (hp : ns <+: ms) {lv : Nat} {l : List Int} {y x m : Int} (h : IsSq ns lv l y x m) : IsSq ms lv l y x m := ⟨h.is.pre hp, by rw [nd_pre hp h.is.1]; exact h.kids⟩
/-- Nine squares. -/
structure Nine9 (ns : List Node) (room : Int) (lv : Nat) (l : List Int) (ms : List Node) (q0 q1 q2 q3 q4 q5 q6 q7 q8 : Int) : Prop where
 wf : Wf ms
 pre : ns <+: ms
 len : ms.length ≤ ns.length + 9
 s0 : IsSq ms lv l 0 0 q0
 s1 : IsSq ms lv l 0 1 q1
 s2 : IsSq ms lv l 0 2 q2
 s3 : IsSq ms lv l 1 0 q3
 s4 : IsSq ms lv l 1 1 q4
 s5 : IsSq ms lv l 1 2 q5
 s6 : IsSq ms lv l 2 0 q6
 s7 : IsSq ms lv l 2 1 q7
 s8 : IsSq ms lv l 2 2 q8
end R8
end Go.GL


set_option linter.unusedVariables false
namespace Go.GL
open R6 R7
namespace R8
theorem IsSq.k {ms : List Node} {lv : Nat} {l : List Int} {y x m : Int} (h : IsSq ms lv l y x m) : (nd ms m).k0 = g l (4 * y + x) ∧ (nd ms m).k1 = g l (4 * y + x + 1) ∧ (nd ms m).k2 = g l (4 * y + x + 4) ∧ (nd ms m).k3 = g l (4 * y + x + 5) := by
 have := h.kids
 unfold Node.kids sqK at this
 simpa using this
end R8
namespace RL
open R8
theorem sq_right {c : Int} {nodes : List Five} {raw : List Cell} {level : Int} {lv : Nat} {ms : List Node} {m : Int} (h : Sq c nodes raw level lv ms m) {k : Int} (hk : 0 ≤ k ∧ k ≤ 1000) : R6.right ms (room c + 500 + k) := by
 have := room_bd c
 have := h.len
 exact right_iff.2 ⟨⟨by omega, by omega, by omega⟩, h.wf⟩
end RL
end Go.GL

