/- Part 4: contracts of the functions that the law reaches: each answers as its model does. No condition beyond those that each theorem states. -/
import Derived.Test.YtcplhihffeociaaPart3
set_option linter.unusedVariables false
namespace Go.GL
open Go.Proofs
attribute [local irreducible] wpList Code.wp Exit.then Exit.inBlock Ends Tri TriH OpV OpG FnC epf wpAnyH
variable {A : List Asrt} {I : List Chunk}
/-- Deques, each a slice that is only read. -/
structure Dqs (I : List Chunk) (ss : List Sl) (D : List (List Int)) : Prop where
 len : ss.length = D.length
 at_ : ∀ k, k < D.length → StA I (ss.getD k default).a (ss.getD k default).cap (D.getD k default) ∧ (ss.getD k default).len = (D.getD k default).length
theorem Dqs.mono {I J : List Chunk} {ss : List Sl} {D : List (List Int)} (h : Dqs I ss D) (hI : I ⊆ J) : Dqs J ss D := ⟨h.len, fun k hk => ⟨(h.at_ k hk).1.mono hI, (h.at_ k hk).2⟩⟩
theorem getD_set8 {α : Type} [Inhabited α] {l : List α} {i j : Nat} {v : α} (hi : i < l.length) : (l.set i v).getD j default = if j = i then v else l.getD j default := by
 rw [List.getD_eq_getElem?_getD, List.getElem?_set, List.getD_eq_getElem?_getD]
 by_cases h : i = j
 ·subst h
  simp [hi]
 ·rw [if_neg h, if_neg (by omega)]
theorem Dqs.set {I : List Chunk} {ss : List Sl} {D : List (List Int)} (h : Dqs I ss D) {k : Nat} {s : Sl} {l : List Int} (hs : StA I s.a s.cap l) (hl : s.len = l.length) : Dqs I (ss.set k s) (D.set k l) := by
 refine ⟨by rw [List.length_set, List.length_set, h.len], fun j hj => ?_⟩
 rw [List.length_set] at hj
 by_cases hk : k < D.length
 ·rw [getD_set8 (by have := h.len; omega), getD_set8 hk]
  split
  ·exact ⟨hs, hl⟩
  ·exact h.at_ j hj
 ·rw [List.set_eq_of_length_le (by have := h.len; omega), List.set_eq_of_length_le (by omega)]
  exact h.at_ j hj
/-- What of the document's state lies at places that change. -/
structure Hr where
 a : Option Addr
 cap : Nat
 at_ : Option Addr
 ct : Nat
 ss : List Sl
 ak : Option Addr
 ck : Nat
abbrev RsA (bc bq W : Nat) (room : Int) (h : Hr) (s : R21.Ms) (e : Int) (A : List Asrt) : List Asrt :=
 Box bc [.slice h.a s.ns.length h.cap, .int .i64 room, .slice h.at_ s.ts.length h.ct, .slice (some ⟨bq, 0, none⟩) W W, .slice h.ak s.kp.length h.ck, .int .i64 e, .bool s.done, .int .i64 s.node] 95 :: Row h.at_ h.ct s.ts.length 91 15 (encs s.ts) :: Row (some ⟨bq, 0, none⟩) W W 27 1 (encs h.ss) :: Row h.ak h.ck s.kp.length 122 3 (encs s.kp) :: A
structure RsOk (I : List Chunk) (h : Hr) (s : R21.Ms) : Prop where
 ns : StA I h.a h.cap s.ns
 dq : Dqs I h.ss s.D
theorem RsOk.mono {I J : List Chunk} {h : Hr} {s : R21.Ms} (k : RsOk I h s) (hI : I ⊆ J) : RsOk J h s := ⟨k.ns.mono hI, k.dq.mono hI⟩
/-- What a function of the state leaves behind. -/
def RsR (bc bq W : Nat) (room : Int) (s : R21.Ms) (A : List Asrt) (I : List Chunk) : Value → List Asrt → List Chunk → Prop :=
 fun v A' I' => ∃ h', A' = RsA bc bq W room h' s 0 A ∧ RsOk I' h' s ∧ I ⊆ I'
theorem permP {x d b t : Asrt} {A : List Asrt} : (x :: d :: b :: t :: A).Perm (x :: b :: t :: d :: A) := List.Perm.cons _ (List.perm_middle (l₁ := [b, t])).symm
namespace R21
def toldV (kp : R9.Memo) (n j : Int) : Int := match R9.look9 kp n j with
 | some x => x
 | none => -1
theorem look_drop {mm : R9.Memo} {i : Nat} (hi : i < mm.length) (n j : Int) : R9.look9 (mm.drop i) n j = if (mm.getD i default).1 = n ∧ (mm.getD i default).2.1 = j then some (mm.getD i default).2.2 else R9.look9 (mm.drop (i + 1)) n j := by
 rw [List.drop_eq_getElem_cons hi, show mm.getD i default = mm[i] by simp [hi]]
 rfl
end R21
set_option maxHeartbeats 2000000 in
set_option maxRecDepth 100000 in
theorem ref21_told {bc bq W : Nat} {room e n j : Int} {h : Hr} {s : R21.Ms} (hk : s.kp.length ≤ 100000000) :
  FnC Try.prog 53 [pt bc 0, .int .i64 n, .int .i64 j].toArray (RsA bc bq W room h s e A) I (fun v A' I' => v = .int .i64 (R21.toldV s.kp n j) ∧ A' = RsA bc bq W room h s e A ∧ I = I') := by
 skip
 refine fn_enter3 Try.func53 rfl Try.ntmps53 rfl fun w0 => ?_
 refine tS (tR (tA rfl rfl (tN (tT (tS (tS (tR ?_)))))))
 refine tA rfl rfl (tN (tT (tri_block ?_)))
 refine tri_sub (F' := [(0, pt bc 0), (1, .int .i64 n), (2, .int .i64 j), (7, .int .i64 (0 : Nat))]) ⟨rfl, rfl, rfl, rfl, trivial⟩ ?_
 refine loop_ind (G := Nat) (fun i => s.kp.length - i) (fun i => i ≤ s.kp.length ∧ R9.look9 s.kp n j = R9.look9 (s.kp.drop i) n j) (fun i => [(0, pt bc 0), (1, .int .i64 n), (2, .int .i64 j), (7, .int .i64 (i : Nat))]) (fun _ => _) (fun _ => I) ?_ 0 ⟨by omega, rfl⟩
 rintro i ⟨hi, hlo⟩ K hK
 skip
 refine tS (tS (tR (tM rfl rfl (tM rfl rfl ?_))))
 refine tri_v (opv_nilCheck rfl) rfl ?_
 refine tri_v (opv_fieldAddr rfl rfl) rfl ?_
 refine tri_v (opv_load1 rfl rfl rfl) rfl ?_
 refine tri_v (opv_len rfl) rfl ?_
 refine tri_v (opv_lss rfl rfl) rfl ?_
 refine tN (tT ?_)
 refine tri_cond_dec rfl (fun h2 => ?_) (fun h2 => ?_)
 ·have hlt : i < s.kp.length := by omega
  rw [R21.look_drop hlt] at hlo
  refine tri_skip (tT (tS (tri_block (tS (tR (tM rfl rfl ?_))))))
  refine tri_v (opv_nilCheck rfl) rfl ?_
  refine tri_v (opv_fieldAddr rfl rfl) rfl ?_
  refine tri_v (opv_load1 rfl rfl rfl) rfl ?_
  refine tM rfl rfl ?_
  refine tri_v (opv_indexAddrRN rfl rfl (by omega)) rfl ?_
  refine tri_v (opv_fieldAddrR rfl (by omega) rfl) rfl ?_
  refine tri_v (opv_loadRX1 rfl rfl (by omega) rfl rfl) rfl ?_
  refine tM rfl rfl ?_
  refine tri_v (opv_eql rfl rfl) rfl ?_
  refine tM rfl rfl ?_
  refine tri_split rfl rfl (fun h3 => ?_) (fun h3 => ?_)
  ·refine tri_guard_run rfl rfl rfl (tM rfl rfl (tri_guard_run rfl rfl rfl ?_))
   refine tri_v (opv_nilCheck rfl) rfl ?_
   refine tri_guard_run rfl rfl rfl ?_
   refine tri_v (opv_fieldAddr rfl rfl) rfl ?_
   refine tri_guard_run rfl rfl rfl ?_
   refine tri_v (opv_load1 rfl rfl rfl) rfl ?_
   refine tri_guard_run rfl rfl rfl (tM rfl rfl (tri_guard_run rfl rfl rfl ?_))
   refine tri_v (opv_indexAddrRN rfl rfl (by omega)) rfl ?_
   refine tri_guard_run rfl rfl rfl ?_
   refine tri_v (opv_fieldAddrR rfl (by omega) rfl) rfl ?_
   refine tri_guard_run rfl rfl rfl ?_
   refine tri_v (opv_loadRX1 rfl rfl (by omega) rfl rfl) rfl ?_
   refine tri_guard_run rfl rfl rfl (tM rfl rfl (tri_guard_run rfl rfl rfl ?_))
   refine tri_v (opv_eql rfl rfl) rfl ?_
   refine tri_v (opv_pick_t rfl rfl) rfl ?_
   refine tN (tT ?_)
   refine tri_cond_dec rfl (fun h4 => ?_) (fun h4 => ?_)
   ·rw [if_pos ⟨h3, h4⟩] at hlo
    have ev : R21.toldV s.kp n j = (s.kp.getD i default).2.2 := by unfold R21.toldV; rw [hlo]
    rw [ev]
    refine tS (tR (tM rfl rfl ?_))
    refine tri_v (opv_nilCheck rfl) rfl ?_
    refine tri_v (opv_fieldAddr rfl rfl) rfl ?_
    refine tri_v (opv_load1 rfl rfl rfl) rfl ?_
    refine tM rfl rfl ?_
    refine tri_v (opv_indexAddrRN rfl rfl (by omega)) rfl ?_
    refine tri_v (opv_fieldAddrR rfl (by omega) rfl) rfl ?_
    refine tri_v (opv_loadRX1 rfl rfl (by omega) rfl rfl) rfl ?_
    refine tA rfl rfl (tN (tT (tri_ret ?_)))
    refine tri_inBlock_ret ?_
    refine tri_then_ret (tri_then_ret ?_)
    refine tri_inBlock_ret ?_
    refine tri_then_ret ?_
    refine tri_end _ (⟨[], rfl⟩) rfl (.cons (rv_tmp rfl) .nil) ⟨rfl, rfl, rfl⟩
   ·rw [if_neg (fun x => h4 x.2)] at hlo
    refine tri_skip ?_
    refine tri_inBlock ?_
    refine tT (tR (tM rfl rfl ?_))
    refine tU rfl rfl (by omega) (by omega) rfl ?_
    refine tA rfl rfl (tN (tT ?_))
    refine tri_sub ?_ (hK (i + 1) ⟨by omega, hlo⟩ (by omega))
    exact ⟨rfl, rfl, rfl, rfl, trivial⟩
  ·rw [if_neg (fun x => h3 x.1)] at hlo
   refine tri_guard_skip rfl rfl rfl rfl (tri_guard_skip rfl rfl rfl rfl (tri_guard_skip rfl rfl rfl rfl (tri_guard_skip rfl rfl rfl rfl (tri_guard_skip rfl rfl rfl rfl (tri_guard_skip rfl rfl rfl rfl (tri_guard_skip rfl rfl rfl rfl (tri_guard_skip rfl rfl rfl rfl ?_)))))))
   refine tri_guard_skip rfl rfl rfl rfl (tri_guard_skip rfl rfl rfl rfl ?_)
   refine tri_v (opv_pick_f rfl rfl) rfl ?_
   refine tN (tT ?_)
   refine tri_cond_false rfl ?_
   refine tri_skip ?_
   refine tri_inBlock ?_
   refine tT (tR (tM rfl rfl ?_))
   refine tU rfl rfl (by omega) (by omega) rfl ?_
   refine tA rfl rfl (tN (tT ?_))
   refine tri_sub ?_ (hK (i + 1) ⟨by omega, hlo⟩ (by omega))
   exact ⟨rfl, rfl, rfl, rfl, trivial⟩
 ·rw [List.drop_of_length_le (by omega)] at hlo
  have ev : R21.toldV s.kp n j = -1 := by unfold R21.toldV; rw [hlo]; rfl
  rw [ev]
  refine tri_exit ?_
  refine tri_then_exit ?_
  refine tri_then_exit ?_
  refine tri_inBlock_hit rfl ?_
  refine tT (tS (tR (tA rfl rfl (tN (tT (tri_ret ?_))))))
  refine tri_end _ (⟨[], rfl⟩) rfl (.cons (rv_tmp rfl) .nil) ⟨rfl, rfl, rfl⟩
set_option maxHeartbeats 2000000 in
set_option maxRecDepth 100000 in
theorem ref21_push {bc bq w W : Nat} {room t : Int} {h : Hr} {s : R21.Ms} (hW : s.D.length = W) (ok : RsOk I h s) (hw : w < W) (hb : (s.D.getD w default).length ≤ 1000000000) :
  FnC Try.prog 58 [pt bc 0, .int .i64 (w : Nat), .int .i64 t].toArray (RsA bc bq W room h s 0 A) I (RsR bc bq W room { s with D := R21.push s.D w t } A I) := by
 have hsl := ok.dq.len
 obtain ⟨hs, hl⟩ := ok.dq.at_ ((w : Nat) : Int).toNat (by omega)
 have hb : (s.D.getD ((w : Nat) : Int).toNat default).length ≤ 1000000000 := hb
 skip
 skip
 skip
 refine fn_enter3 Try.func58 rfl Try.ntmps58 rfl fun w0 => ?_
 refine tri_nilRow (E := 3) (sz := 1) ?_
 refine tri_perm (A := ?a1_0 :: ?a1_1 :: ?a1_2 :: ?a1_3 :: ?a1_4 :: ?T1) (B := ?a1_0 :: ?a1_3 :: ?a1_1 :: ?a1_2 :: ?a1_4 :: ?T1) (by exact permL [0, 3, 1, 2, 4] [?a1_0, ?a1_1, ?a1_2, ?a1_3, ?a1_4] ?T1 (by decide) rfl) ?_
 skip
 refine tri_cut (fun F' A' J => ∃ (a3 : Option Addr) (c3 : Nat), F' = [(0, pt bc 0)] ∧ A'.Perm (Row a3 c3 (0 + (h.ss.getD ((w : Nat) : Int).toNat default).len + 1) 3 1 ([] ++ encs (s.D.getD ((w : Nat) : Int).toNat default) ++ [.int .i64 t]) :: RsA bc bq W room { h with ss := h.ss.set ((w : Nat) : Int).toNat (⟨a3, 0 + (h.ss.getD ((w : Nat) : Int).toNat default).len + 1, c3⟩ : Sl) } s 0 A) ∧ J = I) ?_ ?_
 ·refine tri_draw [0, 1, 2, 3, 4, 5, 6, 7, 8, 9, 10, 13, 11, 12, 14, 15, 16, 17] rfl [_, _] rfl mixed ?_
  refine th_take rfl rfl (by kernel_rfl)  (opv_move rfl) ?_
  refine th_take rfl rfl (by kernel_rfl)  (opv_nilCheck rfl) ?_
  refine th_take rfl rfl (by kernel_rfl)  (opv_fieldAddr rfl rfl) ?_
  refine th_take rfl rfl (by kernel_rfl)  (opv_load1 rfl rfl rfl) ?_
  refine th_take rfl rfl (by kernel_rfl)  (opv_move rfl) ?_
  refine th_take rfl rfl (by kernel_rfl)  (opv_move rfl) ?_
  refine th_take rfl rfl (by kernel_rfl)  (opv_nilCheck rfl) ?_
  refine th_take rfl rfl (by kernel_rfl)  (opv_fieldAddr rfl rfl) ?_
  refine th_take rfl rfl (by kernel_rfl)  (opv_load1 rfl rfl rfl) ?_
  refine th_take rfl rfl (by kernel_rfl)  (opv_move rfl) ?_
  refine th_take rfl rfl (by kernel_rfl)  (opv_indexAddrSP rfl rfl (by omega) (by omega)) ?_
  refine th_take rfl rfl (by kernel_rfl)  (opv_move rfl) ?_
  refine th_two (j := 14) [11, 12, 15, 16, 17] (by kernel_rfl) rfl ?_ ?_
  ·refine (step_m rfl rfl (OpV.toG (opv_loadRX1 rfl rfl (by omega) rfl rfl)) ?_)
   rintro _ _ _ ⟨rfl, rfl, rfl⟩
   refine ⟨Suf.h, (fun _ h => h), ?_⟩
   refine th_two (j := 14) [12, 15, 16, 17] (by kernel_rfl) rfl ?_ ?_
   ·refine (step_m rfl rfl (opg_appendS rfl rfl hs.sl hl rfl (by omega) rfl) ?_)
    rintro _ _ _ ⟨a2, c2, rfl, rfl, rfl⟩
    refine ⟨Suf.h, (fun _ h => h), ?_⟩
    refine th_one (by kernel_rfl) (step_m rfl rfl (opg_buildSlice rfl rfl rfl rfl) ?_)
    rintro _ _ _ ⟨b20, rfl, rfl, rfl⟩
    refine ⟨Suf.h, (fun _ h => h), ?_⟩
    refine th_one (by kernel_rfl) (step_m rfl rfl (opg_appendB rfl rfl rfl rfl (by omega) rfl) ?_)
    rintro _ _ _ ⟨a3, c3, rfl, rfl, rfl⟩
    refine ⟨Suf.h, (fun _ h => h), ?_⟩
    refine th_take rfl rfl (by kernel_rfl)  (opv_indexAddrSP rfl rfl (by omega) (by omega)) ?_
    refine th_one (by kernel_rfl) (step_m rfl rfl (opg_storeRX (⟨a3, 0 + (h.ss.getD ((w : Nat) : Int).toNat default).len + 1, c3⟩ : Sl) rfl rfl rfl (by omega) (by omega) rfl rfl rfl rfl) ?_)
    rintro _ _ _ ⟨rfl, rfl⟩
    refine ⟨Suf.h, (fun _ h => h), ?_⟩
    refine th_done (by kernel_rfl) ?_
    refine tri_drop ?_
    refine tri_cutEnd _ ⟨a3, c3, rfl, permP, rfl⟩ ⟨rfl, trivial⟩
   ·refine (step_m rfl rfl (opg_buildSlice rfl rfl rfl rfl) ?_)
    rintro _ _ _ ⟨b20, rfl, rfl, rfl⟩
    refine ⟨Suf.h, (fun _ h => h), ?_⟩
    refine th_one (by kernel_rfl) (step_m rfl rfl (opg_appendS rfl rfl hs.sl hl rfl (by omega) rfl) ?_)
    rintro _ _ _ ⟨a2, c2, rfl, rfl, rfl⟩
    refine ⟨Suf.h, (fun _ h => h), ?_⟩
    refine th_one (by kernel_rfl) (step_m rfl rfl (opg_appendB rfl rfl rfl rfl (by omega) rfl) ?_)
    rintro _ _ _ ⟨a3, c3, rfl, rfl, rfl⟩
    refine ⟨Suf.h, (fun _ h => h), ?_⟩
    refine th_take rfl rfl (by kernel_rfl)  (opv_indexAddrSP rfl rfl (by omega) (by omega)) ?_
    refine th_one (by kernel_rfl) (step_m rfl rfl (opg_storeRX (⟨a3, 0 + (h.ss.getD ((w : Nat) : Int).toNat default).len + 1, c3⟩ : Sl) rfl rfl rfl (by omega) (by omega) rfl rfl rfl rfl) ?_)
    rintro _ _ _ ⟨rfl, rfl⟩
    refine ⟨Suf.h, (fun _ h => h), ?_⟩
    refine th_done (by kernel_rfl) ?_
    refine tri_drop ?_
    refine tri_cutEnd _ ⟨a3, c3, rfl, permP, rfl⟩ ⟨rfl, trivial⟩
  ·refine (step_m rfl rfl (opg_buildSlice rfl rfl rfl rfl) ?_)
   rintro _ _ _ ⟨b20, rfl, rfl, rfl⟩
   refine ⟨Suf.h, (fun _ h => h), ?_⟩
   refine th_one (by kernel_rfl) (step_m rfl rfl (OpV.toG (opv_loadRX1 rfl rfl (by omega) rfl rfl)) ?_)
   rintro _ _ _ ⟨rfl, rfl, rfl⟩
   refine ⟨Suf.h, (fun _ h => h), ?_⟩
   refine th_one (by kernel_rfl) (step_m rfl rfl (opg_appendS rfl rfl hs.sl hl rfl (by omega) rfl) ?_)
   rintro _ _ _ ⟨a2, c2, rfl, rfl, rfl⟩
   refine ⟨Suf.h, (fun _ h => h), ?_⟩
   refine th_one (by kernel_rfl) (step_m rfl rfl (opg_appendB rfl rfl rfl rfl (by omega) rfl) ?_)
   rintro _ _ _ ⟨a3, c3, rfl, rfl, rfl⟩
   refine ⟨Suf.h, (fun _ h => h), ?_⟩
   refine th_take rfl rfl (by kernel_rfl)  (opv_indexAddrSP rfl rfl (by omega) (by omega)) ?_
   refine th_one (by kernel_rfl) (step_m rfl rfl (opg_storeRX (⟨a3, 0 + (h.ss.getD ((w : Nat) : Int).toNat default).len + 1, c3⟩ : Sl) rfl rfl rfl (by omega) (by omega) rfl rfl rfl rfl) ?_)
   rintro _ _ _ ⟨rfl, rfl⟩
   refine ⟨Suf.h, (fun _ h => h), ?_⟩
   refine th_done (by kernel_rfl) ?_
   refine tri_drop ?_
   refine tri_cutEnd _ ⟨a3, c3, rfl, permP, rfl⟩ ⟨rfl, trivial⟩
 rintro _ _ _ ⟨a3, c3, rfl, hA, rfl⟩
 refine tri_perm hA ?_
 have el : 0 + (h.ss.getD ((w : Nat) : Int).toNat default).len + 1 = (s.D.getD ((w : Nat) : Int).toNat default ++ [t]).length := by rw [List.length_append, List.length_singleton, hl]; omega
 have ec : [] ++ encs (s.D.getD ((w : Nat) : Int).toNat default) ++ [.int .i64 t] = encs (s.D.getD ((w : Nat) : Int).toNat default ++ [t]) := by rw [encs_append]; rfl
 rw [el, ec]
 refine tri_freezeRowC (xs := s.D.getD ((w : Nat) : Int).toNat default ++ [t]) rfl fun J hJ h9 => ?_
 skip
 refine tri_end_n _ ⟨[], rfl⟩ rfl .nil ⟨_, rfl, ⟨ok.ns.mono hJ, (ok.dq.mono hJ).set (k := ((w : Nat) : Int).toNat) (s := ⟨a3, (s.D.getD ((w : Nat) : Int).toNat default ++ [t]).length, c3⟩) h9 rfl⟩, hJ⟩
end Go.GL


set_option linter.unusedVariables false
namespace Go.GL
open Go.Proofs
attribute [local irreducible] wpList Code.wp Exit.then Exit.inBlock Ends Tri TriH OpV OpG FnC epf wpAnyH
variable {A : List Asrt} {I : List Chunk}
/-- What put tells and leaves behind. -/
def RsPut (bc bq W : Nat) (room : Int) (s : R21.Ms) (r : List Node × Int × Int) (A : List Asrt) (I : List Chunk) : Value → List Asrt → List Chunk → Prop :=
 fun v A' I' => ∃ h' ns' m, v = .int .i64 m ∧ A' = RsA bc bq W room h' { s with ns := ns' } r.2.2 A ∧ RsOk I' h' { s with ns := ns' } ∧ (r.2.2 = 0 → ns' = r.1 ∧ m = r.2.1) ∧ I ⊆ I'
set_option maxHeartbeats 1000000 in
set_option maxRecDepth 100000 in
theorem ref21_put {bc bq W : Nat} {room e q0 q1 q2 q3 : Int} {h : Hr} {s : R21.Ms} {r : List Node × Int × Int} (ok : RsOk I h s) (h0 : e = 0 → R6.Good s.ns room ∧ R6.put s.ns room q0 q1 q2 q3 = r) (h1 : e ≠ 0 → r.2.2 = e) :
  FnC Try.prog 36 [pt bc 0, int4V q0 q1 q2 q3].toArray (RsA bc bq W room h s e A) I (RsPut bc bq W room s r A I) := by
 skip
 skip
 skip
 refine fn_enter2 Try.func36 rfl Try.ntmps36 rfl fun w0 => ?_
 refine tS (tR ?_)
 refine tri_g (opg_box_agg rfl) rfl ?_
 rintro _ _ _ ⟨b3, rfl, rfl, rfl⟩
 refine tA rfl rfl (tN (tT (tS (tS (tR (tM rfl rfl ?_))))))
 refine tri_v (opv_nilCheck rfl) rfl ?_
 refine tri_v (opv_fieldAddr rfl rfl) rfl ?_
 refine tri_v (opv_load1 rfl rfl rfl) rfl ?_
 refine tri_v (opv_neq rfl rfl) rfl ?_
 refine tN (tT ?_)
 refine tri_cond_dec rfl (fun he => ?_) (fun he => ?_)
 ·refine tS (tR (tA rfl rfl (tN (tT (tri_ret (tri_then_ret ?_))))))
  refine tri_end (RsA bc bq W room h s e A) Suf.h rfl (.cons (rv_tmp rfl) .nil) ⟨h, s.ns, 0, rfl, by rw [h1 he], ok, fun x => absurd (by rw [← h1 he]; exact x) he, fun _ h => h⟩
 refine tri_skip (tT (tS ?_))
 refine tri_draw [0, 1, 2, 3, 4, 5, 6, 7, 8, 9, 10, 11, 12, 13] rfl [] rfl mixed ?_
 refine th_take rfl rfl (by kernel_rfl)  (opv_move rfl) ?_
 refine th_take rfl rfl (by kernel_rfl)  (opv_nilCheck rfl) ?_
 refine th_take rfl rfl (by kernel_rfl)  (opv_fieldAddr rfl rfl) ?_
 refine th_take rfl rfl (by kernel_rfl)  (opv_loadA rfl rfl rfl) ?_
 refine th_take rfl rfl (by kernel_rfl)  (opv_loadA rfl rfl rfl) ?_
 obtain ⟨hg, hr⟩ := h0 (Decidable.not_not.1 he)
 have hs := ok.ns
 refine th_two (j := 10) [5, 6, 7, 8, 9, 11, 12, 13] (by kernel_rfl) rfl ?_ ?_
 ·refine (step_m rfl rfl (opg_call (xs := [_, _]) rfl (ref06_putSq hs hg hr)) ?_)
  rintro _ _ I2 ⟨a2, c2, rfl, hs2, rfl, hI⟩
  refine ⟨Suf.h, (by assumption), ?_⟩
  refine th_take rfl rfl (by kernel_rfl)  (opv_move rfl) ?_
  refine th_take rfl rfl (by kernel_rfl)  (opv_extract rfl rfl) ?_
  refine th_take rfl rfl (by kernel_rfl)  (opv_extract rfl rfl) ?_
  refine th_take rfl rfl (by kernel_rfl)  (opv_extract rfl rfl) ?_
  refine th_one (by kernel_rfl) (step_m rfl rfl opg_alloc ?_)
  rintro _ _ _ ⟨b5, rfl, rfl, rfl⟩
  refine ⟨Suf.h, (by assumption), ?_⟩
  refine th_one (by kernel_rfl) (step_m rfl rfl (opg_store rfl rfl rfl rfl rfl rfl) ?_)
  rintro _ _ _ ⟨rfl, rfl⟩
  refine ⟨Suf.h, (by assumption), ?_⟩
  refine th_take rfl rfl (by kernel_rfl)  (opv_assign rfl) ?_
  refine th_take rfl rfl (by kernel_rfl)  (opv_assign rfl) ?_
  refine th_done (by kernel_rfl) ?_
  refine tT (tS (tR (tM rfl rfl ?_)))
  refine tri_v (opv_loadA rfl rfl rfl) rfl ?_
  refine tri_v (opv_nilCheck rfl) rfl ?_
  refine tri_v (opv_fieldAddr rfl rfl) rfl ?_
  refine tri_g (opg_store rfl rfl rfl rfl rfl rfl) rfl ?_
  rintro _ _ _ ⟨rfl, rfl⟩
  refine tN (tT (tS (tR (tM rfl rfl (tM rfl rfl ?_)))))
  refine tri_v (opv_nilCheck rfl) rfl ?_
  refine tri_v (opv_fieldAddr rfl rfl) rfl ?_
  refine tri_g (opg_store rfl rfl rfl rfl rfl rfl) rfl ?_
  rintro _ _ _ ⟨rfl, rfl⟩
  refine tN (tT (tS (tR (tM rfl rfl (tA rfl rfl (tN (tT ?_)))))))
  refine tri_ret ?_
  refine tri_end (RsA bc bq W room { h with a := a2, cap := c2 } { s with ns := r.1 } r.2.2 A) Suf.h rfl (.cons (rv_tmp rfl) .nil) ⟨{ h with a := a2, cap := c2 }, r.1, r.2.1, rfl, rfl, ⟨hs2, ok.dq.mono hI⟩, fun x => ⟨rfl, rfl⟩, hI⟩
 ·refine (step_m rfl rfl opg_alloc ?_)
  rintro _ _ _ ⟨b5, rfl, rfl, rfl⟩
  refine ⟨Suf.h, (fun _ h => h), ?_⟩
  refine th_one (by kernel_rfl) (step_m rfl rfl (opg_call (xs := [_, _]) rfl (ref06_putSq hs hg hr)) ?_)
  rintro _ _ I2 ⟨a2, c2, rfl, hs2, rfl, hI⟩
  refine ⟨Suf.h, (by assumption), ?_⟩
  refine th_take rfl rfl (by kernel_rfl)  (opv_move rfl) ?_
  refine th_take rfl rfl (by kernel_rfl)  (opv_extract rfl rfl) ?_
  refine th_take rfl rfl (by kernel_rfl)  (opv_extract rfl rfl) ?_
  refine th_take rfl rfl (by kernel_rfl)  (opv_extract rfl rfl) ?_
  refine th_one (by kernel_rfl) (step_m rfl rfl (opg_store rfl rfl rfl rfl rfl rfl) ?_)
  rintro _ _ _ ⟨rfl, rfl⟩
  refine ⟨Suf.h, (by assumption), ?_⟩
  refine th_take rfl rfl (by kernel_rfl)  (opv_assign rfl) ?_
  refine th_take rfl rfl (by kernel_rfl)  (opv_assign rfl) ?_
  refine th_done (by kernel_rfl) ?_
  refine tT (tS (tR (tM rfl rfl ?_)))
  refine tri_v (opv_loadA rfl rfl rfl) rfl ?_
  refine tri_v (opv_nilCheck rfl) rfl ?_
  refine tri_v (opv_fieldAddr rfl rfl) rfl ?_
  refine tri_g (opg_store rfl rfl rfl rfl rfl rfl) rfl ?_
  rintro _ _ _ ⟨rfl, rfl⟩
  refine tN (tT (tS (tR (tM rfl rfl (tM rfl rfl ?_)))))
  refine tri_v (opv_nilCheck rfl) rfl ?_
  refine tri_v (opv_fieldAddr rfl rfl) rfl ?_
  refine tri_g (opg_store rfl rfl rfl rfl rfl rfl) rfl ?_
  rintro _ _ _ ⟨rfl, rfl⟩
  refine tN (tT (tS (tR (tM rfl rfl (tA rfl rfl (tN (tT ?_)))))))
  refine tri_ret ?_
  refine tri_end (RsA bc bq W room { h with a := a2, cap := c2 } { s with ns := r.1 } r.2.2 A) Suf.h rfl (.cons (rv_tmp rfl) .nil) ⟨{ h with a := a2, cap := c2 }, r.1, r.2.1, rfl, rfl, ⟨hs2, ok.dq.mono hI⟩, fun x => ⟨rfl, rfl⟩, hI⟩
theorem ref21_pushR {bc bq w W : Nat} {room t : Int} {h : Hr} {s s' : R21.Ms} (hW : s.D.length = W) (ok : RsOk I h s) (hw : w < W) (hb : (s.D.getD w default).length ≤ 1000000000) (hs' : { s with D := R21.push s.D w t } = s') :
  FnC Try.prog 58 [pt bc 0, .int .i64 (w : Nat), .int .i64 t].toArray (RsA bc bq W room h s 0 A) I (RsR bc bq W room s' A I) := by
 subst hs'
 exact ref21_push hW ok hw hb
set_option maxHeartbeats 1000000 in
set_option maxRecDepth 100000 in
theorem ref21_part {bc bq w i W : Nat} {room k n j : Int} {h : Hr} {s : R21.Ms} (hW : s.D.length = W) (ok : RsOk I h s) (hw : w < W) (hb : (s.D.getD w default).length ≤ 1000000000) (hn : s.ts.length ≤ 1000000000) :
  FnC Try.prog 56 [pt bc 0, .int .i64 (i : Nat), .int .i64 k, .int .i64 n, .int .i64 j, .int .i64 (w : Nat)].toArray (RsA bc bq W room h s 0 A) I (RsR bc bq W room (R21.add s w (R21.tk0 n j i k)) A I) := by
 skip
 refine fn_enter6 Try.func56 rfl Try.ntmps56 rfl fun w0 => ?_
 refine tS (tR (tM rfl rfl (tM rfl rfl ?_)))
 refine tri_v (opv_nilCheck rfl) rfl ?_
 refine tri_v (opv_fieldAddr rfl rfl) rfl ?_
 refine tri_v (opv_load1 rfl rfl rfl) rfl ?_
 refine tM rfl rfl (tM rfl rfl (tM rfl rfl (tM rfl rfl ?_)))
 refine tri_v (opv_buildS rfl rfl) rfl ?_
 refine tri_g (opg_buildSlice rfl rfl rfl rfl) rfl ?_
 rintro _ _ _ ⟨b22, rfl, rfl, rfl⟩
 refine tri_g (opg_appendB rfl rfl rfl rfl (by omega) rfl) rfl ?_
 rintro _ _ _ ⟨a4, c4, rfl, rfl, rfl⟩
 refine tri_v (opv_nilCheck rfl) rfl ?_
 refine tri_v (opv_fieldAddr rfl rfl) rfl ?_
 refine tri_g (opg_store rfl rfl rfl rfl rfl rfl) rfl ?_
 rintro _ _ _ ⟨rfl, rfl⟩
 refine tN (tT (tR (tM rfl rfl (tM rfl rfl (tM rfl rfl ?_)))))
 refine tri_v (opv_nilCheck rfl) rfl ?_
 refine tri_v (opv_fieldAddr rfl rfl) rfl ?_
 refine tri_v (opv_load1 rfl rfl rfl) rfl ?_
 refine tri_v (opv_len rfl) rfl ?_
 refine tri_v (opv_sub rfl rfl (w64 (by omega) (by omega))) rfl ?_
 refine tri_drop ?_
 refine tri_perm (A := ?a1_0 :: ?a1_1 :: ?a1_2 :: ?a1_3 :: ?T1) (B := ?a1_1 :: ?a1_0 :: ?a1_2 :: ?a1_3 :: ?T1) (by exact permL [1, 0, 2, 3] [?a1_0, ?a1_1, ?a1_2, ?a1_3] ?T1 (by decide) rfl) ?_
 refine tri_rowEq (len' := (s.ts ++ [R21.tk0 n j i k]).length) (cells' := encs (s.ts ++ [R21.tk0 n j i k])) (by simp) (by rw [encs_append]; rfl) ?_
 refine tri_perm (A := ?a2_0 :: ?a2_1 :: ?a2_2 :: ?a2_3 :: ?T2) (B := ?a2_1 :: ?a2_0 :: ?a2_2 :: ?a2_3 :: ?T2) (by exact permL [1, 0, 2, 3] [?a2_0, ?a2_1, ?a2_2, ?a2_3] ?T2 (by decide) rfl) ?_
 have el : s.ts.length + 1 = (s.ts ++ [R21.tk0 n j i k]).length := by simp
 rw [el]
 have et : (s.ts ++ [R21.tk0 n j i k]).length ≤ 1000000001 := by simp; omega
 skip
 have ew : (((s.ts ++ [R21.tk0 n j i k]).length : Nat) : Int) - 1 = s.ts.length := by rw [← el]; omega
 rw [ew]
 refine tri_g (opg_call (xs := [_, _, _]) rfl (ref21_pushR (h := { h with at_ := a4, ct := c4 }) (s := { s with ts := s.ts ++ [R21.tk0 n j i k] }) (s' := R21.add s w (R21.tk0 n j i k)) hW ⟨ok.ns, ok.dq⟩ hw hb rfl)) rfl ?_
 rintro _ _ I2 ⟨h', rfl, ok', hI⟩
 refine tN ?_
 refine tri_end_n _ ⟨[], rfl⟩ rfl .nil ⟨h', rfl, ok', hI⟩
theorem ref21_partR {bc bq w i W : Nat} {room k n j : Int} {h : Hr} {s s' : R21.Ms} (hW : s.D.length = W) (ok : RsOk I h s) (hw : w < W) (hb : (s.D.getD w default).length ≤ 1000000000) (hn : s.ts.length ≤ 1000000000) (hs' : R21.add s w (R21.tk0 n j i k) = s') :
  FnC Try.prog 56 [pt bc 0, .int .i64 (i : Nat), .int .i64 k, .int .i64 n, .int .i64 j, .int .i64 (w : Nat)].toArray (RsA bc bq W room h s 0 A) I (RsR bc bq W room s' A I) := by
 subst hs'
 exact ref21_part hW ok hw hb hn
end Go.GL


set_option linter.unusedVariables false
namespace Go.GL
open Go.Proofs
attribute [local irreducible] wpList Code.wp Exit.then Exit.inBlock Ends Tri TriH OpV OpG FnC epf wpAnyH
variable {A : List Asrt} {I : List Chunk}
set_option maxHeartbeats 2000000 in
set_option maxRecDepth 100000 in
theorem ref21_take {bc bq w W : Nat} {room : Int} {h : Hr} {s : R21.Ms} (hWD : s.D.length = W) (ok : RsOk I h s) (hn : s.D.length ≤ 1000) (hw : w < s.D.length) (hb : ∀ k, k < s.D.length → (s.D.getD k default).length ≤ 100000000) :
  FnC Try.prog 33 [pt bc 0, .int .i64 (w : Nat)].toArray (RsA bc bq W room h s 0 A) I
   (fun v A' I' => v = .int .i64 (R19.takeM s.D w).1 ∧ ∃ h', A' = RsA bc bq W room h' { s with D := (R19.takeM s.D w).2 } 0 A ∧ RsOk I' h' { s with D := (R19.takeM s.D w).2 } ∧ I ⊆ I') := by
 obtain ⟨ns, ts, D, kp, node, done⟩ := s
 obtain ⟨ha, hcap, hat, hct, ss, hak, hck⟩ := h
 obtain ⟨hst, hd⟩ := ok
 simp only at hWD hn hw hb hst hd ⊢
 subst hWD
 have hsl := hd.len
 obtain ⟨hs, hl⟩ := hd.at_ w hw
 have hbw := hb w hw
 skip
 skip
 skip
 refine fn_enter2 Try.func33 rfl Try.ntmps33 rfl fun w0 => ?_
 unfold RsA
 simp only
 refine tri_perm (A := ?a1_0 :: ?a1_1 :: ?a1_2 :: ?a1_3 :: ?T1) (B := ?a1_2 :: ?a1_0 :: ?a1_1 :: ?a1_3 :: ?T1) (by exact permL [2, 0, 1, 3] [?a1_0, ?a1_1, ?a1_2, ?a1_3] ?T1 (by decide) rfl) ?_
 refine tS (tR (tA rfl rfl (tN (tT (tS (tR (tM rfl rfl ?_)))))))
 refine tri_v (opv_nilCheck rfl) rfl ?_
 refine tri_v (opv_fieldAddr rfl rfl) rfl ?_
 refine tri_v (opv_load1 rfl rfl rfl) rfl ?_
 refine tM rfl rfl ?_
 refine tri_v (opv_indexAddrRN rfl rfl (by omega)) rfl ?_
 refine tri_v (opv_loadRX1 rfl rfl (by omega) rfl rfl) rfl ?_
 refine tA rfl rfl (tN (tT (tS (tS (tR (tM rfl rfl ?_))))))
 refine tri_v (opv_len rfl) rfl ?_
 refine tri_v (opv_gtr rfl rfl) rfl ?_
 refine tN (tT ?_)
 rw [hl]
 refine tri_cond_dec rfl (fun h => ?_) (fun h => ?_)
 ·have em : R19.takeM D w = ((D.getD w default).getD ((D.getD w default).length - 1) default, D.set w ((D.getD w default).take ((D.getD w default).length - 1))) := if_pos (by omega)
  rw [em]
  have sc := hs.sl
  have e1 : (((D.getD w default).length : Int) - 1).toNat = (D.getD w default).length - 1 := by omega
  skip
  skip
  skip
  refine tS ?_
  refine tri_draw [0, 1, 2, 3, 4, 5, 6, 7, 8, 9, 10, 11] rfl [_] rfl mixed ?_
  refine th_take rfl rfl (by kernel_rfl)  (opv_move rfl) ?_
  refine th_take rfl rfl (by kernel_rfl)  (opv_nilCheck rfl) ?_
  refine th_take rfl rfl (by kernel_rfl)  (opv_fieldAddr rfl rfl) ?_
  refine th_take rfl rfl (by kernel_rfl)  (opv_load1 rfl rfl rfl) ?_
  refine th_take rfl rfl (by kernel_rfl)  (opv_move rfl) ?_
  refine th_take rfl rfl (by kernel_rfl)  (opv_move rfl) ?_
  refine th_take rfl rfl (by kernel_rfl)  (opv_move rfl) ?_
  refine th_take rfl rfl (by kernel_rfl)  (opv_len rfl) ?_
  refine th_take rfl rfl (by kernel_rfl)  (opv_sub rfl rfl (w64 (by omega) (by omega))) ?_
  refine th_take rfl rfl (by kernel_rfl)  (opv_sliceHi rfl rfl (by omega) (by omega) hs rfl) ?_
  refine th_take rfl rfl (by kernel_rfl)  (opv_indexAddrSP rfl rfl (by omega) (by omega)) ?_
  rw [e1]
  refine th_one (by kernel_rfl) (step_m rfl rfl (opg_storeRX (⟨(ss.getD w default).a, ((D.getD w default).take ((D.getD w default).length - 1)).length, (ss.getD w default).cap⟩ : Sl) rfl rfl rfl (by omega) (by omega) rfl rfl rfl rfl) ?_)
  rintro _ _ _ ⟨rfl, rfl⟩
  refine ⟨Suf.h, (fun _ h => h), ?_⟩
  refine th_done (by kernel_rfl) ?_
  refine tT (tS (tR (tM rfl rfl (tM rfl rfl ?_))))
  refine tri_v (opv_len rfl) rfl ?_
  refine tri_v (opv_sub rfl rfl (w64 (by omega) (by omega))) rfl ?_
  refine tri_v (opv_indexAddrS rfl rfl (by omega) (by omega) (by assumption) rfl) rfl ?_
  refine tri_v (opv_loadE1 rfl (by assumption) rfl (by omega) rfl rfl) rfl ?_
  refine tA rfl rfl (tN (tT (tri_ret (tri_then_ret ?_))))
  try rw [e1]
  refine tri_perm (A := ?a2_0 :: ?a2_1 :: ?a2_2 :: ?a2_3 :: ?T2) (B := ?a2_1 :: ?a2_2 :: ?a2_0 :: ?a2_3 :: ?T2) (by exact permL [1, 2, 0, 3] [?a2_0, ?a2_1, ?a2_2, ?a2_3] ?T2 (by decide) rfl) ?_
  refine tri_end _ (⟨[], rfl⟩) rfl (.cons (rv_tmp rfl) .nil) ⟨rfl, ⟨ha, hcap, hat, hct, _, hak, hck⟩, rfl, ⟨hst, hd.set (s := ⟨(ss.getD w default).a, ((D.getD w default).take ((D.getD w default).length - 1)).length, (ss.getD w default).cap⟩) ?_ rfl⟩, fun _ h => h⟩
  exact ⟨hs.sl.take _, Nat.le_trans (by rw [List.length_take]; exact Nat.min_le_right _ _) hs.le⟩
 ·have em : R19.takeM D w = match R19.findF D w D.length 0 with
    | some k => ((D.getD k default).getD 0 default, D.set k ((D.getD k default).drop 1))
    | none => (-1, D) := if_neg (by omega)
  rw [em]
  have hf0 : R19.findF D w D.length 0 = R19.findF D w (D.length - 1) 1 := by
   obtain ⟨m, hm⟩ : ∃ m, D.length = m + 1 := ⟨D.length - 1, by omega⟩
   rw [show R19.findF D w D.length 0 = R19.findF D w (m + 1) 0 by rw [hm], show D.length - 1 = m by omega]
   show (if (D.getD ((w + 0) % D.length) default).length = 0 then _ else _) = _
   rw [if_pos]
   rw [Nat.add_zero, Nat.mod_eq_of_lt hw]
   omega
  skip
  skip
  refine tri_skip (tT (tS (tS (tR (tA rfl rfl (tN (tT ?_)))))))
  refine tri_block ?_
  refine tri_sub (F' := [(0, pt bc 0), (1, .int .i64 (w : Int)), (6, .int .i64 ((1 : Nat) : Int))]) ⟨rfl, rfl, rfl, trivial⟩ ?_
  refine loop_ind (G := Nat) (fun i => D.length - i) (fun i => i ≤ D.length ∧ R19.findF D w D.length 0 = R19.findF D w (D.length - i) i) (fun i => [(0, pt bc 0), (1, .int .i64 (w : Int)), (6, .int .i64 (i : Nat))]) (fun _ => _) (fun _ => _) ?_ 1 ⟨by omega, hf0⟩
  rintro i ⟨hi, hf⟩ K hK
  skip
  refine tS (tS (tR (tM rfl rfl (tM rfl rfl ?_))))
  refine tri_v (opv_nilCheck rfl) rfl ?_
  refine tri_v (opv_fieldAddr rfl rfl) rfl ?_
  refine tri_v (opv_load1 rfl rfl rfl) rfl ?_
  refine tri_v (opv_len rfl) rfl ?_
  refine tri_v (opv_lss rfl rfl) rfl ?_
  refine tN (tT ?_)
  refine tri_cond_dec rfl (fun h2 => ?_) (fun h2 => ?_)
  ·have hil : i < D.length := by omega
   obtain ⟨k, ek⟩ : ∃ k, (w + i) % D.length = k := ⟨_, rfl⟩
   have hk : k < D.length := by rw [← ek]; exact Nat.mod_lt _ (by omega)
   obtain ⟨hsk, hlk⟩ := hd.at_ k hk
   have hbk := hb k hk
   have hfs : R19.findF D w (D.length - i) i = if (D.getD k default).length = 0 then R19.findF D w (D.length - (i + 1)) (i + 1) else some k := by
    rw [show D.length - i = (D.length - (i + 1)) + 1 by omega]
    show (if (D.getD ((w + i) % D.length) default).length = 0 then _ else _) = _
    rw [ek]
   refine tri_skip (tT (tS (tri_block (tS (tR (tM rfl rfl (tM rfl rfl ?_)))))))
   refine tU rfl rfl (by omega) (by omega) rfl ?_
   refine tM rfl rfl ?_
   refine tri_v (opv_nilCheck rfl) rfl ?_
   refine tri_v (opv_fieldAddr rfl rfl) rfl ?_
   refine tri_v (opv_load1 rfl rfl rfl) rfl ?_
   refine tri_v (opv_len rfl) rfl ?_
   refine tri_v (opv_remN (a := w + i) (z := k) rfl rfl (by omega) ek) rfl ?_
   refine tA rfl rfl (tN (tT (tS (tR (tM rfl rfl ?_)))))
   refine tri_v (opv_nilCheck rfl) rfl ?_
   refine tri_v (opv_fieldAddr rfl rfl) rfl ?_
   refine tri_v (opv_load1 rfl rfl rfl) rfl ?_
   refine tM rfl rfl ?_
   refine tri_v (opv_indexAddrRN rfl rfl (by omega)) rfl ?_
   refine tri_v (opv_loadRX1 rfl rfl (by omega) rfl rfl) rfl ?_
   refine tA rfl rfl (tN (tT (tS (tR (tM rfl rfl ?_)))))
   refine tri_v (opv_len rfl) rfl ?_
   refine tri_v (opv_gtr rfl rfl) rfl ?_
   refine tN (tT ?_)
   rw [hlk]
   refine tri_cond_dec rfl (fun h3 => ?_) (fun h3 => ?_)
   ·have sk := hsk.sl
    rw [hf, hfs, if_neg (by omega)]
    skip
    refine tS ?_
    refine tri_draw [0, 1, 2, 3, 4, 5, 6, 7, 8] rfl [_] rfl mixed ?_
    refine th_take rfl rfl (by kernel_rfl)  (opv_move rfl) ?_
    refine th_take rfl rfl (by kernel_rfl)  (opv_nilCheck rfl) ?_
    refine th_take rfl rfl (by kernel_rfl)  (opv_fieldAddr rfl rfl) ?_
    refine th_take rfl rfl (by kernel_rfl)  (opv_load1 rfl rfl rfl) ?_
    refine th_take rfl rfl (by kernel_rfl)  (opv_move rfl) ?_
    refine th_take rfl rfl (by kernel_rfl)  (opv_move rfl) ?_
    refine th_take rfl rfl (by kernel_rfl)  (opv_sliceLo rfl rfl (by omega) (by omega) hsk rfl) ?_
    refine th_take rfl rfl (by kernel_rfl)  (opv_indexAddrSP rfl rfl (by omega) (by omega)) ?_
    refine th_one (by kernel_rfl) (step_m rfl rfl (opg_storeRX (⟨loA (ss.getD k default).a (ss.getD k default).cap 1 1, ((D.getD k default).drop 1).length, (ss.getD k default).cap - 1⟩ : Sl) rfl rfl rfl (by omega) (by omega) rfl rfl rfl rfl) ?_)
    rintro _ _ _ ⟨rfl, rfl⟩
    refine ⟨Suf.h, (fun _ h => h), ?_⟩
    refine th_done (by kernel_rfl) ?_
    refine tT (tS (tR (tM rfl rfl ?_)))
    refine tri_v (opv_indexAddrS rfl rfl (by omega) (by omega) (by assumption) rfl) rfl ?_
    refine tri_v (opv_loadE1 rfl (by assumption) rfl (by omega) rfl rfl) rfl ?_
    refine tA rfl rfl (tN (tT (tri_ret ?_)))
    refine tri_inBlock_ret ?_
    refine tri_then_ret (tri_then_ret ?_)
    refine tri_inBlock_ret ?_
    refine tri_then_ret ?_
    refine tri_perm (A := ?a3_0 :: ?a3_1 :: ?a3_2 :: ?a3_3 :: ?T3) (B := ?a3_1 :: ?a3_2 :: ?a3_0 :: ?a3_3 :: ?T3) (by exact permL [1, 2, 0, 3] [?a3_0, ?a3_1, ?a3_2, ?a3_3] ?T3 (by decide) rfl) ?_
    refine tri_end _ (⟨[], rfl⟩) rfl (.cons (rv_tmp rfl) .nil) ⟨rfl, ⟨ha, hcap, hat, hct, _, hak, hck⟩, rfl, ⟨hst, hd.set (s := ⟨loA (ss.getD k default).a (ss.getD k default).cap 1 1, ((D.getD k default).drop 1).length, (ss.getD k default).cap - 1⟩) ?_ rfl⟩, fun _ h => h⟩
    exact hsk.lo (by omega) rfl
   ·refine tri_skip ?_
    refine tri_inBlock ?_
    refine tT (tR (tM rfl rfl ?_))
    refine tU rfl rfl (by omega) (by omega) rfl ?_
    refine tA rfl rfl (tN (tT ?_))
    refine tri_sub ?_ (hK (i + 1) ⟨by omega, by rw [hf, hfs, if_pos (by omega)]⟩ (by omega))
    exact ⟨rfl, rfl, rfl, trivial⟩
  ·have ei : D.length - i = 0 := by omega
   rw [hf, ei]
   refine tri_exit ?_
   refine tri_then_exit ?_
   refine tri_then_exit ?_
   refine tri_inBlock_hit rfl ?_
   refine tT (tS (tR (tA rfl rfl (tN (tT (tri_ret ?_))))))
   refine tri_perm (A := ?a4_0 :: ?a4_1 :: ?a4_2 :: ?a4_3 :: ?T4) (B := ?a4_1 :: ?a4_2 :: ?a4_0 :: ?a4_3 :: ?T4) (by exact permL [1, 2, 0, 3] [?a4_0, ?a4_1, ?a4_2, ?a4_3] ?T4 (by decide) rfl) ?_
   refine tri_end _ (⟨[], rfl⟩) rfl (.cons (rv_tmp rfl) .nil) ⟨rfl, ⟨ha, hcap, hat, hct, ss, hak, hck⟩, rfl, ⟨hst, hd⟩, fun _ h => h⟩
end Go.GL


set_option linter.unusedVariables false
namespace Go.GL
open Go.Proofs
attribute [local irreducible] wpList Code.wp Exit.then Exit.inBlock Ends Tri TriH OpV OpG FnC epf wpAnyH
theorem clone_nodes {A : List Asrt} {I : List Chunk} {ns : List Node} {a : Option Addr} {cap : Nat} (hs : SlAt I a ns) (hn : ns.length ≤ 1000000000) (h0 : 0 < ns.length) :
  FnC Try.prog 66 [.slice a ns.length cap].toArray A I (fun v A' I' => ∃ a' cap', v = .slice a' ns.length cap' ∧ A' = Row a' cap' ns.length 43 6 (encs ns) :: A ∧ I = I') := by
 have hsome := hs.some h0
 have hnone : a.isNone = false := by cases a <;> simp_all
 skip
 refine fn_enter1 Try.func66 rfl Try.ntmps66 rfl fun w0 => ?_
 refine tS (tR (tA rfl rfl (tN (tT (tS (tS (tR ?_)))))))
 refine tM rfl rfl ?_
 refine tri_v (opv_eqlNil rfl rfl) rfl ?_
 refine tN (tT ?_)
 refine tri_cond_false (congrArg some (congrArg Value.bool hnone)) ?_
 refine tri_skip (tT (tS (tR ?_)))
 refine tri_g (opg_buildSlice rfl rfl rfl rfl) rfl ?_
 rintro _ _ _ ⟨b5, rfl, rfl, rfl⟩
 refine tM rfl rfl ?_
 refine tri_boxRow (k := 0) (sz := 6) rfl ?_
 refine tri_g (opg_appendS rfl rfl hs rfl rfl (by omega) rfl) rfl ?_
 rintro _ _ _ ⟨a2, cap2, rfl, rfl, rfl⟩
 refine tA rfl rfl (tN (tT (tri_ret ?_)))
 refine tri_rowEq (len' := ns.length) (cells' := encs ns) (by omega) rfl ?_
 refine tri_end _ (⟨[], rfl⟩) rfl (.cons (rv_tmp rfl) .nil) ⟨a2, cap2, ?_, rfl, rfl⟩
 rw [Nat.zero_add]; rfl
set_option maxHeartbeats 1000000 in
set_option maxRecDepth 100000 in
theorem node_parent {A : List Asrt} {I : List Chunk} {ns : List Node} {a : Option Addr} {cap bx : Nat} {room q0 q1 q2 q3 : Int} {mv : Value} (hn : ns.length ≤ 1000000000) (hm : R6.Mod ns) :
  FnC Try.prog 67 [pt bx 0, int4V q0 q1 q2 q3].toArray (Box bx [.slice a ns.length cap, .int .i64 room, mv] 87 :: Row a cap ns.length 43 6 (encs ns) :: A) I (fun v A' I' => (∃ z ok, v = .tuple [nodeV z, .bool ok].toArray ∧ (ok = true ↔ R6.fit4 ns q0 q1 q2 q3) ∧ (ok = true → z = R6.mk4 ns q0 q1 q2 q3)) ∧ A' = (Box bx [.slice a ns.length cap, .int .i64 room, mv] 87 :: Row a cap ns.length 43 6 (encs ns) :: A) ∧ I = I') := by
 have bad : ∀ z, ¬ R6.fit4 ns q0 q1 q2 q3 → ∃ z' ok, Value.tuple [nodeV z, .bool false].toArray = .tuple [nodeV z', .bool ok].toArray ∧ (ok = true ↔ R6.fit4 ns q0 q1 q2 q3) ∧ (ok = true → z' = R6.mk4 ns q0 q1 q2 q3) :=
  fun z h => ⟨z, false, rfl, ⟨fun h2 => absurd h2 (by decide), fun h2 => absurd h2 h⟩, fun h2 => absurd h2 (by decide)⟩
 skip
 refine fn_enter2 Try.func67 rfl Try.ntmps67 rfl fun w0 => ?_
 refine tS (tR ?_)
 refine tri_g (opg_box_agg rfl) rfl ?_
 rintro _ _ _ ⟨b3, rfl, rfl, rfl⟩
 refine tri_g opg_alloc rfl ?_
 rintro _ _ _ ⟨b4, rfl, rfl, rfl⟩
 refine tA rfl rfl (tN (tT (tS (tS (tR ?_)))))
 refine tri_v (opv_loadA rfl rfl rfl) rfl ?_
 refine tM rfl rfl (tN (tT (tri_block ?_)))
 refine tri_rounds 5 ?_
 refine tri_round ?_
 refine tS (tR ?_)
 refine tri_v (opv_lss rfl rfl) rfl ?_
 refine tN (tT (tS ?_))
 refine tri_cond_is rfl (by decide) ?_
 refine tri_skip (tT (tS (tri_block (tS (tR (tM rfl rfl ?_))))))
 refine tri_v (opv_index rfl rfl (by decide) (by decide) rfl rfl) rfl ?_
 refine tA rfl rfl (tA rfl rfl (tN (tT (tS (tS (tR (tM rfl rfl ?_)))))))
 refine tri_v (opv_lss rfl rfl) rfl ?_
 refine tM rfl rfl ?_
 refine tri_split rfl rfl (fun h0a => ?_) (fun h0a => ?_)
 ·refine tri_guard_skip rfl rfl rfl rfl (tri_guard_skip rfl rfl rfl rfl (tri_guard_skip rfl rfl rfl rfl (tri_guard_skip rfl rfl rfl rfl (tri_guard_skip rfl rfl rfl rfl (tri_guard_skip rfl rfl rfl rfl (tri_guard_skip rfl rfl rfl rfl (tri_guard_skip rfl rfl rfl rfl ?_)))))))
  refine tri_v (opv_pick_t rfl rfl) rfl ?_
  refine tN (tT ?_)
  refine tri_cond_true rfl ?_
  refine tS (tR ?_)
  refine tri_v (opv_loadA rfl rfl rfl) rfl ?_
  refine tri_g (opg_store rfl rfl rfl rfl rfl rfl) rfl ?_
  rintro _ _ _ ⟨rfl, rfl⟩
  refine tA rfl rfl (tN (tT (tri_ret (tri_then_ret ?_))))
  refine tri_inBlock_ret ?_
  refine tri_then_ret (tri_then_ret ?_)
  refine tri_inBlock_ret ?_
  refine tri_then_ret ?_
  refine tri_end _ (⟨[_, _], rfl⟩) rfl (.cons (rv_cellA rfl rfl rfl) (.cons (rv_tmp rfl) .nil)) ⟨bad ⟨_, _, _, _, _, _⟩ ?_, rfl, rfl⟩
  unfold R6.fit4 R6.inS; omega
 refine tri_guard_run rfl rfl rfl (tM rfl rfl (tri_guard_run rfl rfl rfl (tM rfl rfl (tri_guard_run rfl rfl rfl ?_))))
 refine tri_v (opv_nilCheck rfl) rfl ?_
 refine tri_guard_run rfl rfl rfl ?_
 refine tri_v (opv_fieldAddr rfl rfl) rfl ?_
 refine tri_guard_run rfl rfl rfl ?_
 refine tri_v (opv_fieldAddr rfl rfl) rfl ?_
 refine tri_guard_run rfl rfl rfl ?_
 refine tri_v (opv_load1 rfl rfl rfl) rfl ?_
 refine tri_guard_run rfl rfl rfl ?_
 refine tri_v (opv_len rfl) rfl ?_
 refine tri_guard_run rfl rfl rfl ?_
 refine tri_v (opv_geq rfl rfl) rfl ?_
 refine tri_v (opv_pick_f rfl rfl) rfl ?_
 refine tN (tT ?_)
 refine tri_cond_dec rfl (fun h0b => ?_) (fun h0b => ?_)
 ·refine tS (tR ?_)
  refine tri_v (opv_loadA rfl rfl rfl) rfl ?_
  refine tri_g (opg_store rfl rfl rfl rfl rfl rfl) rfl ?_
  rintro _ _ _ ⟨rfl, rfl⟩
  refine tA rfl rfl (tN (tT (tri_ret (tri_then_ret ?_))))
  refine tri_inBlock_ret ?_
  refine tri_then_ret (tri_then_ret ?_)
  refine tri_inBlock_ret ?_
  refine tri_then_ret ?_
  refine tri_end _ (⟨[_, _], rfl⟩) rfl (.cons (rv_cellA rfl rfl rfl) (.cons (rv_tmp rfl) .nil)) ⟨bad ⟨_, _, _, _, _, _⟩ ?_, rfl, rfl⟩
  unfold R6.fit4 R6.inS; omega
 have b0 := hm.at h0a h0b
 refine tri_skip (tT (tS (tR (tM rfl rfl ?_))))
 refine tri_v (opv_nilCheck rfl) rfl ?_
 refine tri_v (opv_fieldAddr rfl rfl) rfl ?_
 refine tri_v (opv_fieldAddr rfl rfl) rfl ?_
 refine tri_v (opv_load1 rfl rfl rfl) rfl ?_
 refine tM rfl rfl ?_
 refine tri_v (opv_indexAddrR rfl rfl (by omega) (by omega)) rfl ?_
 refine tri_v (opv_loadRXA rfl rfl (by omega) rfl rfl rfl) rfl ?_
 refine tri_g opg_alloc rfl ?_
 rintro _ _ _ ⟨b8, rfl, rfl, rfl⟩
 refine tri_g (opg_store rfl rfl rfl rfl rfl rfl) rfl ?_
 rintro _ _ _ ⟨rfl, rfl⟩
 refine tN (tT (tS (tS (tR (tM rfl rfl ?_)))))
 refine tri_v (opv_gtr rfl rfl) rfl ?_
 refine tM rfl rfl ?_
 refine tri_false rfl rfl (by decide) ?_
 refine tri_guard_skip rfl rfl rfl rfl (tri_guard_skip rfl rfl rfl rfl (tri_guard_skip rfl rfl rfl rfl (tri_guard_skip rfl rfl rfl rfl (tri_guard_skip rfl rfl rfl rfl (tri_guard_skip rfl rfl rfl rfl ?_)))))
 refine tri_v (opv_pick_f rfl rfl) rfl ?_
 refine tN (tT ?_)
 refine tri_cond_false rfl ?_
 refine tri_skip (tT (tS (tR ?_)))
 refine tri_v (opv_fieldAddr rfl rfl) rfl ?_
 refine tri_v (opv_load1 rfl rfl rfl) rfl ?_
 refine tU rfl rfl (by omega) (by omega) rfl ?_
 refine tri_v (opv_fieldAddr rfl rfl) rfl ?_
 refine tri_g (opg_store rfl rfl rfl rfl rfl rfl) rfl ?_
 rintro _ _ _ ⟨rfl, rfl⟩
 refine tN (tT (tR ?_))
 refine tri_v (opv_fieldAddr rfl rfl) rfl ?_
 refine tri_v (opv_load1 rfl rfl rfl) rfl ?_
 refine tri_v (opv_fieldAddr rfl rfl) rfl ?_
 refine tri_v (opv_load1 rfl rfl rfl) rfl ?_
 refine tU rfl rfl (by omega) (by omega) rfl ?_
 refine tri_v (opv_min2 rfl rfl) rfl ?_
 refine tri_v (opv_fieldAddr rfl rfl) rfl ?_
 refine tri_g (opg_store rfl rfl rfl rfl rfl rfl) rfl ?_
 rintro _ _ _ ⟨rfl, rfl⟩
 refine tN ?_
 refine tri_inBlock ?_
 refine tT (tR ?_)
 refine tU rfl rfl (by omega) (by omega) rfl ?_
 refine tM rfl rfl (tN (tT ?_))
 refine tri_round ?_
 refine tS (tR ?_)
 refine tri_v (opv_lss rfl rfl) rfl ?_
 refine tN (tT (tS ?_))
 have e0 := R6.mn_bd (x := 0 + (ns.getD q0.toNat default).pop) (by omega)
 refine tri_drop ?_
 skip
 refine tri_cond_is rfl (by decide) ?_
 refine tri_skip (tT (tS (tri_block (tS (tR (tM rfl rfl ?_))))))
 refine tri_v (opv_index rfl rfl (by decide) (by decide) rfl rfl) rfl ?_
 refine tA rfl rfl (tA rfl rfl (tN (tT (tS (tS (tR (tM rfl rfl ?_)))))))
 refine tri_v (opv_lss rfl rfl) rfl ?_
 refine tM rfl rfl ?_
 refine tri_split rfl rfl (fun h1a => ?_) (fun h1a => ?_)
 ·refine tri_guard_skip rfl rfl rfl rfl (tri_guard_skip rfl rfl rfl rfl (tri_guard_skip rfl rfl rfl rfl (tri_guard_skip rfl rfl rfl rfl (tri_guard_skip rfl rfl rfl rfl (tri_guard_skip rfl rfl rfl rfl (tri_guard_skip rfl rfl rfl rfl (tri_guard_skip rfl rfl rfl rfl ?_)))))))
  refine tri_v (opv_pick_t rfl rfl) rfl ?_
  refine tN (tT ?_)
  refine tri_cond_true rfl ?_
  refine tS (tR ?_)
  refine tri_v (opv_loadA rfl rfl rfl) rfl ?_
  refine tri_g (opg_store rfl rfl rfl rfl rfl rfl) rfl ?_
  rintro _ _ _ ⟨rfl, rfl⟩
  refine tA rfl rfl (tN (tT (tri_ret (tri_then_ret ?_))))
  refine tri_inBlock_ret ?_
  refine tri_then_ret (tri_then_ret ?_)
  refine tri_inBlock_ret ?_
  refine tri_then_ret ?_
  refine tri_end _ (⟨[_, _], rfl⟩) rfl (.cons (rv_cellA rfl rfl rfl) (.cons (rv_tmp rfl) .nil)) ⟨bad ⟨_, _, _, _, _, _⟩ ?_, rfl, rfl⟩
  unfold R6.fit4 R6.inS; omega
 refine tri_guard_run rfl rfl rfl (tM rfl rfl (tri_guard_run rfl rfl rfl (tM rfl rfl (tri_guard_run rfl rfl rfl ?_))))
 refine tri_v (opv_nilCheck rfl) rfl ?_
 refine tri_guard_run rfl rfl rfl ?_
 refine tri_v (opv_fieldAddr rfl rfl) rfl ?_
 refine tri_guard_run rfl rfl rfl ?_
 refine tri_v (opv_fieldAddr rfl rfl) rfl ?_
 refine tri_guard_run rfl rfl rfl ?_
 refine tri_v (opv_load1 rfl rfl rfl) rfl ?_
 refine tri_guard_run rfl rfl rfl ?_
 refine tri_v (opv_len rfl) rfl ?_
 refine tri_guard_run rfl rfl rfl ?_
 refine tri_v (opv_geq rfl rfl) rfl ?_
 refine tri_v (opv_pick_f rfl rfl) rfl ?_
 refine tN (tT ?_)
 refine tri_cond_dec rfl (fun h1b => ?_) (fun h1b => ?_)
 ·refine tS (tR ?_)
  refine tri_v (opv_loadA rfl rfl rfl) rfl ?_
  refine tri_g (opg_store rfl rfl rfl rfl rfl rfl) rfl ?_
  rintro _ _ _ ⟨rfl, rfl⟩
  refine tA rfl rfl (tN (tT (tri_ret (tri_then_ret ?_))))
  refine tri_inBlock_ret ?_
  refine tri_then_ret (tri_then_ret ?_)
  refine tri_inBlock_ret ?_
  refine tri_then_ret ?_
  refine tri_end _ (⟨[_, _], rfl⟩) rfl (.cons (rv_cellA rfl rfl rfl) (.cons (rv_tmp rfl) .nil)) ⟨bad ⟨_, _, _, _, _, _⟩ ?_, rfl, rfl⟩
  unfold R6.fit4 R6.inS; omega
 have b1 := hm.at h1a h1b
 refine tri_skip (tT (tS (tR (tM rfl rfl ?_))))
 refine tri_v (opv_nilCheck rfl) rfl ?_
 refine tri_v (opv_fieldAddr rfl rfl) rfl ?_
 refine tri_v (opv_fieldAddr rfl rfl) rfl ?_
 refine tri_v (opv_load1 rfl rfl rfl) rfl ?_
 refine tM rfl rfl ?_
 refine tri_v (opv_indexAddrR rfl rfl (by omega) (by omega)) rfl ?_
 refine tri_v (opv_loadRXA rfl rfl (by omega) rfl rfl rfl) rfl ?_
 refine tri_g opg_alloc rfl ?_
 rintro _ _ _ ⟨b8, rfl, rfl, rfl⟩
 refine tri_g (opg_store rfl rfl rfl rfl rfl rfl) rfl ?_
 rintro _ _ _ ⟨rfl, rfl⟩
 refine tN (tT (tS (tS (tR (tM rfl rfl ?_)))))
 refine tri_v (opv_gtr rfl rfl) rfl ?_
 refine tM rfl rfl ?_
 refine tri_true rfl rfl (by decide) ?_
 refine tri_guard_run rfl rfl rfl ?_
 refine tri_v (opv_fieldAddr rfl rfl) rfl ?_
 refine tri_guard_run rfl rfl rfl ?_
 refine tri_v (opv_load1 rfl rfl rfl) rfl ?_
 refine tri_guard_run rfl rfl rfl ?_
 refine tri_v (opv_fieldAddr rfl rfl) rfl ?_
 refine tri_guard_run rfl rfl rfl ?_
 refine tri_v (opv_load1 rfl rfl rfl) rfl ?_
 refine tri_guard_run rfl rfl rfl ?_
 refine tri_v (opv_sub rfl rfl (w64 (by omega) (by omega))) rfl ?_
 refine tri_guard_run rfl rfl rfl ?_
 refine tri_v (opv_neq rfl rfl) rfl ?_
 refine tri_v (opv_pick_t rfl rfl) rfl ?_
 refine tN (tT ?_)
 refine tri_cond_dec rfl (fun h1c => ?_) (fun h1c => ?_)
 ·refine tS (tR ?_)
  refine tri_v (opv_loadA rfl rfl rfl) rfl ?_
  refine tri_g (opg_store rfl rfl rfl rfl rfl rfl) rfl ?_
  rintro _ _ _ ⟨rfl, rfl⟩
  refine tA rfl rfl (tN (tT (tri_ret (tri_then_ret ?_))))
  refine tri_inBlock_ret ?_
  refine tri_then_ret (tri_then_ret ?_)
  refine tri_inBlock_ret ?_
  refine tri_then_ret ?_
  refine tri_end _ (⟨[_, _, _], rfl⟩) rfl (.cons (rv_cellA rfl rfl rfl) (.cons (rv_tmp rfl) .nil)) ⟨bad ⟨_, _, _, _, _, _⟩ ?_, rfl, rfl⟩
  unfold R6.fit4 R6.nd R6.inS; omega
 refine tri_skip (tT (tS (tR ?_)))
 refine tri_v (opv_fieldAddr rfl rfl) rfl ?_
 refine tri_v (opv_load1 rfl rfl rfl) rfl ?_
 refine tU rfl rfl (by omega) (by omega) rfl ?_
 refine tri_v (opv_fieldAddr rfl rfl) rfl ?_
 refine tri_g (opg_store rfl rfl rfl rfl rfl rfl) rfl ?_
 rintro _ _ _ ⟨rfl, rfl⟩
 refine tN (tT (tR ?_))
 refine tri_v (opv_fieldAddr rfl rfl) rfl ?_
 refine tri_v (opv_load1 rfl rfl rfl) rfl ?_
 refine tri_v (opv_fieldAddr rfl rfl) rfl ?_
 refine tri_v (opv_load1 rfl rfl rfl) rfl ?_
 refine tU rfl rfl (by omega) (by omega) rfl ?_
 refine tri_v (opv_min2 rfl rfl) rfl ?_
 refine tri_v (opv_fieldAddr rfl rfl) rfl ?_
 refine tri_g (opg_store rfl rfl rfl rfl rfl rfl) rfl ?_
 rintro _ _ _ ⟨rfl, rfl⟩
 refine tN ?_
 refine tri_inBlock ?_
 refine tT (tR ?_)
 refine tU rfl rfl (by omega) (by omega) rfl ?_
 refine tM rfl rfl (tN (tT ?_))
 refine tri_round ?_
 refine tS (tR ?_)
 refine tri_v (opv_lss rfl rfl) rfl ?_
 refine tN (tT (tS ?_))
 have e1 := R6.mn_bd (x := (if 4611686018427387903 < 0 + (ns.getD q0.toNat default).pop then 4611686018427387903 else 0 + (ns.getD q0.toNat default).pop) + (ns.getD q1.toNat default).pop) (by omega)
 refine tri_drop ?_
 skip
 refine tri_cond_is rfl (by decide) ?_
 refine tri_skip (tT (tS (tri_block (tS (tR (tM rfl rfl ?_))))))
 refine tri_v (opv_index rfl rfl (by decide) (by decide) rfl rfl) rfl ?_
 refine tA rfl rfl (tA rfl rfl (tN (tT (tS (tS (tR (tM rfl rfl ?_)))))))
 refine tri_v (opv_lss rfl rfl) rfl ?_
 refine tM rfl rfl ?_
 refine tri_split rfl rfl (fun h2a => ?_) (fun h2a => ?_)
 ·refine tri_guard_skip rfl rfl rfl rfl (tri_guard_skip rfl rfl rfl rfl (tri_guard_skip rfl rfl rfl rfl (tri_guard_skip rfl rfl rfl rfl (tri_guard_skip rfl rfl rfl rfl (tri_guard_skip rfl rfl rfl rfl (tri_guard_skip rfl rfl rfl rfl (tri_guard_skip rfl rfl rfl rfl ?_)))))))
  refine tri_v (opv_pick_t rfl rfl) rfl ?_
  refine tN (tT ?_)
  refine tri_cond_true rfl ?_
  refine tS (tR ?_)
  refine tri_v (opv_loadA rfl rfl rfl) rfl ?_
  refine tri_g (opg_store rfl rfl rfl rfl rfl rfl) rfl ?_
  rintro _ _ _ ⟨rfl, rfl⟩
  refine tA rfl rfl (tN (tT (tri_ret (tri_then_ret ?_))))
  refine tri_inBlock_ret ?_
  refine tri_then_ret (tri_then_ret ?_)
  refine tri_inBlock_ret ?_
  refine tri_then_ret ?_
  refine tri_end _ (⟨[_, _], rfl⟩) rfl (.cons (rv_cellA rfl rfl rfl) (.cons (rv_tmp rfl) .nil)) ⟨bad ⟨_, _, _, _, _, _⟩ ?_, rfl, rfl⟩
  unfold R6.fit4 R6.inS; omega
 refine tri_guard_run rfl rfl rfl (tM rfl rfl (tri_guard_run rfl rfl rfl (tM rfl rfl (tri_guard_run rfl rfl rfl ?_))))
 refine tri_v (opv_nilCheck rfl) rfl ?_
 refine tri_guard_run rfl rfl rfl ?_
 refine tri_v (opv_fieldAddr rfl rfl) rfl ?_
 refine tri_guard_run rfl rfl rfl ?_
 refine tri_v (opv_fieldAddr rfl rfl) rfl ?_
 refine tri_guard_run rfl rfl rfl ?_
 refine tri_v (opv_load1 rfl rfl rfl) rfl ?_
 refine tri_guard_run rfl rfl rfl ?_
 refine tri_v (opv_len rfl) rfl ?_
 refine tri_guard_run rfl rfl rfl ?_
 refine tri_v (opv_geq rfl rfl) rfl ?_
 refine tri_v (opv_pick_f rfl rfl) rfl ?_
 refine tN (tT ?_)
 refine tri_cond_dec rfl (fun h2b => ?_) (fun h2b => ?_)
 ·refine tS (tR ?_)
  refine tri_v (opv_loadA rfl rfl rfl) rfl ?_
  refine tri_g (opg_store rfl rfl rfl rfl rfl rfl) rfl ?_
  rintro _ _ _ ⟨rfl, rfl⟩
  refine tA rfl rfl (tN (tT (tri_ret (tri_then_ret ?_))))
  refine tri_inBlock_ret ?_
  refine tri_then_ret (tri_then_ret ?_)
  refine tri_inBlock_ret ?_
  refine tri_then_ret ?_
  refine tri_end _ (⟨[_, _], rfl⟩) rfl (.cons (rv_cellA rfl rfl rfl) (.cons (rv_tmp rfl) .nil)) ⟨bad ⟨_, _, _, _, _, _⟩ ?_, rfl, rfl⟩
  unfold R6.fit4 R6.inS; omega
 have b2 := hm.at h2a h2b
 refine tri_skip (tT (tS (tR (tM rfl rfl ?_))))
 refine tri_v (opv_nilCheck rfl) rfl ?_
 refine tri_v (opv_fieldAddr rfl rfl) rfl ?_
 refine tri_v (opv_fieldAddr rfl rfl) rfl ?_
 refine tri_v (opv_load1 rfl rfl rfl) rfl ?_
 refine tM rfl rfl ?_
 refine tri_v (opv_indexAddrR rfl rfl (by omega) (by omega)) rfl ?_
 refine tri_v (opv_loadRXA rfl rfl (by omega) rfl rfl rfl) rfl ?_
 refine tri_g opg_alloc rfl ?_
 rintro _ _ _ ⟨b8, rfl, rfl, rfl⟩
 refine tri_g (opg_store rfl rfl rfl rfl rfl rfl) rfl ?_
 rintro _ _ _ ⟨rfl, rfl⟩
 refine tN (tT (tS (tS (tR (tM rfl rfl ?_)))))
 refine tri_v (opv_gtr rfl rfl) rfl ?_
 refine tM rfl rfl ?_
 refine tri_true rfl rfl (by decide) ?_
 refine tri_guard_run rfl rfl rfl ?_
 refine tri_v (opv_fieldAddr rfl rfl) rfl ?_
 refine tri_guard_run rfl rfl rfl ?_
 refine tri_v (opv_load1 rfl rfl rfl) rfl ?_
 refine tri_guard_run rfl rfl rfl ?_
 refine tri_v (opv_fieldAddr rfl rfl) rfl ?_
 refine tri_guard_run rfl rfl rfl ?_
 refine tri_v (opv_load1 rfl rfl rfl) rfl ?_
 refine tri_guard_run rfl rfl rfl ?_
 refine tri_v (opv_sub rfl rfl (w64 (by omega) (by omega))) rfl ?_
 refine tri_guard_run rfl rfl rfl ?_
 refine tri_v (opv_neq rfl rfl) rfl ?_
 refine tri_v (opv_pick_t rfl rfl) rfl ?_
 refine tN (tT ?_)
 refine tri_cond_dec rfl (fun h2c => ?_) (fun h2c => ?_)
 ·refine tS (tR ?_)
  refine tri_v (opv_loadA rfl rfl rfl) rfl ?_
  refine tri_g (opg_store rfl rfl rfl rfl rfl rfl) rfl ?_
  rintro _ _ _ ⟨rfl, rfl⟩
  refine tA rfl rfl (tN (tT (tri_ret (tri_then_ret ?_))))
  refine tri_inBlock_ret ?_
  refine tri_then_ret (tri_then_ret ?_)
  refine tri_inBlock_ret ?_
  refine tri_then_ret ?_
  refine tri_end _ (⟨[_, _, _], rfl⟩) rfl (.cons (rv_cellA rfl rfl rfl) (.cons (rv_tmp rfl) .nil)) ⟨bad ⟨_, _, _, _, _, _⟩ ?_, rfl, rfl⟩
  unfold R6.fit4 R6.nd R6.inS; omega
 refine tri_skip (tT (tS (tR ?_)))
 refine tri_v (opv_fieldAddr rfl rfl) rfl ?_
 refine tri_v (opv_load1 rfl rfl rfl) rfl ?_
 refine tU rfl rfl (by omega) (by omega) rfl ?_
 refine tri_v (opv_fieldAddr rfl rfl) rfl ?_
 refine tri_g (opg_store rfl rfl rfl rfl rfl rfl) rfl ?_
 rintro _ _ _ ⟨rfl, rfl⟩
 refine tN (tT (tR ?_))
 refine tri_v (opv_fieldAddr rfl rfl) rfl ?_
 refine tri_v (opv_load1 rfl rfl rfl) rfl ?_
 refine tri_v (opv_fieldAddr rfl rfl) rfl ?_
 refine tri_v (opv_load1 rfl rfl rfl) rfl ?_
 refine tU rfl rfl (by omega) (by omega) rfl ?_
 refine tri_v (opv_min2 rfl rfl) rfl ?_
 refine tri_v (opv_fieldAddr rfl rfl) rfl ?_
 refine tri_g (opg_store rfl rfl rfl rfl rfl rfl) rfl ?_
 rintro _ _ _ ⟨rfl, rfl⟩
 refine tN ?_
 refine tri_inBlock ?_
 refine tT (tR ?_)
 refine tU rfl rfl (by omega) (by omega) rfl ?_
 refine tM rfl rfl (tN (tT ?_))
 refine tri_round ?_
 refine tS (tR ?_)
 refine tri_v (opv_lss rfl rfl) rfl ?_
 refine tN (tT (tS ?_))
 have e2 := R6.mn_bd (x := (if 4611686018427387903 < (if 4611686018427387903 < 0 + (ns.getD q0.toNat default).pop then 4611686018427387903 else 0 + (ns.getD q0.toNat default).pop) + (ns.getD q1.toNat default).pop then 4611686018427387903 else (if 4611686018427387903 < 0 + (ns.getD q0.toNat default).pop then 4611686018427387903 else 0 + (ns.getD q0.toNat default).pop) + (ns.getD q1.toNat default).pop) + (ns.getD q2.toNat default).pop) (by omega)
 refine tri_drop ?_
 skip
 refine tri_cond_is rfl (by decide) ?_
 refine tri_skip (tT (tS (tri_block (tS (tR (tM rfl rfl ?_))))))
 refine tri_v (opv_index rfl rfl (by decide) (by decide) rfl rfl) rfl ?_
 refine tA rfl rfl (tA rfl rfl (tN (tT (tS (tS (tR (tM rfl rfl ?_)))))))
 refine tri_v (opv_lss rfl rfl) rfl ?_
 refine tM rfl rfl ?_
 refine tri_split rfl rfl (fun h3a => ?_) (fun h3a => ?_)
 ·refine tri_guard_skip rfl rfl rfl rfl (tri_guard_skip rfl rfl rfl rfl (tri_guard_skip rfl rfl rfl rfl (tri_guard_skip rfl rfl rfl rfl (tri_guard_skip rfl rfl rfl rfl (tri_guard_skip rfl rfl rfl rfl (tri_guard_skip rfl rfl rfl rfl (tri_guard_skip rfl rfl rfl rfl ?_)))))))
  refine tri_v (opv_pick_t rfl rfl) rfl ?_
  refine tN (tT ?_)
  refine tri_cond_true rfl ?_
  refine tS (tR ?_)
  refine tri_v (opv_loadA rfl rfl rfl) rfl ?_
  refine tri_g (opg_store rfl rfl rfl rfl rfl rfl) rfl ?_
  rintro _ _ _ ⟨rfl, rfl⟩
  refine tA rfl rfl (tN (tT (tri_ret (tri_then_ret ?_))))
  refine tri_inBlock_ret ?_
  refine tri_then_ret (tri_then_ret ?_)
  refine tri_inBlock_ret ?_
  refine tri_then_ret ?_
  refine tri_end _ (⟨[_, _], rfl⟩) rfl (.cons (rv_cellA rfl rfl rfl) (.cons (rv_tmp rfl) .nil)) ⟨bad ⟨_, _, _, _, _, _⟩ ?_, rfl, rfl⟩
  unfold R6.fit4 R6.inS; omega
 refine tri_guard_run rfl rfl rfl (tM rfl rfl (tri_guard_run rfl rfl rfl (tM rfl rfl (tri_guard_run rfl rfl rfl ?_))))
 refine tri_v (opv_nilCheck rfl) rfl ?_
 refine tri_guard_run rfl rfl rfl ?_
 refine tri_v (opv_fieldAddr rfl rfl) rfl ?_
 refine tri_guard_run rfl rfl rfl ?_
 refine tri_v (opv_fieldAddr rfl rfl) rfl ?_
 refine tri_guard_run rfl rfl rfl ?_
 refine tri_v (opv_load1 rfl rfl rfl) rfl ?_
 refine tri_guard_run rfl rfl rfl ?_
 refine tri_v (opv_len rfl) rfl ?_
 refine tri_guard_run rfl rfl rfl ?_
 refine tri_v (opv_geq rfl rfl) rfl ?_
 refine tri_v (opv_pick_f rfl rfl) rfl ?_
 refine tN (tT ?_)
 refine tri_cond_dec rfl (fun h3b => ?_) (fun h3b => ?_)
 ·refine tS (tR ?_)
  refine tri_v (opv_loadA rfl rfl rfl) rfl ?_
  refine tri_g (opg_store rfl rfl rfl rfl rfl rfl) rfl ?_
  rintro _ _ _ ⟨rfl, rfl⟩
  refine tA rfl rfl (tN (tT (tri_ret (tri_then_ret ?_))))
  refine tri_inBlock_ret ?_
  refine tri_then_ret (tri_then_ret ?_)
  refine tri_inBlock_ret ?_
  refine tri_then_ret ?_
  refine tri_end _ (⟨[_, _], rfl⟩) rfl (.cons (rv_cellA rfl rfl rfl) (.cons (rv_tmp rfl) .nil)) ⟨bad ⟨_, _, _, _, _, _⟩ ?_, rfl, rfl⟩
  unfold R6.fit4 R6.inS; omega
 have b3 := hm.at h3a h3b
 refine tri_skip (tT (tS (tR (tM rfl rfl ?_))))
 refine tri_v (opv_nilCheck rfl) rfl ?_
 refine tri_v (opv_fieldAddr rfl rfl) rfl ?_
 refine tri_v (opv_fieldAddr rfl rfl) rfl ?_
 refine tri_v (opv_load1 rfl rfl rfl) rfl ?_
 refine tM rfl rfl ?_
 refine tri_v (opv_indexAddrR rfl rfl (by omega) (by omega)) rfl ?_
 refine tri_v (opv_loadRXA rfl rfl (by omega) rfl rfl rfl) rfl ?_
 refine tri_g opg_alloc rfl ?_
 rintro _ _ _ ⟨b8, rfl, rfl, rfl⟩
 refine tri_g (opg_store rfl rfl rfl rfl rfl rfl) rfl ?_
 rintro _ _ _ ⟨rfl, rfl⟩
 refine tN (tT (tS (tS (tR (tM rfl rfl ?_)))))
 refine tri_v (opv_gtr rfl rfl) rfl ?_
 refine tM rfl rfl ?_
 refine tri_true rfl rfl (by decide) ?_
 refine tri_guard_run rfl rfl rfl ?_
 refine tri_v (opv_fieldAddr rfl rfl) rfl ?_
 refine tri_guard_run rfl rfl rfl ?_
 refine tri_v (opv_load1 rfl rfl rfl) rfl ?_
 refine tri_guard_run rfl rfl rfl ?_
 refine tri_v (opv_fieldAddr rfl rfl) rfl ?_
 refine tri_guard_run rfl rfl rfl ?_
 refine tri_v (opv_load1 rfl rfl rfl) rfl ?_
 refine tri_guard_run rfl rfl rfl ?_
 refine tri_v (opv_sub rfl rfl (w64 (by omega) (by omega))) rfl ?_
 refine tri_guard_run rfl rfl rfl ?_
 refine tri_v (opv_neq rfl rfl) rfl ?_
 refine tri_v (opv_pick_t rfl rfl) rfl ?_
 refine tN (tT ?_)
 refine tri_cond_dec rfl (fun h3c => ?_) (fun h3c => ?_)
 ·refine tS (tR ?_)
  refine tri_v (opv_loadA rfl rfl rfl) rfl ?_
  refine tri_g (opg_store rfl rfl rfl rfl rfl rfl) rfl ?_
  rintro _ _ _ ⟨rfl, rfl⟩
  refine tA rfl rfl (tN (tT (tri_ret (tri_then_ret ?_))))
  refine tri_inBlock_ret ?_
  refine tri_then_ret (tri_then_ret ?_)
  refine tri_inBlock_ret ?_
  refine tri_then_ret ?_
  refine tri_end _ (⟨[_, _, _], rfl⟩) rfl (.cons (rv_cellA rfl rfl rfl) (.cons (rv_tmp rfl) .nil)) ⟨bad ⟨_, _, _, _, _, _⟩ ?_, rfl, rfl⟩
  unfold R6.fit4 R6.nd R6.inS; omega
 refine tri_skip (tT (tS (tR ?_)))
 refine tri_v (opv_fieldAddr rfl rfl) rfl ?_
 refine tri_v (opv_load1 rfl rfl rfl) rfl ?_
 refine tU rfl rfl (by omega) (by omega) rfl ?_
 refine tri_v (opv_fieldAddr rfl rfl) rfl ?_
 refine tri_g (opg_store rfl rfl rfl rfl rfl rfl) rfl ?_
 rintro _ _ _ ⟨rfl, rfl⟩
 refine tN (tT (tR ?_))
 refine tri_v (opv_fieldAddr rfl rfl) rfl ?_
 refine tri_v (opv_load1 rfl rfl rfl) rfl ?_
 refine tri_v (opv_fieldAddr rfl rfl) rfl ?_
 refine tri_v (opv_load1 rfl rfl rfl) rfl ?_
 refine tU rfl rfl (by omega) (by omega) rfl ?_
 refine tri_v (opv_min2 rfl rfl) rfl ?_
 refine tri_v (opv_fieldAddr rfl rfl) rfl ?_
 refine tri_g (opg_store rfl rfl rfl rfl rfl rfl) rfl ?_
 rintro _ _ _ ⟨rfl, rfl⟩
 refine tN ?_
 refine tri_inBlock ?_
 refine tT (tR ?_)
 refine tU rfl rfl (by omega) (by omega) rfl ?_
 refine tM rfl rfl (tN (tT ?_))
 refine tri_round ?_
 refine tS (tR ?_)
 refine tri_v (opv_lss rfl rfl) rfl ?_
 refine tN (tT (tS ?_))
 refine tri_drop ?_
 skip
 refine tri_cond_not rfl (by decide) ?_
 refine tri_exit ?_
 refine tri_then_exit ?_
 refine tri_then_exit ?_
 refine tri_inBlock_hit rfl ?_
 refine tT (tS (tR ?_))
 refine tri_v (opv_loadA rfl rfl rfl) rfl ?_
 refine tri_v (opv_fieldAddr rfl rfl) rfl ?_
 refine tri_g (opg_store rfl rfl rfl rfl rfl rfl) rfl ?_
 rintro _ _ _ ⟨rfl, rfl⟩
 refine tN (tT (tS (tR ?_)))
 refine tri_v (opv_loadA rfl rfl rfl) rfl ?_
 refine tri_v (opv_fieldAddr rfl rfl) rfl ?_
 refine tri_v (opv_load1 rfl rfl rfl) rfl ?_
 refine tri_v (opv_leq rfl rfl) rfl ?_
 refine tri_g (opg_store rfl rfl rfl rfl rfl rfl) rfl ?_
 rintro _ _ _ ⟨rfl, rfl⟩
 refine tA rfl rfl (tN (tT (tri_ret ?_)))
 refine tri_end _ (⟨[_, _], rfl⟩) rfl (.cons (rv_cellA rfl rfl rfl) (.cons (rv_tmp rfl) .nil)) ⟨⟨⟨_, _, _, _, _, _⟩, _, rfl, ?_, fun h => ?_⟩, rfl, rfl⟩
 ·rw [decide_eq_true_iff]
  unfold R6.fit4 R6.nd R6.inS
  omega
 ·unfold R6.mk4 R6.nd
  rw [Node.mk.injEq]
  exact ⟨by omega, rfl, rfl, rfl, rfl, rfl⟩
end Go.GL


set_option linter.unusedVariables false
namespace Go.GL
open Go.Proofs
attribute [local irreducible] wpList Code.wp Exit.then Exit.inBlock Ends Tri TriH OpV OpG FnC epf wpAnyH
theorem key4 (q0 q1 q2 q3 : Int) : int4V q0 q1 q2 q3 = mkv Try.prog 41 [q0, q1, q2, q3] := by kernel_rfl
theorem zeroInt (w : World) : (zeroValue 3).run Try.prog w = .ok (.int .i64 0) w := by kernel_rfl
theorem keyAt : intAt Try.prog 9 41 = some 4 := by kernel_rfl
/-- The index, as it lies in the heap. -/
abbrev IxA (bx mb : Nat) (a : Option Addr) (cap : Nat) (ns : List Node) (room : Int) (es : KVs) (A : List Asrt) : List Asrt :=
 Box bx [.slice a ns.length cap, .int .i64 room, .map (some mb)] 87 :: Row a cap ns.length 43 6 (encs ns) :: MapA Try.prog 41 mb es :: A
set_option maxHeartbeats 1000000 in
set_option maxRecDepth 100000 in
theorem node_put {A : List Asrt} {I : List Chunk} {ns : List Node} {a : Option Addr} {cap bx mb : Nat} {room q0 q1 q2 q3 : Int} {es : KVs} (hg : R6.Good ns room) (h2 : 2 ≤ ns.length) (hi : Idx ns es) :
  FnC Try.prog 88 [pt bx 0, int4V q0 q1 q2 q3].toArray (IxA bx mb a cap ns room es A) I (fun v A' I' => ∃ a' cap' es', v = .tuple [.int .i64 (R6.put ns room q0 q1 q2 q3).2.1, .int .i64 (R6.put ns room q0 q1 q2 q3).2.2].toArray ∧ A' = IxA bx mb a' cap' (R6.put ns room q0 q1 q2 q3).1 room es' A ∧ Idx (R6.put ns room q0 q1 q2 q3).1 es' ∧ I = I') := by
 have hn := hg.len
 have hmf := hi [q0, q1, q2, q3]
 skip
 refine fn_enter2 Try.func88 rfl Try.ntmps88 rfl fun w0 => ?_
 refine tS (tR ?_)
 refine tri_g (opg_box_agg rfl) rfl ?_
 rintro _ _ _ ⟨b3, rfl, rfl, rfl⟩
 refine tA rfl rfl (tA rfl rfl (tN (tT (tS ?_))))
 refine tri_perm (A := ?a1_0 :: ?a1_1 :: ?a1_2 :: ?T1) (B := ?a1_1 :: ?a1_2 :: ?a1_0 :: ?T1) (by exact permL [1, 2, 0] [?a1_0, ?a1_1, ?a1_2] ?T1 (by decide) rfl) ?_
 refine tR (tM rfl rfl ?_)
 refine tri_v (opv_loadA rfl rfl rfl) rfl ?_
 refine tri_g (opg_call (xs := [_, _]) rfl (node_parent hn hg.mod)) rfl ?_
 rintro _ _ _ ⟨⟨z, ok, rfl, hok, hz⟩, rfl, rfl⟩
 refine tM rfl rfl ?_
 refine tri_v (opv_extract rfl rfl) rfl ?_
 refine tri_v (opv_extract rfl rfl) rfl ?_
 refine tri_g opg_alloc rfl ?_
 rintro _ _ _ ⟨b6, rfl, rfl, rfl⟩
 refine tri_g (opg_store rfl rfl rfl rfl rfl rfl) rfl ?_
 rintro _ _ _ ⟨rfl, rfl⟩
 refine tA rfl rfl (tN (tT (tS (tS (tR (tM rfl rfl ?_))))))
 refine tri_v (opv_not rfl) rfl ?_
 refine tN (tT ?_)
 refine tri_cond rfl (fun h => ?_) (fun h => ?_)
 ·have hf : ¬ R6.fit4 ns q0 q1 q2 q3 := fun hf => by
   rw [hok.2 hf] at h; cases h
  rw [show R6.put ns room q0 q1 q2 q3 = (ns, 0, 1) from if_neg hf]
  refine tS (tR (tA rfl rfl (tA rfl rfl (tN (tT (tri_ret (tri_then_ret ?_)))))))
  refine tri_perm (A := ?a2_0 :: ?a2_1 :: ?a2_2 :: ?a2_3 :: ?a2_4 :: ?T2) (B := ?a2_0 :: ?a2_3 :: ?a2_1 :: ?a2_2 :: ?a2_4 :: ?T2) (by exact permL [0, 3, 1, 2, 4] [?a2_0, ?a2_1, ?a2_2, ?a2_3, ?a2_4] ?T2 (by decide) rfl) ?_
  refine tri_end _ (⟨[_, _], rfl⟩) rfl (.cons (rv_tmp rfl) (.cons (rv_tmp rfl) .nil)) ⟨a, cap, es, rfl, rfl, hi, rfl⟩
 have hok1 : ok = true := by cases ok <;> simp_all
 have hf := hok.1 hok1
 have hz' := hz hok1
 subst hz'
 have hput : R6.put ns room q0 q1 q2 q3 = if 0 ≤ R6.at_ ns [q0, q1, q2, q3] then (ns, R6.at_ ns [q0, q1, q2, q3], 0) else if room ≤ ns.length then (ns, 0, 40) else (ns ++ [R6.mk4 ns q0 q1 q2 q3], ns.length, 0) := if_pos hf
 refine tri_skip (tT (tS (tS ?_)))
 refine tri_draw [0, 1, 2, 3, 4, 5, 6, 7, 8, 9, 10] rfl [] rfl mixed ?_
 refine th_take rfl rfl (by kernel_rfl)  (opv_move rfl) ?_
 refine th_take rfl rfl (by kernel_rfl)  (opv_nilCheck rfl) ?_
 refine th_take rfl rfl (by kernel_rfl)  (opv_fieldAddr rfl rfl) ?_
 refine th_take rfl rfl (by kernel_rfl)  (opv_load1 rfl rfl rfl) ?_
 refine th_take rfl rfl (by kernel_rfl)  (opv_loadA rfl rfl rfl) ?_
 refine th_take rfl rfl (by kernel_rfl)  (opv_lookup2 (P := Try.prog) (ks := [q0, q1, q2, q3]) zeroInt rfl rfl (key4 q0 q1 q2 q3) keyAt rfl) ?_
 refine th_take rfl rfl (by kernel_rfl)  (opv_move rfl) ?_
 refine th_take rfl rfl (by kernel_rfl)  (opv_extract rfl rfl) ?_
 refine th_take rfl rfl (by kernel_rfl)  (opv_extract rfl rfl) ?_
 refine th_take rfl rfl (by kernel_rfl)  (opv_assign rfl) ?_
 refine th_take rfl rfl (by kernel_rfl)  (opv_assign rfl) ?_
 refine th_done (by kernel_rfl) ?_
 refine tT (tS (tR (tM rfl rfl (tN (tT ?_)))))
 by_cases hat : 0 ≤ R6.at_ ns [q0, q1, q2, q3]
 ·rw [if_pos hat] at hmf hput
  rw [hput]
  refine tri_cond_true (congrArg (fun o => some (Value.bool (Option.isSome o))) hmf) ?_
  refine tS (tR (tM rfl rfl (tA rfl rfl (tA rfl rfl (tN (tT (tri_ret ?_)))))))
  refine tri_then_ret ?_
  refine tri_perm (A := ?a3_0 :: ?a3_1 :: ?a3_2 :: ?a3_3 :: ?a3_4 :: ?T3) (B := ?a3_0 :: ?a3_3 :: ?a3_1 :: ?a3_2 :: ?a3_4 :: ?T3) (by exact permL [0, 3, 1, 2, 4] [?a3_0, ?a3_1, ?a3_2, ?a3_3, ?a3_4] ?T3 (by decide) rfl) ?_
  refine tri_end _ (⟨[_, _], rfl⟩) rfl (.cons (rv_tmp rfl) (.cons (rv_tmp rfl) .nil)) ⟨a, cap, es, ?_, rfl, hi, rfl⟩
  rw [hmf]; rfl
 rw [if_neg hat] at hmf hput
 skip
 refine tri_cond_false (congrArg (fun o => some (Value.bool (Option.isSome o))) hmf) ?_
 refine tri_skip (tT (tS (tS ?_)))
 refine tri_draw [0, 1, 2, 3, 4, 5, 6, 7, 8, 9, 10, 11] rfl [] rfl mixed ?_
 refine th_take rfl rfl (by kernel_rfl)  (opv_move rfl) ?_
 refine th_take rfl rfl (by kernel_rfl)  (opv_nilCheck rfl) ?_
 refine th_take rfl rfl (by kernel_rfl)  (opv_fieldAddr rfl rfl) ?_
 refine th_take rfl rfl (by kernel_rfl)  (opv_fieldAddr rfl rfl) ?_
 refine th_take rfl rfl (by kernel_rfl)  (opv_load1 rfl rfl rfl) ?_
 refine th_take rfl rfl (by kernel_rfl)  (opv_len rfl) ?_
 refine th_take rfl rfl (by kernel_rfl)  (opv_move rfl) ?_
 refine th_take rfl rfl (by kernel_rfl)  (opv_nilCheck rfl) ?_
 refine th_take rfl rfl (by kernel_rfl)  (opv_fieldAddr rfl rfl) ?_
 refine th_take rfl rfl (by kernel_rfl)  (opv_fieldAddr rfl rfl) ?_
 refine th_take rfl rfl (by kernel_rfl)  (opv_load1 rfl rfl rfl) ?_
 refine th_take rfl rfl (by kernel_rfl)  (opv_geq rfl rfl) ?_
 refine th_done (by kernel_rfl) ?_
 refine tT ?_
 refine tri_cond_dec rfl (fun h7 => ?_) (fun h7 => ?_)
 ·rw [if_pos h7] at hput
  rw [hput]
  refine tS (tR (tA rfl rfl (tA rfl rfl (tN (tT (tri_ret (tri_then_ret ?_)))))))
  refine tri_perm (A := ?a4_0 :: ?a4_1 :: ?a4_2 :: ?a4_3 :: ?a4_4 :: ?T4) (B := ?a4_0 :: ?a4_3 :: ?a4_1 :: ?a4_2 :: ?a4_4 :: ?T4) (by exact permL [0, 3, 1, 2, 4] [?a4_0, ?a4_1, ?a4_2, ?a4_3, ?a4_4] ?T4 (by decide) rfl) ?_
  refine tri_end _ (⟨[_, _], rfl⟩) rfl (.cons (rv_tmp rfl) (.cons (rv_tmp rfl) .nil)) ⟨a, cap, es, rfl, rfl, hi, rfl⟩
 rw [if_neg h7] at hput
 rw [hput]
 skip
 refine tri_skip (tT (tS (tR (tM rfl rfl ?_))))
 refine tri_v (opv_nilCheck rfl) rfl ?_
 refine tri_v (opv_fieldAddr rfl rfl) rfl ?_
 refine tri_v (opv_fieldAddr rfl rfl) rfl ?_
 refine tri_v (opv_load1 rfl rfl rfl) rfl ?_
 refine tri_v (opv_len rfl) rfl ?_
 refine tA rfl rfl (tN (tT (tS ?_)))
 refine tri_perm (A := ?a5_0 :: ?a5_1 :: ?a5_2 :: ?a5_3 :: ?a5_4 :: ?T5) (B := ?a5_4 :: ?a5_0 :: ?a5_1 :: ?a5_2 :: ?a5_3 :: ?T5) (by exact permL [4, 0, 1, 2, 3] [?a5_0, ?a5_1, ?a5_2, ?a5_3, ?a5_4] ?T5 (by decide) rfl) ?_
 skip
 skip
 refine tri_draw [0, 1, 2, 3, 4, 5, 6] rfl [_] rfl mixed ?_
 refine th_take rfl rfl (by kernel_rfl)  (opv_move rfl) ?_
 refine th_take rfl rfl (by kernel_rfl)  (opv_nilCheck rfl) ?_
 refine th_take rfl rfl (by kernel_rfl)  (opv_fieldAddr rfl rfl) ?_
 refine th_take rfl rfl (by kernel_rfl)  (opv_load1 rfl rfl rfl) ?_
 refine th_take rfl rfl (by kernel_rfl)  (opv_loadA rfl rfl rfl) ?_
 refine th_take rfl rfl (by kernel_rfl)  (opv_move rfl) ?_
 refine th_one (by kernel_rfl) (step_m rfl rfl (opg_mapUpdate (P := Try.prog) (ks := [q0, q1, q2, q3]) rfl rfl rfl (key4 q0 q1 q2 q3) keyAt rfl) ?_)
 rintro _ _ _ ⟨rfl, rfl⟩
 refine ⟨Suf.h, (fun _ h => h), ?_⟩
 refine th_done (by kernel_rfl) ?_
 refine tT (tS ?_)
 refine tri_perm (A := ?a6_0 :: ?a6_1 :: ?a6_2 :: ?a6_3 :: ?a6_4 :: ?T6) (B := ?a6_2 :: ?a6_3 :: ?a6_0 :: ?a6_1 :: ?a6_4 :: ?T6) (by exact permL [2, 3, 0, 1, 4] [?a6_0, ?a6_1, ?a6_2, ?a6_3, ?a6_4] ?T6 (by decide) rfl) ?_
 skip
 refine tri_draw [0, 1, 2, 3, 4, 6, 5, 7, 8, 9, 10, 11, 12] rfl [_, _] rfl mixed ?_
 refine th_take rfl rfl (by kernel_rfl)  (opv_move rfl) ?_
 refine th_take rfl rfl (by kernel_rfl)  (opv_move rfl) ?_
 refine th_take rfl rfl (by kernel_rfl)  (opv_nilCheck rfl) ?_
 refine th_take rfl rfl (by kernel_rfl)  (opv_fieldAddr rfl rfl) ?_
 refine th_take rfl rfl (by kernel_rfl)  (opv_fieldAddr rfl rfl) ?_
 refine th_take rfl rfl (by kernel_rfl)  (opv_loadA rfl rfl rfl) ?_
 refine th_two (j := 7) [5, 8, 9, 10, 11, 12] (by kernel_rfl) rfl ?_ ?_
 ·refine (step_m rfl rfl (OpV.toG (opv_load1 rfl rfl rfl)) ?_)
  rintro _ _ _ ⟨rfl, rfl, rfl⟩
  refine ⟨Suf.h, (fun _ h => h), ?_⟩
  refine th_one (by kernel_rfl) (step_m rfl rfl (opg_buildSlice rfl rfl rfl rfl) ?_)
  rintro _ _ _ ⟨b61, rfl, rfl, rfl⟩
  refine ⟨Suf.h, (fun _ h => h), ?_⟩
  refine th_one (by kernel_rfl) (step_m rfl rfl (opg_appendB rfl rfl rfl rfl (by omega) rfl) ?_)
  rintro _ _ _ ⟨a3, cap3, rfl, rfl, rfl⟩
  refine ⟨Suf.h, (fun _ h => h), ?_⟩
  refine th_take rfl rfl (by kernel_rfl)  (opv_nilCheck rfl) ?_
  refine th_take rfl rfl (by kernel_rfl)  (opv_fieldAddr rfl rfl) ?_
  refine th_take rfl rfl (by kernel_rfl)  (opv_fieldAddr rfl rfl) ?_
  refine th_one (by kernel_rfl) (step_m rfl rfl (opg_store rfl rfl rfl rfl rfl rfl) ?_)
  rintro _ _ _ ⟨rfl, rfl⟩
  refine ⟨Suf.h, (fun _ h => h), ?_⟩
  refine th_done (by kernel_rfl) ?_
  refine tT (tS (tR (tM rfl rfl (tA rfl rfl (tA rfl rfl (tN (tT ?_)))))))
  refine tri_ret ?_
  refine tri_perm (A := ?a7_0 :: ?a7_1 :: ?a7_2 :: ?a7_3 :: ?a7_4 :: ?a7_5 :: ?T7) (B := ?a7_2 :: ?a7_0 :: ?a7_1 :: ?a7_3 :: ?a7_4 :: ?a7_5 :: ?T7) (by exact permL [2, 0, 1, 3, 4, 5] [?a7_0, ?a7_1, ?a7_2, ?a7_3, ?a7_4, ?a7_5] ?T7 (by decide) rfl) ?_
  have hix := hi.snoc h2 (R6.mk4 ns q0 q1 q2 q3) hat
  have hl : (ns ++ [R6.mk4 ns q0 q1 q2 q3]).length = ns.length + 1 := by simp
  refine tri_rowEq (len' := (ns ++ [R6.mk4 ns q0 q1 q2 q3]).length) (cells' := encs (ns ++ [R6.mk4 ns q0 q1 q2 q3])) hl.symm (by rw [encs_append]; rfl) ?_
  rw [← hl]
  refine tri_perm (A := ?a8_0 :: ?a8_1 :: ?a8_2 :: ?a8_3 :: ?a8_4 :: ?a8_5 :: ?T8) (B := ?a8_1 :: ?a8_4 :: ?a8_5 :: ?a8_2 :: ?a8_0 :: ?a8_3 :: ?T8) (by exact permL [1, 4, 5, 2, 0, 3] [?a8_0, ?a8_1, ?a8_2, ?a8_3, ?a8_4, ?a8_5] ?T8 (by decide) rfl) ?_
  refine tri_end (IxA bx mb a3 cap3 (ns ++ [R6.mk4 ns q0 q1 q2 q3]) room (mset es [q0, q1, q2, q3] (.int .i64 ns.length)) A) Suf.h rfl (.cons (rv_tmp rfl) (.cons (rv_tmp rfl) .nil)) ⟨a3, cap3, _, rfl, rfl, hix, rfl⟩
 ·refine (step_m rfl rfl (opg_buildSlice rfl rfl rfl rfl) ?_)
  rintro _ _ _ ⟨b61, rfl, rfl, rfl⟩
  refine ⟨Suf.h, (fun _ h => h), ?_⟩
  refine th_one (by kernel_rfl) (step_m rfl rfl (OpV.toG (opv_load1 rfl rfl rfl)) ?_)
  rintro _ _ _ ⟨rfl, rfl, rfl⟩
  refine ⟨Suf.h, (fun _ h => h), ?_⟩
  refine th_one (by kernel_rfl) (step_m rfl rfl (opg_appendB rfl rfl rfl rfl (by omega) rfl) ?_)
  rintro _ _ _ ⟨a3, cap3, rfl, rfl, rfl⟩
  refine ⟨Suf.h, (fun _ h => h), ?_⟩
  refine th_take rfl rfl (by kernel_rfl)  (opv_nilCheck rfl) ?_
  refine th_take rfl rfl (by kernel_rfl)  (opv_fieldAddr rfl rfl) ?_
  refine th_take rfl rfl (by kernel_rfl)  (opv_fieldAddr rfl rfl) ?_
  refine th_one (by kernel_rfl) (step_m rfl rfl (opg_store rfl rfl rfl rfl rfl rfl) ?_)
  rintro _ _ _ ⟨rfl, rfl⟩
  refine ⟨Suf.h, (fun _ h => h), ?_⟩
  refine th_done (by kernel_rfl) ?_
  refine tT (tS (tR (tM rfl rfl (tA rfl rfl (tA rfl rfl (tN (tT ?_)))))))
  refine tri_ret ?_
  refine tri_perm (A := ?a9_0 :: ?a9_1 :: ?a9_2 :: ?a9_3 :: ?a9_4 :: ?a9_5 :: ?T9) (B := ?a9_2 :: ?a9_0 :: ?a9_1 :: ?a9_3 :: ?a9_4 :: ?a9_5 :: ?T9) (by exact permL [2, 0, 1, 3, 4, 5] [?a9_0, ?a9_1, ?a9_2, ?a9_3, ?a9_4, ?a9_5] ?T9 (by decide) rfl) ?_
  have hix := hi.snoc h2 (R6.mk4 ns q0 q1 q2 q3) hat
  have hl : (ns ++ [R6.mk4 ns q0 q1 q2 q3]).length = ns.length + 1 := by simp
  refine tri_rowEq (len' := (ns ++ [R6.mk4 ns q0 q1 q2 q3]).length) (cells' := encs (ns ++ [R6.mk4 ns q0 q1 q2 q3])) hl.symm (by rw [encs_append]; rfl) ?_
  rw [← hl]
  refine tri_perm (A := ?a10_0 :: ?a10_1 :: ?a10_2 :: ?a10_3 :: ?a10_4 :: ?a10_5 :: ?T10) (B := ?a10_1 :: ?a10_4 :: ?a10_5 :: ?a10_2 :: ?a10_0 :: ?a10_3 :: ?T10) (by exact permL [1, 4, 5, 2, 0, 3] [?a10_0, ?a10_1, ?a10_2, ?a10_3, ?a10_4, ?a10_5] ?T10 (by decide) rfl) ?_
  refine tri_end (IxA bx mb a3 cap3 (ns ++ [R6.mk4 ns q0 q1 q2 q3]) room (mset es [q0, q1, q2, q3] (.int .i64 ns.length)) A) Suf.h rfl (.cons (rv_tmp rfl) (.cons (rv_tmp rfl) .nil)) ⟨a3, cap3, _, rfl, rfl, hix, rfl⟩
end Go.GL


set_option linter.unusedVariables false
namespace Go.GL
open Go.Proofs
attribute [local irreducible] wpList Code.wp Exit.then Exit.inBlock Ends Tri TriH OpV OpG FnC epf wpAnyH
/-- What node.Of tells. -/
def OfR (ns : List Node) (room : Int) (A : List Asrt) (I : List Chunk) : Value → List Asrt → List Chunk → Prop := fun v A' I' =>
 (R6.right ns room ∧ ∃ bx mb a' cap' es, v = .tuple [pt bx 0, .bool true].toArray ∧ A' = IxA bx mb a' cap' ns room es A ∧ Idx ns es ∧ I = I') ∨ (¬ R6.right ns room ∧ v = .tuple [.pointer none, .bool false].toArray ∧ A = A' ∧ I = I')
set_option maxHeartbeats 1000000 in
set_option maxRecDepth 100000 in
theorem node_of {A : List Asrt} {I : List Chunk} {ns : List Node} {a : Option Addr} {cap : Nat} {room : Int} (hs : StA I a cap ns) (hn : ns.length ≤ 1000000000) :
  FnC Try.prog 48 [storeV a ns.length cap room].toArray A I (OfR ns room A I) := by
 have hsl := hs.sl
 skip
 refine fn_enter1 Try.func48 rfl Try.ntmps48 rfl fun w0 => ?_
 refine tS (tR ?_)
 refine tri_g (opg_box_agg rfl) rfl ?_
 rintro _ _ _ ⟨b1, rfl, rfl, rfl⟩
 refine tA rfl rfl (tA rfl rfl (tN (tT (tS (tR ?_)))))
 refine tri_v (opv_fieldAddr rfl rfl) rfl ?_
 refine tri_v (opv_load1 rfl rfl rfl) rfl ?_
 refine tri_v (opv_len rfl) rfl ?_
 refine tA rfl rfl (tN (tT (tS (tS (tR ?_)))))
 refine tri_v (opv_fieldAddr rfl rfl) rfl ?_
 refine tri_v (opv_load1 rfl rfl rfl) rfl ?_
 refine tri_v (opv_lss rfl rfl) rfl ?_
 refine tM rfl rfl ?_
 refine tri_split rfl rfl (fun h1 => ?_) (fun h1 => ?_)
 ·refine tri_guard_skip rfl rfl rfl rfl (tri_guard_skip rfl rfl rfl rfl (tri_guard_skip rfl rfl rfl rfl ?_))
  refine tri_v (opv_pick_t rfl rfl) rfl ?_
  refine tM rfl rfl (tri_guard_skip rfl rfl rfl rfl (tri_guard_skip rfl rfl rfl rfl ?_))
  refine tri_v (opv_pick_t rfl rfl) rfl ?_
  refine tM rfl rfl (tri_guard_skip rfl rfl rfl rfl (tri_guard_skip rfl rfl rfl rfl (tri_guard_skip rfl rfl rfl rfl (tri_guard_skip rfl rfl rfl rfl ?_))))
  refine tri_v (opv_pick_t rfl rfl) rfl ?_
  refine tM rfl rfl (tri_guard_skip rfl rfl rfl rfl (tri_guard_skip rfl rfl rfl rfl (tri_guard_skip rfl rfl rfl rfl (tri_guard_skip rfl rfl rfl rfl (tri_guard_skip rfl rfl rfl rfl (tri_guard_skip rfl rfl rfl rfl ?_))))))
  refine tri_v (opv_pick_t rfl rfl) rfl ?_
  refine tM rfl rfl (tri_guard_skip rfl rfl rfl rfl (tri_guard_skip rfl rfl rfl rfl (tri_guard_skip rfl rfl rfl rfl (tri_guard_skip rfl rfl rfl rfl (tri_guard_skip rfl rfl rfl rfl (tri_guard_skip rfl rfl rfl rfl ?_))))))
  refine tri_v (opv_pick_t rfl rfl) rfl ?_
  refine tN (tT ?_)
  refine tri_cond_true rfl ?_
  refine tS (tR (tA rfl rfl (tA rfl rfl (tN (tT (tri_ret (tri_then_ret ?_)))))))
  refine tri_end A Suf.h rfl (.cons (rv_tmp rfl) (.cons (rv_tmp rfl) .nil)) (.inr ⟨fun hf => ?_, rfl, rfl, rfl⟩)
  have := hf.1.1; omega
 refine tri_guard_run rfl rfl rfl ?_
 refine tri_v (opv_fieldAddr rfl rfl) rfl ?_
 refine tri_guard_run rfl rfl rfl ?_
 refine tri_v (opv_load1 rfl rfl rfl) rfl ?_
 refine tri_guard_run rfl rfl rfl ?_
 refine tri_v (opv_gtr rfl rfl) rfl ?_
 refine tri_v (opv_pick_f rfl rfl) rfl ?_
 refine tM rfl rfl ?_
 refine tri_split rfl rfl (fun h2 => ?_) (fun h2 => ?_)
 ·refine tri_guard_skip rfl rfl rfl rfl (tri_guard_skip rfl rfl rfl rfl ?_)
  refine tri_v (opv_pick_t rfl rfl) rfl ?_
  refine tM rfl rfl (tri_guard_skip rfl rfl rfl rfl (tri_guard_skip rfl rfl rfl rfl (tri_guard_skip rfl rfl rfl rfl (tri_guard_skip rfl rfl rfl rfl ?_))))
  refine tri_v (opv_pick_t rfl rfl) rfl ?_
  refine tM rfl rfl (tri_guard_skip rfl rfl rfl rfl (tri_guard_skip rfl rfl rfl rfl (tri_guard_skip rfl rfl rfl rfl (tri_guard_skip rfl rfl rfl rfl (tri_guard_skip rfl rfl rfl rfl (tri_guard_skip rfl rfl rfl rfl ?_))))))
  refine tri_v (opv_pick_t rfl rfl) rfl ?_
  refine tM rfl rfl (tri_guard_skip rfl rfl rfl rfl (tri_guard_skip rfl rfl rfl rfl (tri_guard_skip rfl rfl rfl rfl (tri_guard_skip rfl rfl rfl rfl (tri_guard_skip rfl rfl rfl rfl (tri_guard_skip rfl rfl rfl rfl ?_))))))
  refine tri_v (opv_pick_t rfl rfl) rfl ?_
  refine tN (tT ?_)
  refine tri_cond_true rfl ?_
  refine tS (tR (tA rfl rfl (tA rfl rfl (tN (tT (tri_ret (tri_then_ret ?_)))))))
  refine tri_end A Suf.h rfl (.cons (rv_tmp rfl) (.cons (rv_tmp rfl) .nil)) (.inr ⟨fun hf => ?_, rfl, rfl, rfl⟩)
  have := hf.1.2.1; omega
 refine tri_guard_run rfl rfl rfl (tM rfl rfl (tri_guard_run rfl rfl rfl ?_))
 refine tri_v (opv_lss rfl rfl) rfl ?_
 refine tri_v (opv_pick_f rfl rfl) rfl ?_
 refine tM rfl rfl ?_
 refine tri_split rfl rfl (fun h3 => ?_) (fun h3 => ?_)
 ·refine tri_guard_skip rfl rfl rfl rfl (tri_guard_skip rfl rfl rfl rfl (tri_guard_skip rfl rfl rfl rfl (tri_guard_skip rfl rfl rfl rfl ?_)))
  refine tri_v (opv_pick_t rfl rfl) rfl ?_
  refine tM rfl rfl (tri_guard_skip rfl rfl rfl rfl (tri_guard_skip rfl rfl rfl rfl (tri_guard_skip rfl rfl rfl rfl (tri_guard_skip rfl rfl rfl rfl (tri_guard_skip rfl rfl rfl rfl (tri_guard_skip rfl rfl rfl rfl ?_))))))
  refine tri_v (opv_pick_t rfl rfl) rfl ?_
  refine tM rfl rfl (tri_guard_skip rfl rfl rfl rfl (tri_guard_skip rfl rfl rfl rfl (tri_guard_skip rfl rfl rfl rfl (tri_guard_skip rfl rfl rfl rfl (tri_guard_skip rfl rfl rfl rfl (tri_guard_skip rfl rfl rfl rfl ?_))))))
  refine tri_v (opv_pick_t rfl rfl) rfl ?_
  refine tN (tT ?_)
  refine tri_cond_true rfl ?_
  refine tS (tR (tA rfl rfl (tA rfl rfl (tN (tT (tri_ret (tri_then_ret ?_)))))))
  refine tri_end A Suf.h rfl (.cons (rv_tmp rfl) (.cons (rv_tmp rfl) .nil)) (.inr ⟨fun hf => ?_, rfl, rfl, rfl⟩)
  have := hf.1.2.2.1; omega
 refine tri_guard_run rfl rfl rfl (tM rfl rfl (tri_guard_run rfl rfl rfl ?_))
 refine tri_v (opv_fieldAddr rfl rfl) rfl ?_
 refine tri_guard_run rfl rfl rfl ?_
 refine tri_v (opv_load1 rfl rfl rfl) rfl ?_
 refine tri_guard_run rfl rfl rfl ?_
 refine tri_v (opv_gtr rfl rfl) rfl ?_
 refine tri_v (opv_pick_f rfl rfl) rfl ?_
 refine tM rfl rfl ?_
 refine tri_split rfl rfl (fun h4 => ?_) (fun h4 => ?_)
 ·refine tri_guard_skip rfl rfl rfl rfl (tri_guard_skip rfl rfl rfl rfl (tri_guard_skip rfl rfl rfl rfl (tri_guard_skip rfl rfl rfl rfl (tri_guard_skip rfl rfl rfl rfl (tri_guard_skip rfl rfl rfl rfl ?_)))))
  refine tri_v (opv_pick_t rfl rfl) rfl ?_
  refine tM rfl rfl (tri_guard_skip rfl rfl rfl rfl (tri_guard_skip rfl rfl rfl rfl (tri_guard_skip rfl rfl rfl rfl (tri_guard_skip rfl rfl rfl rfl (tri_guard_skip rfl rfl rfl rfl (tri_guard_skip rfl rfl rfl rfl ?_))))))
  refine tri_v (opv_pick_t rfl rfl) rfl ?_
  refine tN (tT ?_)
  refine tri_cond_true rfl ?_
  refine tS (tR (tA rfl rfl (tA rfl rfl (tN (tT (tri_ret (tri_then_ret ?_)))))))
  refine tri_end A Suf.h rfl (.cons (rv_tmp rfl) (.cons (rv_tmp rfl) .nil)) (.inr ⟨fun hf => ?_, rfl, rfl, rfl⟩)
  have := hf.1.2.2.2.1; omega
 refine tri_guard_run rfl rfl rfl ?_
 refine tri_v (opv_fieldAddr rfl rfl) rfl ?_
 refine tri_guard_run rfl rfl rfl ?_
 refine tri_v (opv_load1 rfl rfl rfl) rfl ?_
 refine tri_guard_run rfl rfl rfl ?_
 refine tri_v (opv_indexAddrS rfl rfl (by omega) (by omega) (by assumption) rfl) rfl ?_
 refine tri_guard_run rfl rfl rfl ?_
 refine tri_v (opv_loadEA rfl (by assumption) rfl (by omega) rfl rfl) rfl ?_
 refine tri_guard_run rfl rfl rfl ?_
 refine tri_v (opv_buildS rfl rfl) rfl ?_
 refine tri_guard_run rfl rfl rfl ?_
 refine tri_v (opv_neqI rfl rfl rfl rfl rfl rfl) rfl ?_
 refine tri_v (opv_pick_f rfl rfl) rfl ?_
 refine tM rfl rfl ?_
 refine tri_split rfl rfl (fun h5 => ?_) (fun h5 => ?_)
 ·refine tri_guard_skip rfl rfl rfl rfl (tri_guard_skip rfl rfl rfl rfl (tri_guard_skip rfl rfl rfl rfl (tri_guard_skip rfl rfl rfl rfl (tri_guard_skip rfl rfl rfl rfl (tri_guard_skip rfl rfl rfl rfl ?_)))))
  refine tri_v (opv_pick_t rfl rfl) rfl ?_
  refine tN (tT ?_)
  refine tri_cond_true rfl ?_
  refine tS (tR (tA rfl rfl (tA rfl rfl (tN (tT (tri_ret (tri_then_ret ?_)))))))
  refine tri_end A Suf.h rfl (.cons (rv_tmp rfl) (.cons (rv_tmp rfl) .nil)) (.inr ⟨fun hf => ?_, rfl, rfl, rfl⟩)
  exact Node.ne_iff'.2 h5 hf.1.2.2.2.2.1
 refine tri_guard_run rfl rfl rfl ?_
 refine tri_v (opv_fieldAddr rfl rfl) rfl ?_
 refine tri_guard_run rfl rfl rfl ?_
 refine tri_v (opv_load1 rfl rfl rfl) rfl ?_
 refine tri_guard_run rfl rfl rfl ?_
 refine tri_v (opv_indexAddrS rfl rfl (by omega) (by omega) (by assumption) rfl) rfl ?_
 refine tri_guard_run rfl rfl rfl ?_
 refine tri_v (opv_loadEA rfl (by assumption) rfl (by omega) rfl rfl) rfl ?_
 refine tri_guard_run rfl rfl rfl ?_
 refine tri_v (opv_buildS rfl rfl) rfl ?_
 refine tri_guard_run rfl rfl rfl ?_
 refine tri_v (opv_neqI rfl rfl rfl rfl rfl rfl) rfl ?_
 refine tri_v (opv_pick_f rfl rfl) rfl ?_
 refine tN (tT ?_)
 refine tri_cond_dec rfl (fun h6 => ?_) (fun h6 => ?_)
 ·refine tS (tR (tA rfl rfl (tA rfl rfl (tN (tT (tri_ret (tri_then_ret ?_)))))))
  refine tri_end A Suf.h rfl (.cons (rv_tmp rfl) (.cons (rv_tmp rfl) .nil)) (.inr ⟨fun hf => ?_, rfl, rfl, rfl⟩)
  exact Node.ne_iff'.2 h6 hf.1.2.2.2.2.2
 skip
 have e0 : ns.getD 0 default = R6.n0 := Decidable.not_not.1 fun h => h5 (Node.ne_iff'.1 h)
 have e1 : ns.getD 1 default = R6.n1 := Decidable.not_not.1 fun h => h6 (Node.ne_iff'.1 h)
 have et : ns.take 2 = [R6.n0, R6.n1] := by
  rw [← e0, ← e1]
  apply List.ext_getElem
  ·rw [List.length_take]; simp; omega
  ·intro i h1 h2
   rw [List.length_take] at h1
   rcases (by omega : i = 0 ∨ i = 1) with rfl | rfl <;> simp <;> rw [List.getElem?_eq_getElem (by omega)] <;> simp
 have htl : (ns.take 2).length = 2 := by rw [et]; rfl
 refine tri_skip (tT (tS ?_))
 refine tri_cut (fun F' A' J => ∃ bx mb a1 c1, F' = [(1, pt b1 0), (5, pt bx 0)] ∧ A' = IxA bx mb a1 c1 (ns.take 2) room [] (Box b1 [.slice a ns.length cap, .int .i64 room] 26 :: A) ∧ I = J) ?_ ?_
 ·refine tri_draw [0, 1, 2, 4, 5, 3, 6, 7, 8, 9, 10] rfl [] rfl mixed ?_
  refine th_take rfl rfl (by kernel_rfl)  (opv_fieldAddr rfl rfl) ?_
  refine th_take rfl rfl (by kernel_rfl)  (opv_load1 rfl rfl rfl) ?_
  refine th_take rfl rfl (by kernel_rfl)  (opv_sliceHi rfl rfl (by omega) (by omega) hs rfl) ?_
  refine th_take rfl rfl (by kernel_rfl)  (opv_fieldAddr rfl rfl) ?_
  refine th_take rfl rfl (by kernel_rfl)  (opv_load1 rfl rfl rfl) ?_
  refine th_two (j := 7) [3, 6, 8, 9, 10] (by kernel_rfl) rfl ?_ ?_
  ·refine (step_m rfl rfl (opg_call (xs := [_]) rfl (clone_nodes (hsl.take 2) (by omega) (by omega))) ?_)
   rintro _ _ _ ⟨a1, c1, rfl, rfl, rfl⟩
   refine ⟨Suf.h, (fun _ h => h), ?_⟩
   refine th_take rfl rfl (by kernel_rfl)  (opv_buildS rfl rfl) ?_
   refine th_one (by kernel_rfl) (step_m rfl rfl opg_makeMap ?_)
   rintro _ _ _ ⟨b56, rfl, rfl, rfl⟩
   refine ⟨Suf.h, (fun _ h => h), ?_⟩
   refine th_take rfl rfl (by kernel_rfl)  (opv_buildS rfl rfl) ?_
   refine th_one (by kernel_rfl) (step_m rfl rfl (opg_box_agg rfl) ?_)
   rintro _ _ _ ⟨b58, rfl, rfl, rfl⟩
   refine ⟨Suf.h, (fun _ h => h), ?_⟩
   refine th_take rfl rfl (by kernel_rfl)  (opv_assign rfl) ?_
   refine th_done (by kernel_rfl) ?_
   refine tri_perm (A := ?a1_0 :: ?a1_1 :: ?a1_2 :: ?T1) (B := ?a1_0 :: ?a1_2 :: ?a1_1 :: ?T1) (by exact permL [0, 2, 1] [?a1_0, ?a1_1, ?a1_2] ?T1 (by decide) rfl) ?_
   exact tri_cutEnd _ ⟨b58, b56, a1, c1, rfl, rfl, rfl⟩ ⟨rfl, rfl, trivial⟩
  ·refine (step_m rfl rfl opg_makeMap ?_)
   rintro _ _ _ ⟨b56, rfl, rfl, rfl⟩
   refine ⟨Suf.h, (fun _ h => h), ?_⟩
   refine th_one (by kernel_rfl) (step_m rfl rfl (opg_call (xs := [_]) rfl (clone_nodes (hsl.take 2) (by omega) (by omega))) ?_)
   rintro _ _ _ ⟨a1, c1, rfl, rfl, rfl⟩
   refine ⟨Suf.h, (fun _ h => h), ?_⟩
   refine th_take rfl rfl (by kernel_rfl)  (opv_buildS rfl rfl) ?_
   refine th_take rfl rfl (by kernel_rfl)  (opv_buildS rfl rfl) ?_
   refine th_one (by kernel_rfl) (step_m rfl rfl (opg_box_agg rfl) ?_)
   rintro _ _ _ ⟨b58, rfl, rfl, rfl⟩
   refine ⟨Suf.h, (fun _ h => h), ?_⟩
   refine th_take rfl rfl (by kernel_rfl)  (opv_assign rfl) ?_
   refine th_done (by kernel_rfl) ?_
   exact tri_cutEnd _ ⟨b58, b56, a1, c1, rfl, rfl, rfl⟩ ⟨rfl, rfl, trivial⟩
 rintro _ _ _ ⟨bx, mb, a1, c1, rfl, rfl, rfl⟩
 skip
 refine tT (tS (tS (tR ?_)))
 refine tri_v (opv_fieldAddr rfl rfl) rfl ?_
 refine tri_v (opv_load1 rfl rfl rfl) rfl ?_
 refine tri_g (opg_sliceLo rfl rfl (by omega) (by omega) hs rfl rfl) rfl ?_
 rintro _ _ _ ⟨a5, rfl, hs5, rfl, rfl⟩
 have hs5' := hs5.sl
 have hdl : (ns.drop (2:Int).toNat).length = ns.length - 2 := by rw [List.length_drop]; rfl
 refine tri_v (opv_len rfl) rfl ?_
 refine tM rfl rfl (tN (tT (tri_block ?_)))
 have hix0 : Idx (ns.take (0 + 2)) [] := by rw [et]; exact Idx.start
 have hm0 : R6.ModTo ns (0 + 2) := fun j hj => by
  rcases (by omega : j = 0 ∨ j = 1) with rfl | rfl
  ·rw [e0]; decide
  ·rw [e1]; decide
 refine tri_sub (F' := [(1, pt b1 0), (5, pt bx 0), (61, .slice a5 (ns.drop (2:Int).toNat).length (cap - (2:Int).toNat)), (62, .int .i64 ((ns.drop (2:Int).toNat).length : Nat)), (63, .int .i64 (0 : Nat))]) ⟨rfl, rfl, rfl, rfl, rfl, trivial⟩ ?_
 refine loop_ind (G := Nat × Option Addr × Nat × KVs) (fun g => ns.length - g.1) (fun g => g.1 + 2 ≤ ns.length ∧ (∀ j, j < g.1 + 2 → 2 ≤ j → R6.fits ns j) ∧ R6.ModTo ns (g.1 + 2) ∧ Idx (ns.take (g.1 + 2)) g.2.2.2) (fun g => [(1, pt b1 0), (5, pt bx 0), (61, .slice a5 (ns.drop (2:Int).toNat).length (cap - (2:Int).toNat)), (62, .int .i64 ((ns.drop (2:Int).toNat).length : Nat)), (63, .int .i64 (g.1 : Nat))])
  (fun g => IxA bx mb g.2.1 g.2.2.1 (ns.take (g.1 + 2)) room g.2.2.2 (Box b1 [.slice a ns.length cap, .int .i64 room] 26 :: A)) (fun _ => I) ?_ (0, a1, c1, []) ⟨by simp only; omega, fun j h h' => absurd h (by simp only; omega), hm0, hix0⟩
 rintro ⟨i, ai, ci, es⟩ ⟨hi, hok, hmi, hix⟩ K hK
 simp only at hi hok hmi hix hK ⊢
 have htk : (ns.take (i + 2)).length = i + 2 := by rw [List.length_take]; omega
 skip
 refine tS (tR ?_)
 refine tri_v (opv_lss rfl rfl) rfl ?_
 refine tN (tT (tS ?_))
 refine tri_cond_dec rfl (fun h => ?_) (fun h => ?_)
 ·have hlt : i + 2 < ns.length := by omega
  have hy : (ns.drop (2:Int).toNat).getD i default = ns.getD (i + 2) default := by
   rw [List.getD_eq_getElem?_getD, List.getD_eq_getElem?_getD, List.getElem?_drop, show (2:Int).toNat + i = i + 2 by simp; omega]
  have hfi := R6.fits_iff (by omega) hlt hmi
  have htk1 : ns.take (i + 2 + 1) = ns.take (i + 2) ++ [ns.getD (i + 2) default] := by
   rw [List.take_succ_eq_append_getElem hlt]; simp [hlt]
  obtain ⟨y, hyd⟩ : ∃ y, y = (ns.drop (2:Int).toNat).getD i default := ⟨_, rfl⟩
  have hy2 : y = ns.getD (i + 2) default := hyd.trans hy
  rw [← hy2] at hfi htk1
  have hmf := hix y.kids
  refine tri_skip (tT (tS (tri_block (tS (tR (tM rfl rfl ?_))))))
  refine tri_v (opv_indexAddrSN rfl rfl (by omega) (by assumption) rfl) rfl ?_
  refine tri_v (opv_loadEA rfl (by assumption) rfl (by omega) rfl rfl) rfl ?_
  refine tri_g opg_alloc rfl ?_
  rintro _ _ _ ⟨b7, rfl, rfl, rfl⟩
  refine tA rfl rfl ?_
  refine tri_g (opg_store rfl rfl rfl rfl rfl rfl) rfl ?_
  rintro _ _ _ ⟨rfl, rfl⟩
  refine tN (tT (tS ?_))
  refine tri_sub (F' := [(1, pt b1 0), (5, pt bx 0), (6, .int .i64 (i : Nat)), (7, pt b7 0), (61, .slice a5 (ns.drop (2:Int).toNat).length (cap - (2:Int).toNat)), (62, .int .i64 ((ns.drop (2:Int).toNat).length : Nat)), (63, .int .i64 (i : Nat))]) ⟨rfl, rfl, rfl, rfl, rfl, rfl, rfl, trivial⟩ ?_
  rw [← hyd]
  refine tri_perm (A := ?a2_0 :: ?a2_1 :: ?a2_2 :: ?T2) (B := ?a2_1 :: ?a2_2 :: ?a2_0 :: ?T2) (by exact permL [1, 2, 0] [?a2_0, ?a2_1, ?a2_2] ?T2 (by decide) rfl) ?_
  refine tR (tM rfl rfl ?_)
  refine tri_v (opv_fieldAddr rfl rfl) rfl ?_
  refine tri_v (opv_loadA rfl rfl rfl) rfl ?_
  refine tri_g (opg_call (xs := [_, _]) rfl (node_parent (by omega) hmi.take)) rfl ?_
  rintro _ _ _ ⟨⟨z, ok, rfl, hok2, hz⟩, rfl, rfl⟩
  refine tM rfl rfl ?_
  refine tri_v (opv_extract rfl rfl) rfl ?_
  refine tri_v (opv_extract rfl rfl) rfl ?_
  refine tri_g opg_alloc rfl ?_
  rintro _ _ _ ⟨b8, rfl, rfl, rfl⟩
  refine tri_g (opg_store rfl rfl rfl rfl rfl rfl) rfl ?_
  rintro _ _ _ ⟨rfl, rfl⟩
  refine tA rfl rfl (tN (tT (tS (tS ?_))))
  refine tri_draw [0, 1, 2, 3, 4, 5, 6, 7, 8, 9, 10, 11] rfl [] rfl mixed ?_
  refine th_take rfl rfl (by kernel_rfl)  (opv_move rfl) ?_
  refine th_take rfl rfl (by kernel_rfl)  (opv_nilCheck rfl) ?_
  refine th_take rfl rfl (by kernel_rfl)  (opv_fieldAddr rfl rfl) ?_
  refine th_take rfl rfl (by kernel_rfl)  (opv_load1 rfl rfl rfl) ?_
  refine th_take rfl rfl (by kernel_rfl)  (opv_fieldAddr rfl rfl) ?_
  refine th_take rfl rfl (by kernel_rfl)  (opv_loadA rfl rfl rfl) ?_
  refine th_take rfl rfl (by kernel_rfl)  (opv_lookup2 (P := Try.prog) (ks := [y.k0, y.k1, y.k2, y.k3]) zeroInt rfl rfl (key4 y.k0 y.k1 y.k2 y.k3) keyAt rfl) ?_
  refine th_take rfl rfl (by kernel_rfl)  (opv_move rfl) ?_
  refine th_take rfl rfl (by kernel_rfl)  (opv_extract rfl rfl) ?_
  refine th_take rfl rfl (by kernel_rfl)  (opv_extract rfl rfl) ?_
  refine th_take rfl rfl (by kernel_rfl)  (opv_assign rfl) ?_
  refine th_take rfl rfl (by kernel_rfl)  (opv_assign rfl) ?_
  refine th_done (by kernel_rfl) ?_
  refine tT (tS (tR (tM rfl rfl (tM rfl rfl ?_))))
  refine tri_bool 86 rfl (fun g1 => ?_) (fun g1 => ?_)
  ·refine tri_guard_skip rfl rfl rfl rfl (tri_guard_skip rfl rfl rfl rfl ?_)
   refine tri_v (opv_pick_t rfl rfl) rfl ?_
   refine tM rfl rfl (tri_guard_skip rfl rfl rfl rfl (tri_guard_skip rfl rfl rfl rfl (tri_guard_skip rfl rfl rfl rfl ?_)))
   refine tri_v (opv_pick_t rfl rfl) rfl ?_
   refine tN (tT ?_)
   refine tri_cond_true rfl ?_
   refine tS (tR (tA rfl rfl (tA rfl rfl (tN (tT (tri_ret (tri_then_ret ?_)))))))
   refine tri_inBlock_ret ?_
   refine tri_then_ret (tri_then_ret ?_)
   refine tri_inBlock_ret ?_
   refine tri_then_ret ?_
   refine tri_end A Suf.h rfl (.cons (rv_tmp rfl) (.cons (rv_tmp rfl) .nil)) (.inr ⟨fun hf => ?_, rfl, rfl, rfl⟩)
   have h3 := (hfi.1 (hf.2 (i + 2) hlt (by omega))).1
   rw [if_neg h3] at hmf
   have g1' : (mfind es y.kids).isSome = true := g1
   rw [hmf] at g1'
   cases g1'
  refine tri_guard_run rfl rfl rfl (tM rfl rfl (tri_guard_run rfl rfl rfl ?_))
  refine tri_v (opv_not rfl) rfl ?_
  refine tri_v (opv_pick_f rfl rfl) rfl ?_
  refine tM rfl rfl ?_
  have hat : ¬ 0 ≤ R6.at_ (ns.take (i + 2)) y.kids := fun h3 => by
   rw [if_pos h3] at hmf
   have g1' : (mfind es y.kids).isSome = false := g1
   rw [hmf] at g1'
   cases g1'
  refine tri_bool 90 rfl (fun g2 => ?_) (fun g2 => ?_)
  ·refine tri_guard_skip rfl rfl rfl rfl (tri_guard_skip rfl rfl rfl rfl (tri_guard_skip rfl rfl rfl rfl ?_))
   refine tri_v (opv_pick_t rfl rfl) rfl ?_
   refine tN (tT ?_)
   refine tri_cond_true rfl ?_
   refine tS (tR (tA rfl rfl (tA rfl rfl (tN (tT (tri_ret (tri_then_ret ?_)))))))
   refine tri_inBlock_ret ?_
   refine tri_then_ret (tri_then_ret ?_)
   refine tri_inBlock_ret ?_
   refine tri_then_ret ?_
   refine tri_end A Suf.h rfl (.cons (rv_tmp rfl) (.cons (rv_tmp rfl) .nil)) (.inr ⟨fun hf => ?_, rfl, rfl, rfl⟩)
   have h3 := (hfi.1 (hf.2 (i + 2) hlt (by omega))).2.1
   rw [hok2.2 h3] at g2
   cases g2
  refine tri_guard_run rfl rfl rfl ?_
  refine tri_v (opv_loadA rfl rfl rfl) rfl ?_
  refine tri_guard_run rfl rfl rfl ?_
  refine tri_v (opv_loadA rfl rfl rfl) rfl ?_
  refine tri_guard_run rfl rfl rfl ?_
  refine tri_v (opv_neqI rfl rfl rfl rfl rfl rfl) rfl ?_
  refine tri_v (opv_pick_f rfl rfl) rfl ?_
  refine tN (tT ?_)
  have hok1 : ok = true := by cases ok <;> simp_all
  have hf4 := hok2.1 hok1
  have hz' := hz hok1
  refine tri_cond_dec rfl (fun g3 => ?_) (fun g3 => ?_)
  ·refine tS (tR (tA rfl rfl (tA rfl rfl (tN (tT (tri_ret (tri_then_ret ?_)))))))
   refine tri_inBlock_ret ?_
   refine tri_then_ret (tri_then_ret ?_)
   refine tri_inBlock_ret ?_
   refine tri_then_ret ?_
   refine tri_end A Suf.h rfl (.cons (rv_tmp rfl) (.cons (rv_tmp rfl) .nil)) (.inr ⟨fun hf => ?_, rfl, rfl, rfl⟩)
   have h3 := (hfi.1 (hf.2 (i + 2) hlt (by omega))).2.2
   exact Node.ne_iff'.2 g3 (hz'.trans h3)
  have hzy : z = y := Decidable.not_not.1 fun h => g3 (Node.ne_iff'.1 h)
  have hfit : R6.fits ns (i + 2) := hfi.2 ⟨hat, hf4, hz'.symm.trans hzy⟩
  have htk2 : ns.take (i + 1 + 2) = ns.take (i + 2) ++ [y] := htk1
  have hl3 : (ns.take (i + 1 + 2)).length = (ns.take (i + 2)).length + 1 := by rw [htk2]; simp
  have hok2' : ∀ j, j < i + 1 + 2 → 2 ≤ j → R6.fits ns j := fun j hj hj2 => by
   by_cases e : j = i + 2
   ·subst e; exact hfit
   ·exact hok j (by omega) hj2
  have hix2 : Idx (ns.take (i + 1 + 2)) (mset es [y.k0, y.k1, y.k2, y.k3] (.int .i64 ((i : Int) + 2))) := by
   have := hix.snoc (by omega) y hat
   rw [htk, ← htk2] at this
   exact this
  skip
  refine tri_skip (tT (tS ?_))
  refine tri_perm (A := ?a3_0 :: ?a3_1 :: ?a3_2 :: ?a3_3 :: ?a3_4 :: ?T3) (B := ?a3_4 :: ?a3_0 :: ?a3_1 :: ?a3_2 :: ?a3_3 :: ?T3) (by exact permL [4, 0, 1, 2, 3] [?a3_0, ?a3_1, ?a3_2, ?a3_3, ?a3_4] ?T3 (by decide) rfl) ?_
  skip
  refine tri_draw [0, 1, 2, 3, 4, 5, 6, 7, 8] rfl [_] rfl mixed ?_
  refine th_take rfl rfl (by kernel_rfl)  (opv_move rfl) ?_
  refine th_take rfl rfl (by kernel_rfl)  (opv_nilCheck rfl) ?_
  refine th_take rfl rfl (by kernel_rfl)  (opv_fieldAddr rfl rfl) ?_
  refine th_take rfl rfl (by kernel_rfl)  (opv_load1 rfl rfl rfl) ?_
  refine th_take rfl rfl (by kernel_rfl)  (opv_fieldAddr rfl rfl) ?_
  refine th_take rfl rfl (by kernel_rfl)  (opv_loadA rfl rfl rfl) ?_
  refine th_take rfl rfl (by kernel_rfl)  (opv_move rfl) ?_
  refine th_take rfl rfl (by kernel_rfl)  (opv_add rfl rfl (w64 (by omega) (by omega))) ?_
  refine th_one (by kernel_rfl) (step_m rfl rfl (opg_mapUpdate (P := Try.prog) (ks := [y.k0, y.k1, y.k2, y.k3]) rfl rfl rfl (key4 y.k0 y.k1 y.k2 y.k3) keyAt rfl) ?_)
  rintro _ _ _ ⟨rfl, rfl⟩
  refine ⟨Suf.h, (fun _ h => h), ?_⟩
  refine th_done (by kernel_rfl) ?_
  refine tT ?_
  refine tri_perm (A := ?a4_0 :: ?a4_1 :: ?a4_2 :: ?a4_3 :: ?a4_4 :: ?T4) (B := ?a4_2 :: ?a4_3 :: ?a4_0 :: ?a4_1 :: ?a4_4 :: ?T4) (by exact permL [2, 3, 0, 1, 4] [?a4_0, ?a4_1, ?a4_2, ?a4_3, ?a4_4] ?T4 (by decide) rfl) ?_
  skip
  refine tri_draw [0, 1, 2, 3, 4, 6, 5, 7, 8, 9, 10, 11, 12] rfl [_, _] rfl mixed ?_
  refine th_take rfl rfl (by kernel_rfl)  (opv_move rfl) ?_
  refine th_take rfl rfl (by kernel_rfl)  (opv_move rfl) ?_
  refine th_take rfl rfl (by kernel_rfl)  (opv_nilCheck rfl) ?_
  refine th_take rfl rfl (by kernel_rfl)  (opv_fieldAddr rfl rfl) ?_
  refine th_take rfl rfl (by kernel_rfl)  (opv_fieldAddr rfl rfl) ?_
  refine th_take rfl rfl (by kernel_rfl)  (opv_loadA rfl rfl rfl) ?_
  refine th_two (j := 7) [5, 8, 9, 10, 11, 12] (by kernel_rfl) rfl ?_ ?_
  ·refine (step_m rfl rfl (OpV.toG (opv_load1 rfl rfl rfl)) ?_)
   rintro _ _ _ ⟨rfl, rfl, rfl⟩
   refine ⟨Suf.h, (fun _ h => h), ?_⟩
   refine th_one (by kernel_rfl) (step_m rfl rfl (opg_buildSlice rfl rfl rfl rfl) ?_)
   rintro _ _ _ ⟨b110, rfl, rfl, rfl⟩
   refine ⟨Suf.h, (fun _ h => h), ?_⟩
   refine th_one (by kernel_rfl) (step_m rfl rfl (opg_appendB rfl rfl rfl rfl (by omega) rfl) ?_)
   rintro _ _ _ ⟨a3, c3, rfl, rfl, rfl⟩
   refine ⟨Suf.h, (fun _ h => h), ?_⟩
   refine th_take rfl rfl (by kernel_rfl)  (opv_nilCheck rfl) ?_
   refine th_take rfl rfl (by kernel_rfl)  (opv_fieldAddr rfl rfl) ?_
   refine th_take rfl rfl (by kernel_rfl)  (opv_fieldAddr rfl rfl) ?_
   refine th_one (by kernel_rfl) (step_m rfl rfl (opg_store rfl rfl rfl rfl rfl rfl) ?_)
   rintro _ _ _ ⟨rfl, rfl⟩
   refine ⟨Suf.h, (fun _ h => h), ?_⟩
   refine th_done (by kernel_rfl) ?_
   refine tri_inBlock ?_
   refine tT (tR ?_)
   refine tU rfl rfl (by omega) (by omega) rfl ?_
   refine tM rfl rfl (tN (tT ?_))
   refine tri_perm (A := ?a5_0 :: ?a5_1 :: ?a5_2 :: ?a5_3 :: ?a5_4 :: ?a5_5 :: ?T5) (B := ?a5_0 :: ?a5_4 :: ?a5_5 :: ?a5_2 :: ?a5_1 :: ?a5_3 :: ?T5) (by exact permL [0, 4, 5, 2, 1, 3] [?a5_0, ?a5_1, ?a5_2, ?a5_3, ?a5_4, ?a5_5] ?T5 (by decide) rfl) ?_
   refine tri_drop ?_
   refine tri_drop ?_
   refine tri_drop ?_
   refine tri_rowEq (len' := (ns.take (i + 1 + 2)).length) (cells' := encs (ns.take (i + 1 + 2))) hl3.symm (by rw [htk2, encs_append]; rfl) ?_
   rw [← hl3]
   refine tri_perm (A := ?a6_0 :: ?a6_1 :: ?a6_2 :: ?T6) (B := ?a6_1 :: ?a6_0 :: ?a6_2 :: ?T6) (by exact permL [1, 0, 2] [?a6_0, ?a6_1, ?a6_2] ?T6 (by decide) rfl) ?_
   refine tri_sub ?_ (hK (i + 1, a3, c3, mset es [y.k0, y.k1, y.k2, y.k3] (.int .i64 ((i : Int) + 2))) ⟨by simp only; omega, hok2', hmi.step hfit, hix2⟩ (by simp only; omega))
   exact ⟨rfl, rfl, rfl, rfl, rfl, trivial⟩
  ·refine (step_m rfl rfl (opg_buildSlice rfl rfl rfl rfl) ?_)
   rintro _ _ _ ⟨b110, rfl, rfl, rfl⟩
   refine ⟨Suf.h, (fun _ h => h), ?_⟩
   refine th_one (by kernel_rfl) (step_m rfl rfl (OpV.toG (opv_load1 rfl rfl rfl)) ?_)
   rintro _ _ _ ⟨rfl, rfl, rfl⟩
   refine ⟨Suf.h, (fun _ h => h), ?_⟩
   refine th_one (by kernel_rfl) (step_m rfl rfl (opg_appendB rfl rfl rfl rfl (by omega) rfl) ?_)
   rintro _ _ _ ⟨a3, c3, rfl, rfl, rfl⟩
   refine ⟨Suf.h, (fun _ h => h), ?_⟩
   refine th_take rfl rfl (by kernel_rfl)  (opv_nilCheck rfl) ?_
   refine th_take rfl rfl (by kernel_rfl)  (opv_fieldAddr rfl rfl) ?_
   refine th_take rfl rfl (by kernel_rfl)  (opv_fieldAddr rfl rfl) ?_
   refine th_one (by kernel_rfl) (step_m rfl rfl (opg_store rfl rfl rfl rfl rfl rfl) ?_)
   rintro _ _ _ ⟨rfl, rfl⟩
   refine ⟨Suf.h, (fun _ h => h), ?_⟩
   refine th_done (by kernel_rfl) ?_
   refine tri_inBlock ?_
   refine tT (tR ?_)
   refine tU rfl rfl (by omega) (by omega) rfl ?_
   refine tM rfl rfl (tN (tT ?_))
   refine tri_perm (A := ?a7_0 :: ?a7_1 :: ?a7_2 :: ?a7_3 :: ?a7_4 :: ?a7_5 :: ?T7) (B := ?a7_0 :: ?a7_4 :: ?a7_5 :: ?a7_2 :: ?a7_1 :: ?a7_3 :: ?T7) (by exact permL [0, 4, 5, 2, 1, 3] [?a7_0, ?a7_1, ?a7_2, ?a7_3, ?a7_4, ?a7_5] ?T7 (by decide) rfl) ?_
   refine tri_drop ?_
   refine tri_drop ?_
   refine tri_drop ?_
   refine tri_rowEq (len' := (ns.take (i + 1 + 2)).length) (cells' := encs (ns.take (i + 1 + 2))) hl3.symm (by rw [htk2, encs_append]; rfl) ?_
   rw [← hl3]
   refine tri_perm (A := ?a8_0 :: ?a8_1 :: ?a8_2 :: ?T8) (B := ?a8_1 :: ?a8_0 :: ?a8_2 :: ?T8) (by exact permL [1, 0, 2] [?a8_0, ?a8_1, ?a8_2] ?T8 (by decide) rfl) ?_
   refine tri_sub ?_ (hK (i + 1, a3, c3, mset es [y.k0, y.k1, y.k2, y.k3] (.int .i64 ((i : Int) + 2))) ⟨by simp only; omega, hok2', hmi.step hfit, hix2⟩ (by simp only; omega))
   exact ⟨rfl, rfl, rfl, rfl, rfl, trivial⟩
 ·have hi2 : i + 2 = ns.length := by omega
  have hr : R6.right ns room := ⟨⟨by omega, by omega, by omega, by omega, e0, e1⟩, fun j hj hj2 => hok j (by omega) hj2⟩
  have e : ns.take (i + 2) = ns := List.take_of_length_le (by omega)
  rw [e] at hix
  rw [e]
  refine tri_exit ?_
  refine tri_then_exit ?_
  refine tri_then_exit ?_
  refine tri_inBlock_hit rfl ?_
  refine tT (tS (tR (tM rfl rfl (tA rfl rfl (tA rfl rfl (tN (tT ?_)))))))
  refine tri_ret ?_
  refine tri_perm (A := ?a9_0 :: ?a9_1 :: ?a9_2 :: ?a9_3 :: ?T9) (B := ?a9_3 :: ?a9_0 :: ?a9_1 :: ?a9_2 :: ?T9) (by exact permL [3, 0, 1, 2] [?a9_0, ?a9_1, ?a9_2, ?a9_3] ?T9 (by decide) rfl) ?_
  refine tri_end (IxA bx mb ai ci ns room es A) Suf.h rfl (.cons (rv_tmp rfl) (.cons (rv_tmp rfl) .nil)) (.inl ⟨hr, bx, mb, ai, ci, es, rfl, rfl, hix, rfl⟩)
end Go.GL


set_option linter.unusedVariables false
namespace Go.GL
open Go.Proofs
attribute [local irreducible] wpList Code.wp Exit.then Exit.inBlock Ends Tri TriH OpV OpG FnC epf wpAnyH
variable {A : List Asrt} {I : List Chunk}
set_option maxRecDepth 100000 in
theorem life_lives {alive : Bool} {k : Int} : FnC Try.prog 90 [.bool alive, .int .i64 k].toArray A I (fun v A' I' => v = .bool (R2.lives alive k) ∧ A = A' ∧ I = I') := by
 refine fn_enter2 Try.func90 rfl Try.ntmps90 rfl fun w0 => ?_
 refine tS (tR (tA rfl rfl (tN (tT (tS (tS (tR ?_)))))))
 refine tM rfl rfl (tN (tT (tri_block (tS (tR ?_)))))
 refine tri_v (opv_eql rfl rfl) rfl ?_
 refine tA rfl rfl (tN (tT ?_))
 refine tri_cond_dec rfl (fun h1 => ?_) (fun h1 => ?_)
 ·refine tS (tR (tM rfl rfl (tA rfl rfl (tN (tT (tri_ret ?_))))))
  refine tri_inBlock_ret ?_
  refine tri_then_ret ?_
  refine tri_end A Suf.h rfl (.cons (rv_tmp rfl) .nil) ⟨congrArg Value.bool ?_, rfl, rfl⟩
  have h3 : ¬ k = 3 := by omega
  simp [R2.lives, h1]
 ·refine tS (tR ?_)
  refine tri_v (opv_eql rfl rfl) rfl ?_
  refine tA rfl rfl (tN (tT ?_))
  refine tri_cond_dec rfl (fun h2 => ?_) (fun h2 => ?_)
  ·refine tS (tR (tA rfl rfl (tN (tT (tri_ret ?_)))))
   refine tri_inBlock_ret ?_
   refine tri_then_ret ?_
   refine tri_end A Suf.h rfl (.cons (rv_tmp rfl) .nil) ⟨congrArg Value.bool ?_, rfl, rfl⟩
   simp [R2.lives, h2]
  ·refine tri_skip ?_
   refine tri_inBlock ?_
   refine tT (tS (tR (tA rfl rfl (tN (tT (tri_ret ?_))))))
   refine tri_end A Suf.h rfl (.cons (rv_tmp rfl) .nil) ⟨congrArg Value.bool ?_, rfl, rfl⟩
   simp [R2.lives, h1, h2]
theorem R8.g_off (l : List Int) (i : Int) : l.getD (0 + i.toNat * 1) default = R8.g l i := by
 rw [Nat.zero_add, Nat.mul_one]; rfl
set_option maxRecDepth 100000 in
theorem base_square {l : List Int} {y x : Int} (hl : l.length = 16) (y0 : 0 ≤ y) (y1 : y ≤ 2) (x0 : 0 ≤ x) (x1 : x ≤ 2) :
  FnC Try.prog 92 [.agg (ints l).toArray, .int .i64 y, .int .i64 x].toArray A I (fun v A' I' => v = int4V (R8.g l (4 * y + x)) (R8.g l (4 * y + x + 1)) (R8.g l (4 * y + x + 4)) (R8.g l (4 * y + x + 5)) ∧ A = A' ∧ I = I') := by
 skip
 refine fn_enter3 Try.func92 rfl Try.ntmps92 rfl fun w0 => ?_
 refine tS (tR ?_)
 refine tri_g (opg_box_agg rfl) rfl ?_
 rintro _ _ _ ⟨b3, rfl, rfl, rfl⟩
 refine tri_g opg_alloc rfl ?_
 rintro _ _ _ ⟨b6, rfl, rfl, rfl⟩
 refine tN (tT (tS (tR (tM rfl rfl ?_))))
 refine tri_v (opv_mul rfl rfl (w64 (by omega) (by omega))) rfl ?_
 refine tM rfl rfl ?_
 refine tU rfl rfl (by omega) (by omega) rfl ?_
 refine tA rfl rfl (tN (tT (tS ?_)))
 skip
 refine tri_draw [0, 1, 2, 3, 4, 5, 6, 7, 8, 9, 10, 11, 12, 13, 14, 15, 16, 17] rfl [_] rfl mixed ?_
 refine th_take rfl rfl (by kernel_rfl)  (opv_move rfl) ?_
 refine th_take rfl rfl (by kernel_rfl)  (opv_indexAddrA rfl rfl (by omega) (by omega)) ?_
 refine th_take rfl rfl (by kernel_rfl)  (opv_loadIX rfl rfl (by omega)) ?_
 refine th_take rfl rfl (by kernel_rfl)  (opv_move rfl) ?_
 refine th_take rfl rfl (by kernel_rfl)  (opv_add rfl rfl (w64 (by omega) (by omega))) ?_
 refine th_take rfl rfl (by kernel_rfl)  (opv_indexAddrA rfl rfl (by omega) (by omega)) ?_
 refine th_take rfl rfl (by kernel_rfl)  (opv_loadIX rfl rfl (by omega)) ?_
 refine th_take rfl rfl (by kernel_rfl)  (opv_move rfl) ?_
 refine th_take rfl rfl (by kernel_rfl)  (opv_add rfl rfl (w64 (by omega) (by omega))) ?_
 refine th_take rfl rfl (by kernel_rfl)  (opv_indexAddrA rfl rfl (by omega) (by omega)) ?_
 refine th_take rfl rfl (by kernel_rfl)  (opv_loadIX rfl rfl (by omega)) ?_
 refine th_take rfl rfl (by kernel_rfl)  (opv_move rfl) ?_
 refine th_take rfl rfl (by kernel_rfl)  (opv_add rfl rfl (w64 (by omega) (by omega))) ?_
 refine th_take rfl rfl (by kernel_rfl)  (opv_add rfl rfl (w64 (by omega) (by omega))) ?_
 refine th_take rfl rfl (by kernel_rfl)  (opv_indexAddrA rfl rfl (by omega) (by omega)) ?_
 refine th_take rfl rfl (by kernel_rfl)  (opv_loadIX rfl rfl (by omega)) ?_
 refine th_take rfl rfl (by kernel_rfl)  (opv_buildA rfl rfl) ?_
 refine th_one (by kernel_rfl) (step_m rfl rfl (opg_store rfl rfl rfl rfl rfl rfl) ?_)
 rintro _ _ _ ⟨rfl, rfl⟩
 refine ⟨Suf.h, (fun _ h => h), ?_⟩
 refine th_done (by kernel_rfl) ?_
 refine tT (tri_ret ?_)
 refine tri_end A Suf.h rfl (.cons (rv_cellA rfl rfl rfl) .nil) ⟨?_, rfl, rfl⟩
 simp only [R8.g_off, retV]
 rw [show y * 4 = 4 * y by omega, show 4 * y + x + 4 + 1 = 4 * y + x + 5 by omega]
def R8.ar (l : List Int) (i : Int) : Int := 0 + (R8.g l (i + -4 - 1) + R8.g l (i + -4) + R8.g l (i + -4 + 1)) + (R8.g l (i + 0 - 1) + R8.g l (i + 0) + R8.g l (i + 0 + 1)) + (R8.g l (i + 4 - 1) + R8.g l (i + 4) + R8.g l (i + 4 + 1)) - R8.g l i
set_option maxHeartbeats 1000000 in
set_option maxRecDepth 100000 in
theorem base_around {l : List Int} {i : Int} (hl : l.length = 16) (hb : ∀ i, 0 ≤ R8.g l i ∧ R8.g l i ≤ 1) (i0 : 5 ≤ i) (i1 : i ≤ 10) :
  FnC Try.prog 91 [.agg (ints l).toArray, .int .i64 i].toArray A I (fun v A' I' => v = .int .i64 (R8.ar l i) ∧ A = A' ∧ I = I') := by
 have hb' : ∀ j : Int, 0 ≤ l.getD (0 + j.toNat * 1) default ∧ l.getD (0 + j.toNat * 1) default ≤ 1 := fun j => by rw [R8.g_off]; exact hb j
 skip
 refine fn_enter2 Try.func91 rfl Try.ntmps91 rfl fun w0 => ?_
 refine tS (tR ?_)
 refine tri_g (opg_box_agg rfl) rfl ?_
 rintro _ _ _ ⟨b2, rfl, rfl, rfl⟩
 refine tA rfl rfl (tN (tT (tS (tS (tR (tA rfl rfl (tN ?_)))))))
 refine tT (tri_block ?_)
 refine tri_rounds 4 ?_
 refine tri_round ?_
 refine tS (tS (tR (tM rfl rfl ?_)))
 refine tri_v (opv_leq rfl rfl) rfl ?_
 refine tN (tT ?_)
 refine tri_cond_is rfl (by decide) ?_
 have a0 := hb' (i + (-4) - 1)
 have b0 := hb' (i + (-4))
 have c0 := hb' (i + (-4) + 1)
 refine tri_skip (tT (tS (tri_block ?_)))
 refine tri_draw [0, 1, 2, 3, 4, 5, 6, 7, 8, 9, 10, 11, 12, 13, 14, 15, 16, 17, 18, 19, 20, 21] rfl [] rfl mixed ?_
 refine th_take rfl rfl (by kernel_rfl)  (opv_move rfl) ?_
 refine th_take rfl rfl (by kernel_rfl)  (opv_move rfl) ?_
 refine th_take rfl rfl (by kernel_rfl)  (opv_move rfl) ?_
 refine th_take rfl rfl (by kernel_rfl)  (opv_add rfl rfl (w64 (by omega) (by omega))) ?_
 refine th_take rfl rfl (by kernel_rfl)  (opv_sub rfl rfl (w64 (by omega) (by omega))) ?_
 refine th_take rfl rfl (by kernel_rfl)  (opv_indexAddrA rfl rfl (by omega) (by omega)) ?_
 refine th_take rfl rfl (by kernel_rfl)  (opv_loadIX rfl rfl (by omega)) ?_
 refine th_take rfl rfl (by kernel_rfl)  (opv_move rfl) ?_
 refine th_take rfl rfl (by kernel_rfl)  (opv_move rfl) ?_
 refine th_take rfl rfl (by kernel_rfl)  (opv_add rfl rfl (w64 (by omega) (by omega))) ?_
 refine th_take rfl rfl (by kernel_rfl)  (opv_indexAddrA rfl rfl (by omega) (by omega)) ?_
 refine th_take rfl rfl (by kernel_rfl)  (opv_loadIX rfl rfl (by omega)) ?_
 refine th_take rfl rfl (by kernel_rfl)  (opv_add rfl rfl (w64 (by omega) (by omega))) ?_
 refine th_take rfl rfl (by kernel_rfl)  (opv_move rfl) ?_
 refine th_take rfl rfl (by kernel_rfl)  (opv_move rfl) ?_
 refine th_take rfl rfl (by kernel_rfl)  (opv_add rfl rfl (w64 (by omega) (by omega))) ?_
 refine th_take rfl rfl (by kernel_rfl)  (opv_add rfl rfl (w64 (by omega) (by omega))) ?_
 refine th_take rfl rfl (by kernel_rfl)  (opv_indexAddrA rfl rfl (by omega) (by omega)) ?_
 refine th_take rfl rfl (by kernel_rfl)  (opv_loadIX rfl rfl (by omega)) ?_
 refine th_take rfl rfl (by kernel_rfl)  (opv_add rfl rfl (w64 (by omega) (by omega))) ?_
 refine th_take rfl rfl (by kernel_rfl)  (opv_add rfl rfl (w64 (by omega) (by omega))) ?_
 refine th_take rfl rfl (by kernel_rfl)  (opv_assign rfl) ?_
 refine th_done (by kernel_rfl) ?_
 refine tri_inBlock ?_
 refine tT (tR (tM rfl rfl ?_))
 refine tU rfl rfl (by omega) (by omega) rfl ?_
 refine tA rfl rfl (tN (tT ?_))
 refine tri_round ?_
 refine tS (tS (tR (tM rfl rfl ?_)))
 refine tri_v (opv_leq rfl rfl) rfl ?_
 refine tN (tT ?_)
 skip
 refine tri_cond_is rfl (by decide) ?_
 have a4 := hb' (i + (-4 + 4) - 1)
 have b4 := hb' (i + (-4 + 4))
 have c4 := hb' (i + (-4 + 4) + 1)
 refine tri_skip (tT (tS (tri_block ?_)))
 refine tri_draw [0, 1, 2, 3, 4, 5, 6, 7, 8, 9, 10, 11, 12, 13, 14, 15, 16, 17, 18, 19, 20, 21] rfl [] rfl mixed ?_
 refine th_take rfl rfl (by kernel_rfl)  (opv_move rfl) ?_
 refine th_take rfl rfl (by kernel_rfl)  (opv_move rfl) ?_
 refine th_take rfl rfl (by kernel_rfl)  (opv_move rfl) ?_
 refine th_take rfl rfl (by kernel_rfl)  (opv_add rfl rfl (w64 (by omega) (by omega))) ?_
 refine th_take rfl rfl (by kernel_rfl)  (opv_sub rfl rfl (w64 (by omega) (by omega))) ?_
 refine th_take rfl rfl (by kernel_rfl)  (opv_indexAddrA rfl rfl (by omega) (by omega)) ?_
 refine th_take rfl rfl (by kernel_rfl)  (opv_loadIX rfl rfl (by omega)) ?_
 refine th_take rfl rfl (by kernel_rfl)  (opv_move rfl) ?_
 refine th_take rfl rfl (by kernel_rfl)  (opv_move rfl) ?_
 refine th_take rfl rfl (by kernel_rfl)  (opv_add rfl rfl (w64 (by omega) (by omega))) ?_
 refine th_take rfl rfl (by kernel_rfl)  (opv_indexAddrA rfl rfl (by omega) (by omega)) ?_
 refine th_take rfl rfl (by kernel_rfl)  (opv_loadIX rfl rfl (by omega)) ?_
 refine th_take rfl rfl (by kernel_rfl)  (opv_add rfl rfl (w64 (by omega) (by omega))) ?_
 refine th_take rfl rfl (by kernel_rfl)  (opv_move rfl) ?_
 refine th_take rfl rfl (by kernel_rfl)  (opv_move rfl) ?_
 refine th_take rfl rfl (by kernel_rfl)  (opv_add rfl rfl (w64 (by omega) (by omega))) ?_
 refine th_take rfl rfl (by kernel_rfl)  (opv_add rfl rfl (w64 (by omega) (by omega))) ?_
 refine th_take rfl rfl (by kernel_rfl)  (opv_indexAddrA rfl rfl (by omega) (by omega)) ?_
 refine th_take rfl rfl (by kernel_rfl)  (opv_loadIX rfl rfl (by omega)) ?_
 refine th_take rfl rfl (by kernel_rfl)  (opv_add rfl rfl (w64 (by omega) (by omega))) ?_
 refine th_take rfl rfl (by kernel_rfl)  (opv_add rfl rfl (w64 (by omega) (by omega))) ?_
 refine th_take rfl rfl (by kernel_rfl)  (opv_assign rfl) ?_
 refine th_done (by kernel_rfl) ?_
 refine tri_inBlock ?_
 refine tT (tR (tM rfl rfl ?_))
 refine tU rfl rfl (by omega) (by omega) rfl ?_
 refine tA rfl rfl (tN (tT ?_))
 refine tri_round ?_
 refine tS (tS (tR (tM rfl rfl ?_)))
 refine tri_v (opv_leq rfl rfl) rfl ?_
 refine tN (tT ?_)
 skip
 refine tri_cond_is rfl (by decide) ?_
 have a8 := hb' (i + (-4 + 4 + 4) - 1)
 have b8 := hb' (i + (-4 + 4 + 4))
 have c8 := hb' (i + (-4 + 4 + 4) + 1)
 refine tri_skip (tT (tS (tri_block ?_)))
 refine tri_draw [0, 1, 2, 3, 4, 5, 6, 7, 8, 9, 10, 11, 12, 13, 14, 15, 16, 17, 18, 19, 20, 21] rfl [] rfl mixed ?_
 refine th_take rfl rfl (by kernel_rfl)  (opv_move rfl) ?_
 refine th_take rfl rfl (by kernel_rfl)  (opv_move rfl) ?_
 refine th_take rfl rfl (by kernel_rfl)  (opv_move rfl) ?_
 refine th_take rfl rfl (by kernel_rfl)  (opv_add rfl rfl (w64 (by omega) (by omega))) ?_
 refine th_take rfl rfl (by kernel_rfl)  (opv_sub rfl rfl (w64 (by omega) (by omega))) ?_
 refine th_take rfl rfl (by kernel_rfl)  (opv_indexAddrA rfl rfl (by omega) (by omega)) ?_
 refine th_take rfl rfl (by kernel_rfl)  (opv_loadIX rfl rfl (by omega)) ?_
 refine th_take rfl rfl (by kernel_rfl)  (opv_move rfl) ?_
 refine th_take rfl rfl (by kernel_rfl)  (opv_move rfl) ?_
 refine th_take rfl rfl (by kernel_rfl)  (opv_add rfl rfl (w64 (by omega) (by omega))) ?_
 refine th_take rfl rfl (by kernel_rfl)  (opv_indexAddrA rfl rfl (by omega) (by omega)) ?_
 refine th_take rfl rfl (by kernel_rfl)  (opv_loadIX rfl rfl (by omega)) ?_
 refine th_take rfl rfl (by kernel_rfl)  (opv_add rfl rfl (w64 (by omega) (by omega))) ?_
 refine th_take rfl rfl (by kernel_rfl)  (opv_move rfl) ?_
 refine th_take rfl rfl (by kernel_rfl)  (opv_move rfl) ?_
 refine th_take rfl rfl (by kernel_rfl)  (opv_add rfl rfl (w64 (by omega) (by omega))) ?_
 refine th_take rfl rfl (by kernel_rfl)  (opv_add rfl rfl (w64 (by omega) (by omega))) ?_
 refine th_take rfl rfl (by kernel_rfl)  (opv_indexAddrA rfl rfl (by omega) (by omega)) ?_
 refine th_take rfl rfl (by kernel_rfl)  (opv_loadIX rfl rfl (by omega)) ?_
 refine th_take rfl rfl (by kernel_rfl)  (opv_add rfl rfl (w64 (by omega) (by omega))) ?_
 refine th_take rfl rfl (by kernel_rfl)  (opv_add rfl rfl (w64 (by omega) (by omega))) ?_
 refine th_take rfl rfl (by kernel_rfl)  (opv_assign rfl) ?_
 refine th_done (by kernel_rfl) ?_
 refine tri_inBlock ?_
 refine tT (tR (tM rfl rfl ?_))
 refine tU rfl rfl (by omega) (by omega) rfl ?_
 refine tA rfl rfl (tN (tT ?_))
 refine tri_round ?_
 refine tS (tS (tR (tM rfl rfl ?_)))
 refine tri_v (opv_leq rfl rfl) rfl ?_
 refine tN (tT ?_)
 refine tri_cond_not rfl (by decide) ?_
 have d0 := hb' i
 refine tri_exit ?_
 refine tri_then_exit ?_
 refine tri_then_exit ?_
 refine tri_inBlock_hit rfl ?_
 refine tT (tS (tR (tM rfl rfl (tM rfl rfl ?_))))
 refine tri_v (opv_indexAddrA rfl rfl (by omega) (by omega)) rfl ?_
 refine tri_v (opv_loadIX rfl rfl (by omega)) rfl ?_
 refine tri_v (opv_sub rfl rfl (w64 (by omega) (by omega))) rfl ?_
 refine tA rfl rfl (tN (tT (tri_ret ?_)))
 refine tri_end A Suf.h rfl (.cons (rv_tmp rfl) .nil) ⟨?_, rfl, rfl⟩
 simp only [R8.g_off, retV]
 rfl
end Go.GL


set_option linter.unusedVariables false
namespace Go.GL
open Go.Proofs
attribute [local irreducible] wpList Code.wp Exit.then Exit.inBlock Ends Tri TriH OpV OpG FnC epf wpAnyH
variable {A : List Asrt} {I : List Chunk}
set_option maxHeartbeats 2000000 in
set_option maxRecDepth 100000 in
theorem base_sixteen {ns : List Node} {a : Option Addr} {cap bx : Nat} {room n : Int} {mv : Value} (hk : R8.Kid ns n) :
  FnC Try.prog 89 [.agg [pt bx 0].toArray, .int .i64 n].toArray (Box bx [.slice a ns.length cap, .int .i64 room, mv] 87 :: Row a cap ns.length 43 6 (encs ns) :: A) I (fun v A' I' => v = .agg (ints (R8.s16 ns n)).toArray ∧ A' = (Box bx [.slice a ns.length cap, .int .i64 room, mv] 87 :: Row a cap ns.length 43 6 (encs ns) :: A) ∧ I = I') := by
 obtain ⟨⟨hn0, hn1⟩, ⟨ha0, ha1⟩, ⟨hb0, hb1⟩, ⟨hc0, hc1⟩, ⟨hd0, hd1⟩⟩ := hk
 unfold R6.nd at ha0 ha1 hb0 hb1 hc0 hc1 hd0 hd1
 skip
 refine fn_enter2 Try.func89 rfl Try.ntmps89 rfl fun w0 => ?_
 refine tS (tR ?_)
 refine tri_g (opg_box_agg rfl) rfl ?_
 rintro _ _ _ ⟨b2, rfl, rfl, rfl⟩
 refine tri_g opg_alloc rfl ?_
 rintro _ _ _ ⟨b4, rfl, rfl, rfl⟩
 refine tN (tT (tS (tS (tR ?_))))
 refine tri_v (opv_fieldAddr rfl rfl) rfl ?_
 refine tri_v (opv_load1 rfl rfl rfl) rfl ?_
 refine tri_v (opv_nilCheck rfl) rfl ?_
 refine tri_v (opv_fieldAddr rfl rfl) rfl ?_
 refine tri_v (opv_fieldAddr rfl rfl) rfl ?_
 refine tri_v (opv_load1 rfl rfl rfl) rfl ?_
 refine tM rfl rfl ?_
 refine tri_v (opv_indexAddrR rfl rfl (by omega) (by omega)) rfl ?_
 refine tri_v (opv_fieldAddrR rfl (by omega) rfl) rfl ?_
 refine tri_v (opv_loadRXA rfl rfl (by omega) rfl rfl rfl) rfl ?_
 refine tM rfl rfl (tN (tT (tri_block ?_)))
 refine tri_rounds 5 ?_
 refine tri_round ?_
 refine tS (tR ?_)
 refine tri_v (opv_lss rfl rfl) rfl ?_
 refine tN (tT (tS ?_))
 refine tri_cond_is rfl (by decide) ?_
 refine tri_skip (tT (tS (tri_block (tS (tR (tM rfl rfl ?_))))))
 refine tri_v (opv_index rfl rfl (by decide) (by decide) rfl rfl) rfl ?_
 refine tA rfl rfl (tA rfl rfl (tN (tT (tS (tR ?_)))))
 refine tri_v (opv_fieldAddr rfl rfl) rfl ?_
 refine tri_v (opv_load1 rfl rfl rfl) rfl ?_
 refine tri_v (opv_nilCheck rfl) rfl ?_
 refine tri_v (opv_fieldAddr rfl rfl) rfl ?_
 refine tri_v (opv_fieldAddr rfl rfl) rfl ?_
 refine tri_v (opv_load1 rfl rfl rfl) rfl ?_
 refine tM rfl rfl ?_
 refine tri_v (opv_indexAddrR rfl rfl (by omega) (by omega)) rfl ?_
 refine tri_v (opv_fieldAddrR rfl (by omega) rfl) rfl ?_
 refine tri_v (opv_loadRXA rfl rfl (by omega) rfl rfl rfl) rfl ?_
 refine tM rfl rfl (tN (tT (tri_block ?_)))
 refine tri_rounds 5 ?_
 refine tri_round ?_
 refine tS (tR ?_)
 refine tri_v (opv_lss rfl rfl) rfl ?_
 refine tN (tT (tS ?_))
 refine tri_cond_is rfl (by decide) ?_
 refine tri_skip (tT (tS (tri_block (tS (tR (tM rfl rfl ?_))))))
 refine tri_v (opv_index rfl rfl (by decide) (by decide) rfl rfl) rfl ?_
 refine tA rfl rfl (tA rfl rfl (tN (tT (tR (tM rfl rfl ?_)))))
 refine tri_v (opv_quoE rfl rfl (by omega) (by omega) (by omega)) rfl ?_
 refine tri_v (opv_mul rfl rfl (w64 (by omega) (by omega))) rfl ?_
 refine tM rfl rfl ?_
 refine tri_v (opv_quoE rfl rfl (by omega) (by omega) (by omega)) rfl ?_
 refine tU rfl rfl (by omega) (by omega) rfl ?_
 refine tri_v (opv_mul rfl rfl (w64 (by omega) (by omega))) rfl ?_
 refine tM rfl rfl ?_
 refine tri_v (opv_remE rfl rfl (by omega) (by omega)) rfl ?_
 refine tri_v (opv_mul rfl rfl (w64 (by omega) (by omega))) rfl ?_
 refine tU rfl rfl (by omega) (by omega) rfl ?_
 refine tM rfl rfl ?_
 refine tri_v (opv_remE rfl rfl (by omega) (by omega)) rfl ?_
 refine tU rfl rfl (by omega) (by omega) rfl ?_
 refine tM rfl rfl ?_
 refine tri_v (opv_indexAddrA rfl rfl (by decide) (by decide)) rfl ?_
 refine tri_g (opg_store rfl rfl rfl rfl rfl rfl) rfl ?_
 rintro _ _ _ ⟨rfl, rfl⟩
 refine tN ?_
 refine tri_inBlock ?_
 refine tT (tR ?_)
 refine tU rfl rfl (by omega) (by omega) rfl ?_
 refine tM rfl rfl (tN (tT ?_))
 refine tri_round ?_
 refine tS (tR ?_)
 refine tri_v (opv_lss rfl rfl) rfl ?_
 refine tN (tT (tS ?_))
 skip
 refine tri_cond_is rfl (by decide) ?_
 refine tri_skip (tT (tS (tri_block (tS (tR (tM rfl rfl ?_))))))
 refine tri_v (opv_index rfl rfl (by decide) (by decide) rfl rfl) rfl ?_
 refine tA rfl rfl (tA rfl rfl (tN (tT (tR (tM rfl rfl ?_)))))
 refine tri_v (opv_quoE rfl rfl (by omega) (by omega) (by omega)) rfl ?_
 refine tri_v (opv_mul rfl rfl (w64 (by omega) (by omega))) rfl ?_
 refine tM rfl rfl ?_
 refine tri_v (opv_quoE rfl rfl (by omega) (by omega) (by omega)) rfl ?_
 refine tU rfl rfl (by omega) (by omega) rfl ?_
 refine tri_v (opv_mul rfl rfl (w64 (by omega) (by omega))) rfl ?_
 refine tM rfl rfl ?_
 refine tri_v (opv_remE rfl rfl (by omega) (by omega)) rfl ?_
 refine tri_v (opv_mul rfl rfl (w64 (by omega) (by omega))) rfl ?_
 refine tU rfl rfl (by omega) (by omega) rfl ?_
 refine tM rfl rfl ?_
 refine tri_v (opv_remE rfl rfl (by omega) (by omega)) rfl ?_
 refine tU rfl rfl (by omega) (by omega) rfl ?_
 refine tM rfl rfl ?_
 refine tri_v (opv_indexAddrA rfl rfl (by decide) (by decide)) rfl ?_
 refine tri_g (opg_store rfl rfl rfl rfl rfl rfl) rfl ?_
 rintro _ _ _ ⟨rfl, rfl⟩
 refine tN ?_
 refine tri_inBlock ?_
 refine tT (tR ?_)
 refine tU rfl rfl (by omega) (by omega) rfl ?_
 refine tM rfl rfl (tN (tT ?_))
 refine tri_round ?_
 refine tS (tR ?_)
 refine tri_v (opv_lss rfl rfl) rfl ?_
 refine tN (tT (tS ?_))
 skip
 refine tri_cond_is rfl (by decide) ?_
 refine tri_skip (tT (tS (tri_block (tS (tR (tM rfl rfl ?_))))))
 refine tri_v (opv_index rfl rfl (by decide) (by decide) rfl rfl) rfl ?_
 refine tA rfl rfl (tA rfl rfl (tN (tT (tR (tM rfl rfl ?_)))))
 refine tri_v (opv_quoE rfl rfl (by omega) (by omega) (by omega)) rfl ?_
 refine tri_v (opv_mul rfl rfl (w64 (by omega) (by omega))) rfl ?_
 refine tM rfl rfl ?_
 refine tri_v (opv_quoE rfl rfl (by omega) (by omega) (by omega)) rfl ?_
 refine tU rfl rfl (by omega) (by omega) rfl ?_
 refine tri_v (opv_mul rfl rfl (w64 (by omega) (by omega))) rfl ?_
 refine tM rfl rfl ?_
 refine tri_v (opv_remE rfl rfl (by omega) (by omega)) rfl ?_
 refine tri_v (opv_mul rfl rfl (w64 (by omega) (by omega))) rfl ?_
 refine tU rfl rfl (by omega) (by omega) rfl ?_
 refine tM rfl rfl ?_
 refine tri_v (opv_remE rfl rfl (by omega) (by omega)) rfl ?_
 refine tU rfl rfl (by omega) (by omega) rfl ?_
 refine tM rfl rfl ?_
 refine tri_v (opv_indexAddrA rfl rfl (by decide) (by decide)) rfl ?_
 refine tri_g (opg_store rfl rfl rfl rfl rfl rfl) rfl ?_
 rintro _ _ _ ⟨rfl, rfl⟩
 refine tN ?_
 refine tri_inBlock ?_
 refine tT (tR ?_)
 refine tU rfl rfl (by omega) (by omega) rfl ?_
 refine tM rfl rfl (tN (tT ?_))
 refine tri_round ?_
 refine tS (tR ?_)
 refine tri_v (opv_lss rfl rfl) rfl ?_
 refine tN (tT (tS ?_))
 skip
 refine tri_cond_is rfl (by decide) ?_
 refine tri_skip (tT (tS (tri_block (tS (tR (tM rfl rfl ?_))))))
 refine tri_v (opv_index rfl rfl (by decide) (by decide) rfl rfl) rfl ?_
 refine tA rfl rfl (tA rfl rfl (tN (tT (tR (tM rfl rfl ?_)))))
 refine tri_v (opv_quoE rfl rfl (by omega) (by omega) (by omega)) rfl ?_
 refine tri_v (opv_mul rfl rfl (w64 (by omega) (by omega))) rfl ?_
 refine tM rfl rfl ?_
 refine tri_v (opv_quoE rfl rfl (by omega) (by omega) (by omega)) rfl ?_
 refine tU rfl rfl (by omega) (by omega) rfl ?_
 refine tri_v (opv_mul rfl rfl (w64 (by omega) (by omega))) rfl ?_
 refine tM rfl rfl ?_
 refine tri_v (opv_remE rfl rfl (by omega) (by omega)) rfl ?_
 refine tri_v (opv_mul rfl rfl (w64 (by omega) (by omega))) rfl ?_
 refine tU rfl rfl (by omega) (by omega) rfl ?_
 refine tM rfl rfl ?_
 refine tri_v (opv_remE rfl rfl (by omega) (by omega)) rfl ?_
 refine tU rfl rfl (by omega) (by omega) rfl ?_
 refine tM rfl rfl ?_
 refine tri_v (opv_indexAddrA rfl rfl (by decide) (by decide)) rfl ?_
 refine tri_g (opg_store rfl rfl rfl rfl rfl rfl) rfl ?_
 rintro _ _ _ ⟨rfl, rfl⟩
 refine tN ?_
 refine tri_inBlock ?_
 refine tT (tR ?_)
 refine tU rfl rfl (by omega) (by omega) rfl ?_
 refine tM rfl rfl (tN (tT ?_))
 refine tri_round ?_
 refine tS (tR ?_)
 refine tri_v (opv_lss rfl rfl) rfl ?_
 refine tN (tT (tS ?_))
 refine tri_cond_not rfl (by decide) ?_
 refine tri_exit ?_
 refine tri_then_exit ?_
 refine tri_then_exit ?_
 refine tri_inBlock_hit rfl ?_
 refine tri_inBlock ?_
 refine tT (tR ?_)
 refine tU rfl rfl (by omega) (by omega) rfl ?_
 refine tM rfl rfl (tN (tT ?_))
 refine tri_round ?_
 refine tS (tR ?_)
 refine tri_v (opv_lss rfl rfl) rfl ?_
 refine tN (tT (tS ?_))
 refine tri_cond_is rfl (by decide) ?_
 refine tri_skip (tT (tS (tri_block (tS (tR (tM rfl rfl ?_))))))
 refine tri_v (opv_index rfl rfl (by decide) (by decide) rfl rfl) rfl ?_
 refine tA rfl rfl (tA rfl rfl (tN (tT (tS (tR ?_)))))
 refine tri_v (opv_fieldAddr rfl rfl) rfl ?_
 refine tri_v (opv_load1 rfl rfl rfl) rfl ?_
 refine tri_v (opv_nilCheck rfl) rfl ?_
 refine tri_v (opv_fieldAddr rfl rfl) rfl ?_
 refine tri_v (opv_fieldAddr rfl rfl) rfl ?_
 refine tri_v (opv_load1 rfl rfl rfl) rfl ?_
 refine tM rfl rfl ?_
 refine tri_v (opv_indexAddrR rfl rfl (by omega) (by omega)) rfl ?_
 refine tri_v (opv_fieldAddrR rfl (by omega) rfl) rfl ?_
 refine tri_v (opv_loadRXA rfl rfl (by omega) rfl rfl rfl) rfl ?_
 refine tM rfl rfl (tN (tT (tri_block ?_)))
 refine tri_rounds 5 ?_
 refine tri_round ?_
 refine tS (tR ?_)
 refine tri_v (opv_lss rfl rfl) rfl ?_
 refine tN (tT (tS ?_))
 refine tri_cond_is rfl (by decide) ?_
 refine tri_skip (tT (tS (tri_block (tS (tR (tM rfl rfl ?_))))))
 refine tri_v (opv_index rfl rfl (by decide) (by decide) rfl rfl) rfl ?_
 refine tA rfl rfl (tA rfl rfl (tN (tT (tR (tM rfl rfl ?_)))))
 refine tri_v (opv_quoE rfl rfl (by omega) (by omega) (by omega)) rfl ?_
 refine tri_v (opv_mul rfl rfl (w64 (by omega) (by omega))) rfl ?_
 refine tM rfl rfl ?_
 refine tri_v (opv_quoE rfl rfl (by omega) (by omega) (by omega)) rfl ?_
 refine tU rfl rfl (by omega) (by omega) rfl ?_
 refine tri_v (opv_mul rfl rfl (w64 (by omega) (by omega))) rfl ?_
 refine tM rfl rfl ?_
 refine tri_v (opv_remE rfl rfl (by omega) (by omega)) rfl ?_
 refine tri_v (opv_mul rfl rfl (w64 (by omega) (by omega))) rfl ?_
 refine tU rfl rfl (by omega) (by omega) rfl ?_
 refine tM rfl rfl ?_
 refine tri_v (opv_remE rfl rfl (by omega) (by omega)) rfl ?_
 refine tU rfl rfl (by omega) (by omega) rfl ?_
 refine tM rfl rfl ?_
 refine tri_v (opv_indexAddrA rfl rfl (by decide) (by decide)) rfl ?_
 refine tri_g (opg_store rfl rfl rfl rfl rfl rfl) rfl ?_
 rintro _ _ _ ⟨rfl, rfl⟩
 refine tN ?_
 refine tri_inBlock ?_
 refine tT (tR ?_)
 refine tU rfl rfl (by omega) (by omega) rfl ?_
 refine tM rfl rfl (tN (tT ?_))
 refine tri_round ?_
 refine tS (tR ?_)
 refine tri_v (opv_lss rfl rfl) rfl ?_
 refine tN (tT (tS ?_))
 skip
 refine tri_cond_is rfl (by decide) ?_
 refine tri_skip (tT (tS (tri_block (tS (tR (tM rfl rfl ?_))))))
 refine tri_v (opv_index rfl rfl (by decide) (by decide) rfl rfl) rfl ?_
 refine tA rfl rfl (tA rfl rfl (tN (tT (tR (tM rfl rfl ?_)))))
 refine tri_v (opv_quoE rfl rfl (by omega) (by omega) (by omega)) rfl ?_
 refine tri_v (opv_mul rfl rfl (w64 (by omega) (by omega))) rfl ?_
 refine tM rfl rfl ?_
 refine tri_v (opv_quoE rfl rfl (by omega) (by omega) (by omega)) rfl ?_
 refine tU rfl rfl (by omega) (by omega) rfl ?_
 refine tri_v (opv_mul rfl rfl (w64 (by omega) (by omega))) rfl ?_
 refine tM rfl rfl ?_
 refine tri_v (opv_remE rfl rfl (by omega) (by omega)) rfl ?_
 refine tri_v (opv_mul rfl rfl (w64 (by omega) (by omega))) rfl ?_
 refine tU rfl rfl (by omega) (by omega) rfl ?_
 refine tM rfl rfl ?_
 refine tri_v (opv_remE rfl rfl (by omega) (by omega)) rfl ?_
 refine tU rfl rfl (by omega) (by omega) rfl ?_
 refine tM rfl rfl ?_
 refine tri_v (opv_indexAddrA rfl rfl (by decide) (by decide)) rfl ?_
 refine tri_g (opg_store rfl rfl rfl rfl rfl rfl) rfl ?_
 rintro _ _ _ ⟨rfl, rfl⟩
 refine tN ?_
 refine tri_inBlock ?_
 refine tT (tR ?_)
 refine tU rfl rfl (by omega) (by omega) rfl ?_
 refine tM rfl rfl (tN (tT ?_))
 refine tri_round ?_
 refine tS (tR ?_)
 refine tri_v (opv_lss rfl rfl) rfl ?_
 refine tN (tT (tS ?_))
 skip
 refine tri_cond_is rfl (by decide) ?_
 refine tri_skip (tT (tS (tri_block (tS (tR (tM rfl rfl ?_))))))
 refine tri_v (opv_index rfl rfl (by decide) (by decide) rfl rfl) rfl ?_
 refine tA rfl rfl (tA rfl rfl (tN (tT (tR (tM rfl rfl ?_)))))
 refine tri_v (opv_quoE rfl rfl (by omega) (by omega) (by omega)) rfl ?_
 refine tri_v (opv_mul rfl rfl (w64 (by omega) (by omega))) rfl ?_
 refine tM rfl rfl ?_
 refine tri_v (opv_quoE rfl rfl (by omega) (by omega) (by omega)) rfl ?_
 refine tU rfl rfl (by omega) (by omega) rfl ?_
 refine tri_v (opv_mul rfl rfl (w64 (by omega) (by omega))) rfl ?_
 refine tM rfl rfl ?_
 refine tri_v (opv_remE rfl rfl (by omega) (by omega)) rfl ?_
 refine tri_v (opv_mul rfl rfl (w64 (by omega) (by omega))) rfl ?_
 refine tU rfl rfl (by omega) (by omega) rfl ?_
 refine tM rfl rfl ?_
 refine tri_v (opv_remE rfl rfl (by omega) (by omega)) rfl ?_
 refine tU rfl rfl (by omega) (by omega) rfl ?_
 refine tM rfl rfl ?_
 refine tri_v (opv_indexAddrA rfl rfl (by decide) (by decide)) rfl ?_
 refine tri_g (opg_store rfl rfl rfl rfl rfl rfl) rfl ?_
 rintro _ _ _ ⟨rfl, rfl⟩
 refine tN ?_
 refine tri_inBlock ?_
 refine tT (tR ?_)
 refine tU rfl rfl (by omega) (by omega) rfl ?_
 refine tM rfl rfl (tN (tT ?_))
 refine tri_round ?_
 refine tS (tR ?_)
 refine tri_v (opv_lss rfl rfl) rfl ?_
 refine tN (tT (tS ?_))
 skip
 refine tri_cond_is rfl (by decide) ?_
 refine tri_skip (tT (tS (tri_block (tS (tR (tM rfl rfl ?_))))))
 refine tri_v (opv_index rfl rfl (by decide) (by decide) rfl rfl) rfl ?_
 refine tA rfl rfl (tA rfl rfl (tN (tT (tR (tM rfl rfl ?_)))))
 refine tri_v (opv_quoE rfl rfl (by omega) (by omega) (by omega)) rfl ?_
 refine tri_v (opv_mul rfl rfl (w64 (by omega) (by omega))) rfl ?_
 refine tM rfl rfl ?_
 refine tri_v (opv_quoE rfl rfl (by omega) (by omega) (by omega)) rfl ?_
 refine tU rfl rfl (by omega) (by omega) rfl ?_
 refine tri_v (opv_mul rfl rfl (w64 (by omega) (by omega))) rfl ?_
 refine tM rfl rfl ?_
 refine tri_v (opv_remE rfl rfl (by omega) (by omega)) rfl ?_
 refine tri_v (opv_mul rfl rfl (w64 (by omega) (by omega))) rfl ?_
 refine tU rfl rfl (by omega) (by omega) rfl ?_
 refine tM rfl rfl ?_
 refine tri_v (opv_remE rfl rfl (by omega) (by omega)) rfl ?_
 refine tU rfl rfl (by omega) (by omega) rfl ?_
 refine tM rfl rfl ?_
 refine tri_v (opv_indexAddrA rfl rfl (by decide) (by decide)) rfl ?_
 refine tri_g (opg_store rfl rfl rfl rfl rfl rfl) rfl ?_
 rintro _ _ _ ⟨rfl, rfl⟩
 refine tN ?_
 refine tri_inBlock ?_
 refine tT (tR ?_)
 refine tU rfl rfl (by omega) (by omega) rfl ?_
 refine tM rfl rfl (tN (tT ?_))
 refine tri_round ?_
 refine tS (tR ?_)
 refine tri_v (opv_lss rfl rfl) rfl ?_
 refine tN (tT (tS ?_))
 refine tri_cond_not rfl (by decide) ?_
 refine tri_exit ?_
 refine tri_then_exit ?_
 refine tri_then_exit ?_
 refine tri_inBlock_hit rfl ?_
 refine tri_inBlock ?_
 refine tT (tR ?_)
 refine tU rfl rfl (by omega) (by omega) rfl ?_
 refine tM rfl rfl (tN (tT ?_))
 refine tri_round ?_
 refine tS (tR ?_)
 refine tri_v (opv_lss rfl rfl) rfl ?_
 refine tN (tT (tS ?_))
 refine tri_cond_is rfl (by decide) ?_
 refine tri_skip (tT (tS (tri_block (tS (tR (tM rfl rfl ?_))))))
 refine tri_v (opv_index rfl rfl (by decide) (by decide) rfl rfl) rfl ?_
 refine tA rfl rfl (tA rfl rfl (tN (tT (tS (tR ?_)))))
 refine tri_v (opv_fieldAddr rfl rfl) rfl ?_
 refine tri_v (opv_load1 rfl rfl rfl) rfl ?_
 refine tri_v (opv_nilCheck rfl) rfl ?_
 refine tri_v (opv_fieldAddr rfl rfl) rfl ?_
 refine tri_v (opv_fieldAddr rfl rfl) rfl ?_
 refine tri_v (opv_load1 rfl rfl rfl) rfl ?_
 refine tM rfl rfl ?_
 refine tri_v (opv_indexAddrR rfl rfl (by omega) (by omega)) rfl ?_
 refine tri_v (opv_fieldAddrR rfl (by omega) rfl) rfl ?_
 refine tri_v (opv_loadRXA rfl rfl (by omega) rfl rfl rfl) rfl ?_
 refine tM rfl rfl (tN (tT (tri_block ?_)))
 refine tri_rounds 5 ?_
 refine tri_round ?_
 refine tS (tR ?_)
 refine tri_v (opv_lss rfl rfl) rfl ?_
 refine tN (tT (tS ?_))
 refine tri_cond_is rfl (by decide) ?_
 refine tri_skip (tT (tS (tri_block (tS (tR (tM rfl rfl ?_))))))
 refine tri_v (opv_index rfl rfl (by decide) (by decide) rfl rfl) rfl ?_
 refine tA rfl rfl (tA rfl rfl (tN (tT (tR (tM rfl rfl ?_)))))
 refine tri_v (opv_quoE rfl rfl (by omega) (by omega) (by omega)) rfl ?_
 refine tri_v (opv_mul rfl rfl (w64 (by omega) (by omega))) rfl ?_
 refine tM rfl rfl ?_
 refine tri_v (opv_quoE rfl rfl (by omega) (by omega) (by omega)) rfl ?_
 refine tU rfl rfl (by omega) (by omega) rfl ?_
 refine tri_v (opv_mul rfl rfl (w64 (by omega) (by omega))) rfl ?_
 refine tM rfl rfl ?_
 refine tri_v (opv_remE rfl rfl (by omega) (by omega)) rfl ?_
 refine tri_v (opv_mul rfl rfl (w64 (by omega) (by omega))) rfl ?_
 refine tU rfl rfl (by omega) (by omega) rfl ?_
 refine tM rfl rfl ?_
 refine tri_v (opv_remE rfl rfl (by omega) (by omega)) rfl ?_
 refine tU rfl rfl (by omega) (by omega) rfl ?_
 refine tM rfl rfl ?_
 refine tri_v (opv_indexAddrA rfl rfl (by decide) (by decide)) rfl ?_
 refine tri_g (opg_store rfl rfl rfl rfl rfl rfl) rfl ?_
 rintro _ _ _ ⟨rfl, rfl⟩
 refine tN ?_
 refine tri_inBlock ?_
 refine tT (tR ?_)
 refine tU rfl rfl (by omega) (by omega) rfl ?_
 refine tM rfl rfl (tN (tT ?_))
 refine tri_round ?_
 refine tS (tR ?_)
 refine tri_v (opv_lss rfl rfl) rfl ?_
 refine tN (tT (tS ?_))
 skip
 refine tri_cond_is rfl (by decide) ?_
 refine tri_skip (tT (tS (tri_block (tS (tR (tM rfl rfl ?_))))))
 refine tri_v (opv_index rfl rfl (by decide) (by decide) rfl rfl) rfl ?_
 refine tA rfl rfl (tA rfl rfl (tN (tT (tR (tM rfl rfl ?_)))))
 refine tri_v (opv_quoE rfl rfl (by omega) (by omega) (by omega)) rfl ?_
 refine tri_v (opv_mul rfl rfl (w64 (by omega) (by omega))) rfl ?_
 refine tM rfl rfl ?_
 refine tri_v (opv_quoE rfl rfl (by omega) (by omega) (by omega)) rfl ?_
 refine tU rfl rfl (by omega) (by omega) rfl ?_
 refine tri_v (opv_mul rfl rfl (w64 (by omega) (by omega))) rfl ?_
 refine tM rfl rfl ?_
 refine tri_v (opv_remE rfl rfl (by omega) (by omega)) rfl ?_
 refine tri_v (opv_mul rfl rfl (w64 (by omega) (by omega))) rfl ?_
 refine tU rfl rfl (by omega) (by omega) rfl ?_
 refine tM rfl rfl ?_
 refine tri_v (opv_remE rfl rfl (by omega) (by omega)) rfl ?_
 refine tU rfl rfl (by omega) (by omega) rfl ?_
 refine tM rfl rfl ?_
 refine tri_v (opv_indexAddrA rfl rfl (by decide) (by decide)) rfl ?_
 refine tri_g (opg_store rfl rfl rfl rfl rfl rfl) rfl ?_
 rintro _ _ _ ⟨rfl, rfl⟩
 refine tN ?_
 refine tri_inBlock ?_
 refine tT (tR ?_)
 refine tU rfl rfl (by omega) (by omega) rfl ?_
 refine tM rfl rfl (tN (tT ?_))
 refine tri_round ?_
 refine tS (tR ?_)
 refine tri_v (opv_lss rfl rfl) rfl ?_
 refine tN (tT (tS ?_))
 skip
 refine tri_cond_is rfl (by decide) ?_
 refine tri_skip (tT (tS (tri_block (tS (tR (tM rfl rfl ?_))))))
 refine tri_v (opv_index rfl rfl (by decide) (by decide) rfl rfl) rfl ?_
 refine tA rfl rfl (tA rfl rfl (tN (tT (tR (tM rfl rfl ?_)))))
 refine tri_v (opv_quoE rfl rfl (by omega) (by omega) (by omega)) rfl ?_
 refine tri_v (opv_mul rfl rfl (w64 (by omega) (by omega))) rfl ?_
 refine tM rfl rfl ?_
 refine tri_v (opv_quoE rfl rfl (by omega) (by omega) (by omega)) rfl ?_
 refine tU rfl rfl (by omega) (by omega) rfl ?_
 refine tri_v (opv_mul rfl rfl (w64 (by omega) (by omega))) rfl ?_
 refine tM rfl rfl ?_
 refine tri_v (opv_remE rfl rfl (by omega) (by omega)) rfl ?_
 refine tri_v (opv_mul rfl rfl (w64 (by omega) (by omega))) rfl ?_
 refine tU rfl rfl (by omega) (by omega) rfl ?_
 refine tM rfl rfl ?_
 refine tri_v (opv_remE rfl rfl (by omega) (by omega)) rfl ?_
 refine tU rfl rfl (by omega) (by omega) rfl ?_
 refine tM rfl rfl ?_
 refine tri_v (opv_indexAddrA rfl rfl (by decide) (by decide)) rfl ?_
 refine tri_g (opg_store rfl rfl rfl rfl rfl rfl) rfl ?_
 rintro _ _ _ ⟨rfl, rfl⟩
 refine tN ?_
 refine tri_inBlock ?_
 refine tT (tR ?_)
 refine tU rfl rfl (by omega) (by omega) rfl ?_
 refine tM rfl rfl (tN (tT ?_))
 refine tri_round ?_
 refine tS (tR ?_)
 refine tri_v (opv_lss rfl rfl) rfl ?_
 refine tN (tT (tS ?_))
 skip
 refine tri_cond_is rfl (by decide) ?_
 refine tri_skip (tT (tS (tri_block (tS (tR (tM rfl rfl ?_))))))
 refine tri_v (opv_index rfl rfl (by decide) (by decide) rfl rfl) rfl ?_
 refine tA rfl rfl (tA rfl rfl (tN (tT (tR (tM rfl rfl ?_)))))
 refine tri_v (opv_quoE rfl rfl (by omega) (by omega) (by omega)) rfl ?_
 refine tri_v (opv_mul rfl rfl (w64 (by omega) (by omega))) rfl ?_
 refine tM rfl rfl ?_
 refine tri_v (opv_quoE rfl rfl (by omega) (by omega) (by omega)) rfl ?_
 refine tU rfl rfl (by omega) (by omega) rfl ?_
 refine tri_v (opv_mul rfl rfl (w64 (by omega) (by omega))) rfl ?_
 refine tM rfl rfl ?_
 refine tri_v (opv_remE rfl rfl (by omega) (by omega)) rfl ?_
 refine tri_v (opv_mul rfl rfl (w64 (by omega) (by omega))) rfl ?_
 refine tU rfl rfl (by omega) (by omega) rfl ?_
 refine tM rfl rfl ?_
 refine tri_v (opv_remE rfl rfl (by omega) (by omega)) rfl ?_
 refine tU rfl rfl (by omega) (by omega) rfl ?_
 refine tM rfl rfl ?_
 refine tri_v (opv_indexAddrA rfl rfl (by decide) (by decide)) rfl ?_
 refine tri_g (opg_store rfl rfl rfl rfl rfl rfl) rfl ?_
 rintro _ _ _ ⟨rfl, rfl⟩
 refine tN ?_
 refine tri_inBlock ?_
 refine tT (tR ?_)
 refine tU rfl rfl (by omega) (by omega) rfl ?_
 refine tM rfl rfl (tN (tT ?_))
 refine tri_round ?_
 refine tS (tR ?_)
 refine tri_v (opv_lss rfl rfl) rfl ?_
 refine tN (tT (tS ?_))
 refine tri_cond_not rfl (by decide) ?_
 refine tri_exit ?_
 refine tri_then_exit ?_
 refine tri_then_exit ?_
 refine tri_inBlock_hit rfl ?_
 refine tri_inBlock ?_
 refine tT (tR ?_)
 refine tU rfl rfl (by omega) (by omega) rfl ?_
 refine tM rfl rfl (tN (tT ?_))
 refine tri_round ?_
 refine tS (tR ?_)
 refine tri_v (opv_lss rfl rfl) rfl ?_
 refine tN (tT (tS ?_))
 refine tri_cond_is rfl (by decide) ?_
 refine tri_skip (tT (tS (tri_block (tS (tR (tM rfl rfl ?_))))))
 refine tri_v (opv_index rfl rfl (by decide) (by decide) rfl rfl) rfl ?_
 refine tA rfl rfl (tA rfl rfl (tN (tT (tS (tR ?_)))))
 refine tri_v (opv_fieldAddr rfl rfl) rfl ?_
 refine tri_v (opv_load1 rfl rfl rfl) rfl ?_
 refine tri_v (opv_nilCheck rfl) rfl ?_
 refine tri_v (opv_fieldAddr rfl rfl) rfl ?_
 refine tri_v (opv_fieldAddr rfl rfl) rfl ?_
 refine tri_v (opv_load1 rfl rfl rfl) rfl ?_
 refine tM rfl rfl ?_
 refine tri_v (opv_indexAddrR rfl rfl (by omega) (by omega)) rfl ?_
 refine tri_v (opv_fieldAddrR rfl (by omega) rfl) rfl ?_
 refine tri_v (opv_loadRXA rfl rfl (by omega) rfl rfl rfl) rfl ?_
 refine tM rfl rfl (tN (tT (tri_block ?_)))
 refine tri_rounds 5 ?_
 refine tri_round ?_
 refine tS (tR ?_)
 refine tri_v (opv_lss rfl rfl) rfl ?_
 refine tN (tT (tS ?_))
 refine tri_cond_is rfl (by decide) ?_
 refine tri_skip (tT (tS (tri_block (tS (tR (tM rfl rfl ?_))))))
 refine tri_v (opv_index rfl rfl (by decide) (by decide) rfl rfl) rfl ?_
 refine tA rfl rfl (tA rfl rfl (tN (tT (tR (tM rfl rfl ?_)))))
 refine tri_v (opv_quoE rfl rfl (by omega) (by omega) (by omega)) rfl ?_
 refine tri_v (opv_mul rfl rfl (w64 (by omega) (by omega))) rfl ?_
 refine tM rfl rfl ?_
 refine tri_v (opv_quoE rfl rfl (by omega) (by omega) (by omega)) rfl ?_
 refine tU rfl rfl (by omega) (by omega) rfl ?_
 refine tri_v (opv_mul rfl rfl (w64 (by omega) (by omega))) rfl ?_
 refine tM rfl rfl ?_
 refine tri_v (opv_remE rfl rfl (by omega) (by omega)) rfl ?_
 refine tri_v (opv_mul rfl rfl (w64 (by omega) (by omega))) rfl ?_
 refine tU rfl rfl (by omega) (by omega) rfl ?_
 refine tM rfl rfl ?_
 refine tri_v (opv_remE rfl rfl (by omega) (by omega)) rfl ?_
 refine tU rfl rfl (by omega) (by omega) rfl ?_
 refine tM rfl rfl ?_
 refine tri_v (opv_indexAddrA rfl rfl (by decide) (by decide)) rfl ?_
 refine tri_g (opg_store rfl rfl rfl rfl rfl rfl) rfl ?_
 rintro _ _ _ ⟨rfl, rfl⟩
 refine tN ?_
 refine tri_inBlock ?_
 refine tT (tR ?_)
 refine tU rfl rfl (by omega) (by omega) rfl ?_
 refine tM rfl rfl (tN (tT ?_))
 refine tri_round ?_
 refine tS (tR ?_)
 refine tri_v (opv_lss rfl rfl) rfl ?_
 refine tN (tT (tS ?_))
 skip
 refine tri_cond_is rfl (by decide) ?_
 refine tri_skip (tT (tS (tri_block (tS (tR (tM rfl rfl ?_))))))
 refine tri_v (opv_index rfl rfl (by decide) (by decide) rfl rfl) rfl ?_
 refine tA rfl rfl (tA rfl rfl (tN (tT (tR (tM rfl rfl ?_)))))
 refine tri_v (opv_quoE rfl rfl (by omega) (by omega) (by omega)) rfl ?_
 refine tri_v (opv_mul rfl rfl (w64 (by omega) (by omega))) rfl ?_
 refine tM rfl rfl ?_
 refine tri_v (opv_quoE rfl rfl (by omega) (by omega) (by omega)) rfl ?_
 refine tU rfl rfl (by omega) (by omega) rfl ?_
 refine tri_v (opv_mul rfl rfl (w64 (by omega) (by omega))) rfl ?_
 refine tM rfl rfl ?_
 refine tri_v (opv_remE rfl rfl (by omega) (by omega)) rfl ?_
 refine tri_v (opv_mul rfl rfl (w64 (by omega) (by omega))) rfl ?_
 refine tU rfl rfl (by omega) (by omega) rfl ?_
 refine tM rfl rfl ?_
 refine tri_v (opv_remE rfl rfl (by omega) (by omega)) rfl ?_
 refine tU rfl rfl (by omega) (by omega) rfl ?_
 refine tM rfl rfl ?_
 refine tri_v (opv_indexAddrA rfl rfl (by decide) (by decide)) rfl ?_
 refine tri_g (opg_store rfl rfl rfl rfl rfl rfl) rfl ?_
 rintro _ _ _ ⟨rfl, rfl⟩
 refine tN ?_
 refine tri_inBlock ?_
 refine tT (tR ?_)
 refine tU rfl rfl (by omega) (by omega) rfl ?_
 refine tM rfl rfl (tN (tT ?_))
 refine tri_round ?_
 refine tS (tR ?_)
 refine tri_v (opv_lss rfl rfl) rfl ?_
 refine tN (tT (tS ?_))
 skip
 refine tri_cond_is rfl (by decide) ?_
 refine tri_skip (tT (tS (tri_block (tS (tR (tM rfl rfl ?_))))))
 refine tri_v (opv_index rfl rfl (by decide) (by decide) rfl rfl) rfl ?_
 refine tA rfl rfl (tA rfl rfl (tN (tT (tR (tM rfl rfl ?_)))))
 refine tri_v (opv_quoE rfl rfl (by omega) (by omega) (by omega)) rfl ?_
 refine tri_v (opv_mul rfl rfl (w64 (by omega) (by omega))) rfl ?_
 refine tM rfl rfl ?_
 refine tri_v (opv_quoE rfl rfl (by omega) (by omega) (by omega)) rfl ?_
 refine tU rfl rfl (by omega) (by omega) rfl ?_
 refine tri_v (opv_mul rfl rfl (w64 (by omega) (by omega))) rfl ?_
 refine tM rfl rfl ?_
 refine tri_v (opv_remE rfl rfl (by omega) (by omega)) rfl ?_
 refine tri_v (opv_mul rfl rfl (w64 (by omega) (by omega))) rfl ?_
 refine tU rfl rfl (by omega) (by omega) rfl ?_
 refine tM rfl rfl ?_
 refine tri_v (opv_remE rfl rfl (by omega) (by omega)) rfl ?_
 refine tU rfl rfl (by omega) (by omega) rfl ?_
 refine tM rfl rfl ?_
 refine tri_v (opv_indexAddrA rfl rfl (by decide) (by decide)) rfl ?_
 refine tri_g (opg_store rfl rfl rfl rfl rfl rfl) rfl ?_
 rintro _ _ _ ⟨rfl, rfl⟩
 refine tN ?_
 refine tri_inBlock ?_
 refine tT (tR ?_)
 refine tU rfl rfl (by omega) (by omega) rfl ?_
 refine tM rfl rfl (tN (tT ?_))
 refine tri_round ?_
 refine tS (tR ?_)
 refine tri_v (opv_lss rfl rfl) rfl ?_
 refine tN (tT (tS ?_))
 skip
 refine tri_cond_is rfl (by decide) ?_
 refine tri_skip (tT (tS (tri_block (tS (tR (tM rfl rfl ?_))))))
 refine tri_v (opv_index rfl rfl (by decide) (by decide) rfl rfl) rfl ?_
 refine tA rfl rfl (tA rfl rfl (tN (tT (tR (tM rfl rfl ?_)))))
 refine tri_v (opv_quoE rfl rfl (by omega) (by omega) (by omega)) rfl ?_
 refine tri_v (opv_mul rfl rfl (w64 (by omega) (by omega))) rfl ?_
 refine tM rfl rfl ?_
 refine tri_v (opv_quoE rfl rfl (by omega) (by omega) (by omega)) rfl ?_
 refine tU rfl rfl (by omega) (by omega) rfl ?_
 refine tri_v (opv_mul rfl rfl (w64 (by omega) (by omega))) rfl ?_
 refine tM rfl rfl ?_
 refine tri_v (opv_remE rfl rfl (by omega) (by omega)) rfl ?_
 refine tri_v (opv_mul rfl rfl (w64 (by omega) (by omega))) rfl ?_
 refine tU rfl rfl (by omega) (by omega) rfl ?_
 refine tM rfl rfl ?_
 refine tri_v (opv_remE rfl rfl (by omega) (by omega)) rfl ?_
 refine tU rfl rfl (by omega) (by omega) rfl ?_
 refine tM rfl rfl ?_
 refine tri_v (opv_indexAddrA rfl rfl (by decide) (by decide)) rfl ?_
 refine tri_g (opg_store rfl rfl rfl rfl rfl rfl) rfl ?_
 rintro _ _ _ ⟨rfl, rfl⟩
 refine tN ?_
 refine tri_inBlock ?_
 refine tT (tR ?_)
 refine tU rfl rfl (by omega) (by omega) rfl ?_
 refine tM rfl rfl (tN (tT ?_))
 refine tri_round ?_
 refine tS (tR ?_)
 refine tri_v (opv_lss rfl rfl) rfl ?_
 refine tN (tT (tS ?_))
 refine tri_cond_not rfl (by decide) ?_
 refine tri_exit ?_
 refine tri_then_exit ?_
 refine tri_then_exit ?_
 refine tri_inBlock_hit rfl ?_
 refine tri_inBlock ?_
 refine tT (tR ?_)
 refine tU rfl rfl (by omega) (by omega) rfl ?_
 refine tM rfl rfl (tN (tT ?_))
 refine tri_round ?_
 refine tS (tR ?_)
 refine tri_v (opv_lss rfl rfl) rfl ?_
 refine tN (tT (tS ?_))
 refine tri_cond_not rfl (by decide) ?_
 refine tri_exit ?_
 refine tri_then_exit ?_
 refine tri_then_exit ?_
 refine tri_inBlock_hit rfl ?_
 refine tT (tS (tR ?_))
 refine tri_v (opv_loadA rfl rfl rfl) rfl ?_
 refine tri_g (opg_store rfl rfl rfl rfl rfl rfl) rfl ?_
 rintro _ _ _ ⟨rfl, rfl⟩
 refine tN (tT (tri_ret ?_))
 refine tri_end _ (⟨[_, _], rfl⟩) rfl (.cons (rv_cellA rfl rfl rfl) .nil) ⟨rfl, rfl, rfl⟩
end Go.GL


set_option linter.unusedVariables false
namespace Go.GL
open Go.Proofs
attribute [local irreducible] wpList Code.wp Exit.then Exit.inBlock Ends Tri TriH OpV OpG FnC epf wpAnyH
variable {A : List Asrt} {I : List Chunk}
/-- What a function on an index tells and leaves behind. -/
def IxR (bx mb : Nat) (r : List Node × Int × Int) (room : Int) (A : List Asrt) (I : List Chunk) : Value → List Asrt → List Chunk → Prop :=
 fun v A' I' => ∃ a' cap' es', v = .tuple [.int .i64 r.2.1, .int .i64 r.2.2].toArray ∧ A' = IxA bx mb a' cap' r.1 room es' A ∧ Idx r.1 es' ∧ I = I'
theorem node_putR {A : List Asrt} {I : List Chunk} {ns : List Node} {a : Option Addr} {cap bx mb : Nat} {room q0 q1 q2 q3 : Int} {es : KVs} {r : List Node × Int × Int} (hg : R6.Good ns room) (h2 : 2 ≤ ns.length) (hi : Idx ns es) (hr : R6.put ns room q0 q1 q2 q3 = r) :
  FnC Try.prog 88 [pt bx 0, int4V q0 q1 q2 q3].toArray (IxA bx mb a cap ns room es A) I (IxR bx mb r room A I) := by
 subst hr
 exact node_put hg h2 hi
theorem R6.put_len {ns : List Node} {room q0 q1 q2 q3 : Int} (h : 2 ≤ ns.length) : 2 ≤ (R6.put ns room q0 q1 q2 q3).1.length := by
 unfold R6.put
 split
 ·split
  ·exact h
  ·split
   ·exact h
   ·simp only [List.length_append]; omega
 ·exact h
end Go.GL


set_option linter.unusedVariables false
namespace Go.GL
open Go.Proofs
attribute [local irreducible] wpList Code.wp Exit.then Exit.inBlock Ends Tri TriH OpV OpG FnC epf wpAnyH
variable {A : List Asrt} {I : List Chunk}
set_option maxRecDepth 100000 in
theorem maker_centre {ns : List Node} {a : Option Addr} {cap bx mb : Nat} {room n : Int} {es : KVs} (hg : R6.Good ns room) (h2 : 2 ≤ ns.length) (hi : Idx ns es) (hk : R8.Kid ns n) :
  FnC Try.prog 87 [.agg [pt bx 0].toArray, .int .i64 n].toArray (IxA bx mb a cap ns room es A) I (IxR bx mb (R8.putSq ns room (R8.s16 ns n) 1 1) room A I) := by
 skip
 refine fn_enter2 Try.func87 rfl Try.ntmps87 rfl fun w0 => ?_
 refine tS (tR ?_)
 refine tri_g (opg_box_agg rfl) rfl ?_
 rintro _ _ _ ⟨b2, rfl, rfl, rfl⟩
 refine tA rfl rfl (tA rfl rfl (tN (tT (tS ?_))))
 refine tri_perm (A := ?a1_0 :: ?a1_1 :: ?a1_2 :: ?a1_3 :: ?T1) (B := ?a1_1 :: ?a1_2 :: ?a1_3 :: ?a1_0 :: ?T1) (by exact permL [1, 2, 3, 0] [?a1_0, ?a1_1, ?a1_2, ?a1_3] ?T1 (by decide) rfl) ?_
 skip
 refine tri_draw [0, 1, 2, 3, 4, 5, 6, 7, 8, 9, 10] rfl [_, _, _] rfl mixed ?_
 refine th_take rfl rfl (by kernel_rfl)  (opv_fieldAddr rfl rfl) ?_
 refine th_take rfl rfl (by kernel_rfl)  (opv_load1 rfl rfl rfl) ?_
 refine th_take rfl rfl (by kernel_rfl)  (opv_loadA rfl rfl rfl) ?_
 refine th_take rfl rfl (by kernel_rfl)  (opv_move rfl) ?_
 refine th_one (by kernel_rfl) (step_m rfl rfl (opg_call (xs := [_, _]) rfl (base_sixteen hk)) ?_)
 rintro _ _ _ ⟨rfl, rfl, rfl⟩
 refine ⟨Suf.h, (fun _ h => h), ?_⟩
 skip
 refine th_one (by kernel_rfl) (step_m rfl rfl (opg_call (xs := [_, _, _]) rfl (base_square (R8.s16_len ns n) (by omega) (by omega) (by omega) (by omega))) ?_)
 rintro _ _ _ ⟨rfl, rfl, rfl⟩
 refine ⟨Suf.h, (fun _ h => h), ?_⟩
 skip
 refine th_one (by kernel_rfl) (step_m rfl rfl (opg_call (xs := [_, _]) rfl (node_putR (r := R8.putSq ns room (R8.s16 ns n) 1 1) hg h2 hi rfl)) ?_)
 rintro _ _ _ ⟨a1, c1, es1, rfl, rfl, hi1, rfl⟩
 refine ⟨Suf.h, (fun _ h => h), ?_⟩
 refine th_take rfl rfl (by kernel_rfl)  (opv_extract rfl rfl) ?_
 refine th_take rfl rfl (by kernel_rfl)  (opv_extract rfl rfl) ?_
 refine th_take rfl rfl (by kernel_rfl)  (opv_assign rfl) ?_
 refine th_take rfl rfl (by kernel_rfl)  (opv_assign rfl) ?_
 refine th_done (by kernel_rfl) ?_
 refine tT (tri_ret ?_)
 refine tri_perm (A := ?a2_0 :: ?a2_1 :: ?a2_2 :: ?a2_3 :: ?T2) (B := ?a2_3 :: ?a2_0 :: ?a2_1 :: ?a2_2 :: ?T2) (by exact permL [3, 0, 1, 2] [?a2_0, ?a2_1, ?a2_2, ?a2_3] ?T2 (by decide) rfl) ?_
 refine tri_end (IxA bx mb a1 c1 (R8.putSq ns room (R8.s16 ns n) 1 1).1 room es1 A) Suf.h rfl (.cons (rv_tmp rfl) (.cons (rv_tmp rfl) .nil)) ⟨a1, c1, es1, rfl, rfl, hi1, rfl⟩
theorem R8.ar_eq (l : List Int) : R8.ar l 5 = R8.about l 1 1 9 ∧ R8.ar l 6 = R8.about l 1 2 9 ∧ R8.ar l 9 = R8.about l 2 1 9 ∧ R8.ar l 10 = R8.about l 2 2 9 := by
 refine ⟨?_, ?_, ?_, ?_⟩ <;> simp [R8.about, R8.ar] <;> omega
theorem R8.bit_ar (l : List Int) : R8.bit l 1 1 = (if R2.lives (decide (R8.g l 5 = 1)) (R8.ar l 5) = true then 1 else 0) ∧ R8.bit l 1 2 = (if R2.lives (decide (R8.g l 6 = 1)) (R8.ar l 6) = true then 1 else 0) ∧ R8.bit l 2 1 = (if R2.lives (decide (R8.g l 9 = 1)) (R8.ar l 9) = true then 1 else 0) ∧ R8.bit l 2 2 = (if R2.lives (decide (R8.g l 10 = 1)) (R8.ar l 10) = true then 1 else 0) := by
 obtain ⟨h1, h2, h3, h4⟩ := R8.ar_eq l
 rw [h1, h2, h3, h4]
 exact ⟨rfl, rfl, rfl, rfl⟩
set_option maxHeartbeats 2000000 in
set_option maxRecDepth 100000 in
theorem maker_step {ns : List Node} {a : Option Addr} {cap bx mb : Nat} {room n : Int} {es : KVs} (hg : R6.Good ns room) (h2 : 2 ≤ ns.length) (hi : Idx ns es) (hk : R8.Kid ns n) (hb : ∀ i, 0 ≤ R8.g (R8.s16 ns n) i ∧ R8.g (R8.s16 ns n) i ≤ 1) :
  FnC Try.prog 83 [.agg [pt bx 0].toArray, .int .i64 n].toArray (IxA bx mb a cap ns room es A) I (IxR bx mb (R8.one ns room n) room A I) := by
 have hlen := R8.s16_len ns n
 obtain ⟨hb0, hb1, hb2, hb3⟩ := R8.bit_ar (R8.s16 ns n)
 skip
 refine fn_enter2 Try.func83 rfl Try.ntmps83 rfl fun w0 => ?_
 refine tS (tR ?_)
 refine tri_g (opg_box_agg rfl) rfl ?_
 rintro _ _ _ ⟨b2, rfl, rfl, rfl⟩
 refine tA rfl rfl (tA rfl rfl (tN (tT (tS ?_))))
 refine tri_perm (A := ?a3_0 :: ?a3_1 :: ?a3_2 :: ?T3) (B := ?a3_1 :: ?a3_2 :: ?a3_0 :: ?T3) (by exact permL [1, 2, 0] [?a3_0, ?a3_1, ?a3_2] ?T3 (by decide) rfl) ?_
 refine tR ?_
 refine tri_v (opv_loadA rfl rfl rfl) rfl ?_
 refine tM rfl rfl ?_
 refine tri_g (opg_call (xs := [_, _]) rfl (base_sixteen hk)) rfl ?_
 rintro _ _ _ ⟨rfl, rfl, rfl⟩
 refine tri_g opg_alloc rfl ?_
 rintro _ _ _ ⟨b6, rfl, rfl, rfl⟩
 refine tri_g (opg_store rfl rfl rfl rfl rfl rfl) rfl ?_
 rintro _ _ _ ⟨rfl, rfl⟩
 refine tN (tT (tS (tR ?_)))
 refine tri_g opg_alloc rfl ?_
 rintro _ _ _ ⟨b7, rfl, rfl, rfl⟩
 refine tN (tT (tS (tS (tR (tM rfl rfl (tN (tT ?_)))))))
 refine tri_block ?_
 refine tri_rounds 5 ?_
 refine tri_round ?_
 refine tS (tR ?_)
 refine tri_v (opv_lss rfl rfl) rfl ?_
 refine tN (tT (tS ?_))
 refine tri_cond_is rfl (by decide) ?_
 refine tri_skip (tT (tS (tri_block (tS (tR (tM rfl rfl (tA rfl rfl ?_)))))))
 refine tN (tT (tS (tR (tM rfl rfl ?_))))
 refine tri_v (opv_quoE rfl rfl (by omega) (by omega) (by omega)) rfl ?_
 refine tU rfl rfl (by omega) (by omega) rfl ?_
 refine tri_v (opv_mul rfl rfl (w64 (by omega) (by omega))) rfl ?_
 refine tU rfl rfl (by omega) (by omega) rfl ?_
 refine tM rfl rfl ?_
 refine tri_v (opv_remE rfl rfl (by omega) (by omega)) rfl ?_
 refine tU rfl rfl (by omega) (by omega) rfl ?_
 refine tA rfl rfl (tN (tT (tS ?_)))
 refine tri_draw [0, 1, 2, 3, 4, 5, 6, 7] rfl [] rfl mixed ?_
 refine th_take rfl rfl (by kernel_rfl)  (opv_move rfl) ?_
 refine th_take rfl rfl (by kernel_rfl)  (opv_indexAddrA rfl rfl (by decide) (by decide)) ?_
 refine th_take rfl rfl (by kernel_rfl)  (opv_load1 rfl rfl rfl) ?_
 refine th_take rfl rfl (by kernel_rfl)  (opv_eql rfl rfl) ?_
 refine th_take rfl rfl (by kernel_rfl)  (opv_loadA rfl rfl rfl) ?_
 refine th_take rfl rfl (by kernel_rfl)  (opv_move rfl) ?_
 refine th_one (by kernel_rfl) (step_m rfl rfl (opg_call (xs := [_, _]) rfl (base_around (i := 5) hlen hb (by omega) (by omega))) ?_)
 rintro _ _ _ ⟨rfl, rfl, rfl⟩
 refine ⟨Suf.h, (fun _ h => h), ?_⟩
 skip
 refine th_one (by kernel_rfl) (step_m rfl rfl (opg_call (xs := [_, _]) rfl (life_lives)) ?_)
 rintro _ _ _ ⟨rfl, rfl, rfl⟩
 refine ⟨Suf.h, (fun _ h => h), ?_⟩
 refine th_done (by kernel_rfl) ?_
 refine tT ?_
 refine tri_cut (fun F' A' J => F' = [(1, .int .i64 n), (2, pt b2 0), (6, pt b6 0), (7, pt b7 0), (8, .int .i64 0), (13, .int .i64 0)] ∧ A' = Box b7 [.int .i64 (R8.bit (R8.s16 ns n) 1 1), .int .i64 (0), .int .i64 (0), .int .i64 (0)] 41 :: Box b6 (ints (R8.s16 ns n)) 158 :: Box bx [.slice a ns.length cap, .int .i64 room, .map (some mb)] 87 :: Row a cap ns.length 43 6 (encs ns) :: Box b2 [pt bx 0] 68 :: MapA Try.prog 41 mb es :: A ∧ I = J) ?_ ?_
 ·refine tri_cond rfl (fun hv => ?_) (fun hv => ?_)
  ·refine tR (tM rfl rfl ?_)
   refine tri_v (opv_indexAddrA rfl rfl (by decide) (by decide)) rfl ?_
   refine tri_g (opg_store rfl rfl rfl rfl rfl rfl) rfl ?_
   rintro _ _ _ ⟨rfl, rfl⟩
   refine tN ?_
   have hv' : R2.lives (decide (R8.g (R8.s16 ns n) 5 = 1)) (R8.ar (R8.s16 ns n) 5) = true := hv
   exact tri_cutEnd _ ⟨rfl, by rw [hb0, if_pos hv'] <;> rfl, rfl⟩ ⟨rfl, rfl, rfl, rfl, rfl, rfl, trivial⟩
  ·refine tri_skip ?_
   have hv' : ¬ R2.lives (decide (R8.g (R8.s16 ns n) 5 = 1)) (R8.ar (R8.s16 ns n) 5) = true := fun h => Bool.false_ne_true (hv.symm.trans h)
   exact tri_cutEnd _ ⟨rfl, by rw [hb0, if_neg hv'] <;> rfl, rfl⟩ ⟨rfl, rfl, rfl, rfl, rfl, rfl, trivial⟩
 rintro _ _ _ ⟨rfl, rfl, rfl⟩
 skip
 refine tri_inBlock ?_
 refine tT (tR ?_)
 refine tU rfl rfl (by omega) (by omega) rfl ?_
 refine tM rfl rfl (tN (tT ?_))
 refine tri_round ?_
 refine tS (tR ?_)
 refine tri_v (opv_lss rfl rfl) rfl ?_
 refine tN (tT (tS ?_))
 skip
 refine tri_cond_is rfl (by decide) ?_
 refine tri_skip (tT (tS (tri_block (tS (tR (tM rfl rfl (tA rfl rfl ?_)))))))
 refine tN (tT (tS (tR (tM rfl rfl ?_))))
 refine tri_v (opv_quoE rfl rfl (by omega) (by omega) (by omega)) rfl ?_
 refine tU rfl rfl (by omega) (by omega) rfl ?_
 refine tri_v (opv_mul rfl rfl (w64 (by omega) (by omega))) rfl ?_
 refine tU rfl rfl (by omega) (by omega) rfl ?_
 refine tM rfl rfl ?_
 refine tri_v (opv_remE rfl rfl (by omega) (by omega)) rfl ?_
 refine tU rfl rfl (by omega) (by omega) rfl ?_
 refine tA rfl rfl (tN (tT (tS ?_)))
 refine tri_draw [0, 1, 2, 3, 4, 5, 6, 7] rfl [] rfl mixed ?_
 refine th_take rfl rfl (by kernel_rfl)  (opv_move rfl) ?_
 refine th_take rfl rfl (by kernel_rfl)  (opv_indexAddrA rfl rfl (by decide) (by decide)) ?_
 refine th_take rfl rfl (by kernel_rfl)  (opv_load1 rfl rfl rfl) ?_
 refine th_take rfl rfl (by kernel_rfl)  (opv_eql rfl rfl) ?_
 refine th_take rfl rfl (by kernel_rfl)  (opv_loadA rfl rfl rfl) ?_
 refine th_take rfl rfl (by kernel_rfl)  (opv_move rfl) ?_
 refine th_one (by kernel_rfl) (step_m rfl rfl (opg_call (xs := [_, _]) rfl (base_around (i := 6) hlen hb (by omega) (by omega))) ?_)
 rintro _ _ _ ⟨rfl, rfl, rfl⟩
 refine ⟨Suf.h, (fun _ h => h), ?_⟩
 skip
 refine th_one (by kernel_rfl) (step_m rfl rfl (opg_call (xs := [_, _]) rfl (life_lives)) ?_)
 rintro _ _ _ ⟨rfl, rfl, rfl⟩
 refine ⟨Suf.h, (fun _ h => h), ?_⟩
 refine th_done (by kernel_rfl) ?_
 refine tT ?_
 refine tri_cut (fun F' A' J => F' = [(1, .int .i64 n), (2, pt b2 0), (6, pt b6 0), (7, pt b7 0), (8, .int .i64 1), (13, .int .i64 1)] ∧ A' = Box b7 [.int .i64 (R8.bit (R8.s16 ns n) 1 1), .int .i64 (R8.bit (R8.s16 ns n) 1 2), .int .i64 (0), .int .i64 (0)] 41 :: Box b6 (ints (R8.s16 ns n)) 158 :: Box bx [.slice a ns.length cap, .int .i64 room, .map (some mb)] 87 :: Row a cap ns.length 43 6 (encs ns) :: Box b2 [pt bx 0] 68 :: MapA Try.prog 41 mb es :: A ∧ I = J) ?_ ?_
 ·refine tri_cond rfl (fun hv => ?_) (fun hv => ?_)
  ·refine tR (tM rfl rfl ?_)
   refine tri_v (opv_indexAddrA rfl rfl (by decide) (by decide)) rfl ?_
   refine tri_g (opg_store rfl rfl rfl rfl rfl rfl) rfl ?_
   rintro _ _ _ ⟨rfl, rfl⟩
   refine tN ?_
   have hv' : R2.lives (decide (R8.g (R8.s16 ns n) 6 = 1)) (R8.ar (R8.s16 ns n) 6) = true := hv
   exact tri_cutEnd _ ⟨rfl, by rw [hb1, if_pos hv'] <;> rfl, rfl⟩ ⟨rfl, rfl, rfl, rfl, rfl, rfl, trivial⟩
  ·refine tri_skip ?_
   have hv' : ¬ R2.lives (decide (R8.g (R8.s16 ns n) 6 = 1)) (R8.ar (R8.s16 ns n) 6) = true := fun h => Bool.false_ne_true (hv.symm.trans h)
   exact tri_cutEnd _ ⟨rfl, by rw [hb1, if_neg hv'] <;> rfl, rfl⟩ ⟨rfl, rfl, rfl, rfl, rfl, rfl, trivial⟩
 rintro _ _ _ ⟨rfl, rfl, rfl⟩
 skip
 refine tri_inBlock ?_
 refine tT (tR ?_)
 refine tU rfl rfl (by omega) (by omega) rfl ?_
 refine tM rfl rfl (tN (tT ?_))
 refine tri_round ?_
 refine tS (tR ?_)
 refine tri_v (opv_lss rfl rfl) rfl ?_
 refine tN (tT (tS ?_))
 skip
 refine tri_cond_is rfl (by decide) ?_
 refine tri_skip (tT (tS (tri_block (tS (tR (tM rfl rfl (tA rfl rfl ?_)))))))
 refine tN (tT (tS (tR (tM rfl rfl ?_))))
 refine tri_v (opv_quoE rfl rfl (by omega) (by omega) (by omega)) rfl ?_
 refine tU rfl rfl (by omega) (by omega) rfl ?_
 refine tri_v (opv_mul rfl rfl (w64 (by omega) (by omega))) rfl ?_
 refine tU rfl rfl (by omega) (by omega) rfl ?_
 refine tM rfl rfl ?_
 refine tri_v (opv_remE rfl rfl (by omega) (by omega)) rfl ?_
 refine tU rfl rfl (by omega) (by omega) rfl ?_
 refine tA rfl rfl (tN (tT (tS ?_)))
 refine tri_draw [0, 1, 2, 3, 4, 5, 6, 7] rfl [] rfl mixed ?_
 refine th_take rfl rfl (by kernel_rfl)  (opv_move rfl) ?_
 refine th_take rfl rfl (by kernel_rfl)  (opv_indexAddrA rfl rfl (by decide) (by decide)) ?_
 refine th_take rfl rfl (by kernel_rfl)  (opv_load1 rfl rfl rfl) ?_
 refine th_take rfl rfl (by kernel_rfl)  (opv_eql rfl rfl) ?_
 refine th_take rfl rfl (by kernel_rfl)  (opv_loadA rfl rfl rfl) ?_
 refine th_take rfl rfl (by kernel_rfl)  (opv_move rfl) ?_
 refine th_one (by kernel_rfl) (step_m rfl rfl (opg_call (xs := [_, _]) rfl (base_around (i := 9) hlen hb (by omega) (by omega))) ?_)
 rintro _ _ _ ⟨rfl, rfl, rfl⟩
 refine ⟨Suf.h, (fun _ h => h), ?_⟩
 skip
 refine th_one (by kernel_rfl) (step_m rfl rfl (opg_call (xs := [_, _]) rfl (life_lives)) ?_)
 rintro _ _ _ ⟨rfl, rfl, rfl⟩
 refine ⟨Suf.h, (fun _ h => h), ?_⟩
 refine th_done (by kernel_rfl) ?_
 refine tT ?_
 refine tri_cut (fun F' A' J => F' = [(1, .int .i64 n), (2, pt b2 0), (6, pt b6 0), (7, pt b7 0), (8, .int .i64 2), (13, .int .i64 2)] ∧ A' = Box b7 [.int .i64 (R8.bit (R8.s16 ns n) 1 1), .int .i64 (R8.bit (R8.s16 ns n) 1 2), .int .i64 (R8.bit (R8.s16 ns n) 2 1), .int .i64 (0)] 41 :: Box b6 (ints (R8.s16 ns n)) 158 :: Box bx [.slice a ns.length cap, .int .i64 room, .map (some mb)] 87 :: Row a cap ns.length 43 6 (encs ns) :: Box b2 [pt bx 0] 68 :: MapA Try.prog 41 mb es :: A ∧ I = J) ?_ ?_
 ·refine tri_cond rfl (fun hv => ?_) (fun hv => ?_)
  ·refine tR (tM rfl rfl ?_)
   refine tri_v (opv_indexAddrA rfl rfl (by decide) (by decide)) rfl ?_
   refine tri_g (opg_store rfl rfl rfl rfl rfl rfl) rfl ?_
   rintro _ _ _ ⟨rfl, rfl⟩
   refine tN ?_
   have hv' : R2.lives (decide (R8.g (R8.s16 ns n) 9 = 1)) (R8.ar (R8.s16 ns n) 9) = true := hv
   exact tri_cutEnd _ ⟨rfl, by rw [hb2, if_pos hv'] <;> rfl, rfl⟩ ⟨rfl, rfl, rfl, rfl, rfl, rfl, trivial⟩
  ·refine tri_skip ?_
   have hv' : ¬ R2.lives (decide (R8.g (R8.s16 ns n) 9 = 1)) (R8.ar (R8.s16 ns n) 9) = true := fun h => Bool.false_ne_true (hv.symm.trans h)
   exact tri_cutEnd _ ⟨rfl, by rw [hb2, if_neg hv'] <;> rfl, rfl⟩ ⟨rfl, rfl, rfl, rfl, rfl, rfl, trivial⟩
 rintro _ _ _ ⟨rfl, rfl, rfl⟩
 skip
 refine tri_inBlock ?_
 refine tT (tR ?_)
 refine tU rfl rfl (by omega) (by omega) rfl ?_
 refine tM rfl rfl (tN (tT ?_))
 refine tri_round ?_
 refine tS (tR ?_)
 refine tri_v (opv_lss rfl rfl) rfl ?_
 refine tN (tT (tS ?_))
 skip
 refine tri_cond_is rfl (by decide) ?_
 refine tri_skip (tT (tS (tri_block (tS (tR (tM rfl rfl (tA rfl rfl ?_)))))))
 refine tN (tT (tS (tR (tM rfl rfl ?_))))
 refine tri_v (opv_quoE rfl rfl (by omega) (by omega) (by omega)) rfl ?_
 refine tU rfl rfl (by omega) (by omega) rfl ?_
 refine tri_v (opv_mul rfl rfl (w64 (by omega) (by omega))) rfl ?_
 refine tU rfl rfl (by omega) (by omega) rfl ?_
 refine tM rfl rfl ?_
 refine tri_v (opv_remE rfl rfl (by omega) (by omega)) rfl ?_
 refine tU rfl rfl (by omega) (by omega) rfl ?_
 refine tA rfl rfl (tN (tT (tS ?_)))
 refine tri_draw [0, 1, 2, 3, 4, 5, 6, 7] rfl [] rfl mixed ?_
 refine th_take rfl rfl (by kernel_rfl)  (opv_move rfl) ?_
 refine th_take rfl rfl (by kernel_rfl)  (opv_indexAddrA rfl rfl (by decide) (by decide)) ?_
 refine th_take rfl rfl (by kernel_rfl)  (opv_load1 rfl rfl rfl) ?_
 refine th_take rfl rfl (by kernel_rfl)  (opv_eql rfl rfl) ?_
 refine th_take rfl rfl (by kernel_rfl)  (opv_loadA rfl rfl rfl) ?_
 refine th_take rfl rfl (by kernel_rfl)  (opv_move rfl) ?_
 refine th_one (by kernel_rfl) (step_m rfl rfl (opg_call (xs := [_, _]) rfl (base_around (i := 10) hlen hb (by omega) (by omega))) ?_)
 rintro _ _ _ ⟨rfl, rfl, rfl⟩
 refine ⟨Suf.h, (fun _ h => h), ?_⟩
 skip
 refine th_one (by kernel_rfl) (step_m rfl rfl (opg_call (xs := [_, _]) rfl (life_lives)) ?_)
 rintro _ _ _ ⟨rfl, rfl, rfl⟩
 refine ⟨Suf.h, (fun _ h => h), ?_⟩
 refine th_done (by kernel_rfl) ?_
 refine tT ?_
 refine tri_cut (fun F' A' J => F' = [(1, .int .i64 n), (2, pt b2 0), (6, pt b6 0), (7, pt b7 0), (8, .int .i64 3), (13, .int .i64 3)] ∧ A' = Box b7 [.int .i64 (R8.bit (R8.s16 ns n) 1 1), .int .i64 (R8.bit (R8.s16 ns n) 1 2), .int .i64 (R8.bit (R8.s16 ns n) 2 1), .int .i64 (R8.bit (R8.s16 ns n) 2 2)] 41 :: Box b6 (ints (R8.s16 ns n)) 158 :: Box bx [.slice a ns.length cap, .int .i64 room, .map (some mb)] 87 :: Row a cap ns.length 43 6 (encs ns) :: Box b2 [pt bx 0] 68 :: MapA Try.prog 41 mb es :: A ∧ I = J) ?_ ?_
 ·refine tri_cond rfl (fun hv => ?_) (fun hv => ?_)
  ·refine tR (tM rfl rfl ?_)
   refine tri_v (opv_indexAddrA rfl rfl (by decide) (by decide)) rfl ?_
   refine tri_g (opg_store rfl rfl rfl rfl rfl rfl) rfl ?_
   rintro _ _ _ ⟨rfl, rfl⟩
   refine tN ?_
   have hv' : R2.lives (decide (R8.g (R8.s16 ns n) 10 = 1)) (R8.ar (R8.s16 ns n) 10) = true := hv
   exact tri_cutEnd _ ⟨rfl, by rw [hb3, if_pos hv'] <;> rfl, rfl⟩ ⟨rfl, rfl, rfl, rfl, rfl, rfl, trivial⟩
  ·refine tri_skip ?_
   have hv' : ¬ R2.lives (decide (R8.g (R8.s16 ns n) 10 = 1)) (R8.ar (R8.s16 ns n) 10) = true := fun h => Bool.false_ne_true (hv.symm.trans h)
   exact tri_cutEnd _ ⟨rfl, by rw [hb3, if_neg hv'] <;> rfl, rfl⟩ ⟨rfl, rfl, rfl, rfl, rfl, rfl, trivial⟩
 rintro _ _ _ ⟨rfl, rfl, rfl⟩
 skip
 refine tri_inBlock ?_
 refine tT (tR ?_)
 refine tU rfl rfl (by omega) (by omega) rfl ?_
 refine tM rfl rfl (tN (tT ?_))
 refine tri_round ?_
 refine tS (tR ?_)
 refine tri_v (opv_lss rfl rfl) rfl ?_
 refine tN (tT (tS ?_))
 refine tri_cond_not rfl (by decide) ?_
 refine tri_exit ?_
 refine tri_then_exit ?_
 refine tri_then_exit ?_
 refine tri_inBlock_hit rfl ?_
 refine tT (tS ?_)
 refine tri_perm (A := ?a4_0 :: ?a4_1 :: ?a4_2 :: ?a4_3 :: ?a4_4 :: ?a4_5 :: ?T4) (B := ?a4_2 :: ?a4_3 :: ?a4_5 :: ?a4_0 :: ?a4_1 :: ?a4_4 :: ?T4) (by exact permL [2, 3, 5, 0, 1, 4] [?a4_0, ?a4_1, ?a4_2, ?a4_3, ?a4_4, ?a4_5] ?T4 (by decide) rfl) ?_
 refine tR ?_
 refine tri_v (opv_fieldAddr rfl rfl) rfl ?_
 refine tri_v (opv_load1 rfl rfl rfl) rfl ?_
 refine tri_v (opv_loadA rfl rfl rfl) rfl ?_
 refine tri_g (opg_call (xs := [_, _]) rfl (node_putR (r := R8.one ns room n) hg h2 hi rfl)) rfl ?_
 rintro _ _ _ ⟨a1, c1, es1, rfl, rfl, hi1, rfl⟩
 refine tri_v (opv_extract rfl rfl) rfl ?_
 refine tri_v (opv_extract rfl rfl) rfl ?_
 refine tA rfl rfl (tA rfl rfl (tN (tT (tri_ret ?_))))
 refine tri_perm (A := ?a5_0 :: ?a5_1 :: ?a5_2 :: ?a5_3 :: ?a5_4 :: ?a5_5 :: ?T5) (B := ?a5_3 :: ?a5_4 :: ?a5_5 :: ?a5_0 :: ?a5_1 :: ?a5_2 :: ?T5) (by exact permL [3, 4, 5, 0, 1, 2] [?a5_0, ?a5_1, ?a5_2, ?a5_3, ?a5_4, ?a5_5] ?T5 (by decide) rfl) ?_
 refine tri_end (IxA bx mb a1 c1 (R8.one ns room n).1 room es1 A) Suf.h rfl (.cons (rv_tmp rfl) (.cons (rv_tmp rfl) .nil)) ⟨a1, c1, es1, rfl, rfl, hi1, rfl⟩
end Go.GL


set_option linter.unusedVariables false
namespace Go.GL
open Go.Proofs
attribute [local irreducible] wpList Code.wp Exit.then Exit.inBlock Ends Tri TriH OpV OpG FnC epf wpAnyH
def BaseOfR (ns : List Node) (room n lv : Int) (A : List Asrt) (I : List Chunk) : Value → List Asrt → List Chunk → Prop := fun v A' I' =>
 (R8.may ns room n lv ∧ ∃ bx mb a' cap' es, v = .tuple [.agg [pt bx 0].toArray, .bool true].toArray ∧ A' = IxA bx mb a' cap' ns room es A ∧ Idx ns es ∧ I = I') ∨ (¬ R8.may ns room n lv ∧ ∃ p, v = .tuple [.agg [.pointer p].toArray, .bool false].toArray ∧ A = A' ∧ I = I')
set_option maxHeartbeats 1000000 in
set_option maxRecDepth 100000 in
theorem base_of {A : List Asrt} {I : List Chunk} {ns : List Node} {a : Option Addr} {cap : Nat} {room n lv : Int} (hs : StA I a cap ns) (hn : ns.length ≤ 1000000000) :
  FnC Try.prog 28 [storeV a ns.length cap room, .int .i64 n, .int .i64 lv].toArray A I (BaseOfR ns room n lv A I) := by
 have hsl := hs.sl
 skip
 refine fn_enter3 Try.func28 rfl Try.ntmps28 rfl fun w0 => ?_
 refine tS (tR ?_)
 refine tri_g (opg_box_agg rfl) rfl ?_
 rintro _ _ _ ⟨b3, rfl, rfl, rfl⟩
 refine tri_g opg_alloc rfl ?_
 rintro _ _ _ ⟨b6, rfl, rfl, rfl⟩
 refine tA rfl rfl (tN (tT (tS (tR ?_))))
 refine tri_v (opv_loadA rfl rfl rfl) rfl ?_
 refine tri_g (opg_call (xs := [_]) rfl (node_of hs hn)) rfl ?_
 rintro v A1 I1 hR
 rcases hR with ⟨hr, bx, mb, a1, c1, es, rfl, rfl, hix, rfl⟩ | ⟨hr, rfl, rfl, rfl⟩
 ·refine tM rfl rfl ?_
  refine tri_v (opv_extract rfl rfl) rfl ?_
  refine tri_v (opv_extract rfl rfl) rfl ?_
  refine tA rfl rfl (tA rfl rfl (tN (tT (tS ?_))))
  refine tri_perm (A := ?a1_0 :: ?a1_1 :: ?a1_2 :: ?a1_3 :: ?T1) (B := ?a1_3 :: ?a1_0 :: ?a1_1 :: ?a1_2 :: ?T1) (by exact permL [3, 0, 1, 2] [?a1_0, ?a1_1, ?a1_2, ?a1_3] ?T1 (by decide) rfl) ?_
  skip
  refine tri_draw [0, 1, 2, 3, 4, 5, 6, 7, 8, 9, 10, 11, 12, 13, 14, 15, 16, 17, 18, 19, 20, 21, 22, 23, 24, 25] rfl [_] rfl mixed ?_
  refine th_take rfl rfl (by kernel_rfl)  (opv_move rfl) ?_
  refine th_take rfl rfl (by kernel_rfl)  (opv_buildS rfl rfl) ?_
  refine th_take rfl rfl (by kernel_rfl)  (opv_move rfl) ?_
  refine th_take rfl rfl (by kernel_rfl)  (opv_move rfl) ?_
  skip
  refine th_take_g rfl rfl rfl rfl rfl (by kernel_rfl)  (opv_move rfl) ?_
  refine th_take_g rfl rfl rfl rfl rfl (by kernel_rfl)  (opv_geq rfl rfl) ?_
  refine th_take rfl rfl (by kernel_rfl)  (opv_pick_t rfl rfl) ?_
  refine th_take rfl rfl (by kernel_rfl)  (opv_move rfl) ?_
  refine th_split rfl rfl rfl (fun h1 => ?_) (fun h1 => ?_)
  ·refine th_take_g rfl rfl rfl rfl rfl (by kernel_rfl)  (opv_move rfl) ?_
   refine th_take_g rfl rfl rfl rfl rfl (by kernel_rfl)  (opv_fieldAddr rfl rfl) ?_
   refine th_take_g rfl rfl rfl rfl rfl (by kernel_rfl)  (opv_load1 rfl rfl rfl) ?_
   refine th_take_g rfl rfl rfl rfl rfl (by kernel_rfl)  (opv_len rfl) ?_
   refine th_take_g rfl rfl rfl rfl rfl (by kernel_rfl)  (opv_lss rfl rfl) ?_
   refine th_take rfl rfl (by kernel_rfl)  (opv_pick_t rfl rfl) ?_
   refine th_take rfl rfl (by kernel_rfl)  (opv_move rfl) ?_
   refine th_split rfl rfl rfl (fun h2 => ?_) (fun h2 => ?_)
   ·refine th_take_g rfl rfl rfl rfl rfl (by kernel_rfl)  (opv_fieldAddr rfl rfl) ?_
    refine th_take_g rfl rfl rfl rfl rfl (by kernel_rfl)  (opv_load1 rfl rfl rfl) ?_
    refine th_take_g rfl rfl rfl rfl rfl (by kernel_rfl)  (opv_move rfl) ?_
    refine th_take_g rfl rfl rfl rfl rfl (by kernel_rfl)  (opv_indexAddrS rfl rfl (by omega) (by omega) (by assumption) rfl) ?_
    refine th_take_g rfl rfl rfl rfl rfl (by kernel_rfl)  (opv_fieldAddrE rfl (by assumption) (by omega) rfl) ?_
    refine th_take_g rfl rfl rfl rfl rfl (by kernel_rfl)  (opv_loadE1 rfl (by assumption) rfl (by omega) rfl rfl) ?_
    refine th_take_g rfl rfl rfl rfl rfl (by kernel_rfl)  (opv_move rfl) ?_
    refine th_take_g rfl rfl rfl rfl rfl (by kernel_rfl)  (opv_geq rfl rfl) ?_
    refine th_take rfl rfl (by kernel_rfl)  (opv_pick_t rfl rfl) ?_
    refine th_one (by kernel_rfl) (step_m rfl rfl (opg_store rfl rfl rfl rfl rfl rfl) ?_)
    rintro _ _ _ ⟨rfl, rfl⟩
    refine ⟨Suf.h, (fun _ h => h), ?_⟩
    refine th_take rfl rfl (by kernel_rfl)  (opv_assign rfl) ?_
    refine th_done (by kernel_rfl) ?_
    refine tT (tri_ret ?_)
    refine tri_perm (A := ?a2_0 :: ?a2_1 :: ?a2_2 :: ?a2_3 :: ?a2_4 :: ?T2) (B := ?a2_0 :: ?a2_4 :: ?a2_1 :: ?a2_2 :: ?a2_3 :: ?T2) (by exact permL [0, 4, 1, 2, 3] [?a2_0, ?a2_1, ?a2_2, ?a2_3, ?a2_4] ?T2 (by decide) rfl) ?_
    by_cases h3 : lv ≤ (ns.getD n.toNat default).lv
    ·rw [decide_eq_true h3]
     refine tri_end _ (⟨[_, _], rfl⟩) rfl (.cons (rv_cellA rfl rfl rfl) (.cons (rv_tmp rfl) .nil)) (.inl ⟨⟨hr, ⟨h1, h2⟩, h3⟩, bx, mb, a1, c1, es, rfl, rfl, hix, rfl⟩)
    ·rw [decide_eq_false h3]
     refine tri_end A Suf.h rfl (.cons (rv_cellA rfl rfl rfl) (.cons (rv_tmp rfl) .nil)) (.inr ⟨fun h => h3 h.2.2, _, rfl, rfl, rfl⟩)
   ·refine th_skip rfl rfl rfl rfl rfl (by kernel_rfl)  ?_
    refine th_skip rfl rfl rfl rfl rfl (by kernel_rfl)  ?_
    refine th_skip rfl rfl rfl rfl rfl (by kernel_rfl)  ?_
    refine th_skip rfl rfl rfl rfl rfl (by kernel_rfl)  ?_
    refine th_skip rfl rfl rfl rfl rfl (by kernel_rfl)  ?_
    refine th_skip rfl rfl rfl rfl rfl (by kernel_rfl)  ?_
    refine th_skip rfl rfl rfl rfl rfl (by kernel_rfl)  ?_
    refine th_skip rfl rfl rfl rfl rfl (by kernel_rfl)  ?_
    refine th_take rfl rfl (by kernel_rfl)  (opv_pick_f rfl rfl) ?_
    refine th_one (by kernel_rfl) (step_m rfl rfl (opg_store rfl rfl rfl rfl rfl rfl) ?_)
    rintro _ _ _ ⟨rfl, rfl⟩
    refine ⟨Suf.h, (fun _ h => h), ?_⟩
    refine th_take rfl rfl (by kernel_rfl)  (opv_assign rfl) ?_
    refine th_done (by kernel_rfl) ?_
    refine tT (tri_ret ?_)
    refine tri_end A Suf.h rfl (.cons (rv_cellA rfl rfl rfl) (.cons (rv_tmp rfl) .nil)) (.inr ⟨fun h => h2 h.2.1.2, _, rfl, rfl, rfl⟩)
  ·refine th_skip rfl rfl rfl rfl rfl (by kernel_rfl)  ?_
   refine th_skip rfl rfl rfl rfl rfl (by kernel_rfl)  ?_
   refine th_skip rfl rfl rfl rfl rfl (by kernel_rfl)  ?_
   refine th_skip rfl rfl rfl rfl rfl (by kernel_rfl)  ?_
   refine th_skip rfl rfl rfl rfl rfl (by kernel_rfl)  ?_
   refine th_take rfl rfl (by kernel_rfl)  (opv_pick_f rfl rfl) ?_
   refine th_take rfl rfl (by kernel_rfl)  (opv_move rfl) ?_
   refine th_skip rfl rfl rfl rfl rfl (by kernel_rfl)  ?_
   refine th_skip rfl rfl rfl rfl rfl (by kernel_rfl)  ?_
   refine th_skip rfl rfl rfl rfl rfl (by kernel_rfl)  ?_
   refine th_skip rfl rfl rfl rfl rfl (by kernel_rfl)  ?_
   refine th_skip rfl rfl rfl rfl rfl (by kernel_rfl)  ?_
   refine th_skip rfl rfl rfl rfl rfl (by kernel_rfl)  ?_
   refine th_skip rfl rfl rfl rfl rfl (by kernel_rfl)  ?_
   refine th_skip rfl rfl rfl rfl rfl (by kernel_rfl)  ?_
   refine th_take rfl rfl (by kernel_rfl)  (opv_pick_f rfl rfl) ?_
   refine th_one (by kernel_rfl) (step_m rfl rfl (opg_store rfl rfl rfl rfl rfl rfl) ?_)
   rintro _ _ _ ⟨rfl, rfl⟩
   refine ⟨Suf.h, (fun _ h => h), ?_⟩
   refine th_take rfl rfl (by kernel_rfl)  (opv_assign rfl) ?_
   refine th_done (by kernel_rfl) ?_
   refine tT (tri_ret ?_)
   refine tri_end A Suf.h rfl (.cons (rv_cellA rfl rfl rfl) (.cons (rv_tmp rfl) .nil)) (.inr ⟨fun h => h1 h.2.1.1, _, rfl, rfl, rfl⟩)
 ·refine tM rfl rfl ?_
  refine tri_v (opv_extract rfl rfl) rfl ?_
  refine tri_v (opv_extract rfl rfl) rfl ?_
  refine tA rfl rfl (tA rfl rfl (tN (tT (tS ?_))))
  skip
  refine tri_draw [0, 1, 2, 3, 4, 5, 6, 7, 8, 9, 10, 11, 12, 13, 14, 15, 16, 17, 18, 19, 20, 21, 22, 23, 24, 25] rfl [_] rfl mixed ?_
  refine th_take rfl rfl (by kernel_rfl)  (opv_move rfl) ?_
  refine th_take rfl rfl (by kernel_rfl)  (opv_buildS rfl rfl) ?_
  refine th_take rfl rfl (by kernel_rfl)  (opv_move rfl) ?_
  refine th_take rfl rfl (by kernel_rfl)  (opv_move rfl) ?_
  skip
  refine th_skip rfl rfl rfl rfl rfl (by kernel_rfl)  ?_
  refine th_skip rfl rfl rfl rfl rfl (by kernel_rfl)  ?_
  refine th_take rfl rfl (by kernel_rfl)  (opv_pick_f rfl rfl) ?_
  refine th_take rfl rfl (by kernel_rfl)  (opv_move rfl) ?_
  refine th_skip rfl rfl rfl rfl rfl (by kernel_rfl)  ?_
  refine th_skip rfl rfl rfl rfl rfl (by kernel_rfl)  ?_
  refine th_skip rfl rfl rfl rfl rfl (by kernel_rfl)  ?_
  refine th_skip rfl rfl rfl rfl rfl (by kernel_rfl)  ?_
  refine th_skip rfl rfl rfl rfl rfl (by kernel_rfl)  ?_
  refine th_take rfl rfl (by kernel_rfl)  (opv_pick_f rfl rfl) ?_
  refine th_take rfl rfl (by kernel_rfl)  (opv_move rfl) ?_
  refine th_skip rfl rfl rfl rfl rfl (by kernel_rfl)  ?_
  refine th_skip rfl rfl rfl rfl rfl (by kernel_rfl)  ?_
  refine th_skip rfl rfl rfl rfl rfl (by kernel_rfl)  ?_
  refine th_skip rfl rfl rfl rfl rfl (by kernel_rfl)  ?_
  refine th_skip rfl rfl rfl rfl rfl (by kernel_rfl)  ?_
  refine th_skip rfl rfl rfl rfl rfl (by kernel_rfl)  ?_
  refine th_skip rfl rfl rfl rfl rfl (by kernel_rfl)  ?_
  refine th_skip rfl rfl rfl rfl rfl (by kernel_rfl)  ?_
  refine th_take rfl rfl (by kernel_rfl)  (opv_pick_f rfl rfl) ?_
  refine th_one (by kernel_rfl) (step_m rfl rfl (opg_store rfl rfl rfl rfl rfl rfl) ?_)
  rintro _ _ _ ⟨rfl, rfl⟩
  refine ⟨Suf.h, (fun _ h => h), ?_⟩
  refine th_take rfl rfl (by kernel_rfl)  (opv_assign rfl) ?_
  refine th_done (by kernel_rfl) ?_
  refine tT (tri_ret ?_)
  refine tri_end A Suf.h rfl (.cons (rv_cellA rfl rfl rfl) (.cons (rv_tmp rfl) .nil)) (.inr ⟨fun h => hr h.1, _, rfl, rfl, rfl⟩)
end Go.GL


set_option linter.unusedVariables false
namespace Go.GL
open Go.Proofs
attribute [local irreducible] wpList Code.wp Exit.then Exit.inBlock Ends Tri TriH OpV OpG FnC epf wpAnyH
variable {A : List Asrt} {I : List Chunk}
/-- What Maker.Nine tells and leaves behind. -/
def IxR9 (bx mb : Nat) (r : R8.R9) (room : Int) (A : List Asrt) (I : List Chunk) : Value → List Asrt → List Chunk → Prop :=
 fun v A' I' => ∃ a' cap' es' ns' q0 q1 q2 q3 q4 q5 q6 q7 q8, v = .tuple [.agg [.int .i64 q0, .int .i64 q1, .int .i64 q2, .int .i64 q3, .int .i64 q4, .int .i64 q5, .int .i64 q6, .int .i64 q7, .int .i64 q8].toArray, .int .i64 r.2.2].toArray ∧ A' = IxA bx mb a' cap' ns' room es' A ∧ (r.2.2 = 0 → ns' = r.1 ∧ r.2.1 = [q0, q1, q2, q3, q4, q5, q6, q7, q8] ∧ Idx r.1 es') ∧ I = I'
set_option maxHeartbeats 2000000 in
set_option maxRecDepth 100000 in
theorem maker_nine {ns : List Node} {a : Option Addr} {cap bx mb : Nat} {room n : Int} {es : KVs} (hg : R6.Good ns room) (h2 : 2 ≤ ns.length) (hi : Idx ns es) (hk : R8.Kid ns n) :
  FnC Try.prog 84 [.agg [pt bx 0].toArray, .int .i64 n].toArray (IxA bx mb a cap ns room es A) I (IxR9 bx mb (R8.all ns room n) room A I) := by
 obtain ⟨p0, e0⟩ : ∃ p, R8.putSq ns room (R8.s16 ns n) 0 0 = p := ⟨_, rfl⟩
 obtain ⟨p1, e1⟩ : ∃ p, R8.putSq p0.1 room (R8.s16 ns n) 0 1 = p := ⟨_, rfl⟩
 obtain ⟨p2, e2⟩ : ∃ p, R8.putSq p1.1 room (R8.s16 ns n) 0 2 = p := ⟨_, rfl⟩
 obtain ⟨p3, e3⟩ : ∃ p, R8.putSq p2.1 room (R8.s16 ns n) 1 0 = p := ⟨_, rfl⟩
 obtain ⟨p4, e4⟩ : ∃ p, R8.putSq p3.1 room (R8.s16 ns n) 1 1 = p := ⟨_, rfl⟩
 obtain ⟨p5, e5⟩ : ∃ p, R8.putSq p4.1 room (R8.s16 ns n) 1 2 = p := ⟨_, rfl⟩
 obtain ⟨p6, e6⟩ : ∃ p, R8.putSq p5.1 room (R8.s16 ns n) 2 0 = p := ⟨_, rfl⟩
 obtain ⟨p7, e7⟩ : ∃ p, R8.putSq p6.1 room (R8.s16 ns n) 2 1 = p := ⟨_, rfl⟩
 obtain ⟨p8, e8⟩ : ∃ p, R8.putSq p7.1 room (R8.s16 ns n) 2 2 = p := ⟨_, rfl⟩
 rw [R8.all_eq e0 e1 e2 e3 e4 e5 e6 e7 e8]
 have g0 : R6.Good p0.1 room := e0 ▸ hg.put ..
 have l0 : 2 ≤ p0.1.length := e0 ▸ R6.put_len h2
 have g1 : R6.Good p1.1 room := e1 ▸ g0.put ..
 have l1 : 2 ≤ p1.1.length := e1 ▸ R6.put_len l0
 have g2 : R6.Good p2.1 room := e2 ▸ g1.put ..
 have l2 : 2 ≤ p2.1.length := e2 ▸ R6.put_len l1
 have g3 : R6.Good p3.1 room := e3 ▸ g2.put ..
 have l3 : 2 ≤ p3.1.length := e3 ▸ R6.put_len l2
 have g4 : R6.Good p4.1 room := e4 ▸ g3.put ..
 have l4 : 2 ≤ p4.1.length := e4 ▸ R6.put_len l3
 have g5 : R6.Good p5.1 room := e5 ▸ g4.put ..
 have l5 : 2 ≤ p5.1.length := e5 ▸ R6.put_len l4
 have g6 : R6.Good p6.1 room := e6 ▸ g5.put ..
 have l6 : 2 ≤ p6.1.length := e6 ▸ R6.put_len l5
 have g7 : R6.Good p7.1 room := e7 ▸ g6.put ..
 have l7 : 2 ≤ p7.1.length := e7 ▸ R6.put_len l6
 have g8 : R6.Good p8.1 room := e8 ▸ g7.put ..
 have l8 : 2 ≤ p8.1.length := e8 ▸ R6.put_len l7
 skip
 refine fn_enter2 Try.func84 rfl Try.ntmps84 rfl fun w0 => ?_
 refine tS (tR ?_)
 refine tri_g (opg_box_agg rfl) rfl ?_
 rintro _ _ _ ⟨b2, rfl, rfl, rfl⟩
 refine tri_g opg_alloc rfl ?_
 rintro _ _ _ ⟨b4, rfl, rfl, rfl⟩
 refine tA rfl rfl (tN (tT (tS ?_)))
 refine tri_perm (A := ?a1_0 :: ?a1_1 :: ?a1_2 :: ?a1_3 :: ?a1_4 :: ?T1) (B := ?a1_2 :: ?a1_3 :: ?a1_4 :: ?a1_0 :: ?a1_1 :: ?T1) (by exact permL [2, 3, 4, 0, 1] [?a1_0, ?a1_1, ?a1_2, ?a1_3, ?a1_4] ?T1 (by decide) rfl) ?_
 refine tR ?_
 refine tri_v (opv_loadA rfl rfl rfl) rfl ?_
 refine tM rfl rfl ?_
 refine tri_g (opg_call (xs := [_, _]) rfl (base_sixteen hk)) rfl ?_
 rintro _ _ _ ⟨rfl, rfl, rfl⟩
 refine tri_g opg_alloc rfl ?_
 rintro _ _ _ ⟨b6, rfl, rfl, rfl⟩
 refine tri_g (opg_store rfl rfl rfl rfl rfl rfl) rfl ?_
 rintro _ _ _ ⟨rfl, rfl⟩
 refine tN (tT (tS (tS (tR (tM rfl rfl (tN (tT ?_)))))))
 refine tri_block ?_
 refine tri_perm (A := ?a2_0 :: ?a2_1 :: ?a2_2 :: ?a2_3 :: ?a2_4 :: ?a2_5 :: ?T2) (B := ?a2_1 :: ?a2_2 :: ?a2_3 :: ?a2_4 :: ?a2_0 :: ?a2_5 :: ?T2) (by exact permL [1, 2, 3, 4, 0, 5] [?a2_0, ?a2_1, ?a2_2, ?a2_3, ?a2_4, ?a2_5] ?T2 (by decide) rfl) ?_
 refine tri_rounds 10 ?_
 refine tri_round ?_
 refine tS (tR ?_)
 refine tri_v (opv_lss rfl rfl) rfl ?_
 refine tN (tT (tS ?_))
 refine tri_cond_is rfl (by decide) ?_
 skip
 refine tri_skip (tT (tS (tri_block (tS (tR (tM rfl rfl (tA rfl rfl ?_)))))))
 refine tN (tT (tS ?_))
 refine tri_draw [0, 1, 2, 3, 4, 5, 6, 7, 8, 9, 10, 11, 12, 13, 14, 15] rfl [_, _, _, _] rfl mixed ?_
 refine th_take rfl rfl (by kernel_rfl)  (opv_move rfl) ?_
 refine th_take rfl rfl (by kernel_rfl)  (opv_fieldAddr rfl rfl) ?_
 refine th_take rfl rfl (by kernel_rfl)  (opv_load1 rfl rfl rfl) ?_
 refine th_take rfl rfl (by kernel_rfl)  (opv_loadA rfl rfl rfl) ?_
 refine th_take rfl rfl (by kernel_rfl)  (opv_move rfl) ?_
 refine th_take rfl rfl (by kernel_rfl)  (opv_quoE rfl rfl (by omega) (by omega) (by omega)) ?_
 refine th_take rfl rfl (by kernel_rfl)  (opv_move rfl) ?_
 refine th_take rfl rfl (by kernel_rfl)  (opv_remE rfl rfl (by omega) (by omega)) ?_
 refine th_one (by kernel_rfl) (step_m rfl rfl (opg_call (xs := [_, _, _]) rfl (base_square (R8.s16_len ns n) (by omega) (by omega) (by omega) (by omega))) ?_)
 rintro _ _ _ ⟨rfl, rfl, rfl⟩
 refine ⟨Suf.h, (fun _ h => h), ?_⟩
 skip
 refine th_one (by kernel_rfl) (step_m rfl rfl (opg_call (xs := [_, _]) rfl (node_putR (r := p0) hg h2 hi e0)) ?_)
 rintro _ _ _ ⟨a0, c0, es0, rfl, rfl, hi0, rfl⟩
 refine ⟨Suf.h, (fun _ h => h), ?_⟩
 refine th_take rfl rfl (by kernel_rfl)  (opv_move rfl) ?_
 refine th_take rfl rfl (by kernel_rfl)  (opv_extract rfl rfl) ?_
 refine th_take rfl rfl (by kernel_rfl)  (opv_extract rfl rfl) ?_
 refine th_take rfl rfl (by kernel_rfl)  (opv_indexAddrA rfl rfl (by decide) (by decide)) ?_
 refine th_one (by kernel_rfl) (step_m rfl rfl (opg_store rfl rfl rfl rfl rfl rfl) ?_)
 rintro _ _ _ ⟨rfl, rfl⟩
 refine ⟨Suf.h, (fun _ h => h), ?_⟩
 refine th_take rfl rfl (by kernel_rfl)  (opv_assign rfl) ?_
 refine th_done (by kernel_rfl) ?_
 refine tT (tS (tR (tM rfl rfl ?_)))
 refine tri_v (opv_neq rfl rfl) rfl ?_
 refine tN (tT ?_)
 refine tri_cond_dec rfl (fun x0 => ?_) (fun x0 => ?_)
 ·rw [if_pos x0]
  refine tS (tR ?_)
  refine tri_v (opv_buildA rfl rfl) rfl ?_
  refine tM rfl rfl ?_
  refine tri_g (opg_store rfl rfl rfl rfl rfl rfl) rfl ?_
  rintro _ _ _ ⟨rfl, rfl⟩
  refine tA rfl rfl (tN (tT (tri_ret ?_)))
  refine tri_inBlock_ret ?_
  refine tri_then_ret (tri_then_ret ?_)
  refine tri_inBlock_ret ?_
  refine tri_then_ret ?_
  refine tri_perm (A := ?a3_0 :: ?a3_1 :: ?a3_2 :: ?a3_3 :: ?a3_4 :: ?a3_5 :: ?T3) (B := ?a3_3 :: ?a3_4 :: ?a3_5 :: ?a3_0 :: ?a3_1 :: ?a3_2 :: ?T3) (by exact permL [3, 4, 5, 0, 1, 2] [?a3_0, ?a3_1, ?a3_2, ?a3_3, ?a3_4, ?a3_5] ?T3 (by decide) rfl) ?_
  refine tri_end (IxA bx mb a0 c0 p0.1 room es0 A) Suf.h rfl (.cons (rv_cellA rfl rfl rfl) (.cons (rv_tmp rfl) .nil)) ⟨a0, c0, es0, p0.1, _, _, _, _, _, _, _, _, _, rfl, rfl, fun h => absurd h x0, rfl⟩
 refine tri_skip ?_
 refine tri_inBlock ?_
 refine tT (tR ?_)
 refine tU rfl rfl (by omega) (by omega) rfl ?_
 refine tM rfl rfl (tN (tT ?_))
 refine tri_round ?_
 refine tS (tR ?_)
 refine tri_v (opv_lss rfl rfl) rfl ?_
 refine tN (tT (tS ?_))
 skip
 refine tri_cond_is rfl (by decide) ?_
 skip
 refine tri_skip (tT (tS (tri_block (tS (tR (tM rfl rfl (tA rfl rfl ?_)))))))
 refine tN (tT (tS ?_))
 refine tri_draw [0, 1, 2, 3, 4, 5, 6, 7, 8, 9, 10, 11, 12, 13, 14, 15] rfl [_, _, _, _] rfl mixed ?_
 refine th_take rfl rfl (by kernel_rfl)  (opv_move rfl) ?_
 refine th_take rfl rfl (by kernel_rfl)  (opv_fieldAddr rfl rfl) ?_
 refine th_take rfl rfl (by kernel_rfl)  (opv_load1 rfl rfl rfl) ?_
 refine th_take rfl rfl (by kernel_rfl)  (opv_loadA rfl rfl rfl) ?_
 refine th_take rfl rfl (by kernel_rfl)  (opv_move rfl) ?_
 refine th_take rfl rfl (by kernel_rfl)  (opv_quoE rfl rfl (by omega) (by omega) (by omega)) ?_
 refine th_take rfl rfl (by kernel_rfl)  (opv_move rfl) ?_
 refine th_take rfl rfl (by kernel_rfl)  (opv_remE rfl rfl (by omega) (by omega)) ?_
 refine th_one (by kernel_rfl) (step_m rfl rfl (opg_call (xs := [_, _, _]) rfl (base_square (R8.s16_len ns n) (by omega) (by omega) (by omega) (by omega))) ?_)
 rintro _ _ _ ⟨rfl, rfl, rfl⟩
 refine ⟨Suf.h, (fun _ h => h), ?_⟩
 skip
 refine th_one (by kernel_rfl) (step_m rfl rfl (opg_call (xs := [_, _]) rfl (node_putR (r := p1) g0 l0 hi0 e1)) ?_)
 rintro _ _ _ ⟨a1, c1, es1, rfl, rfl, hi1, rfl⟩
 refine ⟨Suf.h, (fun _ h => h), ?_⟩
 refine th_take rfl rfl (by kernel_rfl)  (opv_move rfl) ?_
 refine th_take rfl rfl (by kernel_rfl)  (opv_extract rfl rfl) ?_
 refine th_take rfl rfl (by kernel_rfl)  (opv_extract rfl rfl) ?_
 refine th_take rfl rfl (by kernel_rfl)  (opv_indexAddrA rfl rfl (by decide) (by decide)) ?_
 refine th_one (by kernel_rfl) (step_m rfl rfl (opg_store rfl rfl rfl rfl rfl rfl) ?_)
 rintro _ _ _ ⟨rfl, rfl⟩
 refine ⟨Suf.h, (fun _ h => h), ?_⟩
 refine th_take rfl rfl (by kernel_rfl)  (opv_assign rfl) ?_
 refine th_done (by kernel_rfl) ?_
 refine tT (tS (tR (tM rfl rfl ?_)))
 refine tri_v (opv_neq rfl rfl) rfl ?_
 refine tN (tT ?_)
 refine tri_cond_dec rfl (fun x1 => ?_) (fun x1 => ?_)
 ·rw [if_neg x0, if_pos x1]
  refine tS (tR ?_)
  refine tri_v (opv_buildA rfl rfl) rfl ?_
  refine tM rfl rfl ?_
  refine tri_g (opg_store rfl rfl rfl rfl rfl rfl) rfl ?_
  rintro _ _ _ ⟨rfl, rfl⟩
  refine tA rfl rfl (tN (tT (tri_ret ?_)))
  refine tri_inBlock_ret ?_
  refine tri_then_ret (tri_then_ret ?_)
  refine tri_inBlock_ret ?_
  refine tri_then_ret ?_
  refine tri_perm (A := ?a4_0 :: ?a4_1 :: ?a4_2 :: ?a4_3 :: ?a4_4 :: ?a4_5 :: ?T4) (B := ?a4_3 :: ?a4_4 :: ?a4_5 :: ?a4_0 :: ?a4_1 :: ?a4_2 :: ?T4) (by exact permL [3, 4, 5, 0, 1, 2] [?a4_0, ?a4_1, ?a4_2, ?a4_3, ?a4_4, ?a4_5] ?T4 (by decide) rfl) ?_
  refine tri_end (IxA bx mb a1 c1 p1.1 room es1 A) Suf.h rfl (.cons (rv_cellA rfl rfl rfl) (.cons (rv_tmp rfl) .nil)) ⟨a1, c1, es1, p1.1, _, _, _, _, _, _, _, _, _, rfl, rfl, fun h => absurd h x1, rfl⟩
 refine tri_skip ?_
 refine tri_inBlock ?_
 refine tT (tR ?_)
 refine tU rfl rfl (by omega) (by omega) rfl ?_
 refine tM rfl rfl (tN (tT ?_))
 refine tri_round ?_
 refine tS (tR ?_)
 refine tri_v (opv_lss rfl rfl) rfl ?_
 refine tN (tT (tS ?_))
 skip
 refine tri_cond_is rfl (by decide) ?_
 skip
 refine tri_skip (tT (tS (tri_block (tS (tR (tM rfl rfl (tA rfl rfl ?_)))))))
 refine tN (tT (tS ?_))
 refine tri_draw [0, 1, 2, 3, 4, 5, 6, 7, 8, 9, 10, 11, 12, 13, 14, 15] rfl [_, _, _, _] rfl mixed ?_
 refine th_take rfl rfl (by kernel_rfl)  (opv_move rfl) ?_
 refine th_take rfl rfl (by kernel_rfl)  (opv_fieldAddr rfl rfl) ?_
 refine th_take rfl rfl (by kernel_rfl)  (opv_load1 rfl rfl rfl) ?_
 refine th_take rfl rfl (by kernel_rfl)  (opv_loadA rfl rfl rfl) ?_
 refine th_take rfl rfl (by kernel_rfl)  (opv_move rfl) ?_
 refine th_take rfl rfl (by kernel_rfl)  (opv_quoE rfl rfl (by omega) (by omega) (by omega)) ?_
 refine th_take rfl rfl (by kernel_rfl)  (opv_move rfl) ?_
 refine th_take rfl rfl (by kernel_rfl)  (opv_remE rfl rfl (by omega) (by omega)) ?_
 refine th_one (by kernel_rfl) (step_m rfl rfl (opg_call (xs := [_, _, _]) rfl (base_square (R8.s16_len ns n) (by omega) (by omega) (by omega) (by omega))) ?_)
 rintro _ _ _ ⟨rfl, rfl, rfl⟩
 refine ⟨Suf.h, (fun _ h => h), ?_⟩
 skip
 refine th_one (by kernel_rfl) (step_m rfl rfl (opg_call (xs := [_, _]) rfl (node_putR (r := p2) g1 l1 hi1 e2)) ?_)
 rintro _ _ _ ⟨a2, c2, es2, rfl, rfl, hi2, rfl⟩
 refine ⟨Suf.h, (fun _ h => h), ?_⟩
 refine th_take rfl rfl (by kernel_rfl)  (opv_move rfl) ?_
 refine th_take rfl rfl (by kernel_rfl)  (opv_extract rfl rfl) ?_
 refine th_take rfl rfl (by kernel_rfl)  (opv_extract rfl rfl) ?_
 refine th_take rfl rfl (by kernel_rfl)  (opv_indexAddrA rfl rfl (by decide) (by decide)) ?_
 refine th_one (by kernel_rfl) (step_m rfl rfl (opg_store rfl rfl rfl rfl rfl rfl) ?_)
 rintro _ _ _ ⟨rfl, rfl⟩
 refine ⟨Suf.h, (fun _ h => h), ?_⟩
 refine th_take rfl rfl (by kernel_rfl)  (opv_assign rfl) ?_
 refine th_done (by kernel_rfl) ?_
 refine tT (tS (tR (tM rfl rfl ?_)))
 refine tri_v (opv_neq rfl rfl) rfl ?_
 refine tN (tT ?_)
 refine tri_cond_dec rfl (fun x2 => ?_) (fun x2 => ?_)
 ·rw [if_neg x0, if_neg x1, if_pos x2]
  refine tS (tR ?_)
  refine tri_v (opv_buildA rfl rfl) rfl ?_
  refine tM rfl rfl ?_
  refine tri_g (opg_store rfl rfl rfl rfl rfl rfl) rfl ?_
  rintro _ _ _ ⟨rfl, rfl⟩
  refine tA rfl rfl (tN (tT (tri_ret ?_)))
  refine tri_inBlock_ret ?_
  refine tri_then_ret (tri_then_ret ?_)
  refine tri_inBlock_ret ?_
  refine tri_then_ret ?_
  refine tri_perm (A := ?a5_0 :: ?a5_1 :: ?a5_2 :: ?a5_3 :: ?a5_4 :: ?a5_5 :: ?T5) (B := ?a5_3 :: ?a5_4 :: ?a5_5 :: ?a5_0 :: ?a5_1 :: ?a5_2 :: ?T5) (by exact permL [3, 4, 5, 0, 1, 2] [?a5_0, ?a5_1, ?a5_2, ?a5_3, ?a5_4, ?a5_5] ?T5 (by decide) rfl) ?_
  refine tri_end (IxA bx mb a2 c2 p2.1 room es2 A) Suf.h rfl (.cons (rv_cellA rfl rfl rfl) (.cons (rv_tmp rfl) .nil)) ⟨a2, c2, es2, p2.1, _, _, _, _, _, _, _, _, _, rfl, rfl, fun h => absurd h x2, rfl⟩
 refine tri_skip ?_
 refine tri_inBlock ?_
 refine tT (tR ?_)
 refine tU rfl rfl (by omega) (by omega) rfl ?_
 refine tM rfl rfl (tN (tT ?_))
 refine tri_round ?_
 refine tS (tR ?_)
 refine tri_v (opv_lss rfl rfl) rfl ?_
 refine tN (tT (tS ?_))
 skip
 refine tri_cond_is rfl (by decide) ?_
 skip
 refine tri_skip (tT (tS (tri_block (tS (tR (tM rfl rfl (tA rfl rfl ?_)))))))
 refine tN (tT (tS ?_))
 refine tri_draw [0, 1, 2, 3, 4, 5, 6, 7, 8, 9, 10, 11, 12, 13, 14, 15] rfl [_, _, _, _] rfl mixed ?_
 refine th_take rfl rfl (by kernel_rfl)  (opv_move rfl) ?_
 refine th_take rfl rfl (by kernel_rfl)  (opv_fieldAddr rfl rfl) ?_
 refine th_take rfl rfl (by kernel_rfl)  (opv_load1 rfl rfl rfl) ?_
 refine th_take rfl rfl (by kernel_rfl)  (opv_loadA rfl rfl rfl) ?_
 refine th_take rfl rfl (by kernel_rfl)  (opv_move rfl) ?_
 refine th_take rfl rfl (by kernel_rfl)  (opv_quoE rfl rfl (by omega) (by omega) (by omega)) ?_
 refine th_take rfl rfl (by kernel_rfl)  (opv_move rfl) ?_
 refine th_take rfl rfl (by kernel_rfl)  (opv_remE rfl rfl (by omega) (by omega)) ?_
 refine th_one (by kernel_rfl) (step_m rfl rfl (opg_call (xs := [_, _, _]) rfl (base_square (R8.s16_len ns n) (by omega) (by omega) (by omega) (by omega))) ?_)
 rintro _ _ _ ⟨rfl, rfl, rfl⟩
 refine ⟨Suf.h, (fun _ h => h), ?_⟩
 skip
 refine th_one (by kernel_rfl) (step_m rfl rfl (opg_call (xs := [_, _]) rfl (node_putR (r := p3) g2 l2 hi2 e3)) ?_)
 rintro _ _ _ ⟨a3, c3, es3, rfl, rfl, hi3, rfl⟩
 refine ⟨Suf.h, (fun _ h => h), ?_⟩
 refine th_take rfl rfl (by kernel_rfl)  (opv_move rfl) ?_
 refine th_take rfl rfl (by kernel_rfl)  (opv_extract rfl rfl) ?_
 refine th_take rfl rfl (by kernel_rfl)  (opv_extract rfl rfl) ?_
 refine th_take rfl rfl (by kernel_rfl)  (opv_indexAddrA rfl rfl (by decide) (by decide)) ?_
 refine th_one (by kernel_rfl) (step_m rfl rfl (opg_store rfl rfl rfl rfl rfl rfl) ?_)
 rintro _ _ _ ⟨rfl, rfl⟩
 refine ⟨Suf.h, (fun _ h => h), ?_⟩
 refine th_take rfl rfl (by kernel_rfl)  (opv_assign rfl) ?_
 refine th_done (by kernel_rfl) ?_
 refine tT (tS (tR (tM rfl rfl ?_)))
 refine tri_v (opv_neq rfl rfl) rfl ?_
 refine tN (tT ?_)
 refine tri_cond_dec rfl (fun x3 => ?_) (fun x3 => ?_)
 ·rw [if_neg x0, if_neg x1, if_neg x2, if_pos x3]
  refine tS (tR ?_)
  refine tri_v (opv_buildA rfl rfl) rfl ?_
  refine tM rfl rfl ?_
  refine tri_g (opg_store rfl rfl rfl rfl rfl rfl) rfl ?_
  rintro _ _ _ ⟨rfl, rfl⟩
  refine tA rfl rfl (tN (tT (tri_ret ?_)))
  refine tri_inBlock_ret ?_
  refine tri_then_ret (tri_then_ret ?_)
  refine tri_inBlock_ret ?_
  refine tri_then_ret ?_
  refine tri_perm (A := ?a6_0 :: ?a6_1 :: ?a6_2 :: ?a6_3 :: ?a6_4 :: ?a6_5 :: ?T6) (B := ?a6_3 :: ?a6_4 :: ?a6_5 :: ?a6_0 :: ?a6_1 :: ?a6_2 :: ?T6) (by exact permL [3, 4, 5, 0, 1, 2] [?a6_0, ?a6_1, ?a6_2, ?a6_3, ?a6_4, ?a6_5] ?T6 (by decide) rfl) ?_
  refine tri_end (IxA bx mb a3 c3 p3.1 room es3 A) Suf.h rfl (.cons (rv_cellA rfl rfl rfl) (.cons (rv_tmp rfl) .nil)) ⟨a3, c3, es3, p3.1, _, _, _, _, _, _, _, _, _, rfl, rfl, fun h => absurd h x3, rfl⟩
 refine tri_skip ?_
 refine tri_inBlock ?_
 refine tT (tR ?_)
 refine tU rfl rfl (by omega) (by omega) rfl ?_
 refine tM rfl rfl (tN (tT ?_))
 refine tri_round ?_
 refine tS (tR ?_)
 refine tri_v (opv_lss rfl rfl) rfl ?_
 refine tN (tT (tS ?_))
 skip
 refine tri_cond_is rfl (by decide) ?_
 skip
 refine tri_skip (tT (tS (tri_block (tS (tR (tM rfl rfl (tA rfl rfl ?_)))))))
 refine tN (tT (tS ?_))
 refine tri_draw [0, 1, 2, 3, 4, 5, 6, 7, 8, 9, 10, 11, 12, 13, 14, 15] rfl [_, _, _, _] rfl mixed ?_
 refine th_take rfl rfl (by kernel_rfl)  (opv_move rfl) ?_
 refine th_take rfl rfl (by kernel_rfl)  (opv_fieldAddr rfl rfl) ?_
 refine th_take rfl rfl (by kernel_rfl)  (opv_load1 rfl rfl rfl) ?_
 refine th_take rfl rfl (by kernel_rfl)  (opv_loadA rfl rfl rfl) ?_
 refine th_take rfl rfl (by kernel_rfl)  (opv_move rfl) ?_
 refine th_take rfl rfl (by kernel_rfl)  (opv_quoE rfl rfl (by omega) (by omega) (by omega)) ?_
 refine th_take rfl rfl (by kernel_rfl)  (opv_move rfl) ?_
 refine th_take rfl rfl (by kernel_rfl)  (opv_remE rfl rfl (by omega) (by omega)) ?_
 refine th_one (by kernel_rfl) (step_m rfl rfl (opg_call (xs := [_, _, _]) rfl (base_square (R8.s16_len ns n) (by omega) (by omega) (by omega) (by omega))) ?_)
 rintro _ _ _ ⟨rfl, rfl, rfl⟩
 refine ⟨Suf.h, (fun _ h => h), ?_⟩
 skip
 refine th_one (by kernel_rfl) (step_m rfl rfl (opg_call (xs := [_, _]) rfl (node_putR (r := p4) g3 l3 hi3 e4)) ?_)
 rintro _ _ _ ⟨a4, c4, es4, rfl, rfl, hi4, rfl⟩
 refine ⟨Suf.h, (fun _ h => h), ?_⟩
 refine th_take rfl rfl (by kernel_rfl)  (opv_move rfl) ?_
 refine th_take rfl rfl (by kernel_rfl)  (opv_extract rfl rfl) ?_
 refine th_take rfl rfl (by kernel_rfl)  (opv_extract rfl rfl) ?_
 refine th_take rfl rfl (by kernel_rfl)  (opv_indexAddrA rfl rfl (by decide) (by decide)) ?_
 refine th_one (by kernel_rfl) (step_m rfl rfl (opg_store rfl rfl rfl rfl rfl rfl) ?_)
 rintro _ _ _ ⟨rfl, rfl⟩
 refine ⟨Suf.h, (fun _ h => h), ?_⟩
 refine th_take rfl rfl (by kernel_rfl)  (opv_assign rfl) ?_
 refine th_done (by kernel_rfl) ?_
 refine tT (tS (tR (tM rfl rfl ?_)))
 refine tri_v (opv_neq rfl rfl) rfl ?_
 refine tN (tT ?_)
 refine tri_cond_dec rfl (fun x4 => ?_) (fun x4 => ?_)
 ·rw [if_neg x0, if_neg x1, if_neg x2, if_neg x3, if_pos x4]
  refine tS (tR ?_)
  refine tri_v (opv_buildA rfl rfl) rfl ?_
  refine tM rfl rfl ?_
  refine tri_g (opg_store rfl rfl rfl rfl rfl rfl) rfl ?_
  rintro _ _ _ ⟨rfl, rfl⟩
  refine tA rfl rfl (tN (tT (tri_ret ?_)))
  refine tri_inBlock_ret ?_
  refine tri_then_ret (tri_then_ret ?_)
  refine tri_inBlock_ret ?_
  refine tri_then_ret ?_
  refine tri_perm (A := ?a7_0 :: ?a7_1 :: ?a7_2 :: ?a7_3 :: ?a7_4 :: ?a7_5 :: ?T7) (B := ?a7_3 :: ?a7_4 :: ?a7_5 :: ?a7_0 :: ?a7_1 :: ?a7_2 :: ?T7) (by exact permL [3, 4, 5, 0, 1, 2] [?a7_0, ?a7_1, ?a7_2, ?a7_3, ?a7_4, ?a7_5] ?T7 (by decide) rfl) ?_
  refine tri_end (IxA bx mb a4 c4 p4.1 room es4 A) Suf.h rfl (.cons (rv_cellA rfl rfl rfl) (.cons (rv_tmp rfl) .nil)) ⟨a4, c4, es4, p4.1, _, _, _, _, _, _, _, _, _, rfl, rfl, fun h => absurd h x4, rfl⟩
 refine tri_skip ?_
 refine tri_inBlock ?_
 refine tT (tR ?_)
 refine tU rfl rfl (by omega) (by omega) rfl ?_
 refine tM rfl rfl (tN (tT ?_))
 refine tri_round ?_
 refine tS (tR ?_)
 refine tri_v (opv_lss rfl rfl) rfl ?_
 refine tN (tT (tS ?_))
 skip
 refine tri_cond_is rfl (by decide) ?_
 skip
 refine tri_skip (tT (tS (tri_block (tS (tR (tM rfl rfl (tA rfl rfl ?_)))))))
 refine tN (tT (tS ?_))
 refine tri_draw [0, 1, 2, 3, 4, 5, 6, 7, 8, 9, 10, 11, 12, 13, 14, 15] rfl [_, _, _, _] rfl mixed ?_
 refine th_take rfl rfl (by kernel_rfl)  (opv_move rfl) ?_
 refine th_take rfl rfl (by kernel_rfl)  (opv_fieldAddr rfl rfl) ?_
 refine th_take rfl rfl (by kernel_rfl)  (opv_load1 rfl rfl rfl) ?_
 refine th_take rfl rfl (by kernel_rfl)  (opv_loadA rfl rfl rfl) ?_
 refine th_take rfl rfl (by kernel_rfl)  (opv_move rfl) ?_
 refine th_take rfl rfl (by kernel_rfl)  (opv_quoE rfl rfl (by omega) (by omega) (by omega)) ?_
 refine th_take rfl rfl (by kernel_rfl)  (opv_move rfl) ?_
 refine th_take rfl rfl (by kernel_rfl)  (opv_remE rfl rfl (by omega) (by omega)) ?_
 refine th_one (by kernel_rfl) (step_m rfl rfl (opg_call (xs := [_, _, _]) rfl (base_square (R8.s16_len ns n) (by omega) (by omega) (by omega) (by omega))) ?_)
 rintro _ _ _ ⟨rfl, rfl, rfl⟩
 refine ⟨Suf.h, (fun _ h => h), ?_⟩
 skip
 refine th_one (by kernel_rfl) (step_m rfl rfl (opg_call (xs := [_, _]) rfl (node_putR (r := p5) g4 l4 hi4 e5)) ?_)
 rintro _ _ _ ⟨a5, c5, es5, rfl, rfl, hi5, rfl⟩
 refine ⟨Suf.h, (fun _ h => h), ?_⟩
 refine th_take rfl rfl (by kernel_rfl)  (opv_move rfl) ?_
 refine th_take rfl rfl (by kernel_rfl)  (opv_extract rfl rfl) ?_
 refine th_take rfl rfl (by kernel_rfl)  (opv_extract rfl rfl) ?_
 refine th_take rfl rfl (by kernel_rfl)  (opv_indexAddrA rfl rfl (by decide) (by decide)) ?_
 refine th_one (by kernel_rfl) (step_m rfl rfl (opg_store rfl rfl rfl rfl rfl rfl) ?_)
 rintro _ _ _ ⟨rfl, rfl⟩
 refine ⟨Suf.h, (fun _ h => h), ?_⟩
 refine th_take rfl rfl (by kernel_rfl)  (opv_assign rfl) ?_
 refine th_done (by kernel_rfl) ?_
 refine tT (tS (tR (tM rfl rfl ?_)))
 refine tri_v (opv_neq rfl rfl) rfl ?_
 refine tN (tT ?_)
 refine tri_cond_dec rfl (fun x5 => ?_) (fun x5 => ?_)
 ·rw [if_neg x0, if_neg x1, if_neg x2, if_neg x3, if_neg x4, if_pos x5]
  refine tS (tR ?_)
  refine tri_v (opv_buildA rfl rfl) rfl ?_
  refine tM rfl rfl ?_
  refine tri_g (opg_store rfl rfl rfl rfl rfl rfl) rfl ?_
  rintro _ _ _ ⟨rfl, rfl⟩
  refine tA rfl rfl (tN (tT (tri_ret ?_)))
  refine tri_inBlock_ret ?_
  refine tri_then_ret (tri_then_ret ?_)
  refine tri_inBlock_ret ?_
  refine tri_then_ret ?_
  refine tri_perm (A := ?a8_0 :: ?a8_1 :: ?a8_2 :: ?a8_3 :: ?a8_4 :: ?a8_5 :: ?T8) (B := ?a8_3 :: ?a8_4 :: ?a8_5 :: ?a8_0 :: ?a8_1 :: ?a8_2 :: ?T8) (by exact permL [3, 4, 5, 0, 1, 2] [?a8_0, ?a8_1, ?a8_2, ?a8_3, ?a8_4, ?a8_5] ?T8 (by decide) rfl) ?_
  refine tri_end (IxA bx mb a5 c5 p5.1 room es5 A) Suf.h rfl (.cons (rv_cellA rfl rfl rfl) (.cons (rv_tmp rfl) .nil)) ⟨a5, c5, es5, p5.1, _, _, _, _, _, _, _, _, _, rfl, rfl, fun h => absurd h x5, rfl⟩
 refine tri_skip ?_
 refine tri_inBlock ?_
 refine tT (tR ?_)
 refine tU rfl rfl (by omega) (by omega) rfl ?_
 refine tM rfl rfl (tN (tT ?_))
 refine tri_round ?_
 refine tS (tR ?_)
 refine tri_v (opv_lss rfl rfl) rfl ?_
 refine tN (tT (tS ?_))
 skip
 refine tri_cond_is rfl (by decide) ?_
 skip
 refine tri_skip (tT (tS (tri_block (tS (tR (tM rfl rfl (tA rfl rfl ?_)))))))
 refine tN (tT (tS ?_))
 refine tri_draw [0, 1, 2, 3, 4, 5, 6, 7, 8, 9, 10, 11, 12, 13, 14, 15] rfl [_, _, _, _] rfl mixed ?_
 refine th_take rfl rfl (by kernel_rfl)  (opv_move rfl) ?_
 refine th_take rfl rfl (by kernel_rfl)  (opv_fieldAddr rfl rfl) ?_
 refine th_take rfl rfl (by kernel_rfl)  (opv_load1 rfl rfl rfl) ?_
 refine th_take rfl rfl (by kernel_rfl)  (opv_loadA rfl rfl rfl) ?_
 refine th_take rfl rfl (by kernel_rfl)  (opv_move rfl) ?_
 refine th_take rfl rfl (by kernel_rfl)  (opv_quoE rfl rfl (by omega) (by omega) (by omega)) ?_
 refine th_take rfl rfl (by kernel_rfl)  (opv_move rfl) ?_
 refine th_take rfl rfl (by kernel_rfl)  (opv_remE rfl rfl (by omega) (by omega)) ?_
 refine th_one (by kernel_rfl) (step_m rfl rfl (opg_call (xs := [_, _, _]) rfl (base_square (R8.s16_len ns n) (by omega) (by omega) (by omega) (by omega))) ?_)
 rintro _ _ _ ⟨rfl, rfl, rfl⟩
 refine ⟨Suf.h, (fun _ h => h), ?_⟩
 skip
 refine th_one (by kernel_rfl) (step_m rfl rfl (opg_call (xs := [_, _]) rfl (node_putR (r := p6) g5 l5 hi5 e6)) ?_)
 rintro _ _ _ ⟨a6, c6, es6, rfl, rfl, hi6, rfl⟩
 refine ⟨Suf.h, (fun _ h => h), ?_⟩
 refine th_take rfl rfl (by kernel_rfl)  (opv_move rfl) ?_
 refine th_take rfl rfl (by kernel_rfl)  (opv_extract rfl rfl) ?_
 refine th_take rfl rfl (by kernel_rfl)  (opv_extract rfl rfl) ?_
 refine th_take rfl rfl (by kernel_rfl)  (opv_indexAddrA rfl rfl (by decide) (by decide)) ?_
 refine th_one (by kernel_rfl) (step_m rfl rfl (opg_store rfl rfl rfl rfl rfl rfl) ?_)
 rintro _ _ _ ⟨rfl, rfl⟩
 refine ⟨Suf.h, (fun _ h => h), ?_⟩
 refine th_take rfl rfl (by kernel_rfl)  (opv_assign rfl) ?_
 refine th_done (by kernel_rfl) ?_
 refine tT (tS (tR (tM rfl rfl ?_)))
 refine tri_v (opv_neq rfl rfl) rfl ?_
 refine tN (tT ?_)
 refine tri_cond_dec rfl (fun x6 => ?_) (fun x6 => ?_)
 ·rw [if_neg x0, if_neg x1, if_neg x2, if_neg x3, if_neg x4, if_neg x5, if_pos x6]
  refine tS (tR ?_)
  refine tri_v (opv_buildA rfl rfl) rfl ?_
  refine tM rfl rfl ?_
  refine tri_g (opg_store rfl rfl rfl rfl rfl rfl) rfl ?_
  rintro _ _ _ ⟨rfl, rfl⟩
  refine tA rfl rfl (tN (tT (tri_ret ?_)))
  refine tri_inBlock_ret ?_
  refine tri_then_ret (tri_then_ret ?_)
  refine tri_inBlock_ret ?_
  refine tri_then_ret ?_
  refine tri_perm (A := ?a9_0 :: ?a9_1 :: ?a9_2 :: ?a9_3 :: ?a9_4 :: ?a9_5 :: ?T9) (B := ?a9_3 :: ?a9_4 :: ?a9_5 :: ?a9_0 :: ?a9_1 :: ?a9_2 :: ?T9) (by exact permL [3, 4, 5, 0, 1, 2] [?a9_0, ?a9_1, ?a9_2, ?a9_3, ?a9_4, ?a9_5] ?T9 (by decide) rfl) ?_
  refine tri_end (IxA bx mb a6 c6 p6.1 room es6 A) Suf.h rfl (.cons (rv_cellA rfl rfl rfl) (.cons (rv_tmp rfl) .nil)) ⟨a6, c6, es6, p6.1, _, _, _, _, _, _, _, _, _, rfl, rfl, fun h => absurd h x6, rfl⟩
 refine tri_skip ?_
 refine tri_inBlock ?_
 refine tT (tR ?_)
 refine tU rfl rfl (by omega) (by omega) rfl ?_
 refine tM rfl rfl (tN (tT ?_))
 refine tri_round ?_
 refine tS (tR ?_)
 refine tri_v (opv_lss rfl rfl) rfl ?_
 refine tN (tT (tS ?_))
 skip
 refine tri_cond_is rfl (by decide) ?_
 skip
 refine tri_skip (tT (tS (tri_block (tS (tR (tM rfl rfl (tA rfl rfl ?_)))))))
 refine tN (tT (tS ?_))
 refine tri_draw [0, 1, 2, 3, 4, 5, 6, 7, 8, 9, 10, 11, 12, 13, 14, 15] rfl [_, _, _, _] rfl mixed ?_
 refine th_take rfl rfl (by kernel_rfl)  (opv_move rfl) ?_
 refine th_take rfl rfl (by kernel_rfl)  (opv_fieldAddr rfl rfl) ?_
 refine th_take rfl rfl (by kernel_rfl)  (opv_load1 rfl rfl rfl) ?_
 refine th_take rfl rfl (by kernel_rfl)  (opv_loadA rfl rfl rfl) ?_
 refine th_take rfl rfl (by kernel_rfl)  (opv_move rfl) ?_
 refine th_take rfl rfl (by kernel_rfl)  (opv_quoE rfl rfl (by omega) (by omega) (by omega)) ?_
 refine th_take rfl rfl (by kernel_rfl)  (opv_move rfl) ?_
 refine th_take rfl rfl (by kernel_rfl)  (opv_remE rfl rfl (by omega) (by omega)) ?_
 refine th_one (by kernel_rfl) (step_m rfl rfl (opg_call (xs := [_, _, _]) rfl (base_square (R8.s16_len ns n) (by omega) (by omega) (by omega) (by omega))) ?_)
 rintro _ _ _ ⟨rfl, rfl, rfl⟩
 refine ⟨Suf.h, (fun _ h => h), ?_⟩
 skip
 refine th_one (by kernel_rfl) (step_m rfl rfl (opg_call (xs := [_, _]) rfl (node_putR (r := p7) g6 l6 hi6 e7)) ?_)
 rintro _ _ _ ⟨a7, c7, es7, rfl, rfl, hi7, rfl⟩
 refine ⟨Suf.h, (fun _ h => h), ?_⟩
 refine th_take rfl rfl (by kernel_rfl)  (opv_move rfl) ?_
 refine th_take rfl rfl (by kernel_rfl)  (opv_extract rfl rfl) ?_
 refine th_take rfl rfl (by kernel_rfl)  (opv_extract rfl rfl) ?_
 refine th_take rfl rfl (by kernel_rfl)  (opv_indexAddrA rfl rfl (by decide) (by decide)) ?_
 refine th_one (by kernel_rfl) (step_m rfl rfl (opg_store rfl rfl rfl rfl rfl rfl) ?_)
 rintro _ _ _ ⟨rfl, rfl⟩
 refine ⟨Suf.h, (fun _ h => h), ?_⟩
 refine th_take rfl rfl (by kernel_rfl)  (opv_assign rfl) ?_
 refine th_done (by kernel_rfl) ?_
 refine tT (tS (tR (tM rfl rfl ?_)))
 refine tri_v (opv_neq rfl rfl) rfl ?_
 refine tN (tT ?_)
 refine tri_cond_dec rfl (fun x7 => ?_) (fun x7 => ?_)
 ·rw [if_neg x0, if_neg x1, if_neg x2, if_neg x3, if_neg x4, if_neg x5, if_neg x6, if_pos x7]
  refine tS (tR ?_)
  refine tri_v (opv_buildA rfl rfl) rfl ?_
  refine tM rfl rfl ?_
  refine tri_g (opg_store rfl rfl rfl rfl rfl rfl) rfl ?_
  rintro _ _ _ ⟨rfl, rfl⟩
  refine tA rfl rfl (tN (tT (tri_ret ?_)))
  refine tri_inBlock_ret ?_
  refine tri_then_ret (tri_then_ret ?_)
  refine tri_inBlock_ret ?_
  refine tri_then_ret ?_
  refine tri_perm (A := ?a10_0 :: ?a10_1 :: ?a10_2 :: ?a10_3 :: ?a10_4 :: ?a10_5 :: ?T10) (B := ?a10_3 :: ?a10_4 :: ?a10_5 :: ?a10_0 :: ?a10_1 :: ?a10_2 :: ?T10) (by exact permL [3, 4, 5, 0, 1, 2] [?a10_0, ?a10_1, ?a10_2, ?a10_3, ?a10_4, ?a10_5] ?T10 (by decide) rfl) ?_
  refine tri_end (IxA bx mb a7 c7 p7.1 room es7 A) Suf.h rfl (.cons (rv_cellA rfl rfl rfl) (.cons (rv_tmp rfl) .nil)) ⟨a7, c7, es7, p7.1, _, _, _, _, _, _, _, _, _, rfl, rfl, fun h => absurd h x7, rfl⟩
 refine tri_skip ?_
 refine tri_inBlock ?_
 refine tT (tR ?_)
 refine tU rfl rfl (by omega) (by omega) rfl ?_
 refine tM rfl rfl (tN (tT ?_))
 refine tri_round ?_
 refine tS (tR ?_)
 refine tri_v (opv_lss rfl rfl) rfl ?_
 refine tN (tT (tS ?_))
 skip
 refine tri_cond_is rfl (by decide) ?_
 skip
 refine tri_skip (tT (tS (tri_block (tS (tR (tM rfl rfl (tA rfl rfl ?_)))))))
 refine tN (tT (tS ?_))
 refine tri_draw [0, 1, 2, 3, 4, 5, 6, 7, 8, 9, 10, 11, 12, 13, 14, 15] rfl [_, _, _, _] rfl mixed ?_
 refine th_take rfl rfl (by kernel_rfl)  (opv_move rfl) ?_
 refine th_take rfl rfl (by kernel_rfl)  (opv_fieldAddr rfl rfl) ?_
 refine th_take rfl rfl (by kernel_rfl)  (opv_load1 rfl rfl rfl) ?_
 refine th_take rfl rfl (by kernel_rfl)  (opv_loadA rfl rfl rfl) ?_
 refine th_take rfl rfl (by kernel_rfl)  (opv_move rfl) ?_
 refine th_take rfl rfl (by kernel_rfl)  (opv_quoE rfl rfl (by omega) (by omega) (by omega)) ?_
 refine th_take rfl rfl (by kernel_rfl)  (opv_move rfl) ?_
 refine th_take rfl rfl (by kernel_rfl)  (opv_remE rfl rfl (by omega) (by omega)) ?_
 refine th_one (by kernel_rfl) (step_m rfl rfl (opg_call (xs := [_, _, _]) rfl (base_square (R8.s16_len ns n) (by omega) (by omega) (by omega) (by omega))) ?_)
 rintro _ _ _ ⟨rfl, rfl, rfl⟩
 refine ⟨Suf.h, (fun _ h => h), ?_⟩
 skip
 refine th_one (by kernel_rfl) (step_m rfl rfl (opg_call (xs := [_, _]) rfl (node_putR (r := p8) g7 l7 hi7 e8)) ?_)
 rintro _ _ _ ⟨a8, c8, es8, rfl, rfl, hi8, rfl⟩
 refine ⟨Suf.h, (fun _ h => h), ?_⟩
 refine th_take rfl rfl (by kernel_rfl)  (opv_move rfl) ?_
 refine th_take rfl rfl (by kernel_rfl)  (opv_extract rfl rfl) ?_
 refine th_take rfl rfl (by kernel_rfl)  (opv_extract rfl rfl) ?_
 refine th_take rfl rfl (by kernel_rfl)  (opv_indexAddrA rfl rfl (by decide) (by decide)) ?_
 refine th_one (by kernel_rfl) (step_m rfl rfl (opg_store rfl rfl rfl rfl rfl rfl) ?_)
 rintro _ _ _ ⟨rfl, rfl⟩
 refine ⟨Suf.h, (fun _ h => h), ?_⟩
 refine th_take rfl rfl (by kernel_rfl)  (opv_assign rfl) ?_
 refine th_done (by kernel_rfl) ?_
 refine tT (tS (tR (tM rfl rfl ?_)))
 refine tri_v (opv_neq rfl rfl) rfl ?_
 refine tN (tT ?_)
 refine tri_cond_dec rfl (fun x8 => ?_) (fun x8 => ?_)
 ·rw [if_neg x0, if_neg x1, if_neg x2, if_neg x3, if_neg x4, if_neg x5, if_neg x6, if_neg x7, if_pos x8]
  refine tS (tR ?_)
  refine tri_v (opv_buildA rfl rfl) rfl ?_
  refine tM rfl rfl ?_
  refine tri_g (opg_store rfl rfl rfl rfl rfl rfl) rfl ?_
  rintro _ _ _ ⟨rfl, rfl⟩
  refine tA rfl rfl (tN (tT (tri_ret ?_)))
  refine tri_inBlock_ret ?_
  refine tri_then_ret (tri_then_ret ?_)
  refine tri_inBlock_ret ?_
  refine tri_then_ret ?_
  refine tri_perm (A := ?a11_0 :: ?a11_1 :: ?a11_2 :: ?a11_3 :: ?a11_4 :: ?a11_5 :: ?T11) (B := ?a11_3 :: ?a11_4 :: ?a11_5 :: ?a11_0 :: ?a11_1 :: ?a11_2 :: ?T11) (by exact permL [3, 4, 5, 0, 1, 2] [?a11_0, ?a11_1, ?a11_2, ?a11_3, ?a11_4, ?a11_5] ?T11 (by decide) rfl) ?_
  refine tri_end (IxA bx mb a8 c8 p8.1 room es8 A) Suf.h rfl (.cons (rv_cellA rfl rfl rfl) (.cons (rv_tmp rfl) .nil)) ⟨a8, c8, es8, p8.1, _, _, _, _, _, _, _, _, _, rfl, rfl, fun h => absurd h x8, rfl⟩
 refine tri_skip ?_
 refine tri_inBlock ?_
 refine tT (tR ?_)
 refine tU rfl rfl (by omega) (by omega) rfl ?_
 refine tM rfl rfl (tN (tT ?_))
 refine tri_round ?_
 refine tS (tR ?_)
 refine tri_v (opv_lss rfl rfl) rfl ?_
 refine tN (tT (tS ?_))
 rw [if_neg x0, if_neg x1, if_neg x2, if_neg x3, if_neg x4, if_neg x5, if_neg x6, if_neg x7, if_neg x8]
 refine tri_cond_not rfl (by decide) ?_
 refine tri_exit ?_
 refine tri_then_exit ?_
 refine tri_then_exit ?_
 refine tri_inBlock_hit rfl ?_
 refine tT (tS (tR ?_))
 refine tri_v (opv_loadA rfl rfl rfl) rfl ?_
 refine tri_g (opg_store rfl rfl rfl rfl rfl rfl) rfl ?_
 rintro _ _ _ ⟨rfl, rfl⟩
 refine tA rfl rfl (tN (tT (tri_ret ?_)))
 refine tri_perm (A := ?a12_0 :: ?a12_1 :: ?a12_2 :: ?a12_3 :: ?a12_4 :: ?a12_5 :: ?T12) (B := ?a12_3 :: ?a12_4 :: ?a12_5 :: ?a12_0 :: ?a12_1 :: ?a12_2 :: ?T12) (by exact permL [3, 4, 5, 0, 1, 2] [?a12_0, ?a12_1, ?a12_2, ?a12_3, ?a12_4, ?a12_5] ?T12 (by decide) rfl) ?_
 refine tri_end (IxA bx mb a8 c8 p8.1 room es8 A) Suf.h rfl (.cons (rv_cellA rfl rfl rfl) (.cons (rv_tmp rfl) .nil)) ⟨a8, c8, es8, p8.1, _, _, _, _, _, _, _, _, _, rfl, rfl, fun h => ⟨rfl, rfl, hi8⟩, rfl⟩
end Go.GL


set_option linter.unusedVariables false
namespace Go.GL
open Go.Proofs
attribute [local irreducible] wpList Code.wp Exit.then Exit.inBlock Ends Tri TriH OpV OpG FnC epf wpAnyH
variable {A : List Asrt} {I : List Chunk}
theorem keyLeap (n j : Int) : (.agg [.int .i64 n, .int .i64 j].toArray : Value) = mkv Try.prog 79 [n, j] := by kernel_rfl
theorem keyLeapAt : intAt Try.prog 9 79 = some 2 := by kernel_rfl
/-- The map tells what was kept. -/
def MemK (mm : R9.Memo) (ds : KVs) : Prop := ∀ n j, mfind ds [n, j] = (R9.look9 mm n j).map (.int .i64)
theorem MemK.nil : MemK [] [] := fun _ _ => rfl
theorem look9_snoc : ∀ (mm : R9.Memo) (n j to n' j' : Int), R9.look9 (mm ++ [(n, j, to)]) n' j' = match R9.look9 mm n' j' with | some t => some t | none => if n = n' ∧ j = j' then some to else none
 | [], n, j, to, n', j' => rfl
 | p :: mm, n, j, to, n', j' => by
  simp only [List.cons_append, R9.look9]
  split
  ·rfl
  ·exact look9_snoc mm n j to n' j'
theorem MemK.snoc {mm : R9.Memo} {ds : KVs} (h : MemK mm ds) {n j : Int} (hn : R9.look9 mm n j = none) (to : Int) : MemK (mm ++ [(n, j, to)]) (mset ds [n, j] (.int .i64 to)) := by
 intro n' j'
 rw [mfind_mset, look9_snoc, h n' j']
 by_cases e : n = n' ∧ j = j'
 ·obtain ⟨rfl, rfl⟩ := e
  rw [if_pos rfl, hn]
  simp
 ·rw [if_neg (by simpa using e)]
  cases R9.look9 mm n' j' with
  | some t => rfl
  | none => simp [e]
/-- What of a crew lies at places that change. -/
structure Hp where
 a : Option Addr
 cap : Nat
 es : KVs
 ds : KVs
 at_ : Option Addr
 ct : Nat
 bs : List Blk
 ss : List Sl
def tkA (bs : List Blk) (ts : List Tk) (i : Nat) : Asrt := Box (bs.getD i default).b (Enc.enc (ts.getD i default)) 82
def tkS (bs : List Blk) (ts : List Tk) : List Asrt := (List.range ts.length).map (tkA bs ts)
def dqA (ss : List Sl) (D : List (List Int)) (k : Nat) : Asrt := Row (ss.getD k default).a (ss.getD k default).cap (D.getD k default).length 3 1 (encs (D.getD k default))
def dqS (ss : List Sl) (D : List (List Int)) : List Asrt := (List.range D.length).map (dqA ss D)
/-- The crew, as it lies in the heap. -/
abbrev CwA (bc bx mb db : Nat) (ad : Option Addr) (cd : Nat) (room : Int) (h : Hp) (s : R21.Ms) (A : List Asrt) : List Asrt :=
 IxA bx mb h.a h.cap s.ns room h.es (Box bc [pt bx 0, .slice h.at_ s.ts.length h.ct, .slice ad s.D.length cd, .map (some db), .int .i64 s.node, .bool s.done] 76 :: Row h.at_ h.ct s.ts.length 113 1 (encs h.bs) :: Row ad cd s.D.length 27 1 (encs h.ss) :: MapA Try.prog 79 db h.ds :: Stars (tkS h.bs s.ts) :: Stars (dqS h.ss s.D) :: A)
structure CwOk (h : Hp) (s : R21.Ms) : Prop where
 idx : Idx s.ns h.es
 mem : MemK s.kp h.ds
 bl : h.bs.length = s.ts.length
 sl : h.ss.length = s.D.length
 len : ∀ k, k < s.D.length → (h.ss.getD k default).len = (s.D.getD k default).length
theorem getD_set7 {α : Type} [Inhabited α] {l : List α} {i j : Nat} {v : α} (hi : i < l.length) : (l.set i v).getD j default = if j = i then v else l.getD j default := by
 rw [List.getD_eq_getElem?_getD, List.getElem?_set, List.getD_eq_getElem?_getD]
 by_cases h : i = j
 ·subst h
  simp [hi]
 ·rw [if_neg h, if_neg (by omega)]
theorem tkS_add {bs : List Blk} {ts : List Tk} {b : Blk} {t : Tk} (h : bs.length = ts.length) : tkS bs ts ++ [Box b.b (Enc.enc t) 82] = tkS (bs ++ [b]) (ts ++ [t]) := by
 unfold tkS
 rw [List.length_append, List.length_singleton, List.range_succ, List.map_append]
 congr 1
 ·refine List.map_congr_left fun i hi => ?_
  have hi := List.mem_range.1 hi
  unfold tkA
  rw [List.getD_eq_getElem?_getD (l := bs ++ [b]), List.getElem?_append_left (by omega), List.getD_eq_getElem?_getD (l := ts ++ [t]), List.getElem?_append_left (by omega), ← List.getD_eq_getElem?_getD, ← List.getD_eq_getElem?_getD]
 ·show [_] = [_]
  unfold tkA
  have e1 : (ts ++ [t]).getD ts.length default = t := by simp
  have e2 : (bs ++ [b]).getD ts.length default = b := by rw [← h]; simp
  rw [e1, e2]
set_option maxRecDepth 100000 in
theorem slices_cloneI {l : List Int} {a : Option Addr} {cap : Nat} (hs : SlAt I a l) (hn : l.length ≤ 1000000000) (h0 : a = none → l = []) :
  FnC Try.prog 81 [.slice a l.length cap].toArray A I (fun v A' I' => ∃ a' cap', v = .slice a' l.length cap' ∧ A' = Row a' cap' l.length 3 1 (encs l) :: A ∧ I = I') := by
 cases a with
 | none =>
  obtain rfl := h0 rfl
  skip
  refine fn_enter1 Try.func81 rfl Try.ntmps81 rfl fun w0 => ?_
  refine tS (tR (tA rfl rfl (tN (tT (tS (tS (tR ?_)))))))
  refine tM rfl rfl ?_
  refine tri_v (opv_eqlNil rfl rfl) rfl ?_
  refine tN (tT ?_)
  refine tri_cond_true (by rfl) ?_
  refine tS (tR (tA rfl rfl (tN (tT (tri_ret (tri_then_ret ?_))))))
  refine tri_nilRow (E := 3) (sz := 1) ?_
  refine tri_end _ (⟨[], rfl⟩) rfl (.cons (rv_tmp rfl) .nil) ⟨none, 0, rfl, rfl, rfl⟩
 | some ad =>
  refine fn_enter1 Try.func81 rfl Try.ntmps81 rfl fun w0 => ?_
  refine tS (tR (tA rfl rfl (tN (tT (tS (tS (tR ?_)))))))
  refine tM rfl rfl ?_
  refine tri_v (opv_eqlNil rfl rfl) rfl ?_
  refine tN (tT ?_)
  refine tri_cond_false (by rfl) ?_
  refine tri_skip (tT (tS (tR ?_)))
  refine tri_g (opg_buildSlice rfl rfl rfl rfl) rfl ?_
  rintro _ _ _ ⟨b5, rfl, rfl, rfl⟩
  refine tM rfl rfl ?_
  refine tri_boxRow (k := 0) (sz := 1) rfl ?_
  refine tri_g (opg_appendS rfl rfl hs rfl rfl (by omega) rfl) rfl ?_
  rintro _ _ _ ⟨a2, cap2, rfl, rfl, rfl⟩
  refine tA rfl rfl (tN (tT (tri_ret ?_)))
  refine tri_rowEq (len' := l.length) (cells' := encs l) (by omega) rfl ?_
  refine tri_end _ (⟨[], rfl⟩) rfl (.cons (rv_tmp rfl) .nil) ⟨a2, cap2, ?_, rfl, rfl⟩
  rw [Nat.zero_add]; rfl
end Go.GL


set_option linter.unusedVariables false
namespace Go.GL
open Go.Proofs
section
variable {w0 : World} {n : Nat} {F : Frm} {A : List Asrt} {I : List Chunk}
theorem tri_starsPerm {L M : List Asrt} {K : Act → World → Prop} (hp : L.Perm M) (h : Tri w0 n F (Stars M :: A) I K) : Tri w0 n F (Stars L :: A) I K :=
 tri_stars (tri_perm (hp.append_right A) (tri_toStars h))
theorem tri_starsUn {a : Asrt} {M : List Asrt} {K : Act → World → Prop} (h : Tri w0 n F (a :: Stars M :: A) I K) : Tri w0 n F (Stars (a :: M) :: A) I K :=
 tri_stars (tri_perm (A := a :: M ++ A) (B := M ++ (a :: A)) List.perm_middle.symm (tri_toStars (A := a :: A) (tri_perm (List.Perm.swap _ _ _) h)))
theorem tri_starsRe {a : Asrt} {M : List Asrt} {K : Act → World → Prop} (h : Tri w0 n F (Stars (a :: M) :: A) I K) : Tri w0 n F (a :: Stars M :: A) I K :=
 tri_perm (List.Perm.swap _ _ _) (tri_stars (tri_perm (A := M ++ (a :: A)) (B := a :: M ++ A) List.perm_middle (tri_toStars h)))
variable {X0 X1 X2 X3 X4 X5 X6 X7 X8 S : Asrt}
theorem perm8 : (X0 :: X1 :: X2 :: X3 :: X4 :: X5 :: X6 :: X7 :: S :: A).Perm (S :: X0 :: X1 :: X2 :: X3 :: X4 :: X5 :: X6 :: X7 :: A) := List.perm_middle (l₁ := [X0, X1, X2, X3, X4, X5, X6, X7])
theorem perm9 {X9 : Asrt} : (X9 :: X0 :: X1 :: X2 :: X3 :: X4 :: X5 :: X6 :: X7 :: S :: A).Perm (S :: X9 :: X0 :: X1 :: X2 :: X3 :: X4 :: X5 :: X6 :: X7 :: A) := List.perm_middle (l₁ := [X9, X0, X1, X2, X3, X4, X5, X6, X7])
theorem perm7 : (X0 :: X1 :: X2 :: X3 :: X4 :: X5 :: X6 :: S :: A).Perm (S :: X0 :: X1 :: X2 :: X3 :: X4 :: X5 :: X6 :: A) := List.perm_middle (l₁ := [X0, X1, X2, X3, X4, X5, X6])
end
/-! ### One of the deques, one or two of the tasks -/
theorem range_one {n i : Nat} (h : i < n) : (List.range n).Perm (i :: (List.range n).filter fun j => decide (j ≠ i)) := by
 refine (List.perm_ext_iff_of_nodup List.nodup_range ?_).2 fun j => ?_
 ·refine List.nodup_cons.2 ⟨fun h => ?_, List.nodup_range.filter _⟩
  simpa using (List.mem_filter.1 h).2
 ·rw [List.mem_cons, List.mem_filter, List.mem_range]
  by_cases e : j = i
  ·subst e; simp [h]
  ·simp [e]
theorem range_two {n i p : Nat} (h : i < n) (hp : p < n) (hne : p ≠ i) : (List.range n).Perm (i :: p :: (List.range n).filter fun j => decide (j ≠ i ∧ j ≠ p)) := by
 refine (List.perm_ext_iff_of_nodup List.nodup_range ?_).2 fun j => ?_
 ·refine List.nodup_cons.2 ⟨fun h => ?_, List.nodup_cons.2 ⟨fun h => ?_, List.nodup_range.filter _⟩⟩
  ·rcases List.mem_cons.1 h with h | h
   ·exact hne h.symm
   ·have := of_decide_eq_true (List.mem_filter.1 h).2; exact this.1 rfl
  ·have := of_decide_eq_true (List.mem_filter.1 h).2; exact this.2 rfl
 ·rw [List.mem_cons, List.mem_cons, List.mem_filter, List.mem_range]
  by_cases e : j = i
  ·subst e; simp [h]
  ·by_cases e2 : j = p
   ·subst e2; simp [hp]
   ·simp [e, e2]
theorem dq_one {ss : List Sl} {D : List (List Int)} {k : Nat} (hk : k < D.length) (hs : ss.length = D.length) : ∃ R, (dqS ss D).Perm (dqA ss D k :: R) ∧ ∀ (s : Sl) (l : List Int), (dqS (ss.set k s) (D.set k l)).Perm (Row s.a s.cap l.length 3 1 (encs l) :: R) := by
 refine ⟨((List.range D.length).filter fun j => decide (j ≠ k)).map (dqA ss D), (range_one hk).map (dqA ss D), fun s l => ?_⟩
 have h := (range_one hk).map (dqA (ss.set k s) (D.set k l))
 unfold dqS
 rw [List.length_set]
 refine h.trans ?_
 rw [List.map_cons]
 have e : dqA (ss.set k s) (D.set k l) k = Row s.a s.cap l.length 3 1 (encs l) := by unfold dqA; rw [getD_set7 (by omega), if_pos rfl, getD_set7 hk, if_pos rfl]
 rw [e]
 refine List.Perm.cons _ ?_
 rw [List.map_congr_left fun j hj => ?_]
 have hj := of_decide_eq_true (List.mem_filter.1 hj).2
 unfold dqA
 rw [getD_set7 (by omega), if_neg hj, getD_set7 hk, if_neg hj]
theorem tk_one {bs : List Blk} {ts : List Tk} {i : Nat} (hi : i < ts.length) : ∃ R, (tkS bs ts).Perm (tkA bs ts i :: R) ∧ ∀ u : Tk, (tkS bs (ts.set i u)).Perm (Box (bs.getD i default).b (Enc.enc u) 82 :: R) := by
 refine ⟨((List.range ts.length).filter fun j => decide (j ≠ i)).map (tkA bs ts), (range_one hi).map (tkA bs ts), fun u => ?_⟩
 have h := (range_one hi).map (tkA bs (ts.set i u))
 unfold tkS
 rw [List.length_set]
 refine h.trans ?_
 rw [List.map_cons]
 have e : tkA bs (ts.set i u) i = Box (bs.getD i default).b (Enc.enc u) 82 := by unfold tkA; rw [getD_set7 hi, if_pos rfl]
 rw [e]
 refine List.Perm.cons _ ?_
 rw [List.map_congr_left fun j hj => ?_]
 have hj := of_decide_eq_true (List.mem_filter.1 hj).2
 unfold tkA
 rw [getD_set7 hi, if_neg hj]
theorem tk_two {bs : List Blk} {ts : List Tk} {i p : Nat} (hi : i < ts.length) (hp : p < ts.length) (hne : p ≠ i) : ∃ R, (tkS bs ts).Perm (tkA bs ts i :: tkA bs ts p :: R) ∧ ∀ u : Tk, (tkS bs (ts.set p u)).Perm (tkA bs ts i :: Box (bs.getD p default).b (Enc.enc u) 82 :: R) := by
 refine ⟨((List.range ts.length).filter fun j => decide (j ≠ i ∧ j ≠ p)).map (tkA bs ts), (range_two hi hp hne).map (tkA bs ts), fun u => ?_⟩
 have h := (range_two hi hp hne).map (tkA bs (ts.set p u))
 unfold tkS
 rw [List.length_set]
 refine h.trans ?_
 rw [List.map_cons, List.map_cons]
 have e : tkA bs (ts.set p u) p = Box (bs.getD p default).b (Enc.enc u) 82 := by unfold tkA; rw [getD_set7 hp, if_pos rfl]
 have e2 : tkA bs (ts.set p u) i = tkA bs ts i := by unfold tkA; rw [getD_set7 hp, if_neg (by omega)]
 rw [e, e2]
 refine List.Perm.cons _ (List.Perm.cons _ ?_)
 rw [List.map_congr_left fun j hj => ?_]
 have hj := of_decide_eq_true (List.mem_filter.1 hj).2
 unfold tkA
 rw [getD_set7 hp, if_neg hj.2]
end Go.GL


set_option linter.unusedVariables false
namespace Go.GL
open Go.Proofs
attribute [local irreducible] wpList Code.wp Exit.then Exit.inBlock Ends Tri TriH OpV OpG FnC epf wpAnyH
variable {A : List Asrt} {I : List Chunk}
/-- What a crew's function leaves behind. -/
def CwR (bc bx mb db bq cd : Nat) (room : Int) (s : R21.Ms) (A : List Asrt) (I : List Chunk) : Value → List Asrt → List Chunk → Prop :=
 fun v A' I' => ∃ h', CwOk h' s ∧ A' = CwA bc bx mb db (some ⟨bq, 0, none⟩) cd room h' s A ∧ I ⊆ I'
set_option maxHeartbeats 2000000 in
set_option maxRecDepth 100000 in
theorem crew_add {bc bx mb db bq cd w : Nat} {room : Int} {h : Hp} {s : R21.Ms} {t : Tk} (ok : CwOk h s) (hw : w < s.D.length) (hn : s.ts.length ≤ 1000000000) (hd : (s.D.getD w default).length ≤ 1000000000) :
  FnC Try.prog 29 [pt bc 0, .int .i64 (w : Nat), .agg (Enc.enc t).toArray].toArray (CwA bc bx mb db (some ⟨bq, 0, none⟩) cd room h s A) I (CwR bc bx mb db bq cd room (R21.add s w t) A I) := by
 have hsl := ok.sl
 have hbl := ok.bl
 have hl := ok.len ((w : Nat) : Int).toNat hw
 have hd : (s.D.getD ((w : Nat) : Int).toNat default).length ≤ 1000000000 := hd
 obtain ⟨Rq, hq1, hq2⟩ := dq_one (k := ((w : Nat) : Int).toNat) hw hsl
 skip
 skip
 refine fn_enter3 Try.func29 rfl Try.ntmps29 rfl fun w0 => ?_
 refine tS (tR ?_)
 refine tri_g (opg_box_agg rfl) rfl ?_
 rintro _ _ _ ⟨b5, rfl, rfl, rfl⟩
 refine tN (tT (tS ?_))
 refine tri_perm perm9 ?_
 refine tri_starsPerm hq1 (tri_starsUn ?_)
 unfold dqA
 refine tri_rowEq (len' := (h.ss.getD ((w : Nat) : Int).toNat default).len) (cells' := encs (s.D.getD ((w : Nat) : Int).toNat default)) hl.symm rfl ?_
 refine tri_perm (A := ?a1_0 :: ?a1_1 :: ?a1_2 :: ?a1_3 :: ?a1_4 :: ?a1_5 :: ?a1_6 :: ?a1_7 :: ?a1_8 :: ?T1) (B := ?a1_0 :: ?a1_8 :: ?a1_1 :: ?a1_2 :: ?a1_3 :: ?a1_4 :: ?a1_5 :: ?a1_6 :: ?a1_7 :: ?T1) (by exact permL [0, 8, 1, 2, 3, 4, 5, 6, 7] [?a1_0, ?a1_1, ?a1_2, ?a1_3, ?a1_4, ?a1_5, ?a1_6, ?a1_7, ?a1_8] ?T1 (by decide) rfl) ?_
 skip
 skip
 refine tri_cut (fun F' A' J => ∃ (a3 : Option Addr) (c3 : Nat), F' = [(0, pt bc 0), (5, pt b5 0)] ∧ A' = Row a3 c3 ((h.ss.getD ((w : Nat) : Int).toNat default).len + 1) 3 1 (encs (s.D.getD ((w : Nat) : Int).toNat default) ++ [.int .i64 (s.ts.length : Nat)]) :: Row (some ⟨bq, 0, none⟩) cd s.D.length 27 1 (encs (h.ss.set ((w : Nat) : Int).toNat (⟨a3, (h.ss.getD ((w : Nat) : Int).toNat default).len + 1, c3⟩ : Sl))) :: Stars Rq :: Box b5 (Enc.enc t) 82 :: IxA bx mb h.a h.cap s.ns room h.es (Box bc [pt bx 0, .slice h.at_ s.ts.length h.ct, .slice (some ⟨bq, 0, none⟩) s.D.length cd, .map (some db), .int .i64 s.node, .bool s.done] 76 :: Row h.at_ h.ct s.ts.length 113 1 (encs h.bs) :: MapA Try.prog 79 db h.ds :: Stars (tkS h.bs s.ts) :: A) ∧ I = J) ?_ ?_
 ·refine tri_draw [0, 1, 2, 3, 4, 5, 6, 7, 8, 9, 10, 12, 13, 14, 15, 16, 11, 17, 18, 19, 20] rfl [_, _] rfl mixed ?_
  refine th_take rfl rfl (by kernel_rfl)  (opv_move rfl) ?_
  refine th_take rfl rfl (by kernel_rfl)  (opv_nilCheck rfl) ?_
  refine th_take rfl rfl (by kernel_rfl)  (opv_fieldAddr rfl rfl) ?_
  refine th_take rfl rfl (by kernel_rfl)  (opv_load1 rfl rfl rfl) ?_
  refine th_take rfl rfl (by kernel_rfl)  (opv_move rfl) ?_
  refine th_take rfl rfl (by kernel_rfl)  (opv_move rfl) ?_
  refine th_take rfl rfl (by kernel_rfl)  (opv_nilCheck rfl) ?_
  refine th_take rfl rfl (by kernel_rfl)  (opv_fieldAddr rfl rfl) ?_
  refine th_take rfl rfl (by kernel_rfl)  (opv_load1 rfl rfl rfl) ?_
  refine th_take rfl rfl (by kernel_rfl)  (opv_move rfl) ?_
  refine th_take rfl rfl (by kernel_rfl)  (opv_indexAddrSP rfl rfl (by omega) (by omega)) ?_
  refine th_take rfl rfl (by kernel_rfl)  (opv_move rfl) ?_
  refine th_take rfl rfl (by kernel_rfl)  (opv_nilCheck rfl) ?_
  refine th_take rfl rfl (by kernel_rfl)  (opv_fieldAddr rfl rfl) ?_
  refine th_take rfl rfl (by kernel_rfl)  (opv_load1 rfl rfl rfl) ?_
  refine th_take rfl rfl (by kernel_rfl)  (opv_len rfl) ?_
  refine th_two (j := 17) [11, 18, 19, 20] (by kernel_rfl) rfl ?_ ?_
  ·refine (step_m rfl rfl (OpV.toG (opv_loadRX1 rfl rfl (by omega) rfl rfl)) ?_)
   rintro _ _ _ ⟨rfl, rfl, rfl⟩
   refine ⟨Suf.h, (fun _ h => h), ?_⟩
   refine th_one (by kernel_rfl) (step_m rfl rfl (opg_buildSlice rfl rfl rfl rfl) ?_)
   rintro _ _ _ ⟨b23, rfl, rfl, rfl⟩
   refine ⟨Suf.h, (fun _ h => h), ?_⟩
   refine th_one (by kernel_rfl) (step_m rfl rfl (opg_appendB rfl rfl rfl rfl (by omega) rfl) ?_)
   rintro _ _ _ ⟨a3, c3, rfl, rfl, rfl⟩
   refine ⟨Suf.h, (fun _ h => h), ?_⟩
   refine th_take rfl rfl (by kernel_rfl)  (opv_indexAddrSP rfl rfl (by omega) (by omega)) ?_
   refine th_one (by kernel_rfl) (step_m rfl rfl (opg_storeRX (⟨a3, (h.ss.getD ((w : Nat) : Int).toNat default).len + 1, c3⟩ : Sl) rfl rfl rfl (by omega) (by omega) rfl rfl rfl rfl) ?_)
   rintro _ _ _ ⟨rfl, rfl⟩
   refine ⟨Suf.h, (fun _ h => h), ?_⟩
   refine th_done (by kernel_rfl) ?_
   refine tri_drop ?_
   refine tri_cutEnd _ ⟨a3, c3, rfl, rfl, rfl⟩ ⟨rfl, rfl, trivial⟩
  ·refine (step_m rfl rfl (opg_buildSlice rfl rfl rfl rfl) ?_)
   rintro _ _ _ ⟨b23, rfl, rfl, rfl⟩
   refine ⟨Suf.h, (fun _ h => h), ?_⟩
   refine th_one (by kernel_rfl) (step_m rfl rfl (OpV.toG (opv_loadRX1 rfl rfl (by omega) rfl rfl)) ?_)
   rintro _ _ _ ⟨rfl, rfl, rfl⟩
   refine ⟨Suf.h, (fun _ h => h), ?_⟩
   refine th_one (by kernel_rfl) (step_m rfl rfl (opg_appendB rfl rfl rfl rfl (by omega) rfl) ?_)
   rintro _ _ _ ⟨a3, c3, rfl, rfl, rfl⟩
   refine ⟨Suf.h, (fun _ h => h), ?_⟩
   refine th_take rfl rfl (by kernel_rfl)  (opv_indexAddrSP rfl rfl (by omega) (by omega)) ?_
   refine th_one (by kernel_rfl) (step_m rfl rfl (opg_storeRX (⟨a3, (h.ss.getD ((w : Nat) : Int).toNat default).len + 1, c3⟩ : Sl) rfl rfl rfl (by omega) (by omega) rfl rfl rfl rfl) ?_)
   rintro _ _ _ ⟨rfl, rfl⟩
   refine ⟨Suf.h, (fun _ h => h), ?_⟩
   refine th_done (by kernel_rfl) ?_
   refine tri_drop ?_
   refine tri_cutEnd _ ⟨a3, c3, rfl, rfl, rfl⟩ ⟨rfl, rfl, trivial⟩
 rintro _ _ _ ⟨a3, c3, rfl, rfl, rfl⟩
 skip
 refine tT (tR (tM rfl rfl (tM rfl rfl ?_)))
 refine tri_v (opv_nilCheck rfl) rfl ?_
 refine tri_v (opv_fieldAddr rfl rfl) rfl ?_
 refine tri_v (opv_load1 rfl rfl rfl) rfl ?_
 refine tri_g (opg_buildSlice rfl rfl rfl rfl) rfl ?_
 rintro _ _ _ ⟨b31, rfl, rfl, rfl⟩
 refine tri_g (opg_appendB rfl rfl rfl rfl (by omega) rfl) rfl ?_
 rintro _ _ _ ⟨a4, c4, rfl, rfl, rfl⟩
 refine tri_v (opv_nilCheck rfl) rfl ?_
 refine tri_v (opv_fieldAddr rfl rfl) rfl ?_
 refine tri_g (opg_store rfl rfl rfl rfl rfl rfl) rfl ?_
 rintro _ _ _ ⟨rfl, rfl⟩
 refine tN ?_
 refine tri_drop ?_
 have hq3 := hq2 ⟨a3, (h.ss.getD ((w : Nat) : Int).toNat default).len + 1, c3⟩ (s.D.getD ((w : Nat) : Int).toNat default ++ [(s.ts.length : Int)])
 have hq4 := (tkS_add (t := t) (b := ⟨b5⟩) hbl)
 refine tri_rowEq (len' := (s.D.getD ((w : Nat) : Int).toNat default ++ [(s.ts.length : Int)]).length) (cells' := encs (s.D.getD ((w : Nat) : Int).toNat default ++ [(s.ts.length : Int)])) (by rw [hl]; simp) (by rw [encs_append]; rfl) ?_
 refine tri_perm (A := ?a2_0 :: ?a2_1 :: ?a2_2 :: ?T2) (B := ?a2_0 :: ?a2_2 :: ?a2_1 :: ?T2) (by exact permL [0, 2, 1] [?a2_0, ?a2_1, ?a2_2] ?T2 (by decide) rfl) ?_
 refine tri_starsRe (tri_starsPerm hq3.symm ?_)
 refine tri_perm (A := ?a3_0 :: ?a3_1 :: ?a3_2 :: ?a3_3 :: ?a3_4 :: ?a3_5 :: ?a3_6 :: ?a3_7 :: ?a3_8 :: ?a3_9 :: ?T3) (B := ?a3_2 :: ?a3_9 :: ?a3_3 :: ?a3_4 :: ?a3_5 :: ?a3_6 :: ?a3_7 :: ?a3_1 :: ?a3_8 :: ?a3_0 :: ?T3) (by exact permL [2, 9, 3, 4, 5, 6, 7, 1, 8, 0] [?a3_0, ?a3_1, ?a3_2, ?a3_3, ?a3_4, ?a3_5, ?a3_6, ?a3_7, ?a3_8, ?a3_9] ?T3 (by decide) rfl) ?_
 refine tri_starPush ?_
 rw [hq4]
 refine tri_perm (A := ?a4_0 :: ?a4_1 :: ?a4_2 :: ?a4_3 :: ?a4_4 :: ?a4_5 :: ?a4_6 :: ?a4_7 :: ?a4_8 :: ?T4) (B := ?a4_5 :: ?a4_1 :: ?a4_2 :: ?a4_3 :: ?a4_4 :: ?a4_6 :: ?a4_7 :: ?a4_0 :: ?a4_8 :: ?T4) (by exact permL [5, 1, 2, 3, 4, 6, 7, 0, 8] [?a4_0, ?a4_1, ?a4_2, ?a4_3, ?a4_4, ?a4_5, ?a4_6, ?a4_7, ?a4_8] ?T4 (by decide) rfl) ?_
 refine tri_rowEq (len' := (s.ts ++ [t]).length) (cells' := encs (h.bs ++ [(⟨b5⟩ : Blk)])) (by simp) (by rw [encs_append]; rfl) ?_
 refine tri_perm (A := ?a5_0 :: ?a5_1 :: ?a5_2 :: ?a5_3 :: ?a5_4 :: ?a5_5 :: ?a5_6 :: ?a5_7 :: ?a5_8 :: ?T5) (B := ?a5_1 :: ?a5_2 :: ?a5_3 :: ?a5_4 :: ?a5_0 :: ?a5_5 :: ?a5_6 :: ?a5_7 :: ?a5_8 :: ?T5) (by exact permL [1, 2, 3, 4, 0, 5, 6, 7, 8] [?a5_0, ?a5_1, ?a5_2, ?a5_3, ?a5_4, ?a5_5, ?a5_6, ?a5_7, ?a5_8] ?T5 (by decide) rfl) ?_
 refine tri_end_n _ ⟨[], rfl⟩ rfl .nil ⟨{ h with at_ := a4, ct := c4, bs := h.bs ++ [⟨b5⟩], ss := h.ss.set w ⟨a3, (h.ss.getD w default).len + 1, c3⟩ }, ⟨ok.idx, ok.mem, ?_, ?_, fun k hk => ?_⟩, ?_, fun _ h => h⟩
 ·simp only [R21.add, List.length_append, List.length_singleton, hbl]
 ·simp only [R21.add, R21.push, List.length_set, hsl]
 ·simp only [R21.add, R21.push, List.length_set] at hk ⊢
  rw [getD_set7 (by omega), getD_set7 hw]
  split
  ·have := ok.len w hw
   simp only [List.length_append, List.length_singleton]
   omega
  ·exact ok.len k hk
 ·unfold CwA
  simp only [Int.toNat_natCast, R21.add, R21.push, List.length_set, List.length_append, List.length_singleton]
end Go.GL


set_option linter.unusedVariables false
namespace Go.GL
open Go.Proofs
attribute [local irreducible] wpList Code.wp Exit.then Exit.inBlock Ends Tri TriH OpV OpG FnC epf wpAnyH
variable {A : List Asrt} {I : List Chunk}
set_option maxHeartbeats 2000000 in
set_option maxRecDepth 100000 in
theorem crew_full {bc bx mb db bq cd i : Nat} {room : Int} {h : Hp} {s : R21.Ms} (hi : i < s.ts.length) (hg : R6.Good s.ns room) (hn : R6.inS s.ns (s.ts.getD i default).n) :
  FnC Try.prog 85 [pt bc 0, pt (h.bs.getD i default).b 0].toArray (CwA bc bx mb db (some ⟨bq, 0, none⟩) cd room h s A) I (fun v A' I' => v = .bool (decide (R21.full s (s.ts.getD i default))) ∧ A' = CwA bc bx mb db (some ⟨bq, 0, none⟩) cd room h s A ∧ I = I') := by
 obtain ⟨Rt, ht1, ht2⟩ := tk_one (bs := h.bs) hi
 obtain ⟨hn0, hn1⟩ := hn
 have hlv := hg.mod.nd ⟨hn0, hn1⟩
 skip
 skip
 refine fn_enter2 Try.func85 rfl Try.ntmps85 rfl fun w0 => ?_
 refine tS (tR (tA rfl rfl (tN (tT (tS ?_)))))
 refine tri_perm perm7 ?_
 refine tri_starsPerm ht1 (tri_starsUn ?_)
 unfold tkA
 obtain ⟨t, htt⟩ : ∃ t, s.ts.getD i default = t := ⟨_, rfl⟩
 rw [htt] at hn0 hn1 hlv ⊢
 have hlv : 0 ≤ (s.ns.getD t.n.toNat default).lv ∧ (s.ns.getD t.n.toNat default).lv ≤ 42 := ⟨hlv.1, hlv.2.1⟩
 refine tri_draw [0, 1, 2, 3, 4, 5, 6, 7, 8, 9, 10, 11, 12, 13, 14, 15, 16, 17, 18, 19, 20, 21, 22, 23, 24] rfl [] rfl mixed ?_
 refine th_take rfl rfl (by kernel_rfl)  (opv_move rfl) ?_
 refine th_take rfl rfl (by kernel_rfl)  (opv_nilCheck rfl) ?_
 refine th_take rfl rfl (by kernel_rfl)  (opv_fieldAddr rfl rfl) ?_
 refine th_take rfl rfl (by kernel_rfl)  (opv_fieldAddr rfl rfl) ?_
 refine th_take rfl rfl (by kernel_rfl)  (opv_load1 rfl rfl rfl) ?_
 refine th_take rfl rfl (by kernel_rfl)  (opv_move rfl) ?_
 refine th_take rfl rfl (by kernel_rfl)  (opv_nilCheck rfl) ?_
 refine th_take rfl rfl (by kernel_rfl)  (opv_fieldAddr rfl rfl) ?_
 refine th_take rfl rfl (by kernel_rfl)  (opv_fieldAddr rfl rfl) ?_
 refine th_take rfl rfl (by kernel_rfl)  (opv_load1 rfl rfl rfl) ?_
 refine th_take rfl rfl (by kernel_rfl)  (opv_nilCheck rfl) ?_
 refine th_take rfl rfl (by kernel_rfl)  (opv_fieldAddr rfl rfl) ?_
 refine th_take rfl rfl (by kernel_rfl)  (opv_fieldAddr rfl rfl) ?_
 refine th_take rfl rfl (by kernel_rfl)  (opv_load1 rfl rfl rfl) ?_
 refine th_take rfl rfl (by kernel_rfl)  (opv_move rfl) ?_
 refine th_take rfl rfl (by kernel_rfl)  (opv_nilCheck rfl) ?_
 refine th_take rfl rfl (by kernel_rfl)  (opv_fieldAddr rfl rfl) ?_
 refine th_take rfl rfl (by kernel_rfl)  (opv_fieldAddr rfl rfl) ?_
 refine th_take rfl rfl (by kernel_rfl)  (opv_load1 rfl rfl rfl) ?_
 refine th_take rfl rfl (by kernel_rfl)  (opv_indexAddrR rfl rfl (by omega) (by omega)) ?_
 refine th_take rfl rfl (by kernel_rfl)  (opv_fieldAddrR rfl (by omega) rfl) ?_
 refine th_take rfl rfl (by kernel_rfl)  (opv_loadRX1 rfl rfl (by omega) rfl rfl) ?_
 refine th_take rfl rfl (by kernel_rfl)  (opv_sub rfl rfl (w64 (by omega) (by omega))) ?_
 refine th_take rfl rfl (by kernel_rfl)  (opv_eql rfl rfl) ?_
 refine th_take rfl rfl (by kernel_rfl)  (opv_assign rfl) ?_
 refine th_done (by kernel_rfl) ?_
 refine tT (tri_ret ?_)
 subst htt
 refine tri_starsRe (tri_starsPerm ht1.symm ?_)
 refine tri_perm (A := ?a1_0 :: ?a1_1 :: ?a1_2 :: ?a1_3 :: ?a1_4 :: ?a1_5 :: ?a1_6 :: ?a1_7 :: ?a1_8 :: ?T1) (B := ?a1_1 :: ?a1_2 :: ?a1_3 :: ?a1_4 :: ?a1_5 :: ?a1_6 :: ?a1_7 :: ?a1_0 :: ?a1_8 :: ?T1) (by exact permL [1, 2, 3, 4, 5, 6, 7, 0, 8] [?a1_0, ?a1_1, ?a1_2, ?a1_3, ?a1_4, ?a1_5, ?a1_6, ?a1_7, ?a1_8] ?T1 (by decide) rfl) ?_
 refine tri_end _ (⟨[], rfl⟩) rfl (.cons (rv_tmp rfl) .nil) ⟨rfl, rfl, rfl⟩
/-! ### wait -/
theorem parts_len (w i : Nat) (j : Int) : ∀ (k : Nat) (l : List Int) (s : R21.Ms), (R21.parts w i j k l s).D.length = s.D.length
 | k, [], s => rfl
 | k, n :: l, s => by
  unfold R21.parts
  rw [parts_len w i j (k + 1) l]
  simp [R21.add, R21.push]
theorem parts_snoc (w i : Nat) (j : Int) : ∀ (l : List Int) (k : Nat) (n : Int) (s : R21.Ms), R21.parts w i j k (l ++ [n]) s = R21.add (R21.parts w i j k l s) w (R21.tk0 n j i ((k + l.length : Nat) : Int))
 | [], k, n, s => by simp [R21.parts]
 | m :: l, k, n, s => by
  rw [List.cons_append]
  unfold R21.parts
  rw [parts_snoc w i j l (k + 1) n]
  rw [List.length_cons]
  rw [show k + 1 + l.length = k + (l.length + 1) by omega]
theorem parts_take (w i : Nat) (j : Int) (l : List Int) (s : R21.Ms) {k : Nat} (hk : k < l.length) : R21.parts w i j 0 (l.take (k + 1)) s = R21.add (R21.parts w i j 0 (l.take k) s) w (R21.tk0 (l.getD k default) j i (k : Int)) := by
 rw [List.take_succ_eq_append_getElem hk, parts_snoc]
 have e1 : (l.take k).length = k := by rw [List.length_take]; omega
 have e2 : l[k] = l.getD k default := by simp [hk]
 rw [e1, e2, Nat.zero_add]
theorem parts_ts (w i : Nat) (j : Int) : ∀ (l : List Int) (k : Nat) (s : R21.Ms), (R21.parts w i j k l s).ts.length = s.ts.length + l.length
 | [], k, s => by simp [R21.parts]
 | n :: l, k, s => by
  unfold R21.parts
  rw [parts_ts w i j l]
  simp [R21.add]
  omega
theorem parts_dq (w i : Nat) (j : Int) (hw : w < w + 1) : ∀ (l : List Int) (k : Nat) (s : R21.Ms), ((R21.parts w i j k l s).D.getD w default).length ≤ (s.D.getD w default).length + l.length
 | [], k, s => by simp [R21.parts]
 | n :: l, k, s => by
  unfold R21.parts
  have := parts_dq w i j hw l (k + 1) (R21.add s w (R21.tk0 n j i k))
  have h2 : ((R21.add s w (R21.tk0 n j i k)).D.getD w default).length ≤ (s.D.getD w default).length + 1 := by
   unfold R21.add R21.push
   simp only
   by_cases h : w < s.D.length
   ·rw [getD_set7 h, if_pos rfl]; simp
   ·rw [List.set_eq_of_length_le (by omega)]; omega
  rw [List.length_cons]
  omega
set_option maxHeartbeats 2000000 in
set_option maxRecDepth 100000 in
theorem crew_wait {bc bx mb db bq cd w i capl : Nat} {room j : Int} {h : Hp} {s : R21.Ms} {l : List Int} {al : Option Addr} (ok : CwOk h s) (hw : w < s.D.length) (hi : i < s.ts.length) (hn : s.ts.length ≤ 100000000) (hd : (s.D.getD w default).length ≤ 100000000) (hl : SlAt I al l) (hll : l.length ≤ 9) :
  FnC Try.prog 86 [pt bc 0, .int .i64 (w : Nat), .int .i64 (i : Nat), .int .i64 j, .slice al l.length capl].toArray (CwA bc bx mb db (some ⟨bq, 0, none⟩) cd room h s A) I (CwR bc bx mb db bq cd room (R21.wait s w i j l) A I) := by
 obtain ⟨Rt, ht1, ht2⟩ := tk_one (bs := h.bs) hi
 have hbl := ok.bl
 skip
 skip
 refine fn_enter5 Try.func86 rfl Try.ntmps86 rfl fun w0 => ?_
 refine tS ?_
 refine tri_perm perm7 ?_
 refine tri_starsPerm ht1 (tri_starsUn ?_)
 unfold tkA
 refine tR (tM rfl rfl ?_)
 refine tri_v (opv_nilCheck rfl) rfl ?_
 refine tri_v (opv_fieldAddr rfl rfl) rfl ?_
 refine tri_v (opv_load1 rfl rfl rfl) rfl ?_
 refine tM rfl rfl ?_
 refine tri_v (opv_indexAddrRN rfl rfl (by omega)) rfl ?_
 refine tri_v (opv_loadRX1 rfl rfl (by omega) rfl rfl) rfl ?_
 refine tA rfl rfl (tN (tT (tS (tR (tM rfl rfl (tM rfl rfl (tM rfl rfl ?_)))))))
 refine tri_v (opv_len rfl) rfl ?_
 refine tM rfl rfl ?_
 refine tri_v (opv_len rfl) rfl ?_
 refine tri_v (opv_nilCheck rfl) rfl ?_
 refine tri_v (opv_fieldAddr rfl rfl) rfl ?_
 refine tri_g (opg_store rfl rfl rfl rfl rfl rfl) rfl ?_
 rintro _ _ _ ⟨rfl, rfl⟩
 refine tri_v (opv_nilCheck rfl) rfl ?_
 refine tri_v (opv_fieldAddr rfl rfl) rfl ?_
 refine tri_g (opg_store rfl rfl rfl rfl rfl rfl) rfl ?_
 rintro _ _ _ ⟨rfl, rfl⟩
 refine tN (tT (tS (tR (tM rfl rfl ?_))))
 refine tri_v (opv_len rfl) rfl ?_
 refine tM rfl rfl (tN (tT (tri_block ?_)))
 obtain ⟨u, hu⟩ : ∃ u : Tk, u = { s.ts.getD i default with wt := l.length, lf := l.length } := ⟨_, rfl⟩
 have hq := (ht2 u).symm
 rw [hu] at hq
 refine tri_starsRe (tri_starsPerm hq ?_)
 rw [← hu]
 refine tri_perm (A := ?a2_0 :: ?a2_1 :: ?a2_2 :: ?a2_3 :: ?a2_4 :: ?a2_5 :: ?a2_6 :: ?a2_7 :: ?a2_8 :: ?T2) (B := ?a2_1 :: ?a2_2 :: ?a2_3 :: ?a2_4 :: ?a2_5 :: ?a2_6 :: ?a2_7 :: ?a2_0 :: ?a2_8 :: ?T2) (by exact permL [1, 2, 3, 4, 5, 6, 7, 0, 8] [?a2_0, ?a2_1, ?a2_2, ?a2_3, ?a2_4, ?a2_5, ?a2_6, ?a2_7, ?a2_8] ?T2 (by decide) rfl) ?_
 obtain ⟨s1, hs1⟩ : ∃ s1 : R21.Ms, s1 = { s with ts := s.ts.set i u } := ⟨_, rfl⟩
 have ewait : R21.wait s w i j l = R21.parts w i j 0 l s1 := by rw [hs1, hu]; rfl
 rw [ewait]
 have el : s1.ts.length = s.ts.length := by rw [hs1]; exact List.length_set ..
 have ok1 : CwOk h s1 := by rw [hs1]; exact ⟨ok.idx, ok.mem, by simp only [List.length_set]; exact ok.bl, ok.sl, ok.len⟩
 have hw1 : w < s1.D.length := by rw [hs1]; exact hw
 have hd1 : (s1.D.getD w default).length ≤ 100000000 := by rw [hs1]; exact hd
 rw [← el]
 rw [show Stars (tkS h.bs (s.ts.set i u)) = Stars (tkS h.bs s1.ts) by rw [hs1], show s.ns = s1.ns by rw [hs1], show s.D = s1.D by rw [hs1], show s.node = s1.node by rw [hs1], show s.done = s1.done by rw [hs1]]
 clear hs1 ewait hq ht1 ht2
 refine tri_sub (F' := [(0, pt bc 0), (1, .int .i64 (w : Nat)), (2, .int .i64 (i : Nat)), (3, .int .i64 j), (30, .slice al l.length capl), (31, .int .i64 (l.length : Nat)), (32, .int .i64 (0 : Nat))]) ⟨rfl, rfl, rfl, rfl, rfl, rfl, rfl, trivial⟩ ?_
 refine loop_ind (G := Nat × Hp × List Chunk) (fun g => l.length - g.1) (fun g => g.1 ≤ l.length ∧ CwOk g.2.1 (R21.parts w i j 0 (l.take g.1) s1) ∧ I ⊆ g.2.2) (fun g => [(0, pt bc 0), (1, .int .i64 (w : Nat)), (2, .int .i64 (i : Nat)), (3, .int .i64 j), (30, .slice al l.length capl), (31, .int .i64 (l.length : Nat)), (32, .int .i64 (g.1 : Nat))]) (fun g => CwA bc bx mb db (some ⟨bq, 0, none⟩) cd room g.2.1 (R21.parts w i j 0 (l.take g.1) s1) A) (fun g => g.2.2) ?_ (0, h, I) ⟨by simp only; omega, ok1, fun _ h => h⟩
 rintro ⟨k, h2, I2⟩ ⟨hk, ok2, hI2⟩ K hK
 simp only at hk ok2 hI2 hK ⊢
 have hl2 := hl.mono hI2
 have hle : (l.take k).length = k := by rw [List.length_take]; omega
 have q1 := parts_len w i j 0 (l.take k) s1
 have q2 := parts_ts w i j (l.take k) 0 s1
 have q3 := parts_dq w i j (by omega) (l.take k) 0 s1
 rw [hle] at q2 q3
 have q4 : k < l.length → R21.parts w i j 0 (l.take (k + 1)) s1 = R21.add (R21.parts w i j 0 (l.take k) s1) w (R21.tk0 (l.getD k default) j i (k : Int)) := fun h => parts_take w i j l s1 h
 have q5 : k = l.length → R21.parts w i j 0 l s1 = R21.parts w i j 0 (l.take k) s1 := fun h => by rw [h, List.take_length]
 generalize R21.parts w i j 0 (l.take k) s1 = s2 at *
 skip
 refine tS (tR ?_)
 refine tri_v (opv_lss rfl rfl) rfl ?_
 refine tN (tT (tS ?_))
 refine tri_cond_dec rfl (fun h1 => ?_) (fun h1 => ?_)
 ·refine tri_skip (tT (tS (tri_block (tS (tR (tM rfl rfl ?_))))))
  refine tri_v (opv_indexAddrSN rfl rfl (by omega) (by assumption) rfl) rfl ?_
  refine tri_v (opv_loadE1 rfl (by assumption) rfl (by omega) rfl rfl) rfl ?_
  refine tA rfl rfl (tA rfl rfl (tN (tT (tR (tM rfl rfl (tM rfl rfl (tM rfl rfl ?_)))))))
  refine tM rfl rfl ?_
  refine tri_v (opv_buildS rfl rfl) rfl ?_
  refine tM rfl rfl (tM rfl rfl ?_)
  refine tri_v (opv_buildS rfl rfl) rfl ?_
  refine tri_g (opg_call (xs := [_, _, _]) rfl (crew_add (t := R21.tk0 (l.getD k default) j i (k : Int)) ok2 (by omega) (by omega) (by omega))) rfl ?_
  rintro _ _ I3 ⟨h3, ok3, rfl, hI3⟩
  rw [← q4 (by omega)] at ok3 ⊢
  refine tN ?_
  refine tri_inBlock ?_
  refine tT (tR ?_)
  refine tU rfl rfl (by omega) (by omega) rfl ?_
  refine tM rfl rfl (tN (tT ?_))
  refine tri_sub ?_ (hK (k + 1, h3, I3) ⟨by simp only; omega, ok3, fun _ h => hI3 (hI2 h)⟩ (by simp only; omega))
  exact ⟨rfl, rfl, rfl, rfl, rfl, rfl, rfl, trivial⟩
 ·refine tri_exit ?_
  refine tri_then_exit ?_
  refine tri_then_exit ?_
  refine tri_inBlock_hit rfl ?_
  refine tri_end_n _ ⟨[], rfl⟩ rfl .nil ⟨h2, ?_, ?_, hI2⟩
  ·rw [q5 (by omega)]; exact ok2
  ·rw [q5 (by omega)]
end Go.GL


set_option linter.unusedVariables false
namespace Go.GL
open Go.Proofs
attribute [local irreducible] wpList Code.wp Exit.then Exit.inBlock Ends Tri TriH OpV OpG FnC epf wpAnyH
section
variable {w0 : World} {n : Nat} {F : Frm} {A : List Asrt} {I : List Chunk}
theorem tri_starsUn2 {a b : Asrt} {M : List Asrt} {K : Act → World → Prop} (h : Tri w0 n F (a :: b :: Stars M :: A) I K) : Tri w0 n F (Stars (a :: b :: M) :: A) I K :=
 tri_starsUn (tri_perm (List.Perm.swap _ _ _) (tri_starsUn (tri_perm (A := b :: Stars M :: a :: A) (B := a :: b :: Stars M :: A) (List.perm_middle (l₁ := [b, Stars M])) h)))
theorem tri_starsRe2 {a b : Asrt} {M : List Asrt} {K : Act → World → Prop} (h : Tri w0 n F (Stars (a :: b :: M) :: A) I K) : Tri w0 n F (a :: b :: Stars M :: A) I K :=
 tri_perm (A := a :: b :: Stars M :: A) (B := b :: Stars M :: a :: A) (List.perm_middle (l₁ := [b, Stars M])).symm (tri_starsRe (tri_perm (List.Perm.swap _ _ _) (tri_starsRe h)))
end
def tkL (t : Tk) : List Int := [t.n, t.j, t.of_, t.pl, t.wt, t.lf, t.r0, t.r1, t.r2, t.r3, t.r4, t.r5, t.r6, t.r7, t.r8]
theorem tkL_enc (t : Tk) : Enc.enc t = ints (tkL t) := rfl
theorem tkL_set (t : Tk) {p : Int} (h0 : 0 ≤ p) (h1 : p ≤ 8) (v : Int) : (tkL t).set (0 + 6 + p.toNat * 1) v = tkL (R21.setR t p v) := by
 rcases (by omega : p = 0 ∨ p = 1 ∨ p = 2 ∨ p = 3 ∨ p = 4 ∨ p = 5 ∨ p = 6 ∨ p = 7 ∨ p = 8) with rfl | rfl | rfl | rfl | rfl | rfl | rfl | rfl | rfl <;> rfl
theorem keep_some {kp : R9.Memo} {n j to x : Int} (h : R9.look9 kp n j = some x) : R21.keep kp n j to = kp := by unfold R21.keep; rw [h]
theorem keep_none {kp : R9.Memo} {n j to : Int} (h : R9.look9 kp n j = none) : R21.keep kp n j to = kp ++ [(n, j, to)] := by unfold R21.keep; rw [h]
variable {A : List Asrt} {I : List Chunk}
set_option maxHeartbeats 4000000 in
set_option maxRecDepth 100000 in
theorem crew_tell {bc bx mb db bq cd w i : Nat} {room n : Int} {h : Hp} {s : R21.Ms} (ok : CwOk h s) (hw : w < s.D.length) (hi : i < s.ts.length) (hd : (s.D.getD w default).length ≤ 100000000) (hn : s.ts.length ≤ 100000000)
  (hof : 0 ≤ (s.ts.getD i default).of_ → (s.ts.getD i default).of_.toNat < s.ts.length ∧ (s.ts.getD i default).of_.toNat ≠ i) (hpl : 0 ≤ (s.ts.getD i default).pl ∧ (s.ts.getD i default).pl ≤ 8) :
  FnC Try.prog 82 [pt bc 0, .int .i64 (w : Nat), pt (h.bs.getD i default).b 0, .int .i64 n].toArray (CwA bc bx mb db (some ⟨bq, 0, none⟩) cd room h s A) I (CwR bc bx mb db bq cd room (R21.tell s w i n) A I) := by
 obtain ⟨Rt, ht1, ht2⟩ := tk_one (bs := h.bs) hi
 have hbl := ok.bl
 obtain ⟨t, htt⟩ : ∃ t, s.ts.getD i default = t := ⟨_, rfl⟩
 rw [htt] at hof hpl
 have hmf := ok.mem t.n t.j
 have etell : R21.tell s w i n = if t.of_ < 0 then { s with kp := R21.keep s.kp t.n t.j n, node := n, done := true } else { s with kp := R21.keep s.kp t.n t.j n, ts := s.ts.set t.of_.toNat (R21.less (R21.setR (s.ts.getD t.of_.toNat default) t.pl n)), D := if (R21.less (R21.setR (s.ts.getD t.of_.toNat default) t.pl n)).lf = 0 then R21.push s.D w t.of_ else s.D } := by unfold R21.tell; rw [htt]
 rw [etell]
 skip
 skip
 refine fn_enter4 Try.func82 rfl Try.ntmps82 rfl fun w0 => ?_
 refine tS (tS ?_)
 refine tri_perm perm7 ?_
 refine tri_starsPerm ht1 (tri_starsUn ?_)
 unfold tkA
 rw [htt]
 refine tri_draw [0, 1, 2, 3, 4, 5, 6, 7, 8, 9, 10, 11, 12, 13] rfl [] rfl mixed ?_
 refine th_take rfl rfl (by kernel_rfl)  (opv_move rfl) ?_
 refine th_take rfl rfl (by kernel_rfl)  (opv_nilCheck rfl) ?_
 refine th_take rfl rfl (by kernel_rfl)  (opv_fieldAddr rfl rfl) ?_
 refine th_take rfl rfl (by kernel_rfl)  (opv_load1 rfl rfl rfl) ?_
 refine th_take rfl rfl (by kernel_rfl)  (opv_move rfl) ?_
 refine th_take rfl rfl (by kernel_rfl)  (opv_nilCheck rfl) ?_
 refine th_take rfl rfl (by kernel_rfl)  (opv_fieldAddr rfl rfl) ?_
 refine th_take rfl rfl (by kernel_rfl)  (opv_loadA rfl rfl rfl) ?_
 refine th_take rfl rfl (by kernel_rfl)  (opv_lookup2 (P := Try.prog) (ks := [t.n, t.j]) zeroInt rfl rfl (keyLeap t.n t.j) keyLeapAt rfl) ?_
 refine th_take rfl rfl (by kernel_rfl)  (opv_move rfl) ?_
 refine th_take rfl rfl (by kernel_rfl)  (opv_extract rfl rfl) ?_
 refine th_take rfl rfl (by kernel_rfl)  (opv_extract rfl rfl) ?_
 refine th_take rfl rfl (by kernel_rfl)  (opv_assign rfl) ?_
 refine th_take rfl rfl (by kernel_rfl)  (opv_assign rfl) ?_
 refine th_done (by kernel_rfl) ?_
 refine tT (tS (tR (tM rfl rfl ?_)))
 refine tri_v (opv_not rfl) rfl ?_
 refine tN (tT ?_)
 refine tri_perm (A := ?a1_0 :: ?a1_1 :: ?a1_2 :: ?a1_3 :: ?a1_4 :: ?a1_5 :: ?a1_6 :: ?a1_7 :: ?a1_8 :: ?T1) (B := ?a1_8 :: ?a1_0 :: ?a1_1 :: ?a1_2 :: ?a1_3 :: ?a1_4 :: ?a1_5 :: ?a1_6 :: ?a1_7 :: ?T1) (by exact permL [8, 0, 1, 2, 3, 4, 5, 6, 7] [?a1_0, ?a1_1, ?a1_2, ?a1_3, ?a1_4, ?a1_5, ?a1_6, ?a1_7, ?a1_8] ?T1 (by decide) rfl) ?_
 skip
 refine tri_cut (fun F' A' J => ∃ ds', MemK (R21.keep s.kp t.n t.j n) ds' ∧ F' = [(0, pt bc 0), (1, .int .i64 (w : Nat)), (2, pt (h.bs.getD i default).b 0), (3, .int .i64 n)] ∧ A' = MapA Try.prog 79 db ds' :: Box (h.bs.getD i default).b (Enc.enc t) 82 :: Stars Rt :: IxA bx mb h.a h.cap s.ns room h.es (Box bc [pt bx 0, .slice h.at_ s.ts.length h.ct, .slice (some ⟨bq, 0, none⟩) s.D.length cd, .map (some db), .int .i64 s.node, .bool s.done] 76 :: Row h.at_ h.ct s.ts.length 113 1 (encs h.bs) :: Row (some ⟨bq, 0, none⟩) cd s.D.length 27 1 (encs h.ss) :: Stars (dqS h.ss s.D) :: A) ∧ I = J) ?_ ?_
 ·obtain ⟨o, ho⟩ : ∃ o, R9.look9 s.kp t.n t.j = o := ⟨_, rfl⟩
  rw [ho] at hmf
  rcases o with _ | to
  ·refine tri_cond_true (congrArg (fun o => some (Value.bool (!Option.isSome o))) hmf) ?_
   rw [keep_none ho]
   refine tri_draw [0, 1, 2, 3, 4, 5, 6, 7, 8, 9] rfl [_] rfl mixed ?_
   refine th_take rfl rfl (by kernel_rfl)  (opv_move rfl) ?_
   refine th_take rfl rfl (by kernel_rfl)  (opv_nilCheck rfl) ?_
   refine th_take rfl rfl (by kernel_rfl)  (opv_fieldAddr rfl rfl) ?_
   refine th_take rfl rfl (by kernel_rfl)  (opv_load1 rfl rfl rfl) ?_
   refine th_take rfl rfl (by kernel_rfl)  (opv_move rfl) ?_
   refine th_take rfl rfl (by kernel_rfl)  (opv_nilCheck rfl) ?_
   refine th_take rfl rfl (by kernel_rfl)  (opv_fieldAddr rfl rfl) ?_
   refine th_take rfl rfl (by kernel_rfl)  (opv_loadA rfl rfl rfl) ?_
   refine th_take rfl rfl (by kernel_rfl)  (opv_move rfl) ?_
   refine th_one (by kernel_rfl) (step_m rfl rfl (opg_mapUpdate (P := Try.prog) (ks := [t.n, t.j]) rfl rfl rfl (keyLeap t.n t.j) keyLeapAt rfl) ?_)
   rintro _ _ _ ⟨rfl, rfl⟩
   refine ⟨Suf.h, (fun _ h => h), ?_⟩
   refine th_done (by kernel_rfl) ?_
   refine tri_cutEnd _ ⟨mset h.ds [t.n, t.j] (.int .i64 n), ok.mem.snoc ho n, rfl, rfl, rfl⟩ ⟨rfl, rfl, rfl, rfl, trivial⟩
  ·refine tri_cond_false (congrArg (fun o => some (Value.bool (!Option.isSome o))) hmf) ?_
   rw [keep_some ho]
   refine tri_skip ?_
   refine tri_cutEnd _ ⟨h.ds, ok.mem, rfl, rfl, rfl⟩ ⟨rfl, rfl, rfl, rfl, trivial⟩
 ·rintro _ _ _ ⟨ds', hmem, rfl, rfl, rfl⟩
  refine tT (tS (tS (tR (tM rfl rfl ?_))))
  refine tri_v (opv_nilCheck rfl) rfl ?_
  refine tri_v (opv_fieldAddr rfl rfl) rfl ?_
  refine tri_v (opv_load1 rfl rfl rfl) rfl ?_
  refine tri_v (opv_lss rfl rfl) rfl ?_
  refine tN (tT ?_)
  refine tri_cond_dec rfl (fun h1 => ?_) (fun h1 => ?_)
  ·rw [if_pos h1]
   refine tS (tR (tM rfl rfl (tM rfl rfl (tM rfl rfl ?_))))
   refine tri_v (opv_nilCheck rfl) rfl ?_
   refine tri_v (opv_fieldAddr rfl rfl) rfl ?_
   refine tri_g (opg_store rfl rfl rfl rfl rfl rfl) rfl ?_
   rintro _ _ _ ⟨rfl, rfl⟩
   refine tri_v (opv_nilCheck rfl) rfl ?_
   refine tri_v (opv_fieldAddr rfl rfl) rfl ?_
   refine tri_g (opg_store rfl rfl rfl rfl rfl rfl) rfl ?_
   rintro _ _ _ ⟨rfl, rfl⟩
   refine tN (tT (tri_ret (tri_then_ret ?_)))
   subst htt
   refine tri_perm (A := ?a2_0 :: ?a2_1 :: ?a2_2 :: ?a2_3 :: ?a2_4 :: ?a2_5 :: ?a2_6 :: ?a2_7 :: ?a2_8 :: ?a2_9 :: ?T2) (B := ?a2_1 :: ?a2_2 :: ?a2_0 :: ?a2_3 :: ?a2_4 :: ?a2_5 :: ?a2_6 :: ?a2_7 :: ?a2_8 :: ?a2_9 :: ?T2) (by exact permL [1, 2, 0, 3, 4, 5, 6, 7, 8, 9] [?a2_0, ?a2_1, ?a2_2, ?a2_3, ?a2_4, ?a2_5, ?a2_6, ?a2_7, ?a2_8, ?a2_9] ?T2 (by decide) rfl) ?_
   refine tri_starsRe (tri_starsPerm ht1.symm ?_)
   refine tri_perm (A := ?a3_0 :: ?a3_1 :: ?a3_2 :: ?a3_3 :: ?a3_4 :: ?a3_5 :: ?a3_6 :: ?a3_7 :: ?a3_8 :: ?T3) (B := ?a3_2 :: ?a3_3 :: ?a3_4 :: ?a3_5 :: ?a3_6 :: ?a3_7 :: ?a3_1 :: ?a3_0 :: ?a3_8 :: ?T3) (by exact permL [2, 3, 4, 5, 6, 7, 1, 0, 8] [?a3_0, ?a3_1, ?a3_2, ?a3_3, ?a3_4, ?a3_5, ?a3_6, ?a3_7, ?a3_8] ?T3 (by decide) rfl) ?_
   refine tri_end _ (⟨[], rfl⟩) rfl .nil ⟨{ h with ds := ds' }, ⟨ok.idx, hmem, ok.bl, ok.sl, ok.len⟩, rfl, fun _ h => h⟩
  ·rw [if_neg h1]
   obtain ⟨hp, hne⟩ := hof (by omega)
   obtain ⟨R2, hr1, hr2⟩ := tk_two (bs := h.bs) hi hp hne
   unfold tkA at hr1 hr2 ht1
   rw [htt] at hr1 hr2 ht1
   refine tri_perm (A := ?a4_0 :: ?a4_1 :: ?a4_2 :: ?a4_3 :: ?a4_4 :: ?a4_5 :: ?a4_6 :: ?a4_7 :: ?a4_8 :: ?a4_9 :: ?T4) (B := ?a4_1 :: ?a4_2 :: ?a4_0 :: ?a4_3 :: ?a4_4 :: ?a4_5 :: ?a4_6 :: ?a4_7 :: ?a4_8 :: ?a4_9 :: ?T4) (by exact permL [1, 2, 0, 3, 4, 5, 6, 7, 8, 9] [?a4_0, ?a4_1, ?a4_2, ?a4_3, ?a4_4, ?a4_5, ?a4_6, ?a4_7, ?a4_8, ?a4_9] ?T4 (by decide) rfl) ?_
   refine tri_starsRe (tri_starsPerm ht1.symm ?_)
   refine tri_starsPerm hr1 (tri_starsUn2 ?_)
   obtain ⟨u0, hu0⟩ : ∃ u0, s.ts.getD t.of_.toNat default = u0 := ⟨_, rfl⟩
   rw [hu0, tkL_enc u0]
   refine tri_perm (A := ?a5_0 :: ?a5_1 :: ?T5) (B := ?a5_1 :: ?a5_0 :: ?T5) (by exact permL [1, 0] [?a5_0, ?a5_1] ?T5 (by decide) rfl) ?_
   skip
   skip
   refine tri_skip (tT (tS ?_))
   refine tri_draw [0, 1, 2, 3, 4, 5, 6, 7, 8, 9, 10] rfl [] rfl mixed ?_
   refine th_take rfl rfl (by kernel_rfl)  (opv_move rfl) ?_
   refine th_take rfl rfl (by kernel_rfl)  (opv_nilCheck rfl) ?_
   refine th_take rfl rfl (by kernel_rfl)  (opv_fieldAddr rfl rfl) ?_
   refine th_take rfl rfl (by kernel_rfl)  (opv_load1 rfl rfl rfl) ?_
   refine th_take rfl rfl (by kernel_rfl)  (opv_move rfl) ?_
   refine th_take rfl rfl (by kernel_rfl)  (opv_nilCheck rfl) ?_
   refine th_take rfl rfl (by kernel_rfl)  (opv_fieldAddr rfl rfl) ?_
   refine th_take rfl rfl (by kernel_rfl)  (opv_load1 rfl rfl rfl) ?_
   refine th_take rfl rfl (by kernel_rfl)  (opv_indexAddrR rfl rfl (by omega) (by omega)) ?_
   refine th_take rfl rfl (by kernel_rfl)  (opv_loadRX1 rfl rfl (by omega) rfl rfl) ?_
   refine th_take rfl rfl (by kernel_rfl)  (opv_assign rfl) ?_
   refine th_done (by kernel_rfl) ?_
   refine tT (tS ?_)
   refine tri_draw [0, 1, 2, 3, 4, 5, 6, 7, 8, 9] rfl [_] rfl mixed ?_
   refine th_take rfl rfl (by kernel_rfl)  (opv_move rfl) ?_
   refine th_take rfl rfl (by kernel_rfl)  (opv_move rfl) ?_
   refine th_take rfl rfl (by kernel_rfl)  (opv_nilCheck rfl) ?_
   refine th_take rfl rfl (by kernel_rfl)  (opv_fieldAddr rfl rfl) ?_
   refine th_take rfl rfl (by kernel_rfl)  (opv_load1 rfl rfl rfl) ?_
   refine th_take rfl rfl (by kernel_rfl)  (opv_move rfl) ?_
   refine th_take rfl rfl (by kernel_rfl)  (opv_nilCheck rfl) ?_
   refine th_take rfl rfl (by kernel_rfl)  (opv_fieldAddr rfl rfl) ?_
   refine th_take rfl rfl (by kernel_rfl)  (opv_indexAddrA rfl rfl (by omega) (by omega)) ?_
   refine th_one (by kernel_rfl) (step_m rfl rfl (opg_storeIX rfl rfl (by show _ < 15; omega)) ?_)
   rintro _ _ _ ⟨rfl, rfl⟩
   refine ⟨Suf.h, (fun _ h => h), ?_⟩
   rw [tkL_set u0 hpl.1 hpl.2]
   generalize R21.setR u0 t.pl n = u1 at *
   refine th_done (by kernel_rfl) ?_
   refine tT (tS (tR (tM rfl rfl ?_)))
   refine tri_v (opv_nilCheck rfl) rfl ?_
   refine tri_v (opv_fieldAddr rfl rfl) rfl ?_
   refine tri_v (opv_load1 rfl rfl rfl) rfl ?_
   refine tri_v (opv_sub rfl rfl rfl) rfl ?_
   refine tri_v (opv_nilCheck rfl) rfl ?_
   refine tri_v (opv_fieldAddr rfl rfl) rfl ?_
   refine tri_g (opg_store rfl rfl rfl rfl rfl rfl) rfl ?_
   rintro _ _ _ ⟨rfl, rfl⟩
   refine tN (tT (tS (tR (tM rfl rfl ?_))))
   refine tri_v (opv_nilCheck rfl) rfl ?_
   refine tri_v (opv_fieldAddr rfl rfl) rfl ?_
   refine tri_v (opv_load1 rfl rfl rfl) rfl ?_
   refine tri_v (opv_eql rfl rfl) rfl ?_
   refine tN (tT ?_)
   refine tri_weaken (b := Box (h.bs.getD t.of_.toNat default).b (Enc.enc (R21.less u1)) 82) (fun c hc => hc) ?_
   refine tri_cond_dec rfl (fun h2 => ?_) (fun h2 => ?_)
   ·rw [if_pos (show (R21.less u1).lf = 0 from h2)]
    have hsl := ok.sl
    have hl := ok.len ((w : Nat) : Int).toNat hw
    have hd : (s.D.getD ((w : Nat) : Int).toNat default).length ≤ 100000000 := hd
    obtain ⟨Rq, hq1, hq2⟩ := dq_one (k := ((w : Nat) : Int).toNat) hw hsl
    refine tri_perm (A := ?a6_0 :: ?a6_1 :: ?a6_2 :: ?a6_3 :: ?a6_4 :: ?a6_5 :: ?a6_6 :: ?a6_7 :: ?a6_8 :: ?a6_9 :: ?a6_10 :: ?T6) (B := ?a6_10 :: ?a6_0 :: ?a6_1 :: ?a6_2 :: ?a6_3 :: ?a6_4 :: ?a6_5 :: ?a6_6 :: ?a6_7 :: ?a6_8 :: ?a6_9 :: ?T6) (by exact permL [10, 0, 1, 2, 3, 4, 5, 6, 7, 8, 9] [?a6_0, ?a6_1, ?a6_2, ?a6_3, ?a6_4, ?a6_5, ?a6_6, ?a6_7, ?a6_8, ?a6_9, ?a6_10] ?T6 (by decide) rfl) ?_
    refine tri_starsPerm hq1 (tri_starsUn ?_)
    unfold dqA
    refine tri_rowEq (len' := (h.ss.getD ((w : Nat) : Int).toNat default).len) (cells' := encs (s.D.getD ((w : Nat) : Int).toNat default)) hl.symm rfl ?_
    refine tri_perm (A := ?a7_0 :: ?a7_1 :: ?a7_2 :: ?a7_3 :: ?a7_4 :: ?a7_5 :: ?a7_6 :: ?a7_7 :: ?a7_8 :: ?a7_9 :: ?a7_10 :: ?a7_11 :: ?T7) (B := ?a7_0 :: ?a7_11 :: ?a7_1 :: ?a7_2 :: ?a7_3 :: ?a7_4 :: ?a7_5 :: ?a7_6 :: ?a7_7 :: ?a7_8 :: ?a7_9 :: ?a7_10 :: ?T7) (by exact permL [0, 11, 1, 2, 3, 4, 5, 6, 7, 8, 9, 10] [?a7_0, ?a7_1, ?a7_2, ?a7_3, ?a7_4, ?a7_5, ?a7_6, ?a7_7, ?a7_8, ?a7_9, ?a7_10, ?a7_11] ?T7 (by decide) rfl) ?_
    skip
    skip
    refine tri_cut (fun F' A' J => ∃ (a3 : Option Addr) (c3 : Nat), F' = [] ∧ A' = Row a3 c3 ((h.ss.getD ((w : Nat) : Int).toNat default).len + 1) 3 1 (encs (s.D.getD ((w : Nat) : Int).toNat default) ++ [.int .i64 t.of_]) :: Row (some ⟨bq, 0, none⟩) cd s.D.length 27 1 (encs (h.ss.set ((w : Nat) : Int).toNat (⟨a3, (h.ss.getD ((w : Nat) : Int).toNat default).len + 1, c3⟩ : Sl))) :: Stars Rq :: Box (h.bs.getD t.of_.toNat default).b (Enc.enc (R21.less u1)) 82 :: Box (h.bs.getD i default).b (Enc.enc t) 82 :: Stars R2 :: MapA Try.prog 79 db ds' :: IxA bx mb h.a h.cap s.ns room h.es (Box bc [pt bx 0, .slice h.at_ s.ts.length h.ct, .slice (some ⟨bq, 0, none⟩) s.D.length cd, .map (some db), .int .i64 s.node, .bool s.done] 76 :: Row h.at_ h.ct s.ts.length 113 1 (encs h.bs) :: A) ∧ I = J) ?_ ?_
    ·refine tri_draw [0, 1, 2, 3, 4, 5, 6, 7, 8, 9, 10, 12, 13, 14, 15, 11, 16, 17, 18, 19] rfl [_, _] rfl mixed ?_
     refine th_take rfl rfl (by kernel_rfl)  (opv_move rfl) ?_
     refine th_take rfl rfl (by kernel_rfl)  (opv_nilCheck rfl) ?_
     refine th_take rfl rfl (by kernel_rfl)  (opv_fieldAddr rfl rfl) ?_
     refine th_take rfl rfl (by kernel_rfl)  (opv_load1 rfl rfl rfl) ?_
     refine th_take rfl rfl (by kernel_rfl)  (opv_move rfl) ?_
     refine th_take rfl rfl (by kernel_rfl)  (opv_move rfl) ?_
     refine th_take rfl rfl (by kernel_rfl)  (opv_nilCheck rfl) ?_
     refine th_take rfl rfl (by kernel_rfl)  (opv_fieldAddr rfl rfl) ?_
     refine th_take rfl rfl (by kernel_rfl)  (opv_load1 rfl rfl rfl) ?_
     refine th_take rfl rfl (by kernel_rfl)  (opv_move rfl) ?_
     refine th_take rfl rfl (by kernel_rfl)  (opv_indexAddrSP rfl rfl (by omega) (by omega)) ?_
     refine th_take rfl rfl (by kernel_rfl)  (opv_move rfl) ?_
     refine th_take rfl rfl (by kernel_rfl)  (opv_nilCheck rfl) ?_
     refine th_take rfl rfl (by kernel_rfl)  (opv_fieldAddr rfl rfl) ?_
     refine th_take rfl rfl (by kernel_rfl)  (opv_load1 rfl rfl rfl) ?_
     refine th_two (j := 16) [11, 17, 18, 19] (by kernel_rfl) rfl ?_ ?_
     ·refine (step_m rfl rfl (OpV.toG (opv_loadRX1 rfl rfl (by omega) rfl rfl)) ?_)
      rintro _ _ _ ⟨rfl, rfl, rfl⟩
      refine ⟨Suf.h, (fun _ h => h), ?_⟩
      refine th_one (by kernel_rfl) (step_m rfl rfl (opg_buildSlice rfl rfl rfl rfl) ?_)
      rintro _ _ _ ⟨b93, rfl, rfl, rfl⟩
      refine ⟨Suf.h, (fun _ h => h), ?_⟩
      refine th_one (by kernel_rfl) (step_m rfl rfl (opg_appendB rfl rfl rfl rfl (by omega) rfl) ?_)
      rintro _ _ _ ⟨a3, c3, rfl, rfl, rfl⟩
      refine ⟨Suf.h, (fun _ h => h), ?_⟩
      refine th_take rfl rfl (by kernel_rfl)  (opv_indexAddrSP rfl rfl (by omega) (by omega)) ?_
      refine th_one (by kernel_rfl) (step_m rfl rfl (opg_storeRX (⟨a3, (h.ss.getD ((w : Nat) : Int).toNat default).len + 1, c3⟩ : Sl) rfl rfl rfl (by omega) (by omega) rfl rfl rfl rfl) ?_)
      rintro _ _ _ ⟨rfl, rfl⟩
      refine ⟨Suf.h, (fun _ h => h), ?_⟩
      refine th_done (by kernel_rfl) ?_
      refine tri_drop ?_
      refine tri_cutEnd _ ⟨a3, c3, rfl, rfl, rfl⟩ trivial
     ·refine (step_m rfl rfl (opg_buildSlice rfl rfl rfl rfl) ?_)
      rintro _ _ _ ⟨b93, rfl, rfl, rfl⟩
      refine ⟨Suf.h, (fun _ h => h), ?_⟩
      refine th_one (by kernel_rfl) (step_m rfl rfl (OpV.toG (opv_loadRX1 rfl rfl (by omega) rfl rfl)) ?_)
      rintro _ _ _ ⟨rfl, rfl, rfl⟩
      refine ⟨Suf.h, (fun _ h => h), ?_⟩
      refine th_one (by kernel_rfl) (step_m rfl rfl (opg_appendB rfl rfl rfl rfl (by omega) rfl) ?_)
      rintro _ _ _ ⟨a3, c3, rfl, rfl, rfl⟩
      refine ⟨Suf.h, (fun _ h => h), ?_⟩
      refine th_take rfl rfl (by kernel_rfl)  (opv_indexAddrSP rfl rfl (by omega) (by omega)) ?_
      refine th_one (by kernel_rfl) (step_m rfl rfl (opg_storeRX (⟨a3, (h.ss.getD ((w : Nat) : Int).toNat default).len + 1, c3⟩ : Sl) rfl rfl rfl (by omega) (by omega) rfl rfl rfl rfl) ?_)
      rintro _ _ _ ⟨rfl, rfl⟩
      refine ⟨Suf.h, (fun _ h => h), ?_⟩
      refine th_done (by kernel_rfl) ?_
      refine tri_drop ?_
      refine tri_cutEnd _ ⟨a3, c3, rfl, rfl, rfl⟩ trivial
    ·rintro _ _ _ ⟨a3, c3, rfl, rfl, rfl⟩
     skip
     have hq3 := hq2 ⟨a3, (h.ss.getD ((w : Nat) : Int).toNat default).len + 1, c3⟩ (s.D.getD ((w : Nat) : Int).toNat default ++ [t.of_])
     refine tri_rowEq (len' := (s.D.getD ((w : Nat) : Int).toNat default ++ [t.of_]).length) (cells' := encs (s.D.getD ((w : Nat) : Int).toNat default ++ [t.of_])) (by rw [hl]; simp) (by rw [encs_append]; rfl) ?_
     refine tri_perm (A := ?a8_0 :: ?a8_1 :: ?a8_2 :: ?T8) (B := ?a8_0 :: ?a8_2 :: ?a8_1 :: ?T8) (by exact permL [0, 2, 1] [?a8_0, ?a8_1, ?a8_2] ?T8 (by decide) rfl) ?_
     refine tri_starsRe (tri_starsPerm hq3.symm ?_)
     refine tri_perm (A := ?a9_0 :: ?a9_1 :: ?a9_2 :: ?a9_3 :: ?a9_4 :: ?a9_5 :: ?a9_6 :: ?a9_7 :: ?a9_8 :: ?a9_9 :: ?a9_10 :: ?T9) (B := ?a9_3 :: ?a9_2 :: ?a9_4 :: ?a9_0 :: ?a9_1 :: ?a9_5 :: ?a9_6 :: ?a9_7 :: ?a9_8 :: ?a9_9 :: ?a9_10 :: ?T9) (by exact permL [3, 2, 4, 0, 1, 5, 6, 7, 8, 9, 10] [?a9_0, ?a9_1, ?a9_2, ?a9_3, ?a9_4, ?a9_5, ?a9_6, ?a9_7, ?a9_8, ?a9_9, ?a9_10] ?T9 (by decide) rfl) ?_
     refine tri_starsRe2 (tri_starsPerm (hr2 (R21.less u1)).symm ?_)
     refine tri_perm (A := ?a10_0 :: ?a10_1 :: ?a10_2 :: ?a10_3 :: ?a10_4 :: ?a10_5 :: ?a10_6 :: ?a10_7 :: ?a10_8 :: ?T10) (B := ?a10_4 :: ?a10_5 :: ?a10_6 :: ?a10_7 :: ?a10_8 :: ?a10_2 :: ?a10_3 :: ?a10_0 :: ?a10_1 :: ?T10) (by exact permL [4, 5, 6, 7, 8, 2, 3, 0, 1] [?a10_0, ?a10_1, ?a10_2, ?a10_3, ?a10_4, ?a10_5, ?a10_6, ?a10_7, ?a10_8] ?T10 (by decide) rfl) ?_
     refine tri_end_n _ ⟨[], rfl⟩ rfl .nil ⟨{ h with ds := ds', ss := h.ss.set w ⟨a3, (h.ss.getD w default).len + 1, c3⟩ }, ⟨ok.idx, hmem, ?_, ?_, fun k hk => ?_⟩, ?_, fun _ h => h⟩
     ·simp only [List.length_set, hbl]
     ·simp only [R21.push, List.length_set, hsl]
     ·simp only [R21.push, List.length_set] at hk ⊢
      rw [getD_set7 (by omega), getD_set7 hw]
      split
      ·have := ok.len w hw
       simp only [List.length_append, List.length_singleton]
       omega
      ·exact ok.len k hk
     ·unfold CwA
      simp only [Int.toNat_natCast, R21.push, List.length_set]
   ·rw [if_neg (show ¬ (R21.less u1).lf = 0 from h2)]
    refine tri_skip ?_
    refine tri_perm (A := ?a11_0 :: ?a11_1 :: ?a11_2 :: ?a11_3 :: ?a11_4 :: ?a11_5 :: ?a11_6 :: ?a11_7 :: ?a11_8 :: ?a11_9 :: ?a11_10 :: ?T11) (B := ?a11_1 :: ?a11_0 :: ?a11_2 :: ?a11_3 :: ?a11_4 :: ?a11_5 :: ?a11_6 :: ?a11_7 :: ?a11_8 :: ?a11_9 :: ?a11_10 :: ?T11) (by exact permL [1, 0, 2, 3, 4, 5, 6, 7, 8, 9, 10] [?a11_0, ?a11_1, ?a11_2, ?a11_3, ?a11_4, ?a11_5, ?a11_6, ?a11_7, ?a11_8, ?a11_9, ?a11_10] ?T11 (by decide) rfl) ?_
    refine tri_starsRe2 (tri_starsPerm (hr2 (R21.less u1)).symm ?_)
    refine tri_perm (A := ?a12_0 :: ?a12_1 :: ?a12_2 :: ?a12_3 :: ?a12_4 :: ?a12_5 :: ?a12_6 :: ?a12_7 :: ?a12_8 :: ?T12) (B := ?a12_2 :: ?a12_3 :: ?a12_4 :: ?a12_5 :: ?a12_6 :: ?a12_7 :: ?a12_1 :: ?a12_0 :: ?a12_8 :: ?T12) (by exact permL [2, 3, 4, 5, 6, 7, 1, 0, 8] [?a12_0, ?a12_1, ?a12_2, ?a12_3, ?a12_4, ?a12_5, ?a12_6, ?a12_7, ?a12_8] ?T12 (by decide) rfl) ?_
    refine tri_end_n _ ⟨[], rfl⟩ rfl .nil ⟨{ h with ds := ds' }, ⟨ok.idx, hmem, ?_, ok.sl, ok.len⟩, ?_, fun _ h => h⟩
    ·simp only [List.length_set, hbl]
    ·unfold CwA
     simp only [List.length_set]
end Go.GL


set_option linter.unusedVariables false
namespace Go.GL
open Go.Proofs
attribute [local irreducible] wpList Code.wp Exit.then Exit.inBlock Ends Tri TriH OpV OpG FnC epf wpAnyH
variable {A : List Asrt} {I : List Chunk}
theorem SlAt.none_nil {α : Type} [Enc α] {I : List Chunk} {a : Option Addr} {xs : List α} (h : SlAt I a xs) (ha : a = none) : xs = [] := by
 rcases h with h | ⟨b, off, h, _⟩
 ·exact h
 ·rw [ha] at h; cases h
set_option maxHeartbeats 4000000 in
set_option maxRecDepth 100000 in
theorem crew_take {bc bx mb db bq cd w : Nat} {room : Int} {h : Hp} {s : R21.Ms} (ok : CwOk h s) (hw : w < s.D.length) (hn : s.D.length ≤ 1000) (hb : ∀ k, k < s.D.length → (s.D.getD k default).length ≤ 100000000) :
  FnC Try.prog 72 [pt bc 0, .int .i64 (w : Nat)].toArray (CwA bc bx mb db (some ⟨bq, 0, none⟩) cd room h s A) I (fun v A' I' => v = .int .i64 (R19.takeM s.D w).1 ∧ CwR bc bx mb db bq cd room { s with D := (R19.takeM s.D w).2 } A I v A' I') := by
 have hsl := ok.sl
 have hbl := ok.bl
 have hl := ok.len w hw
 have hbw := hb w hw
 obtain ⟨Rq, hq1, hq2⟩ := dq_one (k := w) hw hsl
 skip
 skip
 refine fn_enter2 Try.func72 rfl Try.ntmps72 rfl fun w0 => ?_
 refine tS (tR (tA rfl rfl (tN (tT (tS (tS (tR ?_)))))))
 refine tM rfl rfl ?_
 refine tri_v (opv_nilCheck rfl) rfl ?_
 refine tri_v (opv_fieldAddr rfl rfl) rfl ?_
 refine tri_v (opv_load1 rfl rfl rfl) rfl ?_
 refine tM rfl rfl ?_
 refine tri_v (opv_indexAddrRN rfl rfl (by omega)) rfl ?_
 refine tri_v (opv_loadRX1 rfl rfl (by omega) rfl rfl) rfl ?_
 refine tA rfl rfl (tN (tT (tS (tR (tM rfl rfl ?_)))))
 refine tri_v (opv_len rfl) rfl ?_
 refine tri_v (opv_gtr rfl rfl) rfl ?_
 refine tN (tT ?_)
 try rw [hl]
 refine tri_cond_dec rfl (fun hc => ?_) (fun hc => ?_)
 ·have em : R19.takeM s.D w = ((s.D.getD w default).getD ((s.D.getD w default).length - 1) default, s.D.set w ((s.D.getD w default).take ((s.D.getD w default).length - 1))) := if_pos (by omega)
  rw [em]
  have e1 : (((s.D.getD w default).length : Int) - 1).toNat = (s.D.getD w default).length - 1 := by omega
  refine tri_perm perm8 ?_
  refine tri_starsPerm hq1 (tri_starsUn ?_)
  unfold dqA
  refine tri_freezeRowC (α := Int) rfl fun I1 hI1 hs1 => ?_
  have sc := hs1.sl
  have hi : ((s.D.getD w default).length : Int) - 1 ≤ ((s.D.getD w default).length : Nat) := by omega
  refine tri_perm (A := ?a1_0 :: ?a1_1 :: ?a1_2 :: ?a1_3 :: ?a1_4 :: ?a1_5 :: ?a1_6 :: ?a1_7 :: ?a1_8 :: ?T1) (B := ?a1_6 :: ?a1_0 :: ?a1_1 :: ?a1_2 :: ?a1_3 :: ?a1_4 :: ?a1_5 :: ?a1_7 :: ?a1_8 :: ?T1) (by exact permL [6, 0, 1, 2, 3, 4, 5, 7, 8] [?a1_0, ?a1_1, ?a1_2, ?a1_3, ?a1_4, ?a1_5, ?a1_6, ?a1_7, ?a1_8] ?T1 (by decide) rfl) ?_
  skip
  skip
  skip
  refine tS ?_
  refine tri_draw [0, 1, 2, 3, 4, 5, 6, 7, 8, 9, 10, 11, 12] rfl [_] rfl mixed ?_
  refine th_take rfl rfl (by kernel_rfl)  (opv_move rfl) ?_
  refine th_take rfl rfl (by kernel_rfl)  (opv_nilCheck rfl) ?_
  refine th_take rfl rfl (by kernel_rfl)  (opv_fieldAddr rfl rfl) ?_
  refine th_take rfl rfl (by kernel_rfl)  (opv_load1 rfl rfl rfl) ?_
  refine th_take rfl rfl (by kernel_rfl)  (opv_move rfl) ?_
  refine th_take rfl rfl (by kernel_rfl)  (opv_move rfl) ?_
  refine th_take rfl rfl (by kernel_rfl)  (opv_move rfl) ?_
  refine th_take rfl rfl (by kernel_rfl)  (opv_len rfl) ?_
  refine th_take rfl rfl (by kernel_rfl)  (opv_sub rfl rfl (w64 (by omega) (by omega))) ?_
  refine th_take rfl rfl (by kernel_rfl)  (opv_sliceHi rfl rfl (by omega) (by omega) hs1 rfl) ?_
  skip
  rw [e1]
  have hlt : ((s.D.getD w default).take ((s.D.getD w default).length - 1)).length ≤ 1000000000 := by rw [List.length_take]; omega
  refine th_one (by kernel_rfl) (step_m rfl rfl (opg_call (xs := [_]) rfl (slices_cloneI (sc.take _) hlt (fun e => (sc.take _).none_nil e))) ?_)
  rintro _ _ _ ⟨a2, c2, rfl, rfl, rfl⟩
  refine ⟨Suf.h, (fun _ h => h), ?_⟩
  refine th_take rfl rfl (by kernel_rfl)  (opv_indexAddrSP rfl rfl (by omega) (by omega)) ?_
  refine th_one (by kernel_rfl) (step_m rfl rfl (opg_storeRX (⟨a2, ((s.D.getD w default).take ((s.D.getD w default).length - 1)).length, c2⟩ : Sl) rfl rfl rfl (by omega) (by omega) rfl rfl rfl rfl) ?_)
  rintro _ _ _ ⟨rfl, rfl⟩
  refine ⟨Suf.h, (fun _ h => h), ?_⟩
  refine th_done (by kernel_rfl) ?_
  refine tT (tS (tR (tM rfl rfl (tM rfl rfl ?_))))
  refine tri_v (opv_len rfl) rfl ?_
  refine tri_v (opv_sub rfl rfl (w64 (by omega) (by omega))) rfl ?_
  refine tri_v (opv_indexAddrS rfl rfl (by omega) (by omega) (by assumption) rfl) rfl ?_
  refine tri_v (opv_loadE1 rfl (by assumption) rfl (by omega) rfl rfl) rfl ?_
  refine tA rfl rfl (tN (tT (tri_ret (tri_then_ret ?_))))
  rw [e1]
  refine tri_perm (A := ?a2_0 :: ?a2_1 :: ?a2_2 :: ?T2) (B := ?a2_0 :: ?a2_2 :: ?a2_1 :: ?T2) (by exact permL [0, 2, 1] [?a2_0, ?a2_1, ?a2_2] ?T2 (by decide) rfl) ?_
  refine tri_starsRe (tri_starsPerm (hq2 ⟨a2, ((s.D.getD w default).take ((s.D.getD w default).length - 1)).length, c2⟩ ((s.D.getD w default).take ((s.D.getD w default).length - 1))).symm ?_)
  refine tri_perm (A := ?a3_0 :: ?a3_1 :: ?a3_2 :: ?a3_3 :: ?a3_4 :: ?a3_5 :: ?a3_6 :: ?a3_7 :: ?a3_8 :: ?T3) (B := ?a3_2 :: ?a3_3 :: ?a3_4 :: ?a3_5 :: ?a3_6 :: ?a3_1 :: ?a3_7 :: ?a3_8 :: ?a3_0 :: ?T3) (by exact permL [2, 3, 4, 5, 6, 1, 7, 8, 0] [?a3_0, ?a3_1, ?a3_2, ?a3_3, ?a3_4, ?a3_5, ?a3_6, ?a3_7, ?a3_8] ?T3 (by decide) rfl) ?_
  refine tri_end _ (⟨[], rfl⟩) rfl (.cons (rv_tmp rfl) .nil) ⟨rfl, { h with ss := h.ss.set w ⟨a2, ((s.D.getD w default).take ((s.D.getD w default).length - 1)).length, c2⟩ }, ⟨ok.idx, ok.mem, hbl, ?_, fun k hk => ?_⟩, ?_, hI1⟩
  ·simp only [List.length_set, hsl]
  ·simp only [List.length_set] at hk ⊢
   rw [getD_set7 (by omega), getD_set7 hw]
   split
   ·rfl
   ·exact ok.len k hk
  ·unfold CwA
   simp only [List.length_set, Int.toNat_natCast]
 ·have em : R19.takeM s.D w = match R19.findF s.D w s.D.length 0 with
    | some k => ((s.D.getD k default).getD 0 default, s.D.set k ((s.D.getD k default).drop 1))
    | none => (-1, s.D) := if_neg (by omega)
  rw [em]
  clear hq1 hq2 hl
  refine tri_skip (tT (tS (tS (tR (tM rfl rfl ?_)))))
  refine tri_v (opv_nilCheck rfl) rfl ?_
  refine tri_v (opv_fieldAddr rfl rfl) rfl ?_
  refine tri_v (opv_load1 rfl rfl rfl) rfl ?_
  refine tri_v (opv_len rfl) rfl ?_
  refine tM rfl rfl (tN (tT (tri_block ?_)))
  refine tri_sub (F' := [(0, pt bc 0), (1, .int .i64 (w : Nat)), (41, .int .i64 (s.D.length : Nat)), (42, .int .i64 (0 : Nat))]) ⟨rfl, rfl, rfl, rfl, trivial⟩ ?_
  refine loop_ind (G := Nat) (fun i => s.D.length - i) (fun i => i ≤ s.D.length ∧ R19.findF s.D w s.D.length 0 = R19.findF s.D w (s.D.length - i) i) (fun i => [(0, pt bc 0), (1, .int .i64 (w : Nat)), (41, .int .i64 (s.D.length : Nat)), (42, .int .i64 (i : Nat))]) (fun _ => CwA bc bx mb db (some ⟨bq, 0, none⟩) cd room h s A) (fun _ => I) ?_ 0 ⟨by omega, rfl⟩
  rintro i ⟨hi, hf⟩ K hK
  skip
  skip
  refine tS (tR ?_)
  refine tri_v (opv_lss rfl rfl) rfl ?_
  refine tN (tT (tS ?_))
  refine tri_cond_dec rfl (fun h2 => ?_) (fun h2 => ?_)
  ·have hil : i < s.D.length := by omega
   obtain ⟨k, ek⟩ : ∃ k, (w + i) % s.D.length = k := ⟨_, rfl⟩
   have hk : k < s.D.length := by rw [← ek]; exact Nat.mod_lt _ (by omega)
   have hlk := ok.len k hk
   have hbk := hb k hk
   obtain ⟨Rq, hq1, hq2⟩ := dq_one (k := k) hk hsl
   have hfs : R19.findF s.D w (s.D.length - i) i = if (s.D.getD k default).length = 0 then R19.findF s.D w (s.D.length - (i + 1)) (i + 1) else some k := by
    rw [show s.D.length - i = (s.D.length - (i + 1)) + 1 by omega]
    show (if (s.D.getD ((w + i) % s.D.length) default).length = 0 then _ else _) = _
    rw [ek]
   refine tri_skip (tT (tS (tri_block (tS (tR (tM rfl rfl (tA rfl rfl ?_)))))))
   refine tN (tT (tS (tR (tM rfl rfl (tM rfl rfl ?_)))))
   refine tU rfl rfl (by omega) (by omega) rfl ?_
   refine tM rfl rfl ?_
   refine tri_v (opv_nilCheck rfl) rfl ?_
   refine tri_v (opv_fieldAddr rfl rfl) rfl ?_
   refine tri_v (opv_load1 rfl rfl rfl) rfl ?_
   refine tri_v (opv_len rfl) rfl ?_
   refine tri_v (opv_remN (a := w + i) (z := k) rfl rfl (by omega) ek) rfl ?_
   refine tA rfl rfl (tN (tT (tS (tR (tM rfl rfl ?_)))))
   refine tri_v (opv_nilCheck rfl) rfl ?_
   refine tri_v (opv_fieldAddr rfl rfl) rfl ?_
   refine tri_v (opv_load1 rfl rfl rfl) rfl ?_
   refine tM rfl rfl ?_
   refine tri_v (opv_indexAddrRN rfl rfl (by omega)) rfl ?_
   refine tri_v (opv_loadRX1 rfl rfl (by omega) rfl rfl) rfl ?_
   refine tA rfl rfl (tN (tT (tS (tR (tM rfl rfl ?_)))))
   refine tri_v (opv_len rfl) rfl ?_
   refine tri_v (opv_gtr rfl rfl) rfl ?_
   refine tN (tT ?_)
   rw [hlk]
   refine tri_cond_dec rfl (fun h3 => ?_) (fun h3 => ?_)
   ·rw [hf, hfs, if_neg (by omega)]
    refine tri_perm perm8 ?_
    refine tri_starsPerm hq1 (tri_starsUn ?_)
    unfold dqA
    refine tri_freezeRowC (α := Int) rfl fun I1 hI1 hs1 => ?_
    have sc := hs1.sl
    have sd := (hs1.lo (l := 1) (s := 1) (by omega) rfl).sl
    refine tri_perm (A := ?a4_0 :: ?a4_1 :: ?a4_2 :: ?a4_3 :: ?a4_4 :: ?a4_5 :: ?a4_6 :: ?a4_7 :: ?a4_8 :: ?T4) (B := ?a4_6 :: ?a4_0 :: ?a4_1 :: ?a4_2 :: ?a4_3 :: ?a4_4 :: ?a4_5 :: ?a4_7 :: ?a4_8 :: ?T4) (by exact permL [6, 0, 1, 2, 3, 4, 5, 7, 8] [?a4_0, ?a4_1, ?a4_2, ?a4_3, ?a4_4, ?a4_5, ?a4_6, ?a4_7, ?a4_8] ?T4 (by decide) rfl) ?_
    skip
    skip
    skip
    refine tS ?_
    refine tri_draw [0, 1, 2, 3, 4, 5, 6, 7, 8, 9] rfl [_] rfl mixed ?_
    refine th_take rfl rfl (by kernel_rfl)  (opv_move rfl) ?_
    refine th_take rfl rfl (by kernel_rfl)  (opv_nilCheck rfl) ?_
    refine th_take rfl rfl (by kernel_rfl)  (opv_fieldAddr rfl rfl) ?_
    refine th_take rfl rfl (by kernel_rfl)  (opv_load1 rfl rfl rfl) ?_
    refine th_take rfl rfl (by kernel_rfl)  (opv_move rfl) ?_
    refine th_take rfl rfl (by kernel_rfl)  (opv_move rfl) ?_
    refine th_take rfl rfl (by kernel_rfl)  (opv_sliceLo rfl rfl (by omega) (by omega) hs1 rfl) ?_
    skip
    have hlt : ((s.D.getD k default).drop 1).length ≤ 1000000000 := by rw [List.length_drop]; omega
    refine th_one (by kernel_rfl) (step_m rfl rfl (opg_call (xs := [_]) rfl (slices_cloneI sd hlt (fun e => sd.none_nil e))) ?_)
    rintro _ _ _ ⟨a2, c2, rfl, rfl, rfl⟩
    refine ⟨Suf.h, (fun _ h => h), ?_⟩
    refine th_take rfl rfl (by kernel_rfl)  (opv_indexAddrSP rfl rfl (by omega) (by omega)) ?_
    refine th_one (by kernel_rfl) (step_m rfl rfl (opg_storeRX (⟨a2, ((s.D.getD k default).drop 1).length, c2⟩ : Sl) rfl rfl rfl (by omega) (by omega) rfl rfl rfl rfl) ?_)
    rintro _ _ _ ⟨rfl, rfl⟩
    refine ⟨Suf.h, (fun _ h => h), ?_⟩
    refine th_done (by kernel_rfl) ?_
    refine tT (tS (tR (tM rfl rfl ?_)))
    refine tri_v (opv_indexAddrS rfl rfl (by omega) (by omega) (by assumption) rfl) rfl ?_
    refine tri_v (opv_loadE1 rfl (by assumption) rfl (by omega) rfl rfl) rfl ?_
    refine tA rfl rfl (tN (tT (tri_ret ?_)))
    refine tri_inBlock_ret ?_
    refine tri_then_ret (tri_then_ret ?_)
    refine tri_inBlock_ret ?_
    refine tri_then_ret ?_
    refine tri_perm (A := ?a5_0 :: ?a5_1 :: ?a5_2 :: ?T5) (B := ?a5_0 :: ?a5_2 :: ?a5_1 :: ?T5) (by exact permL [0, 2, 1] [?a5_0, ?a5_1, ?a5_2] ?T5 (by decide) rfl) ?_
    refine tri_starsRe (tri_starsPerm (hq2 ⟨a2, ((s.D.getD k default).drop 1).length, c2⟩ ((s.D.getD k default).drop 1)).symm ?_)
    refine tri_perm (A := ?a6_0 :: ?a6_1 :: ?a6_2 :: ?a6_3 :: ?a6_4 :: ?a6_5 :: ?a6_6 :: ?a6_7 :: ?a6_8 :: ?T6) (B := ?a6_2 :: ?a6_3 :: ?a6_4 :: ?a6_5 :: ?a6_6 :: ?a6_1 :: ?a6_7 :: ?a6_8 :: ?a6_0 :: ?T6) (by exact permL [2, 3, 4, 5, 6, 1, 7, 8, 0] [?a6_0, ?a6_1, ?a6_2, ?a6_3, ?a6_4, ?a6_5, ?a6_6, ?a6_7, ?a6_8] ?T6 (by decide) rfl) ?_
    refine tri_end _ (⟨[], rfl⟩) rfl (.cons (rv_tmp rfl) .nil) ⟨rfl, { h with ss := h.ss.set k ⟨a2, ((s.D.getD k default).drop 1).length, c2⟩ }, ⟨ok.idx, ok.mem, hbl, ?_, fun k' hk' => ?_⟩, ?_, hI1⟩
    ·simp only [List.length_set, hsl]
    ·simp only [List.length_set] at hk' ⊢
     rw [getD_set7 (by omega), getD_set7 hk]
     split
     ·rfl
     ·exact ok.len k' hk'
    ·unfold CwA
     simp only [List.length_set, Int.toNat_natCast]
   ·refine tri_skip ?_
    refine tri_inBlock ?_
    refine tT (tR ?_)
    refine tU rfl rfl (by omega) (by omega) rfl ?_
    refine tM rfl rfl (tN (tT ?_))
    refine tri_sub ?_ (hK (i + 1) ⟨by omega, by rw [hf, hfs, if_pos (by omega)]⟩ (by omega))
    exact ⟨rfl, rfl, rfl, rfl, trivial⟩
  ·have ei : s.D.length - i = 0 := by omega
   rw [hf, ei]
   refine tri_exit ?_
   refine tri_then_exit ?_
   refine tri_then_exit ?_
   refine tri_inBlock_hit rfl ?_
   refine tT (tS (tR (tA rfl rfl (tN (tT (tri_ret ?_))))))
   refine tri_end _ (⟨[], rfl⟩) rfl (.cons (rv_tmp rfl) .nil) ⟨rfl, h, ok, rfl, fun _ h => h⟩
end Go.GL

