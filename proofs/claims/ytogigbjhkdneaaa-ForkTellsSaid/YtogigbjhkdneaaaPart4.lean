/- Part 4: contracts of the functions that the law reaches: each answers as its model does. No condition beyond those that each theorem states. -/
import Derived.Test.YtogigbjhkdneaaaPart3
set_option linter.unusedVariables false
namespace Go.GL
namespace R19
variable {p picks : List Int}
theorem getD_appI {l m : List Int} {i : Nat} (h : i < l.length) : (l ++ m).getD i default = l.getD i default := by
 rw [List.getD_eq_getElem?_getD, List.getElem?_append_left h, List.getD_eq_getElem?_getD]
theorem getD_lastI {l : List Int} {x : Int} {i : Nat} (h : i = l.length) : (l ++ [x]).getD i default = x := by
 subst h
 rw [List.getD_eq_getElem?_getD, List.getElem?_append_right (Nat.le_refl _), Nat.sub_self]
 rfl
theorem mst_order (picks : List Int) (nw n : Nat) : (mst p picks nw (n + 1)).order = (mst p picks nw n).order ++ [(takeM (mst p picks nw n).D (nxt picks nw (mst p picks nw n).order.length (mst p picks nw n).last).toNat).1] := rfl
theorem mst_who (picks : List Int) (nw n : Nat) : (mst p picks nw (n + 1)).who = (mst p picks nw n).who ++ [nxt picks nw (mst p picks nw n).order.length (mst p picks nw n).last] := rfl
/-- What was run stays. -/
theorem mst_pre (hr : right p) {nw : Nat} (hw : 1 ≤ nw) {m : Nat} : ∀ {n : Nat}, m ≤ n → n ≤ p.length → (mst p picks nw n).order.take m = (mst p picks nw m).order ∧ (mst p picks nw n).who.take m = (mst p picks nw m).who := by
 intro n
 induction n with
 | zero =>
  intro h _
  obtain rfl : m = 0 := by omega
  exact ⟨rfl, rfl⟩
 | succ n ih =>
  intro h hn
  have hm := MOk.run hr hw n (by omega) (picks := picks)
  by_cases e : m = n + 1
  ·subst e
   have hm2 := MOk.run hr hw (n + 1) hn (picks := picks)
   exact ⟨List.take_of_length_le (by rw [hm2.ol]; omega), List.take_of_length_le (by rw [hm2.wl]; omega)⟩
  ·obtain ⟨h1, h2⟩ := ih (by omega) (by omega)
   rw [mst_order, mst_who, List.take_append_of_le_length (by rw [hm.ol]; omega), List.take_append_of_le_length (by rw [hm.wl]; omega)]
   exact ⟨h1, h2⟩
theorem getD_take' {l : List Int} {i m : Nat} (h : i < m) : (l.take m).getD i default = l.getD i default := by
 rw [List.getD_eq_getElem?_getD, List.getElem?_take_of_lt h, List.getD_eq_getElem?_getD]
/-- What is run in step i. -/
theorem mst_at (hr : right p) {nw : Nat} (hw : 1 ≤ nw) {i n : Nat} (hi : i < n) (hn : n ≤ p.length) :
  (mst p picks nw n).order.getD i default = (takeM (mst p picks nw i).D (nxt picks nw i (mst p picks nw i).last).toNat).1 ∧ (mst p picks nw n).who.getD i default = nxt picks nw i (mst p picks nw i).last := by
 obtain ⟨h1, h2⟩ := mst_pre hr hw (picks := picks) (m := i + 1) (n := n) (by omega) hn
 have hm := MOk.run hr hw i (by omega) (picks := picks)
 rw [← getD_take' (l := (mst p picks nw n).order) (m := i + 1) (by omega), ← getD_take' (l := (mst p picks nw n).who) (m := i + 1) (by omega), h1, h2, mst_order, mst_who, getD_lastI hm.ol.symm, getD_lastI hm.wl.symm, hm.ol]
 exact ⟨rfl, rfl⟩
/-- The task of step i: it wasn't run, its parent was. -/
theorem ord_at (hr : right p) {nw : Nat} (hw : 1 ≤ nw) {i n : Nat} (hi : i < n) (hn : n ≤ p.length) :
  ∃ T : Nat, (mst p picks nw n).order.getD i default = (T : Int) ∧ T < p.length ∧ (T : Int) ∉ (mst p picks nw n).order.take i ∧ (T = 0 ∨ p.getD T default ∈ (mst p picks nw n).order.take i) := by
 have hm := MOk.run hr hw i (by omega) (picks := picks)
 obtain ⟨hx0, hx1⟩ := nxt_ok (picks := picks) (nw := nw) (n := i) (last := (mst p picks nw i).last) hw
 obtain ⟨T, hT, h1, h2, h3, _⟩ := hm.take hr (by omega) (w := (nxt picks nw i (mst p picks nw i).last).toNat) (by omega)
 rw [(mst_at hr hw hi hn).1, (mst_pre hr hw (by omega) hn).1]
 exact ⟨T, hT, h1, h2, h3⟩
theorem who_at (hr : right p) {nw : Nat} (hw : 1 ≤ nw) {i n : Nat} (hi : i < n) (hn : n ≤ p.length) : 0 ≤ (mst p picks nw n).who.getD i default ∧ (mst p picks nw n).who.getD i default < nw := by
 rw [(mst_at hr hw hi hn).2]
 exact nxt_ok hw
/-! ### One worker alone -/
theorem nxt_one (picks : List Int) (n : Nat) (last : Int) : nxt picks 1 n last = 0 := by
 have := nxt_ok (picks := picks) (nw := 1) (n := n) (last := last) (Nat.le_refl _)
 omega
theorem mst_alone (picks : List Int) : ∀ n, mst p picks 1 n = mst p [] 1 n
 | 0 => rfl
 | n + 1 => by
  show mstep p picks 1 (mst p picks 1 n) = mstep p [] 1 (mst p [] 1 n)
  rw [mst_alone picks n]
  unfold mstep
  rw [nxt_one, nxt_one]
theorem who_alone (hr : right p) {n : Nat} (hn : n ≤ p.length) : (mst p picks 1 n).who = List.replicate n 0 := by
 have hm := MOk.run hr (Nat.le_refl 1) n hn (picks := picks)
 rw [List.eq_replicate_iff]
 exact ⟨hm.wl, fun w hw => by have := hm.who w hw; omega⟩
theorem takeM_own {D : List (List Int)} {w : Nat} (h : 0 < (D.getD w default).length) : takeM D w = ((D.getD w default).getD ((D.getD w default).length - 1) default, D.set w ((D.getD w default).take ((D.getD w default).length - 1))) := if_pos h
/-- Behind a task with kids comes the last one. -/
theorem alone_next (hr : right p) {i n : Nat} (hi : i + 1 < n) (hn : n ≤ p.length) {T : Nat} (hT : (mst p picks 1 n).order.getD i default = (T : Int)) (hk : 0 < (kids p T).length) :
  (mst p picks 1 n).order.getD (i + 1) default = (kids p T).getD ((kids p T).length - 1) default := by
 rw [(mst_at hr (Nat.le_refl 1) (by omega) hn).1] at hT ⊢
 rw [nxt_one] at hT ⊢
 have hm := MOk.run hr (Nat.le_refl 1) i (by omega) (picks := picks)
 have hm2 := MOk.run hr (Nat.le_refl 1) (i + 1) (by omega) (picks := picks)
 have hms : (mst p picks 1 (i + 1)).D = (takeM (mst p picks 1 i).D 0).2.set 0 ((takeM (mst p picks 1 i).D 0).2.getD 0 default ++ kids p (takeM (mst p picks 1 i).D 0).1.toNat) := by
  show (mstep p picks 1 (mst p picks 1 i)).D = _
  unfold mstep
  rw [nxt_one]
  rfl
 have hT2 : (takeM (mst p picks 1 i).D 0).1 = (T : Int) := hT
 rw [hT2, Int.toNat_natCast] at hms
 have hl : (takeM (mst p picks 1 i).D 0).2.length = 1 := by
  obtain ⟨_, _, _, _, _, _, h⟩ := hm.take hr (by omega) (w := 0) (by omega)
  exact h
 have e0 : (mst p picks 1 (i + 1)).D.getD 0 default = (takeM (mst p picks 1 i).D 0).2.getD 0 default ++ kids p T := by
  rw [hms]
  match (takeM (mst p picks 1 i).D 0).2, hl with
  | [x], _ => rfl
 have hpos : 0 < ((mst p picks 1 (i + 1)).D.getD 0 default).length := by rw [e0, List.length_append]; omega
 show (takeM (mst p picks 1 (i + 1)).D 0).1 = _
 rw [takeM_own hpos, e0]
 generalize (takeM (mst p picks 1 i).D 0).2.getD 0 default = l
 show (l ++ kids p T).getD ((l ++ kids p T).length - 1) default = _
 rw [List.length_append, List.getD_eq_getElem?_getD, List.getElem?_append_right (by omega), List.getD_eq_getElem?_getD]
 congr 2
 omega
/-- The last kid among the first k tasks. -/
def lastKid (p : List Int) (T : Int) : Nat → Int
 | 0 => -1
 | k + 1 => if p.getD k default = T then (k : Int) else lastKid p T k
theorem lastKid_bd {T : Int} : ∀ k, -1 ≤ lastKid p T k ∧ lastKid p T k < k
 | 0 => by show -1 ≤ (-1 : Int) ∧ (-1 : Int) < 0; omega
 | k + 1 => by
  have := lastKid_bd (T := T) k
  unfold lastKid
  split <;> omega
theorem lastKid_eq {T : Nat} : ∀ k, 0 ≤ lastKid p T k → 0 < (kidsTo p k T).length ∧ (kidsTo p k T).getD ((kidsTo p k T).length - 1) default = lastKid p T k
 | 0, h => absurd h (by show ¬ (0 : Int) ≤ -1; omega)
 | k + 1, h => by
  unfold lastKid at h ⊢
  rw [kidsTo_succ]
  by_cases e : p.getD k default = (T : Int)
  ·rw [if_pos e, if_pos e]
   refine ⟨by simp, ?_⟩
   rw [getD_lastI]
   simp
  ·rw [if_neg e] at h ⊢
   rw [if_neg e, List.append_nil]
   exact lastKid_eq k h
end R19
end Go.GL

set_option linter.unusedVariables false
namespace Go.GL
namespace R19
/-! ### Kids without kids -/
def flat (n : Nat) : List Int := -1 :: List.replicate n 0
def rg (f m : Nat) : List Int := (List.range m).map fun j => ((f + j : Nat) : Int)
theorem rg_len (f m : Nat) : (rg f m).length = m := by simp [rg]
theorem rg_snoc (f m : Nat) : rg f (m + 1) = rg f m ++ [((f + m : Nat) : Int)] := by
 unfold rg
 rw [List.range_succ, List.map_append]
 rfl
theorem rg_cons (f m : Nat) : rg f (m + 1) = (f : Int) :: rg (f + 1) m := by
 unfold rg
 rw [List.range_succ_eq_map, List.map_cons, List.map_map]
 congr 1
 refine List.map_congr_left fun j _ => ?_
 show ((f + (j + 1) : Nat) : Int) = ((f + 1 + j : Nat) : Int)
 omega
theorem flat_len (n : Nat) : (flat n).length = n + 1 := by simp [flat]
theorem flat_at {n i : Nat} (h0 : 0 < i) (h : i ≤ n) : (flat n).getD i default = 0 := by
 obtain ⟨j, rfl⟩ : ∃ j, i = j + 1 := ⟨i - 1, by omega⟩
 show (List.replicate n (0 : Int)).getD j default = 0
 rw [List.getD_eq_getElem?_getD, List.getElem?_replicate, if_pos (by omega)]
 rfl
theorem flat_right {n : Nat} (h : n ≤ 299) : right (flat n) := by
 refine ⟨by rw [flat_len]; omega, fun i hi => ⟨fun h0 => by subst h0; rfl, fun h0 => ?_⟩⟩
 rw [flat_len] at hi
 rw [flat_at h0 (by omega)]
 omega
theorem flat_kids0 (n : Nat) : kids (flat n) 0 = rg 1 n := by
 have h : ∀ i, i ≤ n → kidsTo (flat n) (i + 1) 0 = rg 1 i := by
  intro i
  induction i with
  | zero => intro _; rw [kidsTo_succ]; rfl
  | succ i ih =>
   intro hi
   rw [kidsTo_succ, ih (by omega), flat_at (by omega) hi, if_pos (show (0 : Int) = ((0 : Nat) : Int) from rfl), rg_snoc, Nat.add_comm 1 i]
 unfold kids
 rw [flat_len]
 exact h n (Nat.le_refl _)
theorem flat_kids {n T : Nat} (h : 0 < T) : kids (flat n) T = [] := by
 refine List.eq_nil_iff_forall_not_mem.2 fun x hx => ?_
 obtain ⟨h0, h1, h2⟩ := mem_kids.1 hx
 rw [flat_len] at h1
 by_cases e : x.toNat = 0
 ·rw [e] at h2
  have : (-1 : Int) = (T : Int) := h2
  omega
 ·rw [flat_at (by omega) (by omega)] at h2
  omega
/-- All deques but the first one are empty. -/
structure WD (W : Nat) (D : List (List Int)) (x : List Int) : Prop where
 len : D.length = W
 at0 : D.getD 0 default = x
 rest : ∀ w, 0 < w → w < W → D.getD w default = []
theorem getD_setL {D : List (List Int)} {k j : Nat} {l : List Int} (h : k < D.length) : (D.set k l).getD j default = if j = k then l else D.getD j default := by
 rw [List.getD_eq_getElem?_getD, List.getElem?_set]
 by_cases e : k = j
 ·subst e
  rw [if_pos rfl, if_pos rfl, if_pos h]
  rfl
 ·rw [if_neg e, if_neg (fun h => e h.symm), List.getD_eq_getElem?_getD]
theorem WD.set0 {W : Nat} {D : List (List Int)} {x y : List Int} (h : WD W D x) (hW : 0 < W) : WD W (D.set 0 y) y := by
 refine ⟨by rw [List.length_set]; exact h.len, ?_, fun w h1 h2 => ?_⟩
 ·rw [getD_setL (by rw [h.len]; exact hW), if_pos rfl]
 ·rw [getD_setL (by rw [h.len]; exact hW), if_neg (by omega)]
  exact h.rest w h1 h2
theorem WD.setW {W w : Nat} {D : List (List Int)} {x : List Int} (h : WD W D x) (h0 : 0 < w) (hW : w < W) : WD W (D.set w []) x := by
 refine ⟨by rw [List.length_set]; exact h.len, ?_, fun u h1 h2 => ?_⟩
 ·rw [getD_setL (by rw [h.len]; exact hW), if_neg (by omega)]
  exact h.at0
 ·rw [getD_setL (by rw [h.len]; exact hW)]
  split
  ·rfl
  ·exact h.rest u h1 h2
theorem WD.take0 {W : Nat} {D : List (List Int)} {x : List Int} (h : WD W D x) (hx : 0 < x.length) : takeM D 0 = (x.getD (x.length - 1) default, D.set 0 (x.take (x.length - 1))) := by
 rw [takeM_own (by rw [h.at0]; exact hx), h.at0]
theorem WD.takeW {W w : Nat} {D : List (List Int)} {x : List Int} (h : WD W D x) (hx : 0 < x.length) (h0 : 0 < w) (hW : w < W) : takeM D w = (x.getD 0 default, D.set 0 (x.drop 1)) := by
 have e : takeM D w = match findF D w D.length 0 with
  | some k => ((D.getD k default).getD 0 default, D.set k ((D.getD k default).drop 1))
  | none => (-1, D) := if_neg (by rw [h.rest w h0 hW]; exact Nat.lt_irrefl _)
 rw [e]
 have hl := h.len
 cases hf : findF D w D.length 0 with
 | none =>
  exfalso
  have := findF_none _ _ hf (W - w) (by omega) (by omega)
  rw [show w + (W - w) = W by omega, hl, Nat.mod_self, h.at0] at this
  omega
 | some k =>
  obtain ⟨h1, h2⟩ := findF_lt' (by omega) _ _ hf
  by_cases e0 : k = 0
  ·subst e0
   show ((D.getD 0 default).getD 0 default, D.set 0 ((D.getD 0 default).drop 1)) = _
   rw [h.at0]
  ·rw [h.rest k (by omega) (by omega)] at h2
   exact absurd h2 (Nat.lt_irrefl _)
theorem allF_ones (m b : Nat) : R11.allF b (List.replicate (m + 1) 1) = (b : Int) :: R11.allF (b + 1) (List.replicate m 1) := by
 rw [List.replicate_succ]
 show (if (0 : Int) < 1 then _ else _) = _
 rw [if_pos (by decide)]
theorem nxt_first (picks : List Int) {W : Nat} (hW : 1 ≤ W) : nxt (0 :: picks) W 0 (-1) = 0 := by
 obtain ⟨m, rfl⟩ : ∃ m, W = m + 1 := ⟨W - 1, by omega⟩
 have e : R11.all (List.replicate (m + 1) 1) = 0 :: R11.allF 1 (List.replicate m 1) := allF_ones m 0
 have hnx : nxt (0 :: picks) (m + 1) 0 (-1) = if (R11.all (List.replicate (m + 1) 1)).length = 0 then -1 else if 0 ≤ (((0 : Nat) : Int)) ∧ (((0 : Nat) : Int)) < (0 :: picks).length then (R11.all (List.replicate (m + 1) 1)).getD (pk ((0 :: picks).getD (((0 : Nat) : Int)).toNat default) (R11.all (List.replicate (m + 1) 1)).length).toNat default else R11.round (R11.all (List.replicate (m + 1) 1)) (-1) := rfl
 rw [hnx, e, if_neg (by rw [List.length_cons]; omega), if_pos ⟨by omega, by rw [List.length_cons]; omega⟩]
 have e2 : pk ((0 :: picks).getD (((0 : Nat) : Int)).toNat default) ((0 :: R11.allF 1 (List.replicate m 1)).length : Nat) = 0 := by
  show pk 0 _ = 0
  unfold pk
  rw [if_neg (by decide)]
  exact Int.zero_emod _
 rw [e2]
 rfl
/-- Behind i steps the kids from f on, so many, are left. -/
def WideI (n W : Nat) (picks : List Int) (i f m : Nat) : Prop := 1 ≤ f ∧ m + i = n + 1 ∧ f + m ≤ n + 1 ∧ WD W (mst (flat n) (0 :: picks) W i).D (rg f m)
theorem wide_start {n W : Nat} (picks : List Int) (hn : n ≤ 299) (hW : 1 ≤ W) : WideI n W picks 1 1 n ∧ (mst (flat n) (0 :: picks) W 1).order = [0] ∧ (mst (flat n) (0 :: picks) W 1).who = [0] := by
 have h0 : WD W (mst (flat n) (0 :: picks) W 0).D [0] := by
  refine ⟨?_, rfl, fun w h1 h2 => ?_⟩
  ·show ([0] :: List.replicate (W - 1) ([] : List Int)).length = W
   rw [List.length_cons, List.length_replicate]
   omega
  ·obtain ⟨j, rfl⟩ : ∃ j, w = j + 1 := ⟨w - 1, by omega⟩
   show (List.replicate (W - 1) ([] : List Int)).getD j default = []
   rw [List.getD_eq_getElem?_getD, List.getElem?_replicate, if_pos (by omega)]
   rfl
 have ht := h0.take0 (by decide)
 have hx := nxt_first picks hW
 have e : mst (flat n) (0 :: picks) W 1 = mstep (flat n) (0 :: picks) W (mst (flat n) (0 :: picks) W 0) := rfl
 have hx2 : nxt (0 :: picks) W (mst (flat n) (0 :: picks) W 0).order.length (mst (flat n) (0 :: picks) W 0).last = 0 := hx
 have t0 : (0 : Int).toNat = 0 := rfl
 unfold mstep at e
 rw [hx2, t0, ht] at e
 refine ⟨⟨Nat.le_refl _, by omega, by omega, ?_⟩, by rw [e]; rfl, by rw [e]; rfl⟩
 rw [e]
 show WD W (((mst (flat n) (0 :: picks) W 0).D.set 0 []).set 0 (((mst (flat n) (0 :: picks) W 0).D.set 0 []).getD 0 default ++ kids (flat n) 0)) (rg 1 n)
 have h1 := h0.set0 (y := []) (by omega)
 rw [h1.at0, flat_kids0, List.nil_append]
 exact h1.set0 (by omega)
theorem wide_step {n W i f m : Nat} {picks : List Int} (hn : n ≤ 299) (hW : 1 ≤ W) (hi : i ≤ n) (h : WideI n W picks i f m) :
  ((mst (flat n) (0 :: picks) W (n + 1)).who.getD i default = 0 ∧ (mst (flat n) (0 :: picks) W (n + 1)).order.getD i default = ((f + m - 1 : Nat) : Int) ∧ WideI n W picks (i + 1) f (m - 1)) ∨
  ((mst (flat n) (0 :: picks) W (n + 1)).who.getD i default ≠ 0 ∧ (mst (flat n) (0 :: picks) W (n + 1)).order.getD i default = (f : Int) ∧ WideI n W picks (i + 1) (f + 1) (m - 1)) := by
 obtain ⟨h1, h2, h3, h4⟩ := h
 obtain ⟨k, rfl⟩ : ∃ k, m = k + 1 := ⟨m - 1, by omega⟩
 have hr := flat_right hn
 have hlen := flat_len n
 have hm := MOk.run hr hW i (by omega) (picks := 0 :: picks)
 obtain ⟨ha, hb⟩ := mst_at hr hW (picks := 0 :: picks) (i := i) (n := n + 1) (by omega) (by omega)
 obtain ⟨hx0, hx1⟩ := nxt_ok (picks := 0 :: picks) (nw := W) (n := i) (last := (mst (flat n) (0 :: picks) W i).last) hW
 have e : (mst (flat n) (0 :: picks) W (i + 1)).D = (mstep (flat n) (0 :: picks) W (mst (flat n) (0 :: picks) W i)).D := rfl
 unfold mstep at e
 rw [hm.ol] at e
 rw [ha, hb]
 obtain ⟨w, ew⟩ : ∃ w : Nat, nxt (0 :: picks) W i (mst (flat n) (0 :: picks) W i).last = (w : Int) := ⟨(nxt (0 :: picks) W i (mst (flat n) (0 :: picks) W i).last).toNat, by omega⟩
 rw [ew, Int.toNat_natCast] at e ⊢
 rw [ew] at hx1
 have hl := rg_len f (k + 1)
 by_cases hw0 : w = 0
 ·subst hw0
  have ht := h4.take0 (by omega)
  have e1 : (rg f (k + 1)).getD ((rg f (k + 1)).length - 1) default = ((f + k : Nat) : Int) := by
   rw [hl, rg_snoc, getD_lastI (by rw [rg_len]; rfl)]
  have e2 : (rg f (k + 1)).take ((rg f (k + 1)).length - 1) = rg f k := by
   rw [hl, rg_snoc, List.take_left' (by rw [rg_len]; rfl)]
  rw [e1, e2] at ht
  rw [ht] at e ⊢
  left
  refine ⟨rfl, rfl, h1, by omega, by omega, ?_⟩
  rw [e]
  show WD W ((((mst (flat n) (0 :: picks) W i).D.set 0 (rg f k))).set 0 ((((mst (flat n) (0 :: picks) W i).D.set 0 (rg f k))).getD 0 default ++ kids (flat n) (f + k))) (rg f k)
  have h5 := h4.set0 (y := rg f k) (by omega)
  rw [h5.at0, flat_kids (by omega), List.append_nil]
  exact h5.set0 (by omega)
 ·have ht := h4.takeW (w := w) (by omega) (by omega) (by omega)
  have e1 : (rg f (k + 1)).getD 0 default = (f : Int) := by rw [rg_cons]; rfl
  have e2 : (rg f (k + 1)).drop 1 = rg (f + 1) k := by rw [rg_cons]; rfl
  rw [e1, e2] at ht
  rw [ht] at e ⊢
  right
  refine ⟨by omega, rfl, by omega, by omega, by omega, ?_⟩
  rw [e]
  show WD W ((((mst (flat n) (0 :: picks) W i).D.set 0 (rg (f + 1) k))).set w ((((mst (flat n) (0 :: picks) W i).D.set 0 (rg (f + 1) k))).getD w default ++ kids (flat n) f)) (rg (f + 1) k)
  have h5 := h4.set0 (y := rg (f + 1) k) (by omega)
  rw [h5.rest w (by omega) (by omega), flat_kids (by omega), List.append_nil]
  exact h5.setW (by omega) (by omega)
end R19
end Go.GL

set_option linter.unusedVariables false
namespace Go.GL
namespace R19
theorem allF_rg : ∀ (m b : Nat), R11.allF b (List.replicate m 1) = rg b m
 | 0, _ => rfl
 | m + 1, b => by rw [allF_ones, allF_rg m (b + 1), rg_cons]
theorem all_ones (m : Nat) : R11.all (List.replicate m 1) = rg 0 m := allF_rg m 0
theorem rg_at {f m i : Nat} (h : i < m) : (rg f m).getD i default = ((f + i : Nat) : Int) := by
 unfold rg
 rw [List.getD_eq_getElem?_getD, List.getElem?_map, List.getElem?_range h]
 rfl
theorem nxt_pick {picks : List Int} {W n : Nat} {last : Int} (hW : 1 ≤ W) (hn : n < picks.length) : R11.next picks n (List.replicate W 1) last = pk (picks.getD n default) W := by
 have h : R11.next picks n (List.replicate W 1) last = if (R11.all (List.replicate W 1)).length = 0 then -1 else if 0 ≤ (n : Int) ∧ (n : Int) < picks.length then (R11.all (List.replicate W 1)).getD (pk (picks.getD (n : Int).toNat default) (R11.all (List.replicate W 1)).length).toNat default else R11.round (R11.all (List.replicate W 1)) last := rfl
 have hp := pk_bd (c := picks.getD n default) (n := W) (by omega)
 rw [h, all_ones, rg_len, if_neg (by omega), if_pos (by omega), Int.toNat_natCast, rg_at (by omega)]
 omega
theorem nxt_round {picks : List Int} {W n : Nat} {last : Int} (hW : 1 ≤ W) (hn : picks.length ≤ n) (h0 : -1 ≤ last) (h1 : last < W) : R11.next picks n (List.replicate W 1) last = if last + 1 < W then last + 1 else 0 := by
 have h : R11.next picks n (List.replicate W 1) last = if (R11.all (List.replicate W 1)).length = 0 then -1 else if 0 ≤ (n : Int) ∧ (n : Int) < picks.length then (R11.all (List.replicate W 1)).getD (pk (picks.getD (n : Int).toNat default) (R11.all (List.replicate W 1)).length).toNat default else R11.round (R11.all (List.replicate W 1)) last := rfl
 have hne : R11.all (List.replicate W 1) ≠ [] := fun e => by
  have := rg_len 0 W
  rw [← all_ones, e] at this
  have : (0 : Nat) = W := this
  omega
 have hmem : ∀ q : Int, q ∈ R11.all (List.replicate W 1) ↔ 0 ≤ q ∧ q < W := fun q => by
  rw [R11.mem_all, List.length_replicate]
  constructor
  ·rintro ⟨h1, h2, _⟩
   exact ⟨h1, h2⟩
  ·rintro ⟨h1, h2⟩
   refine ⟨h1, h2, ?_⟩
   rw [List.getD_eq_getElem?_getD, List.getElem?_replicate, if_pos (by omega)]
   decide
 obtain ⟨h2, h3⟩ := R11.round_ok (a := R11.all (List.replicate W 1)) (last := last) (R11.all_srt _) (fun q hq => ((hmem q).1 hq).1) hne h0
 have hlen : (R11.all (List.replicate W 1)).length ≠ 0 := by rw [all_ones, rg_len]; omega
 rw [h, if_neg hlen, if_neg (by omega)]
 obtain ⟨h4, h5⟩ := (hmem _).1 h2
 rcases h3 with ⟨h6, h7⟩ | ⟨h6, h7⟩
 ·have := h7 (last + 1) ((hmem _).2 ⟨by omega, by omega⟩) (by omega)
  rw [if_pos (by omega)]
  omega
 ·have h8 := h6 (W - 1) ((hmem _).2 ⟨by omega, by omega⟩)
  have h9 := h7 0 ((hmem _).2 ⟨by omega, by omega⟩)
  rw [if_neg (by omega)]
  omega
end R19
end Go.GL

set_option linter.unusedVariables false
namespace Go.GL
open Go.Proofs
attribute [local irreducible] wpList Code.wp Exit.then Exit.inBlock Ends Tri TriH OpV OpG FnC epf wpAnyH
variable {A : List Asrt} {I : List Chunk}
theorem ones_at {W i : Nat} (h : i < W) : (List.replicate W (1 : Int)).getD i default = 1 := by
 rw [List.getD_eq_getElem?_getD, List.getElem?_replicate, if_pos h]
 rfl
set_option maxRecDepth 100000 in
theorem ref11_many {W : Nat} {a : Option Addr} {cap : Nat} {E : TypeId} (hW : W ≤ 1000) :
  FnC Try.prog 35 [.slice a W cap].toArray (Row a cap W E 1 (encs (List.replicate W (1 : Int))) :: A) I (fun v A' I' => v = .int .i64 (W : Int) ∧ Row a cap W E 1 (encs (List.replicate W (1 : Int))) :: A = A' ∧ I = I') := by
 refine fn_enter1 Try.func35 rfl Try.ntmps35 rfl fun w0 => ?_
 refine tS (tR (tA rfl rfl (tN (tT (tS (tR (tA rfl rfl ?_)))))))
 refine tN (tT (tS (tS (tR (tA rfl rfl (tN (tT ?_)))))))
 refine tri_block ?_
 refine tri_sub (F' := [(0, .slice a W cap), (3, .int .i64 ((0 : Nat) : Int)), (4, .int .i64 ((0 : Nat) : Int))]) ⟨rfl, rfl, rfl, trivial⟩ ?_
 refine loop_ind (G := Nat) (fun i => W - i) (fun i => i ≤ W) (fun i => [(0, .slice a W cap), (3, .int .i64 (i : Int)), (4, .int .i64 (i : Nat))]) (fun _ => _) (fun _ => _) ?_ 0 (Nat.zero_le _)
 rintro i hi K hK
 have hrl : (List.replicate W (1 : Int)).length = W := List.length_replicate
 skip
 refine tS (tS (tR (tM rfl rfl (tM rfl rfl ?_))))
 refine tri_v (opv_len rfl) rfl ?_
 refine tri_v (opv_lss rfl rfl) rfl ?_
 refine tN (tT ?_)
 refine tri_cond_dec rfl (fun h => ?_) (fun h => ?_)
 ·have hil : i < W := by omega
  have e1 := ones_at hil
  have e2 : (List.replicate W (1 : Int)).getD (i : Int).toNat default = 1 := e1
  refine tri_skip (tT (tS (tri_block (tS (tR (tM rfl rfl (tM rfl rfl ?_)))))))
  refine tri_v (by first | exact opv_indexAddrA rfl rfl (by first | decide | omega) (by first | decide | omega) | exact opv_indexAddrSN rfl rfl (by omega) (by assumption) (by first | rfl | omega) | exact opv_indexAddrS rfl rfl (by omega) (by omega) (by assumption) (by first | rfl | omega) | exact opv_indexAddrE rfl (by assumption) (by omega) rfl (by first | decide | omega) (by first | decide | omega) | exact opv_indexAddrRN rfl rfl (by omega) | exact opv_indexAddrR rfl rfl (by omega) (by omega) | exact opv_indexAddrRA rfl (by omega) rfl (by first | decide | omega) (by first | decide | omega) | exact opv_indexAddrSP rfl rfl (by omega) (by omega)) rfl ?_
  refine tri_v (by first | exact opv_load1 rfl rfl rfl | exact opv_loadA rfl rfl rfl | exact opv_loadE1 rfl (by assumption) rfl (by omega) rfl rfl | exact opv_loadEA rfl (by assumption) rfl (by omega) rfl rfl | exact opv_loadRX1 rfl rfl (by omega) rfl rfl | exact opv_loadRXA rfl rfl (by omega) rfl rfl rfl | exact opv_loadIX rfl rfl (by omega) | exact opv_loadR1 rfl rfl rfl | exact opv_loadRA rfl rfl rfl rfl) rfl ?_
  refine tri_v (opv_gtr rfl rfl) rfl ?_
  refine tN (tT ?_)
  try rw [e2]
  try rw [e1]
  refine tri_cond_is rfl ((by omega)) ?_
  refine tR (tM rfl rfl ?_)
  refine tri_v (by first | exact opv_add rfl rfl (w64 (by omega) (by omega))) rfl ?_
  refine tA rfl rfl (tN ?_)
  refine tri_inBlock ?_
  refine tT (tR (tM rfl rfl ?_))
  refine tri_v (by first | exact opv_add rfl rfl (w64 (by omega) (by omega))) rfl ?_
  refine tA rfl rfl (tN (tT ?_))
  refine tri_sub ?_ (hK (i + 1) (by omega) (by omega))
  exact ⟨rfl, rfl, rfl, trivial⟩
 ·obtain rfl : i = W := by omega
  refine tri_exit ?_
  refine tri_then_exit ?_
  refine tri_then_exit ?_
  refine tri_inBlock_hit rfl ?_
  refine tT (tS (tR (tM rfl rfl (tA rfl rfl (tN (tT (tri_ret ?_)))))))
  refine tri_end _ (by first | exact ⟨[], rfl⟩ | exact ⟨[_], rfl⟩ | exact ⟨[_, _], rfl⟩ | exact ⟨[_, _, _], rfl⟩ | exact ⟨[_, _, _, _], rfl⟩ | exact ⟨[_, _, _, _, _], rfl⟩ | exact ⟨[_, _, _, _, _, _], rfl⟩ | exact ⟨[_, _, _, _, _, _, _], rfl⟩ | exact ⟨[_, _, _, _, _, _, _, _], rfl⟩) rfl (.cons (rv_tmp rfl) .nil) ⟨rfl, rfl, rfl⟩
set_option maxHeartbeats 1000000 in
set_option maxRecDepth 100000 in
theorem ref11_next {picks : List Int} {W n : Nat} {last : Int} {a a2 : Option Addr} {cap cap2 : Nat} {E : TypeId} (hs : SlAt I a picks) (hp : Is picks) (hW1 : 1 ≤ W) (hW : W ≤ 1000) (h0 : -1 ≤ last) (h1 : last < W) (hn : n ≤ 1000000) (hpl : picks.length ≤ 9223372036854775807) :
  FnC Try.prog 25 [.slice a picks.length cap, .int .i64 (n : Int), .slice a2 W cap2, .int .i64 last].toArray (Row a2 cap2 W E 1 (encs (List.replicate W (1 : Int))) :: A) I (fun v A' I' => v = .int .i64 (R11.next picks n (List.replicate W 1) last) ∧ Row a2 cap2 W E 1 (encs (List.replicate W (1 : Int))) :: A = A' ∧ I = I') := by
 have hrl : (List.replicate W (1 : Int)).length = W := List.length_replicate
 skip
 refine fn_enter4 Try.func25 rfl Try.ntmps25 rfl fun w0 => ?_
 refine tS (tR (tA rfl rfl (tN (tT (tS (tR (tM rfl rfl ?_)))))))
 refine tri_g (opg_call (xs := [_]) rfl (ref11_many hW)) rfl ?_
 rintro _ _ _ ⟨rfl, rfl, rfl⟩
 refine tA rfl rfl (tN (tT (tS (tS (tR (tM rfl rfl ?_))))))
 refine tri_v (by first | exact opv_eql rfl rfl | exact opv_eqlI rfl rfl rfl rfl rfl rfl | exact opv_eqlB rfl rfl | exact opv_eqlNil rfl rfl) rfl ?_
 refine tN (tT ?_)
 refine tri_cond_not rfl ((by omega)) ?_
 refine tri_skip (tT (tS (tS (tR (tM rfl rfl ?_)))))
 refine tri_v (opv_geq rfl rfl) rfl ?_
 refine tM rfl rfl ?_
 refine tri_true rfl rfl ((by omega)) ?_
 refine tri_guard_run rfl rfl rfl (tM rfl rfl (tri_guard_run rfl rfl rfl (tM rfl rfl (tri_guard_run rfl rfl rfl ?_))))
 refine tri_v (opv_len rfl) rfl ?_
 refine tri_guard_run rfl rfl rfl ?_
 refine tri_v (opv_lss rfl rfl) rfl ?_
 refine tri_v (by first | exact opv_pick_t rfl rfl | exact opv_pick_f rfl rfl | exact opv_pick_bool rfl rfl rfl | exact opv_pick rfl rfl rfl) rfl ?_
 refine tN (tT ?_)
 refine tri_cond_dec rfl (fun h2 => ?_) (fun h2 => ?_)
 ·have hnl : n < picks.length := by omega
  rw [R19.nxt_pick hW1 hnl]
  have hpn := hp n hnl
  have hpb := pk_bd (c := picks.getD n default) (n := W) (by omega)
  unfold I64 at hpn
  have tn : (n : Int).toNat = n := rfl
  obtain ⟨kk, hkk⟩ : ∃ kk, pk (picks.getD n default) W = kk := ⟨_, rfl⟩
  rw [hkk] at hpb ⊢
  refine tS (tR (tM rfl rfl (tM rfl rfl ?_)))
  refine tri_v (by first | exact opv_indexAddrA rfl rfl (by first | decide | omega) (by first | decide | omega) | exact opv_indexAddrSN rfl rfl (by omega) (by assumption) (by first | rfl | omega) | exact opv_indexAddrS rfl rfl (by omega) (by omega) (by assumption) (by first | rfl | omega) | exact opv_indexAddrE rfl (by assumption) (by omega) rfl (by first | decide | omega) (by first | decide | omega) | exact opv_indexAddrRN rfl rfl (by omega) | exact opv_indexAddrR rfl rfl (by omega) (by omega) | exact opv_indexAddrRA rfl (by omega) rfl (by first | decide | omega) (by first | decide | omega) | exact opv_indexAddrSP rfl rfl (by omega) (by omega)) rfl ?_
  refine tri_v (by first | exact opv_load1 rfl rfl rfl | exact opv_loadA rfl rfl rfl | exact opv_loadE1 rfl (by assumption) rfl (by omega) rfl rfl | exact opv_loadEA rfl (by assumption) rfl (by omega) rfl rfl | exact opv_loadRX1 rfl rfl (by omega) rfl rfl | exact opv_loadRXA rfl rfl (by omega) rfl rfl rfl | exact opv_loadIX rfl rfl (by omega) | exact opv_loadR1 rfl rfl rfl | exact opv_loadRA rfl rfl rfl rfl) rfl ?_
  refine tA rfl rfl (tN (tT (tS (tS (tR (tM rfl rfl ?_))))))
  refine tri_v (opv_lss rfl rfl) rfl ?_
  refine tN (tT ?_)
  refine tri_cond_dec rfl (fun h3 => ?_) (fun h3 => ?_)
  ·have e : pk (picks.getD n default) W = -(picks.getD n default + 1) % W := by unfold pk; rw [if_pos h3]
   rw [hkk] at e
   refine tR (tM rfl rfl ?_)
   refine tri_v (by first | exact opv_add rfl rfl (w64 (by omega) (by omega))) rfl ?_
   refine tri_v (by first | exact opv_negE rfl (by omega) (by omega)) rfl ?_
   refine tA rfl rfl (tN (tT (tS (tR (tM rfl rfl (tM rfl rfl ?_))))))
   refine tri_v (by first | exact opv_remE rfl rfl (by omega) (by omega) | exact opv_rem rfl rfl (by omega) rfl) rfl ?_
   refine tA rfl rfl (tN (tT (tS (tR (tA rfl rfl (tN (tT ?_)))))))
   refine tri_block ?_
   refine tri_sub (F' := [(2, .slice a2 W cap2), (11, .int .i64 (kk - ((0 : Nat) : Int))), (12, .int .i64 ((0 : Nat) : Int))]) ⟨rfl, congrArg (fun x => some (Value.int .i64 x)) (by rw [e]; omega), rfl, trivial⟩ ?_
   refine loop_ind (G := Nat) (fun i => W - i) (fun i => (i : Int) ≤ kk) (fun i => [(2, .slice a2 W cap2), (11, .int .i64 (kk - (i : Nat))), (12, .int .i64 (i : Nat))]) (fun _ => _) (fun _ => _) ?_ 0 (by omega)
   rintro i hi K hK
   have e1 := ones_at (W := W) (i := i) (by omega)
   have e2 : (List.replicate W (1 : Int)).getD (i : Int).toNat default = 1 := e1
   skip
   refine tS (tS (tR (tM rfl rfl (tM rfl rfl ?_))))
   refine tri_v (opv_len rfl) rfl ?_
   refine tri_v (opv_lss rfl rfl) rfl ?_
   refine tN (tT ?_)
   refine tri_cond_is rfl ((by omega)) ?_
   refine tri_skip (tT (tS (tri_block (tS (tS (tR (tM rfl rfl ?_)))))))
   refine tM rfl rfl ?_
   refine tri_v (by first | exact opv_indexAddrA rfl rfl (by first | decide | omega) (by first | decide | omega) | exact opv_indexAddrSN rfl rfl (by omega) (by assumption) (by first | rfl | omega) | exact opv_indexAddrS rfl rfl (by omega) (by omega) (by assumption) (by first | rfl | omega) | exact opv_indexAddrE rfl (by assumption) (by omega) rfl (by first | decide | omega) (by first | decide | omega) | exact opv_indexAddrRN rfl rfl (by omega) | exact opv_indexAddrR rfl rfl (by omega) (by omega) | exact opv_indexAddrRA rfl (by omega) rfl (by first | decide | omega) (by first | decide | omega) | exact opv_indexAddrSP rfl rfl (by omega) (by omega)) rfl ?_
   refine tri_v (by first | exact opv_load1 rfl rfl rfl | exact opv_loadA rfl rfl rfl | exact opv_loadE1 rfl (by assumption) rfl (by omega) rfl rfl | exact opv_loadEA rfl (by assumption) rfl (by omega) rfl rfl | exact opv_loadRX1 rfl rfl (by omega) rfl rfl | exact opv_loadRXA rfl rfl (by omega) rfl rfl rfl | exact opv_loadIX rfl rfl (by omega) | exact opv_loadR1 rfl rfl rfl | exact opv_loadRA rfl rfl rfl rfl) rfl ?_
   refine tri_v (opv_leq rfl rfl) rfl ?_
   refine tN (tT ?_)
   try rw [e2]
   try rw [e1]
   refine tri_cond_not rfl ((by omega)) ?_
   refine tri_skip (tT (tS (tS (tR (tM rfl rfl ?_)))))
   refine tri_v (by first | exact opv_eql rfl rfl | exact opv_eqlI rfl rfl rfl rfl rfl rfl | exact opv_eqlB rfl rfl | exact opv_eqlNil rfl rfl) rfl ?_
   refine tN (tT ?_)
   refine tri_cond_dec rfl (fun h4 => ?_) (fun h4 => ?_)
   ·refine tS (tR (tM rfl rfl (tA rfl rfl (tN (tT (tri_ret (tri_then_ret ?_)))))))
    refine tri_inBlock_ret ?_
    refine tri_then_ret (tri_then_ret ?_)
    refine tri_inBlock_ret ?_
    refine tri_then_ret ?_
    refine tri_end _ (by first | exact ⟨[], rfl⟩ | exact ⟨[_], rfl⟩ | exact ⟨[_, _], rfl⟩ | exact ⟨[_, _, _], rfl⟩ | exact ⟨[_, _, _, _], rfl⟩ | exact ⟨[_, _, _, _, _], rfl⟩ | exact ⟨[_, _, _, _, _, _], rfl⟩ | exact ⟨[_, _, _, _, _, _, _], rfl⟩ | exact ⟨[_, _, _, _, _, _, _, _], rfl⟩) rfl (.cons (rv_tmp rfl) .nil) ⟨?_, rfl, rfl⟩
    exact congrArg (Value.int .i64) (by omega)
   ·refine tri_skip (tT (tR (tM rfl rfl ?_)))
    refine tri_v (by first | exact opv_sub rfl rfl (w64 (by omega) (by omega)) | exact opv_sub rfl rfl rfl) rfl ?_
    refine tA rfl rfl (tN ?_)
    refine tri_inBlock ?_
    refine tT (tR (tM rfl rfl ?_))
    refine tri_v (by first | exact opv_add rfl rfl (w64 (by omega) (by omega))) rfl ?_
    refine tA rfl rfl (tN (tT ?_))
    refine tri_sub ?_ (hK (i + 1) (by omega) (by omega))
    exact ⟨rfl, congrArg (fun x => some (Value.int .i64 x)) (by omega), rfl, trivial⟩
  ·have e : pk (picks.getD n default) W = picks.getD n default % W := by unfold pk; rw [if_neg h3]
   rw [hkk] at e
   refine tri_skip (tT (tS (tR (tM rfl rfl (tM rfl rfl ?_)))))
   refine tri_v (by first | exact opv_remE rfl rfl (by omega) (by omega) | exact opv_rem rfl rfl (by omega) rfl) rfl ?_
   refine tA rfl rfl (tN (tT (tS (tR (tA rfl rfl (tN (tT ?_)))))))
   refine tri_block ?_
   refine tri_sub (F' := [(2, .slice a2 W cap2), (11, .int .i64 (kk - ((0 : Nat) : Int))), (12, .int .i64 ((0 : Nat) : Int))]) ⟨rfl, congrArg (fun x => some (Value.int .i64 x)) (by rw [e]; omega), rfl, trivial⟩ ?_
   refine loop_ind (G := Nat) (fun i => W - i) (fun i => (i : Int) ≤ kk) (fun i => [(2, .slice a2 W cap2), (11, .int .i64 (kk - (i : Nat))), (12, .int .i64 (i : Nat))]) (fun _ => _) (fun _ => _) ?_ 0 (by omega)
   rintro i hi K hK
   have e1 := ones_at (W := W) (i := i) (by omega)
   have e2 : (List.replicate W (1 : Int)).getD (i : Int).toNat default = 1 := e1
   skip
   refine tS (tS (tR (tM rfl rfl (tM rfl rfl ?_))))
   refine tri_v (opv_len rfl) rfl ?_
   refine tri_v (opv_lss rfl rfl) rfl ?_
   refine tN (tT ?_)
   refine tri_cond_is rfl ((by omega)) ?_
   refine tri_skip (tT (tS (tri_block (tS (tS (tR (tM rfl rfl ?_)))))))
   refine tM rfl rfl ?_
   refine tri_v (by first | exact opv_indexAddrA rfl rfl (by first | decide | omega) (by first | decide | omega) | exact opv_indexAddrSN rfl rfl (by omega) (by assumption) (by first | rfl | omega) | exact opv_indexAddrS rfl rfl (by omega) (by omega) (by assumption) (by first | rfl | omega) | exact opv_indexAddrE rfl (by assumption) (by omega) rfl (by first | decide | omega) (by first | decide | omega) | exact opv_indexAddrRN rfl rfl (by omega) | exact opv_indexAddrR rfl rfl (by omega) (by omega) | exact opv_indexAddrRA rfl (by omega) rfl (by first | decide | omega) (by first | decide | omega) | exact opv_indexAddrSP rfl rfl (by omega) (by omega)) rfl ?_
   refine tri_v (by first | exact opv_load1 rfl rfl rfl | exact opv_loadA rfl rfl rfl | exact opv_loadE1 rfl (by assumption) rfl (by omega) rfl rfl | exact opv_loadEA rfl (by assumption) rfl (by omega) rfl rfl | exact opv_loadRX1 rfl rfl (by omega) rfl rfl | exact opv_loadRXA rfl rfl (by omega) rfl rfl rfl | exact opv_loadIX rfl rfl (by omega) | exact opv_loadR1 rfl rfl rfl | exact opv_loadRA rfl rfl rfl rfl) rfl ?_
   refine tri_v (opv_leq rfl rfl) rfl ?_
   refine tN (tT ?_)
   try rw [e2]
   try rw [e1]
   refine tri_cond_not rfl ((by omega)) ?_
   refine tri_skip (tT (tS (tS (tR (tM rfl rfl ?_)))))
   refine tri_v (by first | exact opv_eql rfl rfl | exact opv_eqlI rfl rfl rfl rfl rfl rfl | exact opv_eqlB rfl rfl | exact opv_eqlNil rfl rfl) rfl ?_
   refine tN (tT ?_)
   refine tri_cond_dec rfl (fun h4 => ?_) (fun h4 => ?_)
   ·refine tS (tR (tM rfl rfl (tA rfl rfl (tN (tT (tri_ret (tri_then_ret ?_)))))))
    refine tri_inBlock_ret ?_
    refine tri_then_ret (tri_then_ret ?_)
    refine tri_inBlock_ret ?_
    refine tri_then_ret ?_
    refine tri_end _ (by first | exact ⟨[], rfl⟩ | exact ⟨[_], rfl⟩ | exact ⟨[_, _], rfl⟩ | exact ⟨[_, _, _], rfl⟩ | exact ⟨[_, _, _, _], rfl⟩ | exact ⟨[_, _, _, _, _], rfl⟩ | exact ⟨[_, _, _, _, _, _], rfl⟩ | exact ⟨[_, _, _, _, _, _, _], rfl⟩ | exact ⟨[_, _, _, _, _, _, _, _], rfl⟩) rfl (.cons (rv_tmp rfl) .nil) ⟨?_, rfl, rfl⟩
    exact congrArg (Value.int .i64) (by omega)
   ·refine tri_skip (tT (tR (tM rfl rfl ?_)))
    refine tri_v (by first | exact opv_sub rfl rfl (w64 (by omega) (by omega)) | exact opv_sub rfl rfl rfl) rfl ?_
    refine tA rfl rfl (tN ?_)
    refine tri_inBlock ?_
    refine tT (tR (tM rfl rfl ?_))
    refine tri_v (by first | exact opv_add rfl rfl (w64 (by omega) (by omega))) rfl ?_
    refine tA rfl rfl (tN (tT ?_))
    refine tri_sub ?_ (hK (i + 1) (by omega) (by omega))
    exact ⟨rfl, congrArg (fun x => some (Value.int .i64 x)) (by omega), rfl, trivial⟩
 ·rw [R19.nxt_round hW1 (by omega) h0 h1]
  obtain ⟨m, hm, hmW⟩ : ∃ m : Nat, (if 0 ≤ last then last + 1 else 0) = (m : Int) ∧ m ≤ W := ⟨(last + 1).toNat, by split <;> omega, by omega⟩
  have hml : m % W < W := Nat.mod_lt _ (by omega)
  have hres : (if last + 1 < W then last + 1 else 0) = ((m % W : Nat) : Int) := by
   have hm2 : last + 1 = (m : Int) := by split at hm <;> omega
   by_cases e : m < W
   ·rw [if_pos (by omega), Nat.mod_eq_of_lt e]
    omega
   ·obtain rfl : m = W := by omega
    rw [if_neg (by omega), Nat.mod_self]
    rfl
  have e1 := ones_at hml
  have e2 : (List.replicate W (1 : Int)).getD ((m % W : Nat) : Int).toNat default = 1 := e1
  refine tri_skip (tT (tS (tR (tA rfl rfl (tN (tT (tS ?_)))))))
  refine tS (tR (tM rfl rfl ?_))
  refine tri_v (opv_geq rfl rfl) rfl ?_
  refine tM rfl rfl ?_
  refine tri_split rfl rfl (fun h3 => ?_) (fun h3 => ?_)
  ·rw [if_pos h3] at hm
   refine tri_guard_run rfl rfl rfl (tM rfl rfl (tri_guard_run rfl rfl rfl (tM rfl rfl (tri_guard_run rfl rfl rfl ?_))))
   refine tri_v (opv_len rfl) rfl ?_
   refine tri_guard_run rfl rfl rfl ?_
   refine tri_v (opv_lss rfl rfl) rfl ?_
   refine tri_v (by first | exact opv_pick_t rfl rfl | exact opv_pick_f rfl rfl | exact opv_pick_bool rfl rfl rfl | exact opv_pick rfl rfl rfl) rfl ?_
   refine tN (tT ?_)
   refine tri_cond_is rfl ((by omega)) ?_
   refine tR (tM rfl rfl ?_)
   refine tri_v (by first | exact opv_add rfl rfl (w64 (by omega) (by omega))) rfl ?_
   refine tA rfl rfl (tN (tT (tS (tS (tR (tA rfl rfl (tN ?_)))))))
   refine tT (tri_block ?_)
   refine tri_sub (F' := [(2, .slice a2 W cap2), (13, .int .i64 ((m : Nat) : Int)), (14, .int .i64 ((0 : Nat) : Int))]) ⟨rfl, by rw [← hm]; rfl, rfl, trivial⟩ ?_
   skip
   refine tri_rounds 1 ?_
   refine tri_round ?_
   refine tS (tS (tR (tM rfl rfl (tM rfl rfl ?_))))
   refine tri_v (opv_len rfl) rfl ?_
   refine tri_v (by first | exact opv_mul rfl rfl (w64 (by omega) (by omega)) | exact opv_mul rfl rfl (by assumption)) rfl ?_
   refine tri_v (opv_lss rfl rfl) rfl ?_
   refine tN (tT ?_)
   refine tri_cond_is rfl ((by omega)) ?_
   refine tri_skip (tT (tS (tri_block (tS (tR (tM rfl rfl (tM rfl rfl ?_)))))))
   refine tri_v (by first | exact opv_add rfl rfl (w64 (by omega) (by omega))) rfl ?_
   refine tM rfl rfl ?_
   refine tri_v (opv_len rfl) rfl ?_
   refine tri_v (opv_remN (a := m + 0) (z := m % W) rfl rfl (by omega) rfl) rfl ?_
   refine tA rfl rfl (tN (tT (tS (tR (tM rfl rfl (tM rfl rfl ?_))))))
   refine tri_v (by first | exact opv_indexAddrA rfl rfl (by first | decide | omega) (by first | decide | omega) | exact opv_indexAddrSN rfl rfl (by omega) (by assumption) (by first | rfl | omega) | exact opv_indexAddrS rfl rfl (by omega) (by omega) (by assumption) (by first | rfl | omega) | exact opv_indexAddrE rfl (by assumption) (by omega) rfl (by first | decide | omega) (by first | decide | omega) | exact opv_indexAddrRN rfl rfl (by omega) | exact opv_indexAddrR rfl rfl (by omega) (by omega) | exact opv_indexAddrRA rfl (by omega) rfl (by first | decide | omega) (by first | decide | omega) | exact opv_indexAddrSP rfl rfl (by omega) (by omega)) rfl ?_
   refine tri_v (by first | exact opv_load1 rfl rfl rfl | exact opv_loadA rfl rfl rfl | exact opv_loadE1 rfl (by assumption) rfl (by omega) rfl rfl | exact opv_loadEA rfl (by assumption) rfl (by omega) rfl rfl | exact opv_loadRX1 rfl rfl (by omega) rfl rfl | exact opv_loadRXA rfl rfl (by omega) rfl rfl rfl | exact opv_loadIX rfl rfl (by omega) | exact opv_loadR1 rfl rfl rfl | exact opv_loadRA rfl rfl rfl rfl) rfl ?_
   refine tri_v (opv_gtr rfl rfl) rfl ?_
   refine tN (tT ?_)
   try rw [e2]
   try rw [e1]
   refine tri_cond_is rfl ((by omega)) ?_
   refine tS (tR (tM rfl rfl (tA rfl rfl (tN (tT (tri_ret ?_))))))
   refine tri_inBlock_ret ?_
   refine tri_then_ret (tri_then_ret ?_)
   refine tri_inBlock_ret ?_
   refine tri_then_ret ?_
   refine tri_end _ (by first | exact ⟨[], rfl⟩ | exact ⟨[_], rfl⟩ | exact ⟨[_, _], rfl⟩ | exact ⟨[_, _, _], rfl⟩ | exact ⟨[_, _, _, _], rfl⟩ | exact ⟨[_, _, _, _, _], rfl⟩ | exact ⟨[_, _, _, _, _, _], rfl⟩ | exact ⟨[_, _, _, _, _, _, _], rfl⟩ | exact ⟨[_, _, _, _, _, _, _, _], rfl⟩) rfl (.cons (rv_tmp rfl) .nil) ⟨congrArg (Value.int .i64) hres.symm, rfl, rfl⟩
  ·rw [if_neg h3] at hm
   refine tri_guard_skip rfl rfl rfl rfl (tri_guard_skip rfl rfl rfl rfl (tri_guard_skip rfl rfl rfl rfl (tri_guard_skip rfl rfl rfl rfl ?_)))
   refine tri_v (by first | exact opv_pick_t rfl rfl | exact opv_pick_f rfl rfl | exact opv_pick_bool rfl rfl rfl | exact opv_pick rfl rfl rfl) rfl ?_
   refine tN (tT ?_)
   refine tri_cond_false rfl ?_
   refine tri_skip (tT (tS (tS (tR (tA rfl rfl (tN (tT ?_)))))))
   refine tri_block ?_
   refine tri_sub (F' := [(2, .slice a2 W cap2), (13, .int .i64 ((m : Nat) : Int)), (14, .int .i64 ((0 : Nat) : Int))]) ⟨rfl, by rw [← hm]; rfl, rfl, trivial⟩ ?_
   skip
   refine tri_rounds 1 ?_
   refine tri_round ?_
   refine tS (tS (tR (tM rfl rfl (tM rfl rfl ?_))))
   refine tri_v (opv_len rfl) rfl ?_
   refine tri_v (by first | exact opv_mul rfl rfl (w64 (by omega) (by omega)) | exact opv_mul rfl rfl (by assumption)) rfl ?_
   refine tri_v (opv_lss rfl rfl) rfl ?_
   refine tN (tT ?_)
   refine tri_cond_is rfl ((by omega)) ?_
   refine tri_skip (tT (tS (tri_block (tS (tR (tM rfl rfl (tM rfl rfl ?_)))))))
   refine tri_v (by first | exact opv_add rfl rfl (w64 (by omega) (by omega))) rfl ?_
   refine tM rfl rfl ?_
   refine tri_v (opv_len rfl) rfl ?_
   refine tri_v (opv_remN (a := m + 0) (z := m % W) rfl rfl (by omega) rfl) rfl ?_
   refine tA rfl rfl (tN (tT (tS (tR (tM rfl rfl (tM rfl rfl ?_))))))
   refine tri_v (by first | exact opv_indexAddrA rfl rfl (by first | decide | omega) (by first | decide | omega) | exact opv_indexAddrSN rfl rfl (by omega) (by assumption) (by first | rfl | omega) | exact opv_indexAddrS rfl rfl (by omega) (by omega) (by assumption) (by first | rfl | omega) | exact opv_indexAddrE rfl (by assumption) (by omega) rfl (by first | decide | omega) (by first | decide | omega) | exact opv_indexAddrRN rfl rfl (by omega) | exact opv_indexAddrR rfl rfl (by omega) (by omega) | exact opv_indexAddrRA rfl (by omega) rfl (by first | decide | omega) (by first | decide | omega) | exact opv_indexAddrSP rfl rfl (by omega) (by omega)) rfl ?_
   refine tri_v (by first | exact opv_load1 rfl rfl rfl | exact opv_loadA rfl rfl rfl | exact opv_loadE1 rfl (by assumption) rfl (by omega) rfl rfl | exact opv_loadEA rfl (by assumption) rfl (by omega) rfl rfl | exact opv_loadRX1 rfl rfl (by omega) rfl rfl | exact opv_loadRXA rfl rfl (by omega) rfl rfl rfl | exact opv_loadIX rfl rfl (by omega) | exact opv_loadR1 rfl rfl rfl | exact opv_loadRA rfl rfl rfl rfl) rfl ?_
   refine tri_v (opv_gtr rfl rfl) rfl ?_
   refine tN (tT ?_)
   try rw [e2]
   try rw [e1]
   refine tri_cond_is rfl ((by omega)) ?_
   refine tS (tR (tM rfl rfl (tA rfl rfl (tN (tT (tri_ret ?_))))))
   refine tri_inBlock_ret ?_
   refine tri_then_ret (tri_then_ret ?_)
   refine tri_inBlock_ret ?_
   refine tri_then_ret ?_
   refine tri_end _ (by first | exact ⟨[], rfl⟩ | exact ⟨[_], rfl⟩ | exact ⟨[_, _], rfl⟩ | exact ⟨[_, _, _], rfl⟩ | exact ⟨[_, _, _, _], rfl⟩ | exact ⟨[_, _, _, _, _], rfl⟩ | exact ⟨[_, _, _, _, _, _], rfl⟩ | exact ⟨[_, _, _, _, _, _, _], rfl⟩ | exact ⟨[_, _, _, _, _, _, _, _], rfl⟩) rfl (.cons (rv_tmp rfl) .nil) ⟨congrArg (Value.int .i64) hres.symm, rfl, rfl⟩
end Go.GL

set_option linter.unusedVariables false
namespace Go.GL
open Go.Proofs
attribute [local irreducible] wpList Code.wp Exit.then Exit.inBlock Ends Tri TriH OpV OpG FnC epf wpAnyH
variable {A : List Asrt} {I : List Chunk}
set_option maxHeartbeats 2000000 in
set_option maxRecDepth 100000 in
theorem ref19_take {c b w W : Nat} {ss : List Sl} {D : List (List Int)} {y0 y2 y3 y4 y5 y6 y7 y8 : Value} (hWD : D.length = W) (hd : Dqs I ss D) (hn : D.length ≤ 1000) (hw : w < D.length) (hb : ∀ k, k < D.length → (D.getD k default).length ≤ 1000) :
  FnC Try.prog 26 [pt c 0, .int .i64 (w : Int)].toArray (Row (some ⟨b, 0, none⟩) W W 22 1 (encs ss) :: Box c [y0, .slice (some ⟨b, 0, none⟩) W W, y2, y3, y4, y5, y6, y7, y8] 57 :: A) I
   (fun v A' I' => ∃ ss', v = .int .i64 (R19.takeM D w).1 ∧ Row (some ⟨b, 0, none⟩) W W 22 1 (encs ss') :: Box c [y0, .slice (some ⟨b, 0, none⟩) W W, y2, y3, y4, y5, y6, y7, y8] 57 :: A = A' ∧ Dqs I ss' (R19.takeM D w).2 ∧ I = I') := by
 subst hWD
 have hsl := hd.len
 obtain ⟨hs, hl⟩ := hd.at_ w hw
 have hbw := hb w hw
 skip
 refine fn_enter2 Try.func26 rfl Try.ntmps26 rfl fun w0 => ?_
 refine tS (tR (tA rfl rfl (tN (tT (tS (tR (tM rfl rfl ?_)))))))
 refine tri_v (by first | exact opv_nilCheckE rfl | exact opv_nilCheck rfl) rfl ?_
 refine tri_v (by first | exact opv_fieldAddr rfl rfl | exact opv_fieldAddrE rfl (by assumption) (by omega) rfl | exact opv_fieldAddrR rfl (by omega) rfl | exact opv_fieldAddrP rfl rfl rfl) rfl ?_
 refine tri_v (by first | exact opv_load1 rfl rfl rfl | exact opv_loadA rfl rfl rfl | exact opv_loadE1 rfl (by assumption) rfl (by omega) rfl rfl | exact opv_loadEA rfl (by assumption) rfl (by omega) rfl rfl | exact opv_loadRX1 rfl rfl (by omega) rfl rfl | exact opv_loadRXA rfl rfl (by omega) rfl rfl rfl | exact opv_loadIX rfl rfl (by omega) | exact opv_loadR1 rfl rfl rfl | exact opv_loadRA rfl rfl rfl rfl) rfl ?_
 refine tM rfl rfl ?_
 refine tri_v (by first | exact opv_indexAddrA rfl rfl (by first | decide | omega) (by first | decide | omega) | exact opv_indexAddrSN rfl rfl (by omega) (by assumption) (by first | rfl | omega) | exact opv_indexAddrS rfl rfl (by omega) (by omega) (by assumption) (by first | rfl | omega) | exact opv_indexAddrE rfl (by assumption) (by omega) rfl (by first | decide | omega) (by first | decide | omega) | exact opv_indexAddrRN rfl rfl (by omega) | exact opv_indexAddrR rfl rfl (by omega) (by omega) | exact opv_indexAddrRA rfl (by omega) rfl (by first | decide | omega) (by first | decide | omega) | exact opv_indexAddrSP rfl rfl (by omega) (by omega)) rfl ?_
 refine tri_v (by first | exact opv_load1 rfl rfl rfl | exact opv_loadA rfl rfl rfl | exact opv_loadE1 rfl (by assumption) rfl (by omega) rfl rfl | exact opv_loadEA rfl (by assumption) rfl (by omega) rfl rfl | exact opv_loadRX1 rfl rfl (by omega) rfl rfl | exact opv_loadRXA rfl rfl (by omega) rfl rfl rfl | exact opv_loadIX rfl rfl (by omega) | exact opv_loadR1 rfl rfl rfl | exact opv_loadRA rfl rfl rfl rfl) rfl ?_
 refine tA rfl rfl (tN (tT (tS (tS (tR (tM rfl rfl ?_))))))
 refine tri_v (opv_len rfl) rfl ?_
 refine tri_v (opv_gtr rfl rfl) rfl ?_
 refine tN (tT ?_)
 rw [hl]
 refine tri_cond_dec rfl (fun h => ?_) (fun h => ?_)
 ·have em : R19.takeM D w = ((D.getD w default).getD ((D.getD w default).length - 1) default, D.set w ((D.getD w default).take ((D.getD w default).length - 1))) := if_pos (by omega)
  rw [em]
  have sc := hs.sl
  have e1 : (((D.getD w default).length : Int) - 1).toNat = (D.getD w default).length - 1 := by omega
  skip
  skip
  skip
  refine tS ?_
  refine tri_draw [0, 1, 2, 3, 4, 5, 6, 7, 8, 9, 10, 11] rfl [_] rfl mixed ?_
  refine th_take rfl rfl (by kernel_rfl)  (opv_move rfl) ?_
  refine th_take rfl rfl (by kernel_rfl)  (by first | exact opv_nilCheckE rfl | exact opv_nilCheck rfl) ?_
  refine th_take rfl rfl (by kernel_rfl)  (by first | exact opv_fieldAddr rfl rfl | exact opv_fieldAddrE rfl (by assumption) (by omega) rfl | exact opv_fieldAddrR rfl (by omega) rfl | exact opv_fieldAddrP rfl rfl rfl) ?_
  refine th_take rfl rfl (by kernel_rfl)  (by first | exact opv_load1 rfl rfl rfl | exact opv_loadA rfl rfl rfl | exact opv_loadE1 rfl (by assumption) rfl (by omega) rfl rfl | exact opv_loadEA rfl (by assumption) rfl (by omega) rfl rfl | exact opv_loadRX1 rfl rfl (by omega) rfl rfl | exact opv_loadRXA rfl rfl (by omega) rfl rfl rfl | exact opv_loadIX rfl rfl (by omega) | exact opv_loadR1 rfl rfl rfl | exact opv_loadRA rfl rfl rfl rfl) ?_
  refine th_take rfl rfl (by kernel_rfl)  (opv_move rfl) ?_
  refine th_take rfl rfl (by kernel_rfl)  (opv_move rfl) ?_
  refine th_take rfl rfl (by kernel_rfl)  (opv_move rfl) ?_
  refine th_take rfl rfl (by kernel_rfl)  (opv_len rfl) ?_
  refine th_take rfl rfl (by kernel_rfl)  (by first | exact opv_sub rfl rfl (w64 (by omega) (by omega)) | exact opv_sub rfl rfl rfl) ?_
  refine th_take rfl rfl (by kernel_rfl)  (opv_sliceHi rfl rfl (by omega) (by omega) hs rfl) ?_
  refine th_take rfl rfl (by kernel_rfl)  (by first | exact opv_indexAddrA rfl rfl (by first | decide | omega) (by first | decide | omega) | exact opv_indexAddrSN rfl rfl (by omega) (by assumption) (by first | rfl | omega) | exact opv_indexAddrS rfl rfl (by omega) (by omega) (by assumption) (by first | rfl | omega) | exact opv_indexAddrE rfl (by assumption) (by omega) rfl (by first | decide | omega) (by first | decide | omega) | exact opv_indexAddrRN rfl rfl (by omega) | exact opv_indexAddrR rfl rfl (by omega) (by omega) | exact opv_indexAddrRA rfl (by omega) rfl (by first | decide | omega) (by first | decide | omega) | exact opv_indexAddrSP rfl rfl (by omega) (by omega)) ?_
  rw [e1]
  refine th_one (by kernel_rfl) (step_m rfl rfl (opg_storeRX (⟨(ss.getD w default).a, ((D.getD w default).take ((D.getD w default).length - 1)).length, (ss.getD w default).cap⟩ : Sl) rfl rfl rfl (by omega) (by omega) rfl rfl rfl rfl) ?_)
  rintro _ _ _ ⟨rfl, rfl⟩
  refine ⟨Suf.h, (by first | exact fun _ h => h | assumption | exact fun _ h => (by assumption : _ ⊆ _) ((by assumption : _ ⊆ _) h)), ?_⟩
  refine th_done (by kernel_rfl) ?_
  refine tT (tS (tR (tM rfl rfl (tM rfl rfl ?_))))
  refine tri_v (opv_len rfl) rfl ?_
  refine tri_v (by first | exact opv_sub rfl rfl (w64 (by omega) (by omega)) | exact opv_sub rfl rfl rfl) rfl ?_
  refine tri_v (by first | exact opv_indexAddrA rfl rfl (by first | decide | omega) (by first | decide | omega) | exact opv_indexAddrSN rfl rfl (by omega) (by assumption) (by first | rfl | omega) | exact opv_indexAddrS rfl rfl (by omega) (by omega) (by assumption) (by first | rfl | omega) | exact opv_indexAddrE rfl (by assumption) (by omega) rfl (by first | decide | omega) (by first | decide | omega) | exact opv_indexAddrRN rfl rfl (by omega) | exact opv_indexAddrR rfl rfl (by omega) (by omega) | exact opv_indexAddrRA rfl (by omega) rfl (by first | decide | omega) (by first | decide | omega) | exact opv_indexAddrSP rfl rfl (by omega) (by omega)) rfl ?_
  refine tri_v (by first | exact opv_load1 rfl rfl rfl | exact opv_loadA rfl rfl rfl | exact opv_loadE1 rfl (by assumption) rfl (by omega) rfl rfl | exact opv_loadEA rfl (by assumption) rfl (by omega) rfl rfl | exact opv_loadRX1 rfl rfl (by omega) rfl rfl | exact opv_loadRXA rfl rfl (by omega) rfl rfl rfl | exact opv_loadIX rfl rfl (by omega) | exact opv_loadR1 rfl rfl rfl | exact opv_loadRA rfl rfl rfl rfl) rfl ?_
  refine tA rfl rfl (tN (tT (tri_ret (tri_then_ret ?_))))
  try rw [e1]
  refine tri_end _ (by first | exact ⟨[], rfl⟩ | exact ⟨[_], rfl⟩ | exact ⟨[_, _], rfl⟩ | exact ⟨[_, _, _], rfl⟩ | exact ⟨[_, _, _, _], rfl⟩ | exact ⟨[_, _, _, _, _], rfl⟩ | exact ⟨[_, _, _, _, _, _], rfl⟩ | exact ⟨[_, _, _, _, _, _, _], rfl⟩ | exact ⟨[_, _, _, _, _, _, _, _], rfl⟩) rfl (.cons (rv_tmp rfl) .nil) ⟨_, rfl, rfl, hd.set (s := ⟨(ss.getD w default).a, ((D.getD w default).take ((D.getD w default).length - 1)).length, (ss.getD w default).cap⟩) ?_ rfl, rfl⟩
  exact ⟨hs.sl.take _, Nat.le_trans (by rw [List.length_take]; exact Nat.min_le_right _ _) hs.le⟩
 ·have em : R19.takeM D w = match R19.findF D w D.length 0 with
    | some k => ((D.getD k default).getD 0 default, D.set k ((D.getD k default).drop 1))
    | none => (-1, D) := if_neg (by omega)
  rw [em]
  have hf0 : R19.findF D w D.length 0 = R19.findF D w (D.length - 1) 1 := by
   obtain ⟨m, hm⟩ : ∃ m, D.length = m + 1 := ⟨D.length - 1, by omega⟩
   rw [show R19.findF D w D.length 0 = R19.findF D w (m + 1) 0 by rw [hm], show D.length - 1 = m by omega]
   show (if (D.getD ((w + 0) % D.length) default).length = 0 then _ else _) = _
   rw [if_pos]
   rw [Nat.add_zero, Nat.mod_eq_of_lt hw]
   omega
  skip
  skip
  refine tri_skip (tT (tS (tS (tR (tA rfl rfl (tN (tT ?_)))))))
  refine tri_block ?_
  refine tri_sub (F' := [(0, pt c 0), (1, .int .i64 (w : Int)), (6, .int .i64 ((1 : Nat) : Int))]) ⟨rfl, rfl, rfl, trivial⟩ ?_
  refine loop_ind (G := Nat) (fun i => D.length - i) (fun i => i ≤ D.length ∧ R19.findF D w D.length 0 = R19.findF D w (D.length - i) i) (fun i => [(0, pt c 0), (1, .int .i64 (w : Int)), (6, .int .i64 (i : Nat))]) (fun _ => _) (fun _ => _) ?_ 1 ⟨by omega, hf0⟩
  rintro i ⟨hi, hf⟩ K hK
  skip
  refine tS (tS (tR (tM rfl rfl (tM rfl rfl ?_))))
  refine tri_v (by first | exact opv_nilCheckE rfl | exact opv_nilCheck rfl) rfl ?_
  refine tri_v (by first | exact opv_fieldAddr rfl rfl | exact opv_fieldAddrE rfl (by assumption) (by omega) rfl | exact opv_fieldAddrR rfl (by omega) rfl | exact opv_fieldAddrP rfl rfl rfl) rfl ?_
  refine tri_v (by first | exact opv_load1 rfl rfl rfl | exact opv_loadA rfl rfl rfl | exact opv_loadE1 rfl (by assumption) rfl (by omega) rfl rfl | exact opv_loadEA rfl (by assumption) rfl (by omega) rfl rfl | exact opv_loadRX1 rfl rfl (by omega) rfl rfl | exact opv_loadRXA rfl rfl (by omega) rfl rfl rfl | exact opv_loadIX rfl rfl (by omega) | exact opv_loadR1 rfl rfl rfl | exact opv_loadRA rfl rfl rfl rfl) rfl ?_
  refine tri_v (opv_len rfl) rfl ?_
  refine tri_v (opv_lss rfl rfl) rfl ?_
  refine tN (tT ?_)
  refine tri_cond_dec rfl (fun h2 => ?_) (fun h2 => ?_)
  ·have hil : i < D.length := by omega
   obtain ⟨k, ek⟩ : ∃ k, (w + i) % D.length = k := ⟨_, rfl⟩
   have hk : k < D.length := by rw [← ek]; exact Nat.mod_lt _ (by omega)
   obtain ⟨hsk, hlk⟩ := hd.at_ k hk
   have hbk := hb k hk
   have hfs : R19.findF D w (D.length - i) i = if (D.getD k default).length = 0 then R19.findF D w (D.length - (i + 1)) (i + 1) else some k := by
    rw [show D.length - i = (D.length - (i + 1)) + 1 by omega]
    show (if (D.getD ((w + i) % D.length) default).length = 0 then _ else _) = _
    rw [ek]
   refine tri_skip (tT (tS (tri_block (tS (tR (tM rfl rfl (tM rfl rfl ?_)))))))
   refine tri_v (by first | exact opv_add rfl rfl (w64 (by omega) (by omega))) rfl ?_
   refine tM rfl rfl ?_
   refine tri_v (by first | exact opv_nilCheckE rfl | exact opv_nilCheck rfl) rfl ?_
   refine tri_v (by first | exact opv_fieldAddr rfl rfl | exact opv_fieldAddrE rfl (by assumption) (by omega) rfl | exact opv_fieldAddrR rfl (by omega) rfl | exact opv_fieldAddrP rfl rfl rfl) rfl ?_
   refine tri_v (by first | exact opv_load1 rfl rfl rfl | exact opv_loadA rfl rfl rfl | exact opv_loadE1 rfl (by assumption) rfl (by omega) rfl rfl | exact opv_loadEA rfl (by assumption) rfl (by omega) rfl rfl | exact opv_loadRX1 rfl rfl (by omega) rfl rfl | exact opv_loadRXA rfl rfl (by omega) rfl rfl rfl | exact opv_loadIX rfl rfl (by omega) | exact opv_loadR1 rfl rfl rfl | exact opv_loadRA rfl rfl rfl rfl) rfl ?_
   refine tri_v (opv_len rfl) rfl ?_
   refine tri_v (opv_remN (a := w + i) (z := k) rfl rfl (by omega) ek) rfl ?_
   refine tA rfl rfl (tN (tT (tS (tR (tM rfl rfl ?_)))))
   refine tri_v (by first | exact opv_nilCheckE rfl | exact opv_nilCheck rfl) rfl ?_
   refine tri_v (by first | exact opv_fieldAddr rfl rfl | exact opv_fieldAddrE rfl (by assumption) (by omega) rfl | exact opv_fieldAddrR rfl (by omega) rfl | exact opv_fieldAddrP rfl rfl rfl) rfl ?_
   refine tri_v (by first | exact opv_load1 rfl rfl rfl | exact opv_loadA rfl rfl rfl | exact opv_loadE1 rfl (by assumption) rfl (by omega) rfl rfl | exact opv_loadEA rfl (by assumption) rfl (by omega) rfl rfl | exact opv_loadRX1 rfl rfl (by omega) rfl rfl | exact opv_loadRXA rfl rfl (by omega) rfl rfl rfl | exact opv_loadIX rfl rfl (by omega) | exact opv_loadR1 rfl rfl rfl | exact opv_loadRA rfl rfl rfl rfl) rfl ?_
   refine tM rfl rfl ?_
   refine tri_v (by first | exact opv_indexAddrA rfl rfl (by first | decide | omega) (by first | decide | omega) | exact opv_indexAddrSN rfl rfl (by omega) (by assumption) (by first | rfl | omega) | exact opv_indexAddrS rfl rfl (by omega) (by omega) (by assumption) (by first | rfl | omega) | exact opv_indexAddrE rfl (by assumption) (by omega) rfl (by first | decide | omega) (by first | decide | omega) | exact opv_indexAddrRN rfl rfl (by omega) | exact opv_indexAddrR rfl rfl (by omega) (by omega) | exact opv_indexAddrRA rfl (by omega) rfl (by first | decide | omega) (by first | decide | omega) | exact opv_indexAddrSP rfl rfl (by omega) (by omega)) rfl ?_
   refine tri_v (by first | exact opv_load1 rfl rfl rfl | exact opv_loadA rfl rfl rfl | exact opv_loadE1 rfl (by assumption) rfl (by omega) rfl rfl | exact opv_loadEA rfl (by assumption) rfl (by omega) rfl rfl | exact opv_loadRX1 rfl rfl (by omega) rfl rfl | exact opv_loadRXA rfl rfl (by omega) rfl rfl rfl | exact opv_loadIX rfl rfl (by omega) | exact opv_loadR1 rfl rfl rfl | exact opv_loadRA rfl rfl rfl rfl) rfl ?_
   refine tA rfl rfl (tN (tT (tS (tR (tM rfl rfl ?_)))))
   refine tri_v (opv_len rfl) rfl ?_
   refine tri_v (opv_gtr rfl rfl) rfl ?_
   refine tN (tT ?_)
   rw [hlk]
   refine tri_cond_dec rfl (fun h3 => ?_) (fun h3 => ?_)
   ·have sk := hsk.sl
    rw [hf, hfs, if_neg (by omega)]
    skip
    refine tS ?_
    refine tri_draw [0, 1, 2, 3, 4, 5, 6, 7, 8] rfl [_] rfl mixed ?_
    refine th_take rfl rfl (by kernel_rfl)  (opv_move rfl) ?_
    refine th_take rfl rfl (by kernel_rfl)  (by first | exact opv_nilCheckE rfl | exact opv_nilCheck rfl) ?_
    refine th_take rfl rfl (by kernel_rfl)  (by first | exact opv_fieldAddr rfl rfl | exact opv_fieldAddrE rfl (by assumption) (by omega) rfl | exact opv_fieldAddrR rfl (by omega) rfl | exact opv_fieldAddrP rfl rfl rfl) ?_
    refine th_take rfl rfl (by kernel_rfl)  (by first | exact opv_load1 rfl rfl rfl | exact opv_loadA rfl rfl rfl | exact opv_loadE1 rfl (by assumption) rfl (by omega) rfl rfl | exact opv_loadEA rfl (by assumption) rfl (by omega) rfl rfl | exact opv_loadRX1 rfl rfl (by omega) rfl rfl | exact opv_loadRXA rfl rfl (by omega) rfl rfl rfl | exact opv_loadIX rfl rfl (by omega) | exact opv_loadR1 rfl rfl rfl | exact opv_loadRA rfl rfl rfl rfl) ?_
    refine th_take rfl rfl (by kernel_rfl)  (opv_move rfl) ?_
    refine th_take rfl rfl (by kernel_rfl)  (opv_move rfl) ?_
    refine th_take rfl rfl (by kernel_rfl)  (opv_sliceLo rfl rfl (by omega) (by omega) hsk rfl) ?_
    refine th_take rfl rfl (by kernel_rfl)  (by first | exact opv_indexAddrA rfl rfl (by first | decide | omega) (by first | decide | omega) | exact opv_indexAddrSN rfl rfl (by omega) (by assumption) (by first | rfl | omega) | exact opv_indexAddrS rfl rfl (by omega) (by omega) (by assumption) (by first | rfl | omega) | exact opv_indexAddrE rfl (by assumption) (by omega) rfl (by first | decide | omega) (by first | decide | omega) | exact opv_indexAddrRN rfl rfl (by omega) | exact opv_indexAddrR rfl rfl (by omega) (by omega) | exact opv_indexAddrRA rfl (by omega) rfl (by first | decide | omega) (by first | decide | omega) | exact opv_indexAddrSP rfl rfl (by omega) (by omega)) ?_
    refine th_one (by kernel_rfl) (step_m rfl rfl (opg_storeRX (⟨loA (ss.getD k default).a (ss.getD k default).cap 1 1, ((D.getD k default).drop 1).length, (ss.getD k default).cap - 1⟩ : Sl) rfl rfl rfl (by omega) (by omega) rfl rfl rfl rfl) ?_)
    rintro _ _ _ ⟨rfl, rfl⟩
    refine ⟨Suf.h, (by first | exact fun _ h => h | assumption | exact fun _ h => (by assumption : _ ⊆ _) ((by assumption : _ ⊆ _) h)), ?_⟩
    refine th_done (by kernel_rfl) ?_
    refine tT (tS (tR (tM rfl rfl ?_)))
    refine tri_v (by first | exact opv_indexAddrA rfl rfl (by first | decide | omega) (by first | decide | omega) | exact opv_indexAddrSN rfl rfl (by omega) (by assumption) (by first | rfl | omega) | exact opv_indexAddrS rfl rfl (by omega) (by omega) (by assumption) (by first | rfl | omega) | exact opv_indexAddrE rfl (by assumption) (by omega) rfl (by first | decide | omega) (by first | decide | omega) | exact opv_indexAddrRN rfl rfl (by omega) | exact opv_indexAddrR rfl rfl (by omega) (by omega) | exact opv_indexAddrRA rfl (by omega) rfl (by first | decide | omega) (by first | decide | omega) | exact opv_indexAddrSP rfl rfl (by omega) (by omega)) rfl ?_
    refine tri_v (by first | exact opv_load1 rfl rfl rfl | exact opv_loadA rfl rfl rfl | exact opv_loadE1 rfl (by assumption) rfl (by omega) rfl rfl | exact opv_loadEA rfl (by assumption) rfl (by omega) rfl rfl | exact opv_loadRX1 rfl rfl (by omega) rfl rfl | exact opv_loadRXA rfl rfl (by omega) rfl rfl rfl | exact opv_loadIX rfl rfl (by omega) | exact opv_loadR1 rfl rfl rfl | exact opv_loadRA rfl rfl rfl rfl) rfl ?_
    refine tA rfl rfl (tN (tT (tri_ret ?_)))
    refine tri_inBlock_ret ?_
    refine tri_then_ret (tri_then_ret ?_)
    refine tri_inBlock_ret ?_
    refine tri_then_ret ?_
    refine tri_end _ (by first | exact ⟨[], rfl⟩ | exact ⟨[_], rfl⟩ | exact ⟨[_, _], rfl⟩ | exact ⟨[_, _, _], rfl⟩ | exact ⟨[_, _, _, _], rfl⟩ | exact ⟨[_, _, _, _, _], rfl⟩ | exact ⟨[_, _, _, _, _, _], rfl⟩ | exact ⟨[_, _, _, _, _, _, _], rfl⟩ | exact ⟨[_, _, _, _, _, _, _, _], rfl⟩) rfl (.cons (rv_tmp rfl) .nil) ⟨_, rfl, rfl, hd.set (s := ⟨loA (ss.getD k default).a (ss.getD k default).cap 1 1, ((D.getD k default).drop 1).length, (ss.getD k default).cap - 1⟩) ?_ rfl, rfl⟩
    exact hsk.lo (by omega) rfl
   ·refine tri_skip ?_
    refine tri_inBlock ?_
    refine tT (tR (tM rfl rfl ?_))
    refine tri_v (by first | exact opv_add rfl rfl (w64 (by omega) (by omega))) rfl ?_
    refine tA rfl rfl (tN (tT ?_))
    refine tri_sub ?_ (hK (i + 1) ⟨by omega, by rw [hf, hfs, if_pos (by omega)]⟩ (by omega))
    exact ⟨rfl, rfl, rfl, trivial⟩
  ·have ei : D.length - i = 0 := by omega
   rw [hf, ei]
   refine tri_exit ?_
   refine tri_then_exit ?_
   refine tri_then_exit ?_
   refine tri_inBlock_hit rfl ?_
   refine tT (tS (tR (tA rfl rfl (tN (tT (tri_ret ?_))))))
   refine tri_end _ (by first | exact ⟨[], rfl⟩ | exact ⟨[_], rfl⟩ | exact ⟨[_, _], rfl⟩ | exact ⟨[_, _, _], rfl⟩ | exact ⟨[_, _, _, _], rfl⟩ | exact ⟨[_, _, _, _, _], rfl⟩ | exact ⟨[_, _, _, _, _, _], rfl⟩ | exact ⟨[_, _, _, _, _, _, _], rfl⟩ | exact ⟨[_, _, _, _, _, _, _, _], rfl⟩) rfl (.cons (rv_tmp rfl) .nil) ⟨ss, rfl, rfl, hd, rfl⟩
end Go.GL

set_option linter.unusedVariables false
namespace Go.GL
namespace R19
variable {p v : List Int}
/-! ### The document's own frames: sums, and how many kids are not done, of what is run -/
/-- A kid is done: the frames then. -/
theorem tell_ok (hr : right p) {order : List Int} (hcl : Cl p order) {fs : List Frame} {t q : Nat} {dn : Nat → Bool} (ht : t < p.length) (h : FOk p v fs order dn (some t)) (ho : (t : Int) ∈ order) (hl : (fs.getD t default).left = 0) (hd : dn t = false) (h0 : t ≠ 0) (hq : p.getD t default = (q : Int)) :
  q < t ∧ (q : Int) ∈ order ∧ don dn t q = false ∧ 0 ≤ ((less1 (add1 fs q t) q).getD q default).left ∧ ∀ x, (x = some q ∨ (x = none ∧ ((less1 (add1 fs q t) q).getD q default).left ≠ 0)) → FOk p v (less1 (add1 fs q t) q) order (don dn t) x := by
 obtain ⟨h1, h2, h3, h4, hg, k, hk⟩ := h
 have hN := hr.1.2
 have hp := par_lt hr ht
 have hqt : q < t := by omega
 have hqN : q < p.length := by omega
 have hpar := h2 t ht
 rw [hq] at hpar
 have hc := cnt_par ht hq hd
 have hcl1 := cnt_le p dn q
 have hlq := h3 q hqN
 have ha := tell_at (fs := fs) (q := q) (t := t) (by omega)
 have hlen := tell_len fs q t
 have hqo : (q : Int) ∈ order := by rw [← hq]; exact hcl t ht (by omega) ho
 have hdq : dn q = false := by
  by_cases e : dn q = true
  ·have := ((h4 q hqN fun e2 => by have := Option.some.inj e2; omega).1 e).2
   omega
  ·simpa using e
 generalize hfs : less1 (add1 fs q t) q = fs' at *
 have hq1 : (fs'.getD q default).left = (cnt p (don dn t) q : Int) := by
  rw [ha q, if_pos rfl]
  show IntKind.i64.wrap ((fs.getD q default).left - 1) = _
  rw [hlq, w64 (by omega) (by omega)]
  omega
 refine ⟨hqt, hqo, (if_neg (by omega) : don dn t q = dn q).trans hdq, by omega, fun x hx => ?_⟩
 obtain ⟨j, hj⟩ := wrap_ex ((fs.getD q default).sum + (fs.getD t default).sum)
 refine ⟨by omega, fun u hu => ?_, fun u hu => ?_, fun u hu hne => ?_, fun u hu => (by
  rw [ha u]
  split
  ·exact wrap_rng _
  ·exact hg u hu), k + j, ?_⟩
 ·rw [ha u]
  split
  ·rename_i e
   rw [e]
   exact h2 q hqN
  ·exact h2 u hu
 ·by_cases e : u = q
  ·rw [e]
   exact hq1
  ·rw [ha u, if_neg e, cnt_other (by omega)]
   exact h3 u hu
 ·by_cases e : u = q
  ·rcases hx with hx | ⟨hx, hx2⟩
   ·rw [e, hx] at hne
    exact absurd rfl hne
   ·rw [e]
    show ((if q = t then true else dn q) = true ↔ _)
    rw [if_neg (by omega), hdq]
    exact ⟨fun h => (nomatch h), fun h => absurd h.2 hx2⟩
  ·rw [ha u, if_neg e]
   by_cases e2 : u = t
   ·subst e2
    exact ⟨fun _ => ⟨ho, hl⟩, fun _ => by show (if u = u then true else dn u) = true; rw [if_pos rfl]⟩
   ·show ((if u = t then true else dn u) = true ↔ _)
    rw [if_neg e2]
    exact h4 u hu fun e3 => e2 (Option.some.inj e3)
 ·have s1 := sumTo_one (g := amt (don dn t) fs') (h := fun u => if u = t then 0 else amt dn fs u) (t := q) hqN fun u hu hne => by
   unfold amt don
   rw [ha u, if_neg hne]
   by_cases e : u = t
   ·rw [if_pos e, if_pos e, if_pos ⟨rfl, by omega⟩]
   ·rw [if_neg e, if_neg e]
  have s2 := sumTo_one (g := fun u => if u = t then 0 else amt dn fs u) (h := amt dn fs) (t := t) ht fun u hu hne => if_neg hne
  have a1 : amt (don dn t) fs' q = (fs.getD q default).sum + (fs.getD t default).sum + 18446744073709551616 * j := by
   unfold amt don
   rw [if_neg (by rw [if_neg (by omega), hdq]; exact fun h => nomatch h.1), ha q, if_pos rfl, ← hj]
   rfl
  have a2 : amt dn fs q = (fs.getD q default).sum := by
   unfold amt
   rw [if_neg (by rw [hdq]; exact fun h => nomatch h.1)]
  have a3 : amt dn fs t = (fs.getD t default).sum := by
   unfold amt
   rw [if_neg (by rw [hd]; exact fun h => nomatch h.1)]
  rw [s1, s2, a1, if_pos rfl, if_neg (show ¬ q = t by omega), a2, a3, hk]
  omega
/-- A task is done. -/
def doneM (p : List Int) : Nat → List Int → List Int → Nat → List Int × List Int × Bool
 | 0, s, l, _ => (s, l, false)
 | f + 1, s, l, t =>
  if 0 < t then
   if 0 < (l.set (p.getD t default).toNat (IntKind.i64.wrap (l.getD (p.getD t default).toNat default - 1))).getD (p.getD t default).toNat default then
    (s.set (p.getD t default).toNat (IntKind.i64.wrap (s.getD (p.getD t default).toNat default + s.getD t default)), l.set (p.getD t default).toNat (IntKind.i64.wrap (l.getD (p.getD t default).toNat default - 1)), false)
   else doneM p f (s.set (p.getD t default).toNat (IntKind.i64.wrap (s.getD (p.getD t default).toNat default + s.getD t default))) (l.set (p.getD t default).toNat (IntKind.i64.wrap (l.getD (p.getD t default).toNat default - 1))) (p.getD t default).toNat
  else (s, l, true)
/-- The same, of what is run. -/
structure Rel (p : List Int) (fs : List Frame) (order s l : List Int) : Prop where
 sl : s.length = p.length
 ll : l.length = p.length
 sm : ∀ t : Nat, t < p.length → (t : Int) ∈ order → s.getD t default = (fs.getD t default).sum
 lf : ∀ t : Nat, t < p.length → (t : Int) ∈ order → l.getD t default = (fs.getD t default).left
 l0 : ∀ t : Nat, t < p.length → (t : Int) ∉ order → l.getD t default = 0
theorem getD_setI {l : List Int} {i j : Nat} {x : Int} (hi : i < l.length) : (l.set i x).getD j default = if j = i then x else l.getD j default := by
 rw [List.getD_eq_getElem?_getD, List.getElem?_set]
 by_cases e : i = j
 ·subst e
  rw [if_pos rfl, if_pos rfl, if_pos hi]
  rfl
 ·rw [if_neg e, if_neg (fun h => e h.symm), List.getD_eq_getElem?_getD]
theorem join_rel (hr : right p) {order : List Int} (hcl : Cl p order) : ∀ (f : Nat) {fs : List Frame} {t : Nat} {dn : Nat → Bool} {s l : List Int}, t < f → t < p.length → FOk p v fs order dn (some t) → (t : Int) ∈ order → (fs.getD t default).left = 0 → dn t = false → Rel p fs order s l →
  Rel p (joinM f fs t).1 order (doneM p f s l t).1 (doneM p f s l t).2.1 ∧ (joinM f fs t).2 = (doneM p f s l t).2.2
 | 0, _, _, _, _, _, h, _, _, _, _, _, _ => by omega
 | f + 1, fs, t, dn, s, l, hf, ht, h, ho, hl, hd, hre => by
  have hp := par_lt hr ht
  have hpt := h.par t ht
  by_cases h0 : t = 0
  ·have em : joinM (f + 1) fs t = (fs, true) := by show (if _ then _ else _) = _; rw [if_pos (by rw [hpt]; omega)]
   have ed : doneM p (f + 1) s l t = (s, l, true) := by show (if _ then _ else _) = _; rw [if_neg (by omega)]
   rw [em, ed]
   exact ⟨hre, rfl⟩
  ·obtain ⟨q, hq⟩ : ∃ q : Nat, p.getD t default = (q : Int) := ⟨(p.getD t default).toNat, by omega⟩
   obtain ⟨hqt, hqo, hdq, hnn, hX⟩ := tell_ok hr hcl ht h ho hl hd h0 hq
   have tq : (q : Int).toNat = q := rfl
   rw [hq] at hpt
   have hlen := h.len
   have ha := tell_at (fs := fs) (q := q) (t := t) (by omega)
   have hqN : q < p.length := by omega
   obtain ⟨r1, r2, r3, r4, r5⟩ := hre
   have em : joinM (f + 1) fs t = if ((less1 (add1 fs q t) q).getD q default).left = 0 then joinM f (less1 (add1 fs q t) q) q else (less1 (add1 fs q t) q, false) := by
    show (if (fs.getD t default).par < 0 then _ else _) = _
    rw [if_neg (by omega), hpt, tq]
   have ed : doneM p (f + 1) s l t = if 0 < (l.set q (IntKind.i64.wrap (l.getD q default - 1))).getD q default then (s.set q (IntKind.i64.wrap (s.getD q default + s.getD t default)), l.set q (IntKind.i64.wrap (l.getD q default - 1)), false) else doneM p f (s.set q (IntKind.i64.wrap (s.getD q default + s.getD t default))) (l.set q (IntKind.i64.wrap (l.getD q default - 1))) q := by
    show (if 0 < t then _ else _) = _
    rw [if_pos (by omega), hq, tq]
   have e2 : (l.set q (IntKind.i64.wrap (l.getD q default - 1))).getD q default = ((less1 (add1 fs q t) q).getD q default).left := by
    rw [getD_setI (by omega), if_pos rfl, ha q, if_pos rfl, r4 q hqN hqo]
    rfl
   have hre2 : Rel p (less1 (add1 fs q t) q) order (s.set q (IntKind.i64.wrap (s.getD q default + s.getD t default))) (l.set q (IntKind.i64.wrap (l.getD q default - 1))) := by
    refine ⟨by rw [List.length_set]; exact r1, by rw [List.length_set]; exact r2, fun u hu huo => ?_, fun u hu huo => ?_, fun u hu huo => ?_⟩
    ·rw [getD_setI (by omega), ha u]
     by_cases e : u = q
     ·rw [if_pos e, if_pos e, r3 q hqN hqo, r3 t ht ho]
      rfl
     ·rw [if_neg e, if_neg e]
      exact r3 u hu huo
    ·rw [getD_setI (by omega), ha u]
     by_cases e : u = q
     ·rw [if_pos e, if_pos e, r4 q hqN hqo]
      rfl
     ·rw [if_neg e, if_neg e]
      exact r4 u hu huo
    ·rw [getD_setI (by omega), if_neg (fun e => huo (by rw [e]; exact hqo))]
     exact r5 u hu huo
   rw [em, ed, e2]
   by_cases hz : ((less1 (add1 fs q t) q).getD q default).left = 0
   ·rw [if_pos hz, if_neg (by omega)]
    exact join_rel hr hcl f (by omega) hqN (hX _ (.inl rfl)) hqo hz hdq hre2
   ·rw [if_neg hz, if_pos (by omega)]
    exact ⟨hre2, rfl⟩
/-- What is not run has its own value yet. -/
def Frs (p v : List Int) (fs : List Frame) (order : List Int) : Prop := ∀ t : Nat, t < p.length → (t : Int) ∉ order → (fs.getD t default).sum = v.getD t default
theorem join_frs (hr : right p) {order : List Int} (hcl : Cl p order) : ∀ (f : Nat) {fs : List Frame} {t : Nat}, t < p.length → fs.length = p.length → (∀ u, u < p.length → (fs.getD u default).par = p.getD u default) → (t : Int) ∈ order → Frs p v fs order → Frs p v (joinM f fs t).1 order
 | 0, _, _, _, _, _, _, h => h
 | f + 1, fs, t, ht, hlen, hpar, ho, h => by
  have hp := par_lt hr ht
  have hpt := hpar t ht
  unfold joinM
  by_cases h0 : t = 0
  ·rw [if_pos (by rw [hpt]; omega)]
   exact h
  ·rw [if_neg (by rw [hpt]; omega)]
   obtain ⟨q, hq⟩ : ∃ q : Nat, p.getD t default = (q : Int) := ⟨(p.getD t default).toNat, by omega⟩
   have tq : (q : Int).toNat = q := rfl
   rw [hpt, hq, tq]
   have hqo : (q : Int) ∈ order := by rw [← hq]; exact hcl t ht (by omega) ho
   have ha := tell_at (fs := fs) (q := q) (t := t) (by omega)
   have hl2 := tell_len fs q t
   have h2 : Frs p v (less1 (add1 fs q t) q) order := fun u hu huo => by
    rw [ha u, if_neg (fun e => huo (by rw [e]; exact hqo))]
    exact h u hu huo
   split
   ·refine join_frs hr hcl f (by omega) (by omega) (fun u hu => ?_) hqo h2
    rw [ha u]
    split
    ·rename_i e
     rw [e]
     exact hpar q (by omega)
    ·exact hpar u hu
   ·exact h2
/-- A task is run. -/
def runM (p v : List Int) (s l : List Int) (d : Bool) (T : Nat) : List Int × List Int × Bool :=
 if (kids p T).length = 0 then ((doneM p (T + 1) (s.set T (v.getD T default)) (l.set T ((kids p T).length : Nat)) T).1, (doneM p (T + 1) (s.set T (v.getD T default)) (l.set T ((kids p T).length : Nat)) T).2.1, d || (doneM p (T + 1) (s.set T (v.getD T default)) (l.set T ((kids p T).length : Nat)) T).2.2)
 else (s.set T (v.getD T default), l.set T ((kids p T).length : Nat), d)
/-- The document's state behind n steps. -/
def RInv (p v picks : List Int) (nw n : Nat) (s l : List Int) (d : Bool) (last : Int) : Prop := ∃ fs0 k dn, CI p v picks nw n fs0 k last dn ∧ Rel p k.fs k.order s l ∧ Frs p v k.fs k.order ∧ d = k.ends
theorem cnt_fresh {order : List Int} {dn : Nat → Bool} {fs : List Frame} {T : Nat} (hr : right p) (hcl : Cl p order) (h : FOk p v fs order dn none) (hT : (T : Int) ∉ order) : cnt p dn T = (kids p T).length := by
 unfold cnt
 rw [List.filter_eq_self.2 fun c hc => ?_]
 obtain ⟨h0, h1, h2⟩ := mem_kids.1 hc
 have hgt := kid_gt hr hc
 have hcd : dn c.toNat = false := by
  by_cases e : dn c.toNat = true
  ·have := ((h.dnr c.toNat (by omega) (fun e => nomatch e)).1 e).1
   have h3 := hcl c.toNat (by omega) (by omega) this
   rw [h2] at h3
   exact absurd h3 hT
  ·simpa using e
 rw [hcd]
 rfl
theorem RInv.step {picks : List Int} {nw n : Nat} {s l : List Int} {d : Bool} {last : Int} (hr : right p) (hw : 1 ≤ nw) (h : RInv p v picks nw n s l d last) (hn : n < p.length) {T : Nat} (hT : (takeM (mst p picks nw n).D (nxt picks nw n last).toNat).1 = (T : Int)) :
  s.length = p.length ∧ l.length = p.length ∧ l.getD T default = 0 ∧ RInv p v picks nw (n + 1) (runM p v s l d T).1 (runM p v s l d T).2.1 (runM p v s l d T).2.2 (nxt picks nw n last) := by
 obtain ⟨fs0, k, dn, hci, hre, hfr, hde⟩ := h
 have hm := MOk.run hr hw n (by omega) (picks := picks)
 have hm2 := MOk.run hr hw (n + 1) (by omega) (picks := picks)
 obtain ⟨dn', hc2⟩ := hci.step hr hw hn
 obtain ⟨hx0, hx1⟩ := nxt_ok (picks := picks) (nw := nw) (n := n) (last := last) hw
 obtain ⟨T', hT', hTl, hTo, hTp, _⟩ := hm.take hr hn (w := (nxt picks nw n last).toNat) (by omega)
 obtain rfl : T' = T := by
  have := hT'.symm.trans hT
  omega
 rw [← hci.order] at hTo hTp
 have hclk : Cl p k.order := by rw [hci.order]; exact hm.cl
 have ho2 : (stepM p k (nxt picks nw n last).toNat).order = k.order ++ [(T' : Int)] := by
  rw [hc2.order, mst_order, ← hci.order, ← hci.last, hci.order, hm.ol, hT]
 have hcl : Cl p (k.order ++ [(T' : Int)]) := by rw [← ho2, hc2.order]; exact hm2.cl
 have hTD : (takeM k.D (nxt picks nw n last).toNat).1 = (T' : Int) := by rw [hci.D]; exact hT
 have hleft : (k.fs.getD T' default).left = ((kids p T').length : Nat) := by
  rw [hci.fr.lft T' hTl, cnt_fresh hr hclk hci.fr hTo]
 have hdT : dn T' = false := by
  by_cases e : dn T' = true
  ·exact absurd ((hci.fr.dnr T' hTl (fun e => nomatch e)).1 e).1 hTo
  ·simpa using e
 have hto : (T' : Int) ∈ k.order ++ [(T' : Int)] := List.mem_append_right _ List.mem_cons_self
 have hmo : ∀ u : Nat, u ≠ T' → ((u : Int) ∈ k.order ++ [(T' : Int)] ↔ (u : Int) ∈ k.order) := fun u hu => by
  rw [List.mem_append, List.mem_singleton]
  constructor
  ·rintro (h | h)
   ·exact h
   ·omega
  ·exact .inl
 obtain ⟨r1, r2, r3, r4, r5⟩ := hre
 have hre1 : Rel p k.fs (k.order ++ [(T' : Int)]) (s.set T' (v.getD T' default)) (l.set T' ((kids p T').length : Nat)) := by
  refine ⟨by rw [List.length_set]; exact r1, by rw [List.length_set]; exact r2, fun u hu huo => ?_, fun u hu huo => ?_, fun u hu huo => ?_⟩
  ·rw [getD_setI (by omega)]
   by_cases e : u = T'
   ·rw [if_pos e, e, hfr T' hTl hTo]
   ·rw [if_neg e]
    exact r3 u hu ((hmo u e).1 huo)
  ·rw [getD_setI (by omega)]
   by_cases e : u = T'
   ·rw [if_pos e, e, hleft]
   ·rw [if_neg e]
    exact r4 u hu ((hmo u e).1 huo)
  ·rw [getD_setI (by omega), if_neg (fun e => huo (by rw [e]; exact hto))]
   exact r5 u hu fun hc => huo (List.mem_append_left _ hc)
 have hfr1 : Frs p v k.fs (k.order ++ [(T' : Int)]) := fun u hu huo => hfr u hu fun hc => huo (List.mem_append_left _ hc)
 refine ⟨r1, r2, r5 T' hTl hTo, fs0, _, dn', hc2, ?_⟩
 rw [ho2]
 have em : stepM p k (nxt picks nw n last).toNat = if (k.fs.getD T' default).left = 0 then { k with steps := k.steps + 1, order := k.order ++ [(T' : Int)], who := k.who ++ [(((nxt picks nw n last).toNat : Nat) : Int)], D := (takeM k.D (nxt picks nw n last).toNat).2.set (nxt picks nw n last).toNat ((takeM k.D (nxt picks nw n last).toNat).2.getD (nxt picks nw n last).toNat default ++ kids p T'), fs := (joinM (T' + 1) k.fs T').1, ends := k.ends || (joinM (T' + 1) k.fs T').2 } else { k with steps := k.steps + 1, order := k.order ++ [(T' : Int)], who := k.who ++ [(((nxt picks nw n last).toNat : Nat) : Int)], D := (takeM k.D (nxt picks nw n last).toNat).2.set (nxt picks nw n last).toNat ((takeM k.D (nxt picks nw n last).toNat).2.getD (nxt picks nw n last).toNat default ++ kids p T') } := by
  unfold stepM
  rw [if_neg (by omega), hTD]
  rfl
 rw [em]
 unfold runM
 by_cases hz : (k.fs.getD T' default).left = 0
 ·rw [if_pos hz, if_pos (by omega)]
  have hF : FOk p v k.fs (k.order ++ [(T' : Int)]) dn (some T') := ⟨hci.fr.len, hci.fr.par, hci.fr.lft, fun u hu hne => (by
   rw [hmo u fun e => hne (by rw [e])]
   exact hci.fr.dnr u hu (fun e => nomatch e)), hci.fr.rng, hci.fr.tot⟩
  obtain ⟨j1, j2⟩ := join_rel (v := v) hr hcl (T' + 1) (by omega) hTl hF hto hz hdT hre1
  refine ⟨j1, join_frs hr hcl (T' + 1) hTl hci.fr.len hci.fr.par hto hfr1, ?_⟩
  show (d || _) = (k.ends || _)
  rw [hde, j2]
 ·rw [if_neg hz, if_neg (by omega)]
  exact ⟨hre1, hfr1, hde⟩
/-- Frames to start with. -/
def fs19 (p v : List Int) : List Frame := (List.range p.length).map fun t => ⟨p.getD t default, none, (kids p t).length, 0, v.getD t default, ((kids p t).length : Nat)⟩
theorem fs19_at {t : Nat} (h : t < p.length) : (fs19 p v).getD t default = ⟨p.getD t default, none, (kids p t).length, 0, v.getD t default, ((kids p t).length : Nat)⟩ := by
 unfold fs19
 rw [List.getD_eq_getElem?_getD, List.getElem?_map, List.getElem?_range h]
 rfl
theorem fs19_ok : Frames p v (fs19 p v) p.length := by
 refine ⟨by simp [fs19], fun t h => by rw [fs19_at h], fun t h => by rw [fs19_at h], fun t h => by rw [fs19_at h]; rfl, fun t h => by rw [fs19_at h]; rfl⟩
end R19
end Go.GL

set_option linter.unusedVariables false
namespace Go.GL
section
variable {P : Program} {A : List Asrt} {I : List Chunk}
/-- A row that will not be written any more is handed over to be read. -/
theorem FnC.freezeRow {f : FuncId} {args : Array Value} {R : Value → List Asrt → List Chunk → Prop} {xs : List Int} {E : TypeId} {a : Option Addr} {cap len : Nat} (h : ∀ I', I ⊆ I' → SlAt I' a xs → FnC P f args A I' R) : FnC P f args (Row a cap len E 1 (encs xs) :: A) I R := by
 intro w0 w hs
 obtain ⟨cs, h1, h2⟩ := hs
 obtain ⟨c, cs', rfl, ⟨hl, ha⟩, hr⟩ := h1.cons_inv
 rcases ha with ⟨rfl, rfl, rfl, rfl⟩ | ⟨b, cur, rfl, rfl, hsz, hle, htk⟩
 ·have hx : xs = [] := by
   rw [encs_length] at hl
   have : xs.length * 1 = 0 * 1 := hl
   exact List.eq_nil_of_length_eq_zero (by omega)
  exact h I (fun _ h => h) (.inl hx) w0 w ⟨cs', hr, by simpa using h2⟩
 ·refine h ((b, .cells cur E (0, 0)) :: I) (fun _ h => List.mem_cons_of_mem _ h) (.inr ⟨b, 0, rfl, cur, E, (0, 0), by simp, ?_⟩) w0 w ⟨cs', hr, h2.perm ?_⟩
  ·intro j v hj
   rw [← htk] at hj
   have := (List.getElem?_eq_some_iff.1 hj).1
   rw [List.length_take] at this
   rw [List.getElem?_take_of_lt (by omega)] at hj
   simpa using hj
  ·simpa using (List.perm_middle (l₁ := cs') (a := (b, Obj.cells cur E (0, 0))) (l₂ := I)).symm
theorem reps_int0 : ∀ n, reps n [.int .i64 0] = encs (List.replicate n (0 : Int))
 | 0 => rfl
 | n + 1 => by
  show [_] ++ reps n _ = _
  rw [reps_int0 n, List.replicate_succ, encs_cons]
  rfl
end
end Go.GL

set_option linter.unusedVariables false
namespace Go.GL
open Go.Proofs
attribute [local irreducible] wpList Code.wp Exit.then Exit.inBlock Ends Tri TriH OpV OpG FnC epf wpAnyH
variable {A : List Asrt} {I : List Chunk}
set_option maxHeartbeats 2000000 in
set_option maxRecDepth 100000 in
theorem ref19_done {c cp N t0 f0 bz : Nat} {p s0 l0 : List Int} {d : Bool} {ap : Option Addr} {al : Option Addr} {y1 y4 y5 y6 y7 : Value} (hs : SlAt I ap p) (hr : R19.right p) (hN : p.length = N) (ht : t0 < N) (hf : t0 < f0) (hs0 : s0.length = N) (hl0 : l0.length = N) :
  FnC Try.prog 36 [pt c 0, .int .i64 (t0 : Int)].toArray (Row (some ⟨bz, 0, none⟩) N N 3 1 (encs s0) :: Row al N N 3 1 (encs l0) :: Box c [.slice ap N cp, y1, .slice (some ⟨bz, 0, none⟩) N N, .slice al N N, y4, y5, y6, y7, .bool d] 57 :: A) I
   (fun v A' I' => Row (some ⟨bz, 0, none⟩) N N 3 1 (encs (R19.doneM p f0 s0 l0 t0).1) :: Row al N N 3 1 (encs (R19.doneM p f0 s0 l0 t0).2.1) :: Box c [.slice ap N cp, y1, .slice (some ⟨bz, 0, none⟩) N N, .slice al N N, y4, y5, y6, y7, .bool (d || (R19.doneM p f0 s0 l0 t0).2.2)] 57 :: A = A' ∧ I = I') := by
 subst hN
 have hpN := hr.1.2
 skip
 refine fn_enter2 Try.func36 rfl Try.ntmps36 rfl fun w0 => ?_
 refine tS (tri_block ?_)
 refine loop_ind (G := Nat × Nat × List Int × List Int) (fun g => g.2.1) (fun g => g.2.1 < g.1 ∧ g.2.1 < p.length ∧ g.2.2.1.length = p.length ∧ g.2.2.2.length = p.length ∧ R19.doneM p f0 s0 l0 t0 = R19.doneM p g.1 g.2.2.1 g.2.2.2 g.2.1) (fun g => [(0, pt c 0), (1, .int .i64 (g.2.1 : Int))])
  (fun g => Row (some ⟨bz, 0, none⟩) p.length p.length 3 1 (encs g.2.2.1) :: Row al p.length p.length 3 1 (encs g.2.2.2) :: Box c [.slice ap p.length cp, y1, .slice (some ⟨bz, 0, none⟩) p.length p.length, .slice al p.length p.length, y4, y5, y6, y7, .bool d] 57 :: A) (fun _ => I) ?_ (f0, t0, s0, l0) ⟨hf, ht, hs0, hl0, rfl⟩
 rintro ⟨f, t, s, l⟩ ⟨hft, htN, hsl, hll, he⟩ K hK
 simp only at hft htN hsl hll he hK ⊢
 rw [he]
 skip
 refine tS (tS (tR (tM rfl rfl ?_)))
 refine tri_v (opv_gtr rfl rfl) rfl ?_
 refine tN (tT ?_)
 refine tri_cond_dec rfl (fun h => ?_) (fun h => ?_)
 ·obtain ⟨f, rfl⟩ : ∃ f', f = f' + 1 := ⟨f - 1, by omega⟩
  have hpt := R19.par_lt hr htN
  obtain ⟨q, hq⟩ : ∃ q : Nat, p.getD t default = (q : Int) := ⟨(p.getD t default).toNat, by omega⟩
  have tq : (q : Int).toNat = q := rfl
  have tt : (t : Int).toNat = t := rfl
  have hqN : q < p.length := by omega
  have ed : R19.doneM p (f + 1) s l t = if 0 < (l.set q (IntKind.i64.wrap (l.getD q default - 1))).getD q default then (s.set q (IntKind.i64.wrap (s.getD q default + s.getD t default)), l.set q (IntKind.i64.wrap (l.getD q default - 1)), false) else R19.doneM p f (s.set q (IntKind.i64.wrap (s.getD q default + s.getD t default))) (l.set q (IntKind.i64.wrap (l.getD q default - 1))) q := by
   show (if 0 < t then _ else _) = _
   rw [if_pos (by omega), hq, tq]
  rw [ed]
  have ls1 : (s.set q (IntKind.i64.wrap (s.getD q default + s.getD t default))).length = p.length := by rw [List.length_set]; exact hsl
  have ll1 : (l.set q (IntKind.i64.wrap (l.getD q default - 1))).length = p.length := by rw [List.length_set]; exact hll
  skip
  skip
  refine tri_skip (tT (tri_block (tS (tR (tM rfl rfl ?_)))))
  refine tri_v (by first | exact opv_nilCheckE rfl | exact opv_nilCheck rfl) rfl ?_
  refine tri_v (by first | exact opv_fieldAddr rfl rfl | exact opv_fieldAddrE rfl (by assumption) (by omega) rfl | exact opv_fieldAddrR rfl (by omega) rfl | exact opv_fieldAddrP rfl rfl rfl) rfl ?_
  refine tri_v (by first | exact opv_load1 rfl rfl rfl | exact opv_loadA rfl rfl rfl | exact opv_loadE1 rfl (by assumption) rfl (by omega) rfl rfl | exact opv_loadEA rfl (by assumption) rfl (by omega) rfl rfl | exact opv_loadRX1 rfl rfl (by omega) rfl rfl | exact opv_loadRXA rfl rfl (by omega) rfl rfl rfl | exact opv_loadIX rfl rfl (by omega) | exact opv_loadR1 rfl rfl rfl | exact opv_loadRA rfl rfl rfl rfl) rfl ?_
  refine tM rfl rfl ?_
  refine tri_v (by first | exact opv_indexAddrA rfl rfl (by first | decide | omega) (by first | decide | omega) | exact opv_indexAddrSN rfl rfl (by omega) (by assumption) (by first | rfl | omega) | exact opv_indexAddrS rfl rfl (by omega) (by omega) (by assumption) (by first | rfl | omega) | exact opv_indexAddrE rfl (by assumption) (by omega) rfl (by first | decide | omega) (by first | decide | omega) | exact opv_indexAddrRN rfl rfl (by omega) | exact opv_indexAddrR rfl rfl (by omega) (by omega) | exact opv_indexAddrRA rfl (by omega) rfl (by first | decide | omega) (by first | decide | omega) | exact opv_indexAddrSP rfl rfl (by omega) (by omega)) rfl ?_
  refine tri_v (by first | exact opv_load1 rfl rfl rfl | exact opv_loadA rfl rfl rfl | exact opv_loadE1 rfl (by assumption) rfl (by omega) rfl rfl | exact opv_loadEA rfl (by assumption) rfl (by omega) rfl rfl | exact opv_loadRX1 rfl rfl (by omega) rfl rfl | exact opv_loadRXA rfl rfl (by omega) rfl rfl rfl | exact opv_loadIX rfl rfl (by omega) | exact opv_loadR1 rfl rfl rfl | exact opv_loadRA rfl rfl rfl rfl) rfl ?_
  refine tA rfl rfl (tN (tT (tS ?_)))
  try rw [hq]
  skip
  refine tri_cut (fun F' A' J => F' = [(0, pt c 0), (1, .int .i64 (t : Int)), (4, .int .i64 (q : Int))] ∧ A' = Row (some ⟨bz, 0, none⟩) p.length p.length 3 1 (encs (s.set q (IntKind.i64.wrap (s.getD q default + s.getD t default)))) :: Row al p.length p.length 3 1 (encs l) :: Box c [.slice ap p.length cp, y1, .slice (some ⟨bz, 0, none⟩) p.length p.length, .slice al p.length p.length, y4, y5, y6, y7, .bool d] 57 :: A ∧ J = I) ?_ ?_
  ·refine tri_draw [0, 1, 2, 3, 4, 5, 6, 7, 8, 9, 10, 12, 13, 14, 15, 16, 17, 11, 18, 19, 20, 21] rfl [_] rfl mixed ?_
   refine th_take rfl rfl (by kernel_rfl)  (opv_move rfl) ?_
   refine th_take rfl rfl (by kernel_rfl)  (by first | exact opv_nilCheckE rfl | exact opv_nilCheck rfl) ?_
   refine th_take rfl rfl (by kernel_rfl)  (by first | exact opv_fieldAddr rfl rfl | exact opv_fieldAddrE rfl (by assumption) (by omega) rfl | exact opv_fieldAddrR rfl (by omega) rfl | exact opv_fieldAddrP rfl rfl rfl) ?_
   refine th_take rfl rfl (by kernel_rfl)  (by first | exact opv_load1 rfl rfl rfl | exact opv_loadA rfl rfl rfl | exact opv_loadE1 rfl (by assumption) rfl (by omega) rfl rfl | exact opv_loadEA rfl (by assumption) rfl (by omega) rfl rfl | exact opv_loadRX1 rfl rfl (by omega) rfl rfl | exact opv_loadRXA rfl rfl (by omega) rfl rfl rfl | exact opv_loadIX rfl rfl (by omega) | exact opv_loadR1 rfl rfl rfl | exact opv_loadRA rfl rfl rfl rfl) ?_
   refine th_take rfl rfl (by kernel_rfl)  (opv_move rfl) ?_
   refine th_take rfl rfl (by kernel_rfl)  (opv_move rfl) ?_
   refine th_take rfl rfl (by kernel_rfl)  (by first | exact opv_nilCheckE rfl | exact opv_nilCheck rfl) ?_
   refine th_take rfl rfl (by kernel_rfl)  (by first | exact opv_fieldAddr rfl rfl | exact opv_fieldAddrE rfl (by assumption) (by omega) rfl | exact opv_fieldAddrR rfl (by omega) rfl | exact opv_fieldAddrP rfl rfl rfl) ?_
   refine th_take rfl rfl (by kernel_rfl)  (by first | exact opv_load1 rfl rfl rfl | exact opv_loadA rfl rfl rfl | exact opv_loadE1 rfl (by assumption) rfl (by omega) rfl rfl | exact opv_loadEA rfl (by assumption) rfl (by omega) rfl rfl | exact opv_loadRX1 rfl rfl (by omega) rfl rfl | exact opv_loadRXA rfl rfl (by omega) rfl rfl rfl | exact opv_loadIX rfl rfl (by omega) | exact opv_loadR1 rfl rfl rfl | exact opv_loadRA rfl rfl rfl rfl) ?_
   refine th_take rfl rfl (by kernel_rfl)  (opv_move rfl) ?_
   refine th_take rfl rfl (by kernel_rfl)  (by first | exact opv_indexAddrA rfl rfl (by first | decide | omega) (by first | decide | omega) | exact opv_indexAddrSN rfl rfl (by omega) (by assumption) (by first | rfl | omega) | exact opv_indexAddrS rfl rfl (by omega) (by omega) (by assumption) (by first | rfl | omega) | exact opv_indexAddrE rfl (by assumption) (by omega) rfl (by first | decide | omega) (by first | decide | omega) | exact opv_indexAddrRN rfl rfl (by omega) | exact opv_indexAddrR rfl rfl (by omega) (by omega) | exact opv_indexAddrRA rfl (by omega) rfl (by first | decide | omega) (by first | decide | omega) | exact opv_indexAddrSP rfl rfl (by omega) (by omega)) ?_
   refine th_take rfl rfl (by kernel_rfl)  (opv_move rfl) ?_
   refine th_take rfl rfl (by kernel_rfl)  (by first | exact opv_nilCheckE rfl | exact opv_nilCheck rfl) ?_
   refine th_take rfl rfl (by kernel_rfl)  (by first | exact opv_fieldAddr rfl rfl | exact opv_fieldAddrE rfl (by assumption) (by omega) rfl | exact opv_fieldAddrR rfl (by omega) rfl | exact opv_fieldAddrP rfl rfl rfl) ?_
   refine th_take rfl rfl (by kernel_rfl)  (by first | exact opv_load1 rfl rfl rfl | exact opv_loadA rfl rfl rfl | exact opv_loadE1 rfl (by assumption) rfl (by omega) rfl rfl | exact opv_loadEA rfl (by assumption) rfl (by omega) rfl rfl | exact opv_loadRX1 rfl rfl (by omega) rfl rfl | exact opv_loadRXA rfl rfl (by omega) rfl rfl rfl | exact opv_loadIX rfl rfl (by omega) | exact opv_loadR1 rfl rfl rfl | exact opv_loadRA rfl rfl rfl rfl) ?_
   refine th_take rfl rfl (by kernel_rfl)  (opv_move rfl) ?_
   refine th_take rfl rfl (by kernel_rfl)  (by first | exact opv_indexAddrA rfl rfl (by first | decide | omega) (by first | decide | omega) | exact opv_indexAddrSN rfl rfl (by omega) (by assumption) (by first | rfl | omega) | exact opv_indexAddrS rfl rfl (by omega) (by omega) (by assumption) (by first | rfl | omega) | exact opv_indexAddrE rfl (by assumption) (by omega) rfl (by first | decide | omega) (by first | decide | omega) | exact opv_indexAddrRN rfl rfl (by omega) | exact opv_indexAddrR rfl rfl (by omega) (by omega) | exact opv_indexAddrRA rfl (by omega) rfl (by first | decide | omega) (by first | decide | omega) | exact opv_indexAddrSP rfl rfl (by omega) (by omega)) ?_
   refine th_two (j := 18) [11, 19, 20, 21] (by kernel_rfl) rfl ?_ ?_
   ·refine (step_m rfl rfl (OpV.toG (by first | exact opv_load1 rfl rfl rfl | exact opv_loadA rfl rfl rfl | exact opv_loadE1 rfl (by assumption) rfl (by omega) rfl rfl | exact opv_loadEA rfl (by assumption) rfl (by omega) rfl rfl | exact opv_loadRX1 rfl rfl (by omega) rfl rfl | exact opv_loadRXA rfl rfl (by omega) rfl rfl rfl | exact opv_loadIX rfl rfl (by omega) | exact opv_loadR1 rfl rfl rfl | exact opv_loadRA rfl rfl rfl rfl)) ?_)
    rintro _ _ _ ⟨rfl, rfl, rfl⟩
    refine ⟨Suf.h, (by first | exact fun _ h => h | assumption | exact fun _ h => (by assumption : _ ⊆ _) ((by assumption : _ ⊆ _) h)), ?_⟩
    refine th_one (by kernel_rfl) (step_m rfl rfl (OpV.toG (by first | exact opv_load1 rfl rfl rfl | exact opv_loadA rfl rfl rfl | exact opv_loadE1 rfl (by assumption) rfl (by omega) rfl rfl | exact opv_loadEA rfl (by assumption) rfl (by omega) rfl rfl | exact opv_loadRX1 rfl rfl (by omega) rfl rfl | exact opv_loadRXA rfl rfl (by omega) rfl rfl rfl | exact opv_loadIX rfl rfl (by omega) | exact opv_loadR1 rfl rfl rfl | exact opv_loadRA rfl rfl rfl rfl)) ?_)
    rintro _ _ _ ⟨rfl, rfl, rfl⟩
    refine ⟨Suf.h, (by first | exact fun _ h => h | assumption | exact fun _ h => (by assumption : _ ⊆ _) ((by assumption : _ ⊆ _) h)), ?_⟩
    refine th_take rfl rfl (by kernel_rfl)  (opv_add (z := IntKind.i64.wrap (s.getD q default + s.getD t default)) rfl rfl rfl) ?_
    refine th_take rfl rfl (by kernel_rfl)  (by first | exact opv_indexAddrA rfl rfl (by first | decide | omega) (by first | decide | omega) | exact opv_indexAddrSN rfl rfl (by omega) (by assumption) (by first | rfl | omega) | exact opv_indexAddrS rfl rfl (by omega) (by omega) (by assumption) (by first | rfl | omega) | exact opv_indexAddrE rfl (by assumption) (by omega) rfl (by first | decide | omega) (by first | decide | omega) | exact opv_indexAddrRN rfl rfl (by omega) | exact opv_indexAddrR rfl rfl (by omega) (by omega) | exact opv_indexAddrRA rfl (by omega) rfl (by first | decide | omega) (by first | decide | omega) | exact opv_indexAddrSP rfl rfl (by omega) (by omega)) ?_
    refine th_one (by kernel_rfl) (step_m rfl rfl (opg_storeRX (IntKind.i64.wrap (s.getD q default + s.getD t default)) rfl rfl rfl (by omega) (by omega) rfl rfl rfl rfl) ?_)
    rintro _ _ _ ⟨rfl, rfl⟩
    refine ⟨Suf.h, (by first | exact fun _ h => h | assumption | exact fun _ h => (by assumption : _ ⊆ _) ((by assumption : _ ⊆ _) h)), ?_⟩
    refine th_done (by kernel_rfl) ?_
    exact tri_cutEnd _ ⟨rfl, rfl, rfl⟩ ⟨rfl, rfl, rfl, trivial⟩
   ·refine (step_m rfl rfl (OpV.toG (by first | exact opv_load1 rfl rfl rfl | exact opv_loadA rfl rfl rfl | exact opv_loadE1 rfl (by assumption) rfl (by omega) rfl rfl | exact opv_loadEA rfl (by assumption) rfl (by omega) rfl rfl | exact opv_loadRX1 rfl rfl (by omega) rfl rfl | exact opv_loadRXA rfl rfl (by omega) rfl rfl rfl | exact opv_loadIX rfl rfl (by omega) | exact opv_loadR1 rfl rfl rfl | exact opv_loadRA rfl rfl rfl rfl)) ?_)
    rintro _ _ _ ⟨rfl, rfl, rfl⟩
    refine ⟨Suf.h, (by first | exact fun _ h => h | assumption | exact fun _ h => (by assumption : _ ⊆ _) ((by assumption : _ ⊆ _) h)), ?_⟩
    refine th_one (by kernel_rfl) (step_m rfl rfl (OpV.toG (by first | exact opv_load1 rfl rfl rfl | exact opv_loadA rfl rfl rfl | exact opv_loadE1 rfl (by assumption) rfl (by omega) rfl rfl | exact opv_loadEA rfl (by assumption) rfl (by omega) rfl rfl | exact opv_loadRX1 rfl rfl (by omega) rfl rfl | exact opv_loadRXA rfl rfl (by omega) rfl rfl rfl | exact opv_loadIX rfl rfl (by omega) | exact opv_loadR1 rfl rfl rfl | exact opv_loadRA rfl rfl rfl rfl)) ?_)
    rintro _ _ _ ⟨rfl, rfl, rfl⟩
    refine ⟨Suf.h, (by first | exact fun _ h => h | assumption | exact fun _ h => (by assumption : _ ⊆ _) ((by assumption : _ ⊆ _) h)), ?_⟩
    refine th_take rfl rfl (by kernel_rfl)  (opv_add (z := IntKind.i64.wrap (s.getD q default + s.getD t default)) rfl rfl rfl) ?_
    refine th_take rfl rfl (by kernel_rfl)  (by first | exact opv_indexAddrA rfl rfl (by first | decide | omega) (by first | decide | omega) | exact opv_indexAddrSN rfl rfl (by omega) (by assumption) (by first | rfl | omega) | exact opv_indexAddrS rfl rfl (by omega) (by omega) (by assumption) (by first | rfl | omega) | exact opv_indexAddrE rfl (by assumption) (by omega) rfl (by first | decide | omega) (by first | decide | omega) | exact opv_indexAddrRN rfl rfl (by omega) | exact opv_indexAddrR rfl rfl (by omega) (by omega) | exact opv_indexAddrRA rfl (by omega) rfl (by first | decide | omega) (by first | decide | omega) | exact opv_indexAddrSP rfl rfl (by omega) (by omega)) ?_
    refine th_one (by kernel_rfl) (step_m rfl rfl (opg_storeRX (IntKind.i64.wrap (s.getD q default + s.getD t default)) rfl rfl rfl (by omega) (by omega) rfl rfl rfl rfl) ?_)
    rintro _ _ _ ⟨rfl, rfl⟩
    refine ⟨Suf.h, (by first | exact fun _ h => h | assumption | exact fun _ h => (by assumption : _ ⊆ _) ((by assumption : _ ⊆ _) h)), ?_⟩
    refine th_done (by kernel_rfl) ?_
    exact tri_cutEnd _ ⟨rfl, rfl, rfl⟩ ⟨rfl, rfl, rfl, trivial⟩
  rintro _ _ _ ⟨rfl, rfl, rfl⟩
  have e2 : (l.set q (IntKind.i64.wrap (l.getD q default - 1))).getD q default = IntKind.i64.wrap (l.getD q default - 1) := by rw [R19.getD_setI (by omega), if_pos rfl]
  refine tT (tS (tR (tM rfl rfl ?_)))
  refine tri_v (by first | exact opv_nilCheckE rfl | exact opv_nilCheck rfl) rfl ?_
  refine tri_v (by first | exact opv_fieldAddr rfl rfl | exact opv_fieldAddrE rfl (by assumption) (by omega) rfl | exact opv_fieldAddrR rfl (by omega) rfl | exact opv_fieldAddrP rfl rfl rfl) rfl ?_
  refine tri_v (by first | exact opv_load1 rfl rfl rfl | exact opv_loadA rfl rfl rfl | exact opv_loadE1 rfl (by assumption) rfl (by omega) rfl rfl | exact opv_loadEA rfl (by assumption) rfl (by omega) rfl rfl | exact opv_loadRX1 rfl rfl (by omega) rfl rfl | exact opv_loadRXA rfl rfl (by omega) rfl rfl rfl | exact opv_loadIX rfl rfl (by omega) | exact opv_loadR1 rfl rfl rfl | exact opv_loadRA rfl rfl rfl rfl) rfl ?_
  refine tM rfl rfl ?_
  refine tri_v (by first | exact opv_indexAddrA rfl rfl (by first | decide | omega) (by first | decide | omega) | exact opv_indexAddrSN rfl rfl (by omega) (by assumption) (by first | rfl | omega) | exact opv_indexAddrS rfl rfl (by omega) (by omega) (by assumption) (by first | rfl | omega) | exact opv_indexAddrE rfl (by assumption) (by omega) rfl (by first | decide | omega) (by first | decide | omega) | exact opv_indexAddrRN rfl rfl (by omega) | exact opv_indexAddrR rfl rfl (by omega) (by omega) | exact opv_indexAddrRA rfl (by omega) rfl (by first | decide | omega) (by first | decide | omega) | exact opv_indexAddrSP rfl rfl (by omega) (by omega)) rfl ?_
  refine tri_v (by first | exact opv_load1 rfl rfl rfl | exact opv_loadA rfl rfl rfl | exact opv_loadE1 rfl (by assumption) rfl (by omega) rfl rfl | exact opv_loadEA rfl (by assumption) rfl (by omega) rfl rfl | exact opv_loadRX1 rfl rfl (by omega) rfl rfl | exact opv_loadRXA rfl rfl (by omega) rfl rfl rfl | exact opv_loadIX rfl rfl (by omega) | exact opv_loadR1 rfl rfl rfl | exact opv_loadRA rfl rfl rfl rfl) rfl ?_
  refine tri_v (opv_sub (z := IntKind.i64.wrap (l.getD q default - 1)) rfl rfl rfl) rfl ?_
  refine tri_v (by first | exact opv_indexAddrA rfl rfl (by first | decide | omega) (by first | decide | omega) | exact opv_indexAddrSN rfl rfl (by omega) (by assumption) (by first | rfl | omega) | exact opv_indexAddrS rfl rfl (by omega) (by omega) (by assumption) (by first | rfl | omega) | exact opv_indexAddrE rfl (by assumption) (by omega) rfl (by first | decide | omega) (by first | decide | omega) | exact opv_indexAddrRN rfl rfl (by omega) | exact opv_indexAddrR rfl rfl (by omega) (by omega) | exact opv_indexAddrRA rfl (by omega) rfl (by first | decide | omega) (by first | decide | omega) | exact opv_indexAddrSP rfl rfl (by omega) (by omega)) rfl ?_
  refine tri_g (opg_storeRX (IntKind.i64.wrap (l.getD q default - 1)) rfl rfl rfl (by omega) (by omega) rfl rfl rfl rfl) rfl ?_
  rintro _ _ _ ⟨rfl, rfl⟩
  refine tN (tT (tS (tS (tR (tM rfl rfl ?_)))))
  refine tri_v (by first | exact opv_nilCheckE rfl | exact opv_nilCheck rfl) rfl ?_
  refine tri_v (by first | exact opv_fieldAddr rfl rfl | exact opv_fieldAddrE rfl (by assumption) (by omega) rfl | exact opv_fieldAddrR rfl (by omega) rfl | exact opv_fieldAddrP rfl rfl rfl) rfl ?_
  refine tri_v (by first | exact opv_load1 rfl rfl rfl | exact opv_loadA rfl rfl rfl | exact opv_loadE1 rfl (by assumption) rfl (by omega) rfl rfl | exact opv_loadEA rfl (by assumption) rfl (by omega) rfl rfl | exact opv_loadRX1 rfl rfl (by omega) rfl rfl | exact opv_loadRXA rfl rfl (by omega) rfl rfl rfl | exact opv_loadIX rfl rfl (by omega) | exact opv_loadR1 rfl rfl rfl | exact opv_loadRA rfl rfl rfl rfl) rfl ?_
  refine tM rfl rfl ?_
  refine tri_v (by first | exact opv_indexAddrA rfl rfl (by first | decide | omega) (by first | decide | omega) | exact opv_indexAddrSN rfl rfl (by omega) (by assumption) (by first | rfl | omega) | exact opv_indexAddrS rfl rfl (by omega) (by omega) (by assumption) (by first | rfl | omega) | exact opv_indexAddrE rfl (by assumption) (by omega) rfl (by first | decide | omega) (by first | decide | omega) | exact opv_indexAddrRN rfl rfl (by omega) | exact opv_indexAddrR rfl rfl (by omega) (by omega) | exact opv_indexAddrRA rfl (by omega) rfl (by first | decide | omega) (by first | decide | omega) | exact opv_indexAddrSP rfl rfl (by omega) (by omega)) rfl ?_
  refine tri_v (by first | exact opv_load1 rfl rfl rfl | exact opv_loadA rfl rfl rfl | exact opv_loadE1 rfl (by assumption) rfl (by omega) rfl rfl | exact opv_loadEA rfl (by assumption) rfl (by omega) rfl rfl | exact opv_loadRX1 rfl rfl (by omega) rfl rfl | exact opv_loadRXA rfl rfl (by omega) rfl rfl rfl | exact opv_loadIX rfl rfl (by omega) | exact opv_loadR1 rfl rfl rfl | exact opv_loadRA rfl rfl rfl rfl) rfl ?_
  refine tri_v (opv_gtr rfl rfl) rfl ?_
  refine tN (tT ?_)
  refine tri_cond_dec rfl (fun h2 => ?_) (fun h2 => ?_)
  ·rw [if_pos h2]
   refine tri_ret (tri_then_ret ?_)
   refine tri_inBlock_ret ?_
   refine tri_then_ret ?_
   refine tri_inBlock_ret ?_
   refine tri_then_ret ?_
   rw [Bool.or_false]
   refine tri_end _ (by first | exact ⟨[], rfl⟩ | exact ⟨[_], rfl⟩ | exact ⟨[_, _], rfl⟩ | exact ⟨[_, _, _], rfl⟩ | exact ⟨[_, _, _, _], rfl⟩ | exact ⟨[_, _, _, _, _], rfl⟩ | exact ⟨[_, _, _, _, _, _], rfl⟩ | exact ⟨[_, _, _, _, _, _, _], rfl⟩ | exact ⟨[_, _, _, _, _, _, _, _], rfl⟩) rfl .nil ⟨rfl, rfl⟩
  ·rw [if_neg h2]
   refine tri_skip (tT (tR (tM rfl rfl (tA rfl rfl (tN ?_)))))
   refine tri_inBlock ?_
   refine tT ?_
   refine tri_sub ?_ (hK (f, q, _, _) ⟨by simp only; omega, hqN, ls1, ll1, ?_⟩ (by simp only; omega))
   ·exact ⟨rfl, rfl, trivial⟩
   ·rw [he, ed, if_neg h2]
 ·have ed : R19.doneM p f s l t = (s, l, true) := by
   obtain ⟨f, rfl⟩ : ∃ f', f = f' + 1 := ⟨f - 1, by omega⟩
   show (if 0 < t then _ else _) = _
   rw [if_neg (by omega)]
  rw [ed]
  refine tri_exit ?_
  refine tri_then_exit ?_
  refine tri_then_exit ?_
  refine tri_inBlock_hit rfl ?_
  refine tT (tR (tM rfl rfl ?_))
  refine tri_v (by first | exact opv_nilCheckE rfl | exact opv_nilCheck rfl) rfl ?_
  refine tri_v (by first | exact opv_fieldAddr rfl rfl | exact opv_fieldAddrE rfl (by assumption) (by omega) rfl | exact opv_fieldAddrR rfl (by omega) rfl | exact opv_fieldAddrP rfl rfl rfl) rfl ?_
  refine tri_g (opg_store rfl rfl rfl rfl rfl rfl) rfl ?_
  rintro _ _ _ ⟨rfl, rfl⟩
  refine tN ?_
  rw [Bool.or_true]
  refine tri_end_n _ ⟨[], rfl⟩ rfl .nil ⟨rfl, rfl⟩
end Go.GL

set_option linter.unusedVariables false
namespace Go.GL
open Go.Proofs
attribute [local irreducible] wpList Code.wp Exit.then Exit.inBlock Ends Tri TriH OpV OpG FnC epf wpAnyH
variable {A : List Asrt} {I : List Chunk}
theorem set_same {l : List Int} {T : Nat} (h : T < l.length) (h0 : l.getD T default = 0) : l.set T 0 = l := by
 have e : l[T] = 0 := by
  rw [List.getD_eq_getElem?_getD, List.getElem?_eq_getElem h] at h0
  exact h0
 rw [← e, List.set_getElem_self]
theorem perm33 {a b c d e f : Asrt} {A : List Asrt} : (a :: b :: c :: d :: e :: f :: A).Perm (d :: e :: f :: a :: b :: c :: A) := (List.perm_append_comm (l₁ := [a, b, c]) (l₂ := [d, e, f])).append_right A
theorem kidsTo_one {p : List Int} (hr : R19.right p) (T : Nat) : R19.kidsTo p 1 T = [] := by
 rw [R19.kidsTo_succ]
 have h := (hr.2 0 hr.1.1).1 rfl
 rw [h, if_neg (by omega)]
 rfl
set_option maxHeartbeats 4000000 in
set_option maxRecDepth 100000 in
theorem ref19_run {c bd cp N W w T bz : Nat} {p v s l order who : List Int} {D : List (List Int)} {ss : List Sl} {d : Bool} {ap al ow ww : Option Addr} {co cw : Nat} {y4 y7 : Value} (hs : SlAt I ap p) (hr : R19.right p) (hN : p.length = N) (hWD : D.length = W) (hdq : Dqs I ss D) (hw : w < W) (hT : T < N) (hsl : s.length = N) (hll : l.length = N) (hl0 : l.getD T default = 0)
  (hdl : (D.getD w default).length ≤ 300) (hol : order.length ≤ 1000000) (hwl : who.length ≤ 1000000) :
  FnC Try.prog 27 [pt c 0, .int .i64 (T : Int), .int .i64 (w : Int), .int .i64 (v.getD T default)].toArray (Row (some ⟨bd, 0, none⟩) W W 22 1 (encs ss) :: Row ow co order.length 3 1 (encs order) :: Row ww cw who.length 3 1 (encs who) :: Row (some ⟨bz, 0, none⟩) N N 3 1 (encs s) :: Row al N N 3 1 (encs l) ::
    Box c [.slice ap N cp, .slice (some ⟨bd, 0, none⟩) W W, .slice (some ⟨bz, 0, none⟩) N N, .slice al N N, y4, .slice ow order.length co, .slice ww who.length cw, y7, .bool d] 57 :: A) I
   (fun r A' I' => ∃ ss' ow' ww' co' cw', A' = Row (some ⟨bd, 0, none⟩) W W 22 1 (encs ss') :: Row ow' co' (order ++ [(T : Int)]).length 3 1 (encs (order ++ [(T : Int)])) :: Row ww' cw' (who ++ [(w : Int)]).length 3 1 (encs (who ++ [(w : Int)])) :: Row (some ⟨bz, 0, none⟩) N N 3 1 (encs (R19.runM p v s l d T).1) :: Row al N N 3 1 (encs (R19.runM p v s l d T).2.1) ::
    Box c [.slice ap N cp, .slice (some ⟨bd, 0, none⟩) W W, .slice (some ⟨bz, 0, none⟩) N N, .slice al N N, y4, .slice ow' (order ++ [(T : Int)]).length co', .slice ww' (who ++ [(w : Int)]).length cw', y7, .bool (R19.runM p v s l d T).2.2] 57 :: A ∧ Dqs I' ss' (D.set w (D.getD w default ++ R19.kids p T)) ∧ I ⊆ I') := by
 subst hN
 subst hWD
 have hpN := hr.1
 have hss := hdq.len
 obtain ⟨hsw, hlw⟩ := hdq.at_ w hw
 have tTn : (T : Int).toNat = T := rfl
 have tw : (w : Int).toNat = w := rfl
 have el1 : (order ++ [(T : Int)]).length = order.length + 1 := by simp
 have el2 : (who ++ [(w : Int)]).length = who.length + 1 := by simp
 have ee1 : encs (order ++ [(T : Int)]) = encs order ++ [.int .i64 (T : Int)] := by rw [encs_append]; rfl
 have ee2 : encs (who ++ [(w : Int)]) = encs who ++ [.int .i64 (w : Int)] := by rw [encs_append]; rfl
 rw [el1, el2, ee1, ee2]
 skip
 refine fn_enter4 Try.func27 rfl Try.ntmps27 rfl fun w0 => ?_
 skip
 refine tS (tR (tM rfl rfl (tM rfl rfl ?_)))
 refine tri_v (by first | exact opv_nilCheckE rfl | exact opv_nilCheck rfl) rfl ?_
 refine tri_v (by first | exact opv_fieldAddr rfl rfl | exact opv_fieldAddrE rfl (by assumption) (by omega) rfl | exact opv_fieldAddrR rfl (by omega) rfl | exact opv_fieldAddrP rfl rfl rfl) rfl ?_
 refine tri_v (by first | exact opv_fieldAddr rfl rfl | exact opv_fieldAddrE rfl (by assumption) (by omega) rfl | exact opv_fieldAddrR rfl (by omega) rfl | exact opv_fieldAddrP rfl rfl rfl) rfl ?_
 refine tri_v (by first | exact opv_load1 rfl rfl rfl | exact opv_loadA rfl rfl rfl | exact opv_loadE1 rfl (by assumption) rfl (by omega) rfl rfl | exact opv_loadEA rfl (by assumption) rfl (by omega) rfl rfl | exact opv_loadRX1 rfl rfl (by omega) rfl rfl | exact opv_loadRXA rfl rfl (by omega) rfl rfl rfl | exact opv_loadIX rfl rfl (by omega) | exact opv_loadR1 rfl rfl rfl | exact opv_loadRA rfl rfl rfl rfl) rfl ?_
 refine tM rfl rfl ?_
 refine tri_g (opg_buildSlice rfl rfl rfl rfl) rfl ?_
 rintro _ _ _ ⟨b17, rfl, rfl, rfl⟩
 refine tri_g (opg_appendB rfl rfl rfl rfl (by omega) rfl) rfl ?_
 rintro _ _ _ ⟨ow', co', rfl, rfl, rfl⟩
 refine tri_v (by first | exact opv_nilCheckE rfl | exact opv_nilCheck rfl) rfl ?_
 refine tri_v (by first | exact opv_fieldAddr rfl rfl | exact opv_fieldAddrE rfl (by assumption) (by omega) rfl | exact opv_fieldAddrR rfl (by omega) rfl | exact opv_fieldAddrP rfl rfl rfl) rfl ?_
 refine tri_v (by first | exact opv_fieldAddr rfl rfl | exact opv_fieldAddrE rfl (by assumption) (by omega) rfl | exact opv_fieldAddrR rfl (by omega) rfl | exact opv_fieldAddrP rfl rfl rfl) rfl ?_
 refine tri_g (opg_store rfl rfl rfl rfl rfl rfl) rfl ?_
 rintro _ _ _ ⟨rfl, rfl⟩
 refine tN (tT (tS (tR (tM rfl rfl (tM rfl rfl ?_)))))
 refine tri_v (by first | exact opv_nilCheckE rfl | exact opv_nilCheck rfl) rfl ?_
 refine tri_v (by first | exact opv_fieldAddr rfl rfl | exact opv_fieldAddrE rfl (by assumption) (by omega) rfl | exact opv_fieldAddrR rfl (by omega) rfl | exact opv_fieldAddrP rfl rfl rfl) rfl ?_
 refine tri_v (by first | exact opv_fieldAddr rfl rfl | exact opv_fieldAddrE rfl (by assumption) (by omega) rfl | exact opv_fieldAddrR rfl (by omega) rfl | exact opv_fieldAddrP rfl rfl rfl) rfl ?_
 refine tri_v (by first | exact opv_load1 rfl rfl rfl | exact opv_loadA rfl rfl rfl | exact opv_loadE1 rfl (by assumption) rfl (by omega) rfl rfl | exact opv_loadEA rfl (by assumption) rfl (by omega) rfl rfl | exact opv_loadRX1 rfl rfl (by omega) rfl rfl | exact opv_loadRXA rfl rfl (by omega) rfl rfl rfl | exact opv_loadIX rfl rfl (by omega) | exact opv_loadR1 rfl rfl rfl | exact opv_loadRA rfl rfl rfl rfl) rfl ?_
 refine tM rfl rfl ?_
 refine tri_g (opg_buildSlice rfl rfl rfl rfl) rfl ?_
 rintro _ _ _ ⟨b29, rfl, rfl, rfl⟩
 refine tri_g (opg_appendB rfl rfl rfl rfl (by omega) rfl) rfl ?_
 rintro _ _ _ ⟨ww', cw', rfl, rfl, rfl⟩
 refine tri_v (by first | exact opv_nilCheckE rfl | exact opv_nilCheck rfl) rfl ?_
 refine tri_v (by first | exact opv_fieldAddr rfl rfl | exact opv_fieldAddrE rfl (by assumption) (by omega) rfl | exact opv_fieldAddrR rfl (by omega) rfl | exact opv_fieldAddrP rfl rfl rfl) rfl ?_
 refine tri_v (by first | exact opv_fieldAddr rfl rfl | exact opv_fieldAddrE rfl (by assumption) (by omega) rfl | exact opv_fieldAddrR rfl (by omega) rfl | exact opv_fieldAddrP rfl rfl rfl) rfl ?_
 refine tri_g (opg_store rfl rfl rfl rfl rfl rfl) rfl ?_
 rintro _ _ _ ⟨rfl, rfl⟩
 refine tN (tT (tS (tR (tM rfl rfl ?_))))
 refine tri_v (by first | exact opv_nilCheckE rfl | exact opv_nilCheck rfl) rfl ?_
 refine tri_v (by first | exact opv_fieldAddr rfl rfl | exact opv_fieldAddrE rfl (by assumption) (by omega) rfl | exact opv_fieldAddrR rfl (by omega) rfl | exact opv_fieldAddrP rfl rfl rfl) rfl ?_
 refine tri_v (by first | exact opv_load1 rfl rfl rfl | exact opv_loadA rfl rfl rfl | exact opv_loadE1 rfl (by assumption) rfl (by omega) rfl rfl | exact opv_loadEA rfl (by assumption) rfl (by omega) rfl rfl | exact opv_loadRX1 rfl rfl (by omega) rfl rfl | exact opv_loadRXA rfl rfl (by omega) rfl rfl rfl | exact opv_loadIX rfl rfl (by omega) | exact opv_loadR1 rfl rfl rfl | exact opv_loadRA rfl rfl rfl rfl) rfl ?_
 refine tM rfl rfl (tM rfl rfl ?_)
 refine tri_v (by first | exact opv_indexAddrA rfl rfl (by first | decide | omega) (by first | decide | omega) | exact opv_indexAddrSN rfl rfl (by omega) (by assumption) (by first | rfl | omega) | exact opv_indexAddrS rfl rfl (by omega) (by omega) (by assumption) (by first | rfl | omega) | exact opv_indexAddrE rfl (by assumption) (by omega) rfl (by first | decide | omega) (by first | decide | omega) | exact opv_indexAddrRN rfl rfl (by omega) | exact opv_indexAddrR rfl rfl (by omega) (by omega) | exact opv_indexAddrRA rfl (by omega) rfl (by first | decide | omega) (by first | decide | omega) | exact opv_indexAddrSP rfl rfl (by omega) (by omega)) rfl ?_
 refine tri_g (opg_storeRX (v.getD T default) rfl rfl rfl (by omega) (by omega) rfl rfl rfl rfl) rfl ?_
 rintro _ _ _ ⟨rfl, rfl⟩
 refine tN (tT (tS (tR (tM rfl rfl ?_))))
 refine tri_v (by first | exact opv_nilCheckE rfl | exact opv_nilCheck rfl) rfl ?_
 refine tri_v (by first | exact opv_fieldAddr rfl rfl | exact opv_fieldAddrE rfl (by assumption) (by omega) rfl | exact opv_fieldAddrR rfl (by omega) rfl | exact opv_fieldAddrP rfl rfl rfl) rfl ?_
 refine tri_v (by first | exact opv_load1 rfl rfl rfl | exact opv_loadA rfl rfl rfl | exact opv_loadE1 rfl (by assumption) rfl (by omega) rfl rfl | exact opv_loadEA rfl (by assumption) rfl (by omega) rfl rfl | exact opv_loadRX1 rfl rfl (by omega) rfl rfl | exact opv_loadRXA rfl rfl (by omega) rfl rfl rfl | exact opv_loadIX rfl rfl (by omega) | exact opv_loadR1 rfl rfl rfl | exact opv_loadRA rfl rfl rfl rfl) rfl ?_
 refine tM rfl rfl ?_
 refine tri_v (by first | exact opv_indexAddrA rfl rfl (by first | decide | omega) (by first | decide | omega) | exact opv_indexAddrSN rfl rfl (by omega) (by assumption) (by first | rfl | omega) | exact opv_indexAddrS rfl rfl (by omega) (by omega) (by assumption) (by first | rfl | omega) | exact opv_indexAddrE rfl (by assumption) (by omega) rfl (by first | decide | omega) (by first | decide | omega) | exact opv_indexAddrRN rfl rfl (by omega) | exact opv_indexAddrR rfl rfl (by omega) (by omega) | exact opv_indexAddrRA rfl (by omega) rfl (by first | decide | omega) (by first | decide | omega) | exact opv_indexAddrSP rfl rfl (by omega) (by omega)) rfl ?_
 refine tri_v (by first | exact opv_load1 rfl rfl rfl | exact opv_loadA rfl rfl rfl | exact opv_loadE1 rfl (by assumption) rfl (by omega) rfl rfl | exact opv_loadEA rfl (by assumption) rfl (by omega) rfl rfl | exact opv_loadRX1 rfl rfl (by omega) rfl rfl | exact opv_loadRXA rfl rfl (by omega) rfl rfl rfl | exact opv_loadIX rfl rfl (by omega) | exact opv_loadR1 rfl rfl rfl | exact opv_loadRA rfl rfl rfl rfl) rfl ?_
 refine tri_drop (tri_drop ?_)
 refine tri_nilRow (E := 3) (sz := 1) ?_
 refine tri_g (opg_appendS rfl rfl hsw.sl hlw rfl (by omega) rfl) rfl ?_
 rintro _ _ _ ⟨a8, c8, rfl, rfl, rfl⟩
 have hk1 := kidsTo_one hr T
 have e0 : 0 + (ss.getD w default).len = (D.getD w default ++ R19.kidsTo p 1 T).length := by rw [hk1, List.append_nil]; omega
 have e0c : [] ++ encs (D.getD w default) = encs (D.getD w default ++ R19.kidsTo p 1 T) := by rw [hk1, List.append_nil]; rfl
 have el0 : l = l.set T ((R19.kidsTo p 1 T).length : Nat) := by rw [hk1]; exact (set_same (by omega) hl0).symm
 rw [e0, e0c]
 have es0 : encs l = encs (l.set T ((R19.kidsTo p 1 T).length : Nat)) := by rw [← el0]
 rw [es0]
 have hklb := fun i => R19.kidsTo_len p T i
 generalize hs1 : s.set T (v.getD T default) = s1 at *
 have hs1l : s1.length = p.length := by rw [← hs1, List.length_set]; exact hsl
 try rw [hs1]
 refine tA rfl rfl (tN (tT (tS (tS (tR (tA rfl rfl (tN ?_)))))))
 refine tT ?_
 refine tri_cut (fun F' A' J => ∃ (a9 : Option Addr) (c9 : Nat), F' = [(0, pt c 0), (1, .int .i64 (T : Int)), (2, .int .i64 (w : Int)), (8, .slice a9 (D.getD w default ++ R19.kids p T).length c9)] ∧ A' = Row a9 c9 (D.getD w default ++ R19.kids p T).length 3 1 (encs (D.getD w default ++ R19.kids p T)) :: Row (some ⟨bd, 0, none⟩) D.length D.length 22 1 (encs ss) :: Row ow' co' (order.length + 1) 3 1 (encs order ++ [.int .i64 (T : Int)]) :: Row ww' cw' (who.length + 1) 3 1 (encs who ++ [.int .i64 (w : Int)]) :: Row (some ⟨bz, 0, none⟩) p.length p.length 3 1 (encs s1) :: Row al p.length p.length 3 1 (encs (l.set T ((R19.kids p T).length : Nat))) :: Box c [.slice ap p.length cp, .slice (some ⟨bd, 0, none⟩) D.length D.length, .slice (some ⟨bz, 0, none⟩) p.length p.length, .slice al p.length p.length, y4, .slice ow' (order.length + 1) co', .slice ww' (who.length + 1) cw', y7, .bool d] 57 :: A ∧ J = I) ?_ ?_
 ·refine tri_block ?_
  refine tri_sub (F' := [(0, pt c 0), (1, .int .i64 (T : Int)), (2, .int .i64 (w : Int)), (8, .slice a8 (D.getD w default ++ R19.kidsTo p 1 T).length c8), (9, .int .i64 ((1 : Nat) : Int))]) ⟨rfl, rfl, rfl, rfl, rfl, trivial⟩ ?_
  refine loop_ind (G := Nat × Option Addr × Nat) (fun g => p.length - g.1) (fun g => 1 ≤ g.1 ∧ g.1 ≤ p.length) (fun g => [(0, pt c 0), (1, .int .i64 (T : Int)), (2, .int .i64 (w : Int)), (8, .slice g.2.1 (D.getD w default ++ R19.kidsTo p g.1 T).length g.2.2), (9, .int .i64 (g.1 : Nat))])
   (fun g => Row g.2.1 g.2.2 (D.getD w default ++ R19.kidsTo p g.1 T).length 3 1 (encs (D.getD w default ++ R19.kidsTo p g.1 T)) :: Row (some ⟨bd, 0, none⟩) D.length D.length 22 1 (encs ss) :: Row ow' co' (order.length + 1) 3 1 (encs order ++ [.int .i64 (T : Int)]) :: Row ww' cw' (who.length + 1) 3 1 (encs who ++ [.int .i64 (w : Int)]) :: Row (some ⟨bz, 0, none⟩) p.length p.length 3 1 (encs s1) :: Row al p.length p.length 3 1 (encs (l.set T ((R19.kidsTo p g.1 T).length : Nat))) :: Box c [.slice ap p.length cp, .slice (some ⟨bd, 0, none⟩) D.length D.length, .slice (some ⟨bz, 0, none⟩) p.length p.length, .slice al p.length p.length, y4, .slice ow' (order.length + 1) co', .slice ww' (who.length + 1) cw', y7, .bool d] 57 :: A) (fun _ => I) ?_ (1, a8, c8) ⟨Nat.le_refl _, hpN.1⟩
  rintro ⟨i, a9, c9⟩ ⟨hi1, hi⟩ K hK
  simp only at hi1 hi hK ⊢
  have hki := hklb i
  have hkl : (D.getD w default ++ R19.kidsTo p i T).length = (D.getD w default).length + (R19.kidsTo p i T).length := List.length_append
  have hlT : (l.set T ((R19.kidsTo p i T).length : Nat)).getD T default = ((R19.kidsTo p i T).length : Nat) := by rw [R19.getD_setI (by omega), if_pos rfl]
  have hlT2 : (l.set T ((R19.kidsTo p i T).length : Nat)).getD (T : Int).toNat default = ((R19.kidsTo p i T).length : Nat) := hlT
  have hlL : (l.set T ((R19.kidsTo p i T).length : Nat)).length = p.length := by rw [List.length_set]; exact hll
  have ti : (i : Int).toNat = i := rfl
  have hks := R19.kidsTo_succ p i T
  skip
  refine tS (tS (tR (tM rfl rfl (tM rfl rfl ?_))))
  refine tri_v (by first | exact opv_nilCheckE rfl | exact opv_nilCheck rfl) rfl ?_
  refine tri_v (by first | exact opv_fieldAddr rfl rfl | exact opv_fieldAddrE rfl (by assumption) (by omega) rfl | exact opv_fieldAddrR rfl (by omega) rfl | exact opv_fieldAddrP rfl rfl rfl) rfl ?_
  refine tri_v (by first | exact opv_load1 rfl rfl rfl | exact opv_loadA rfl rfl rfl | exact opv_loadE1 rfl (by assumption) rfl (by omega) rfl rfl | exact opv_loadEA rfl (by assumption) rfl (by omega) rfl rfl | exact opv_loadRX1 rfl rfl (by omega) rfl rfl | exact opv_loadRXA rfl rfl (by omega) rfl rfl rfl | exact opv_loadIX rfl rfl (by omega) | exact opv_loadR1 rfl rfl rfl | exact opv_loadRA rfl rfl rfl rfl) rfl ?_
  refine tri_v (opv_len rfl) rfl ?_
  refine tri_v (opv_lss rfl rfl) rfl ?_
  refine tN (tT ?_)
  refine tri_cond_dec rfl (fun h => ?_) (fun h => ?_)
  ·have hil : i < p.length := by omega
   refine tri_skip (tT (tS (tri_block (tS (tR (tM rfl rfl ?_))))))
   refine tri_v (by first | exact opv_nilCheckE rfl | exact opv_nilCheck rfl) rfl ?_
   refine tri_v (by first | exact opv_fieldAddr rfl rfl | exact opv_fieldAddrE rfl (by assumption) (by omega) rfl | exact opv_fieldAddrR rfl (by omega) rfl | exact opv_fieldAddrP rfl rfl rfl) rfl ?_
   refine tri_v (by first | exact opv_load1 rfl rfl rfl | exact opv_loadA rfl rfl rfl | exact opv_loadE1 rfl (by assumption) rfl (by omega) rfl rfl | exact opv_loadEA rfl (by assumption) rfl (by omega) rfl rfl | exact opv_loadRX1 rfl rfl (by omega) rfl rfl | exact opv_loadRXA rfl rfl (by omega) rfl rfl rfl | exact opv_loadIX rfl rfl (by omega) | exact opv_loadR1 rfl rfl rfl | exact opv_loadRA rfl rfl rfl rfl) rfl ?_
   refine tM rfl rfl ?_
   refine tri_v (by first | exact opv_indexAddrA rfl rfl (by first | decide | omega) (by first | decide | omega) | exact opv_indexAddrSN rfl rfl (by omega) (by assumption) (by first | rfl | omega) | exact opv_indexAddrS rfl rfl (by omega) (by omega) (by assumption) (by first | rfl | omega) | exact opv_indexAddrE rfl (by assumption) (by omega) rfl (by first | decide | omega) (by first | decide | omega) | exact opv_indexAddrRN rfl rfl (by omega) | exact opv_indexAddrR rfl rfl (by omega) (by omega) | exact opv_indexAddrRA rfl (by omega) rfl (by first | decide | omega) (by first | decide | omega) | exact opv_indexAddrSP rfl rfl (by omega) (by omega)) rfl ?_
   refine tri_v (by first | exact opv_load1 rfl rfl rfl | exact opv_loadA rfl rfl rfl | exact opv_loadE1 rfl (by assumption) rfl (by omega) rfl rfl | exact opv_loadEA rfl (by assumption) rfl (by omega) rfl rfl | exact opv_loadRX1 rfl rfl (by omega) rfl rfl | exact opv_loadRXA rfl rfl (by omega) rfl rfl rfl | exact opv_loadIX rfl rfl (by omega) | exact opv_loadR1 rfl rfl rfl | exact opv_loadRA rfl rfl rfl rfl) rfl ?_
   refine tM rfl rfl ?_
   refine tri_v (by first | exact opv_eql rfl rfl | exact opv_eqlI rfl rfl rfl rfl rfl rfl | exact opv_eqlB rfl rfl | exact opv_eqlNil rfl rfl) rfl ?_
   refine tN (tT ?_)
   refine tri_cond_dec rfl (fun h2 => ?_) (fun h2 => ?_)
   ·rw [if_pos h2] at hks
    refine tS (tR (tM rfl rfl (tM rfl rfl ?_)))
    refine tri_g (opg_buildSlice rfl rfl rfl rfl) rfl ?_
    rintro _ _ _ ⟨b69, rfl, rfl, rfl⟩
    refine tri_g (opg_appendB rfl rfl rfl rfl (by omega) rfl) rfl ?_
    rintro _ _ _ ⟨a10, c10, rfl, rfl, rfl⟩
    refine tA rfl rfl (tN (tT (tR (tM rfl rfl ?_))))
    refine tri_v (by first | exact opv_nilCheckE rfl | exact opv_nilCheck rfl) rfl ?_
    refine tri_v (by first | exact opv_fieldAddr rfl rfl | exact opv_fieldAddrE rfl (by assumption) (by omega) rfl | exact opv_fieldAddrR rfl (by omega) rfl | exact opv_fieldAddrP rfl rfl rfl) rfl ?_
    refine tri_v (by first | exact opv_load1 rfl rfl rfl | exact opv_loadA rfl rfl rfl | exact opv_loadE1 rfl (by assumption) rfl (by omega) rfl rfl | exact opv_loadEA rfl (by assumption) rfl (by omega) rfl rfl | exact opv_loadRX1 rfl rfl (by omega) rfl rfl | exact opv_loadRXA rfl rfl (by omega) rfl rfl rfl | exact opv_loadIX rfl rfl (by omega) | exact opv_loadR1 rfl rfl rfl | exact opv_loadRA rfl rfl rfl rfl) rfl ?_
    refine tM rfl rfl ?_
    refine tri_v (by first | exact opv_indexAddrA rfl rfl (by first | decide | omega) (by first | decide | omega) | exact opv_indexAddrSN rfl rfl (by omega) (by assumption) (by first | rfl | omega) | exact opv_indexAddrS rfl rfl (by omega) (by omega) (by assumption) (by first | rfl | omega) | exact opv_indexAddrE rfl (by assumption) (by omega) rfl (by first | decide | omega) (by first | decide | omega) | exact opv_indexAddrRN rfl rfl (by omega) | exact opv_indexAddrR rfl rfl (by omega) (by omega) | exact opv_indexAddrRA rfl (by omega) rfl (by first | decide | omega) (by first | decide | omega) | exact opv_indexAddrSP rfl rfl (by omega) (by omega)) rfl ?_
    refine tri_v (by first | exact opv_load1 rfl rfl rfl | exact opv_loadA rfl rfl rfl | exact opv_loadE1 rfl (by assumption) rfl (by omega) rfl rfl | exact opv_loadEA rfl (by assumption) rfl (by omega) rfl rfl | exact opv_loadRX1 rfl rfl (by omega) rfl rfl | exact opv_loadRXA rfl rfl (by omega) rfl rfl rfl | exact opv_loadIX rfl rfl (by omega) | exact opv_loadR1 rfl rfl rfl | exact opv_loadRA rfl rfl rfl rfl) rfl ?_
    refine tri_v (by first | exact opv_add rfl rfl (w64 (by omega) (by omega))) rfl ?_
    refine tri_v (by first | exact opv_indexAddrA rfl rfl (by first | decide | omega) (by first | decide | omega) | exact opv_indexAddrSN rfl rfl (by omega) (by assumption) (by first | rfl | omega) | exact opv_indexAddrS rfl rfl (by omega) (by omega) (by assumption) (by first | rfl | omega) | exact opv_indexAddrE rfl (by assumption) (by omega) rfl (by first | decide | omega) (by first | decide | omega) | exact opv_indexAddrRN rfl rfl (by omega) | exact opv_indexAddrR rfl rfl (by omega) (by omega) | exact opv_indexAddrRA rfl (by omega) rfl (by first | decide | omega) (by first | decide | omega) | exact opv_indexAddrSP rfl rfl (by omega) (by omega)) rfl ?_
    refine tri_g (opg_storeRX ((l.set T ((R19.kidsTo p i T).length : Nat)).getD T default + 1) rfl rfl rfl (by omega) (by omega) rfl rfl rfl rfl) rfl ?_
    rintro _ _ _ ⟨rfl, rfl⟩
    refine tN ?_
    refine tri_inBlock ?_
    refine tT (tR (tM rfl rfl ?_))
    refine tri_v (by first | exact opv_add rfl rfl (w64 (by omega) (by omega))) rfl ?_
    refine tA rfl rfl (tN (tT ?_))
    refine tri_drop ?_
    have e5 : (D.getD w default ++ R19.kidsTo p (i + 1) T).length = (D.getD w default ++ R19.kidsTo p i T).length + 1 := by
     rw [hks]
     simp only [List.length_append, List.length_singleton]
     omega
    have e6 : encs (D.getD w default ++ R19.kidsTo p (i + 1) T) = encs (D.getD w default ++ R19.kidsTo p i T) ++ [.int .i64 (i : Int)] := by
     rw [hks, ← List.append_assoc]
     generalize D.getD w default ++ R19.kidsTo p i T = X
     rw [encs_append]
     rfl
    have e3 : (l.set T ((R19.kidsTo p i T).length : Nat)).set T ((l.set T ((R19.kidsTo p i T).length : Nat)).getD T default + 1) = l.set T ((R19.kidsTo p (i + 1) T).length : Nat) := by
     rw [hlT, List.set_set, hks, List.length_append]
     rfl
    have e3' : (l.set T ((R19.kidsTo p i T).length : Nat)).set (T : Int).toNat ((l.set T ((R19.kidsTo p i T).length : Nat)).getD T default + 1) = l.set T ((R19.kidsTo p (i + 1) T).length : Nat) := e3
    try rw [e3']
    try rw [e3]
    refine tri_rowEq (len' := (D.getD w default ++ R19.kidsTo p (i + 1) T).length) (cells' := encs (D.getD w default ++ R19.kidsTo p (i + 1) T)) e5.symm e6.symm ?_
    refine tri_sub ?_ (hK (i + 1, a10, c10) ⟨by simp only; omega, by simp only; omega⟩ (by simp only; omega))
    exact ⟨rfl, rfl, rfl, by simp only [e5]; rfl, rfl, trivial⟩
   ·rw [if_neg h2, List.append_nil] at hks
    rw [← hks]
    refine tri_skip ?_
    refine tri_inBlock ?_
    refine tT (tR (tM rfl rfl ?_))
    refine tri_v (by first | exact opv_add rfl rfl (w64 (by omega) (by omega))) rfl ?_
    refine tA rfl rfl (tN (tT ?_))
    refine tri_sub ?_ (hK (i + 1, a9, c9) ⟨by simp only; omega, by simp only; omega⟩ (by simp only; omega))
    exact ⟨rfl, rfl, rfl, rfl, rfl, trivial⟩
  ·obtain rfl : i = p.length := by omega
   refine tri_exit ?_
   refine tri_then_exit ?_
   refine tri_then_exit ?_
   refine tri_inBlock_hit rfl ?_
   exact tri_cutEnd _ ⟨a9, c9, rfl, rfl, rfl⟩ ⟨rfl, rfl, rfl, rfl, trivial⟩
 rintro _ _ _ ⟨a9, c9, rfl, rfl, rfl⟩
 have hkl := R19.kids_len p T
 have hlT : (l.set T ((R19.kids p T).length : Nat)).getD T default = ((R19.kids p T).length : Nat) := by rw [R19.getD_setI (by omega), if_pos rfl]
 have hlL : (l.set T ((R19.kids p T).length : Nat)).length = p.length := by rw [List.length_set]; exact hll
 refine tT (tS (tR (tM rfl rfl ?_)))
 refine tri_v (by first | exact opv_nilCheckE rfl | exact opv_nilCheck rfl) rfl ?_
 refine tri_v (by first | exact opv_fieldAddr rfl rfl | exact opv_fieldAddrE rfl (by assumption) (by omega) rfl | exact opv_fieldAddrR rfl (by omega) rfl | exact opv_fieldAddrP rfl rfl rfl) rfl ?_
 refine tri_v (by first | exact opv_load1 rfl rfl rfl | exact opv_loadA rfl rfl rfl | exact opv_loadE1 rfl (by assumption) rfl (by omega) rfl rfl | exact opv_loadEA rfl (by assumption) rfl (by omega) rfl rfl | exact opv_loadRX1 rfl rfl (by omega) rfl rfl | exact opv_loadRXA rfl rfl (by omega) rfl rfl rfl | exact opv_loadIX rfl rfl (by omega) | exact opv_loadR1 rfl rfl rfl | exact opv_loadRA rfl rfl rfl rfl) rfl ?_
 refine tM rfl rfl (tM rfl rfl ?_)
 refine tri_v (by first | exact opv_indexAddrA rfl rfl (by first | decide | omega) (by first | decide | omega) | exact opv_indexAddrSN rfl rfl (by omega) (by assumption) (by first | rfl | omega) | exact opv_indexAddrS rfl rfl (by omega) (by omega) (by assumption) (by first | rfl | omega) | exact opv_indexAddrE rfl (by assumption) (by omega) rfl (by first | decide | omega) (by first | decide | omega) | exact opv_indexAddrRN rfl rfl (by omega) | exact opv_indexAddrR rfl rfl (by omega) (by omega) | exact opv_indexAddrRA rfl (by omega) rfl (by first | decide | omega) (by first | decide | omega) | exact opv_indexAddrSP rfl rfl (by omega) (by omega)) rfl ?_
 refine tri_g (opg_storeRX (⟨a9, (D.getD w default ++ R19.kids p T).length, c9⟩ : Sl) rfl rfl rfl (by omega) (by omega) rfl rfl rfl rfl) rfl ?_
 rintro _ _ _ ⟨rfl, rfl⟩
 refine tri_freezeRowC (xs := D.getD w default ++ R19.kids p T) rfl fun J2 hJ2 h9 => ?_
 have hd2 := (hdq.mono hJ2).set (k := w) (s := ⟨a9, (D.getD w default ++ R19.kids p T).length, c9⟩) h9 rfl
 refine tN (tT (tS (tR (tM rfl rfl ?_))))
 refine tri_v (by first | exact opv_nilCheckE rfl | exact opv_nilCheck rfl) rfl ?_
 refine tri_v (by first | exact opv_fieldAddr rfl rfl | exact opv_fieldAddrE rfl (by assumption) (by omega) rfl | exact opv_fieldAddrR rfl (by omega) rfl | exact opv_fieldAddrP rfl rfl rfl) rfl ?_
 refine tri_v (by first | exact opv_load1 rfl rfl rfl | exact opv_loadA rfl rfl rfl | exact opv_loadE1 rfl (by assumption) rfl (by omega) rfl rfl | exact opv_loadEA rfl (by assumption) rfl (by omega) rfl rfl | exact opv_loadRX1 rfl rfl (by omega) rfl rfl | exact opv_loadRXA rfl rfl (by omega) rfl rfl rfl | exact opv_loadIX rfl rfl (by omega) | exact opv_loadR1 rfl rfl rfl | exact opv_loadRA rfl rfl rfl rfl) rfl ?_
 refine tM rfl rfl ?_
 refine tri_v (by first | exact opv_indexAddrA rfl rfl (by first | decide | omega) (by first | decide | omega) | exact opv_indexAddrSN rfl rfl (by omega) (by assumption) (by first | rfl | omega) | exact opv_indexAddrS rfl rfl (by omega) (by omega) (by assumption) (by first | rfl | omega) | exact opv_indexAddrE rfl (by assumption) (by omega) rfl (by first | decide | omega) (by first | decide | omega) | exact opv_indexAddrRN rfl rfl (by omega) | exact opv_indexAddrR rfl rfl (by omega) (by omega) | exact opv_indexAddrRA rfl (by omega) rfl (by first | decide | omega) (by first | decide | omega) | exact opv_indexAddrSP rfl rfl (by omega) (by omega)) rfl ?_
 refine tri_v (by first | exact opv_load1 rfl rfl rfl | exact opv_loadA rfl rfl rfl | exact opv_loadE1 rfl (by assumption) rfl (by omega) rfl rfl | exact opv_loadEA rfl (by assumption) rfl (by omega) rfl rfl | exact opv_loadRX1 rfl rfl (by omega) rfl rfl | exact opv_loadRXA rfl rfl (by omega) rfl rfl rfl | exact opv_loadIX rfl rfl (by omega) | exact opv_loadR1 rfl rfl rfl | exact opv_loadRA rfl rfl rfl rfl) rfl ?_
 refine tri_v (by first | exact opv_eql rfl rfl | exact opv_eqlI rfl rfl rfl rfl rfl rfl | exact opv_eqlB rfl rfl | exact opv_eqlNil rfl rfl) rfl ?_
 refine tN (tT ?_)
 have hrm : R19.runM p v s l d T = if (R19.kids p T).length = 0 then ((R19.doneM p (T + 1) s1 (l.set T ((R19.kids p T).length : Nat)) T).1, (R19.doneM p (T + 1) s1 (l.set T ((R19.kids p T).length : Nat)) T).2.1, d || (R19.doneM p (T + 1) s1 (l.set T ((R19.kids p T).length : Nat)) T).2.2) else (s1, l.set T ((R19.kids p T).length : Nat), d) := by rw [← hs1]; rfl
 rw [hrm]
 try rw [hlT]
 refine tri_cond_dec rfl (fun h3 => ?_) (fun h3 => ?_)
 ·rw [if_pos (by omega)]
  refine tri_perm perm33 ?_
  refine tR (tM rfl rfl (tM rfl rfl ?_))
  refine tri_g (opg_call (xs := [_, _]) rfl (ref19_done (t0 := T) (f0 := T + 1) (hs.mono hJ2) hr rfl hT (by omega) hs1l hlL)) rfl ?_
  rintro _ _ _ ⟨rfl, rfl⟩
  refine tri_perm perm33 ?_
  refine tN ?_
  refine tri_end_n _ ⟨[], rfl⟩ rfl .nil ⟨_, ow', ww', co', cw', rfl, hd2, hJ2⟩
 ·rw [if_neg (by omega)]
  refine tri_skip ?_
  refine tri_end_n _ ⟨[], rfl⟩ rfl .nil ⟨_, ow', ww', co', cw', rfl, hd2, hJ2⟩
end Go.GL

set_option linter.unusedVariables false
namespace Go.GL
open Go.Proofs
attribute [local irreducible] wpList Code.wp Exit.then Exit.inBlock Ends Tri TriH OpV OpG FnC epf wpAnyH
variable {A : List Asrt} {I : List Chunk}
namespace R19
/-- What a run tells. -/
structure Res where
 sum : Int
 O : List Int
 Wh : List Int
 st : Int
 e : Int
instance (p v : List Int) (nw : Int) : Decidable (good p v nw) := inferInstanceAs (Decidable (_ ∧ _ ∧ _ ∧ _ ∧ _))
def resM (p v picks : List Int) (nw : Int) : Res := if good p v nw then ⟨total v p.length, (mst p picks nw.toNat p.length).order, (mst p picks nw.toNat p.length).who, (p.length : Nat), 0⟩ else ⟨0, [], [], 0, 1⟩
theorem resM_good {p v picks : List Int} {nw : Int} (h : good p v nw) : resM p v picks nw = ⟨total v p.length, (mst p picks nw.toNat p.length).order, (mst p picks nw.toNat p.length).who, (p.length : Nat), 0⟩ := if_pos h
theorem resM_bad {p v picks : List Int} {nw : Int} (h : ¬ good p v nw) : resM p v picks nw = ⟨0, [], [], 0, 1⟩ := if_neg h
end R19
/-- A run's answer. -/
def RunPost (R : R19.Res) (A : List Asrt) (I : List Chunk) (r : Value) (A' : List Asrt) (I' : List Chunk) : Prop :=
 ∃ ao aw co cw, r = .tuple [.agg [.int .i64 R.sum, .slice ao R.O.length co, .slice aw R.Wh.length cw, .int .i64 R.st].toArray, .int .i64 R.e].toArray ∧ SlAt I' ao R.O ∧ SlAt I' aw R.Wh ∧ A = A' ∧ I ⊆ I'
theorem fork_runR {p v picks : List Int} {a a2 a3 : Option Addr} {cap cap2 cap3 : Nat} {nw : Int} (hs : SlAt I a p) (hs2 : SlAt I a2 v) (hs3 : SlAt I a3 picks) (hk : Is picks) (hn : p.length ≤ 1000000000) :
  FnC Try.prog 15 [.slice a p.length cap, .slice a2 v.length cap2, .int .i64 nw, .slice a3 picks.length cap3].toArray A I (RunPost (R19.resM p v picks nw) A I) :=
 (fork_run hs hs2 hs3 hk hn).mono fun r A' I' h => by
  obtain ⟨h | h, hA, hI⟩ := h
  ·obtain ⟨hg, ao, aw, co, cw, h1, h2, h3⟩ := h
   have hm := R19.MOk.run hg.1 (nw := nw.toNat) (by have := hg.2.2.1; omega) p.length (Nat.le_refl _) (picks := picks)
   rw [R19.resM_good hg]
   exact ⟨ao, aw, co, cw, by rw [h3]; simp only [hm.ol, hm.wl], h1.sl, h2.sl, hA, hI⟩
  ·rw [R19.resM_bad h.1]
   exact ⟨none, none, 0, 0, h.2, SlAt.nil, SlAt.nil, hA, hI⟩
/-- Ones, as far as they are set. -/
def onesI (W i : Nat) : List Int := List.replicate i 1 ++ List.replicate (W - i) 0
theorem onesI_len {W i : Nat} (h : i ≤ W) : (onesI W i).length = W := by
 unfold onesI
 rw [List.length_append, List.length_replicate, List.length_replicate]
 omega
theorem onesI_set {W i : Nat} (h : i < W) : (onesI W i).set i 1 = onesI W (i + 1) := by
 unfold onesI
 rw [List.set_append_right _ _ (by rw [List.length_replicate]; exact Nat.le_refl _), List.length_replicate, Nat.sub_self]
 obtain ⟨m, hm⟩ : ∃ m, W - i = m + 1 := ⟨W - i - 1, by omega⟩
 rw [hm, List.replicate_succ, show W - (i + 1) = m by omega]
 show List.replicate i 1 ++ 1 :: List.replicate m 0 = _
 rw [List.replicate_succ', List.append_assoc]
 rfl
theorem onesI_all (W : Nat) : onesI W W = List.replicate W 1 := by
 unfold onesI
 rw [Nat.sub_self, List.replicate_zero, List.append_nil]
namespace R19
theorem RInv.start {p v picks : List Int} {W : Nat} (hr : right p) (hW : 1 ≤ W) (hv : ∀ t, t < p.length → -1099511627776 ≤ v.getD t default ∧ v.getD t default ≤ 1099511627776) : RInv p v picks W 0 (List.replicate p.length 0) (List.replicate p.length 0) false (-1) := by
 have hci := CI.start (picks := picks) (W := W) hr hW (fs19_ok (p := p) (v := v)) hv
 refine ⟨_, _, _, hci, ⟨by simp, by simp, fun t _ h => (nomatch h), fun t _ h => (nomatch h), fun t ht _ => ?_⟩, fun t ht _ => ?_, rfl⟩
 ·rw [List.getD_eq_getElem?_getD, List.getElem?_replicate, if_pos ht]
  rfl
 ·show ((fs19 p v).getD t default).sum = _
  rw [fs19_at ht]
theorem RInv.ends {p v picks : List Int} {W n : Nat} {s l : List Int} {d : Bool} {last : Int} (hr : right p) (hW : 1 ≤ W) (h : RInv p v picks W n s l d last) (hn : n ≤ p.length) : d = true ↔ n = p.length := by
 obtain ⟨fs0, k, dn, hci, _, _, hd⟩ := h
 rw [hd]
 exact hci.ends_iff hr hW hn
theorem RInv.sums {p v picks : List Int} {W : Nat} {s l : List Int} {d : Bool} {last : Int} (hr : right p) (hW : 1 ≤ W) (h : RInv p v picks W p.length s l d last) (hv : ∀ t, t < p.length → -1099511627776 ≤ v.getD t default ∧ v.getD t default ≤ 1099511627776) : s.getD 0 default = total v p.length := by
 obtain ⟨fs0, k, dn, hci, hre, _, hd⟩ := h
 have hm := MOk.run hr hW p.length (Nat.le_refl _) (picks := picks)
 have h0 := hr.1
 rw [hre.sm 0 (by omega) (by rw [hci.order]; exact hm.done hr 0 (by omega))]
 exact hci.sums hr hW hv
theorem RInv.last {p v picks : List Int} {W n : Nat} {s l : List Int} {d : Bool} {last : Int} (h : RInv p v picks W n s l d last) : last = (mst p picks W n).last := by
 obtain ⟨fs0, k, dn, hci, _⟩ := h
 exact hci.last
theorem last_bd {p picks : List Int} {W : Nat} (hW : 1 ≤ W) : ∀ n, -1 ≤ (mst p picks W n).last ∧ (mst p picks W n).last < W
 | 0 => ⟨Int.le_refl _, by show (-1 : Int) < W; omega⟩
 | n + 1 => by
  have := nxt_ok (picks := picks) (nw := W) (n := (mst p picks W n).order.length) (last := (mst p picks W n).last) hW
  show -1 ≤ nxt picks W (mst p picks W n).order.length (mst p picks W n).last ∧ nxt picks W (mst p picks W n).order.length (mst p picks W n).last < W
  omega
end R19
theorem permT {x y o d c e f : Asrt} {A : List Asrt} : (x :: y :: o :: d :: c :: e :: f :: A).Perm (o :: d :: x :: y :: e :: f :: c :: A) :=
 ((List.perm_append_comm (l₁ := [x, y]) (l₂ := [o, d])).append_right (c :: e :: f :: A)).trans (((((((List.perm_append_comm (l₁ := [c]) (l₂ := [e, f])).append_right A).cons y).cons x).cons d).cons o))
theorem permX {a b c : Asrt} {A : List Asrt} : (a :: b :: c :: A).Perm (c :: a :: b :: A) := List.perm_middle (l₁ := [a, b])
theorem permX' {a b c : Asrt} {A : List Asrt} : (c :: a :: b :: A).Perm (a :: b :: c :: A) := (List.perm_middle (l₁ := [a, b])).symm
theorem permU {x b o w z l c : Asrt} {A : List Asrt} : (x :: b :: o :: w :: z :: l :: c :: A).Perm (b :: c :: x :: o :: w :: z :: l :: A) :=
 (List.perm_middle (l₁ := [x, b, o, w, z, l])).trans (List.perm_middle (l₁ := [c, x]))
theorem permV {x b o w z l c : Asrt} {A : List Asrt} : (b :: c :: x :: o :: w :: z :: l :: A).Perm (b :: o :: w :: z :: l :: c :: x :: A) :=
 ((List.perm_append_comm (l₁ := [c, x]) (l₂ := [o, w, z, l])).append_right A).cons b
theorem permW {x b o w z l c : Asrt} {A : List Asrt} : (b :: o :: w :: z :: l :: c :: x :: A).Perm (x :: b :: o :: w :: z :: l :: c :: A) := List.perm_middle (l₁ := [b, o, w, z, l, c])
/-- The next step's state. -/
def mst_next (p picks : List Int) (W n w T : Nat) : Prop := (R19.mst p picks W (n + 1)).D = (R19.takeM (R19.mst p picks W n).D w).2.set w ((R19.takeM (R19.mst p picks W n).D w).2.getD w default ++ R19.kids p T) ∧ (R19.mst p picks W (n + 1)).order = (R19.mst p picks W n).order ++ [(T : Int)] ∧ (R19.mst p picks W (n + 1)).who = (R19.mst p picks W n).who ++ [(w : Int)]
theorem mst_nextI {p picks : List Int} {W n w T : Nat} (hr : R19.right p) (hW : 1 ≤ W) (hn : n < p.length) (hw : R19.nxt picks W n (R19.mst p picks W n).last = (w : Int)) (hT : (R19.takeM (R19.mst p picks W n).D w).1 = (T : Int)) : mst_next p picks W n w T := by
 have hm := R19.MOk.run hr hW n (by omega) (picks := picks)
 have e : R19.mst p picks W (n + 1) = R19.mstep p picks W (R19.mst p picks W n) := rfl
 unfold R19.mstep at e
 rw [hm.ol, hw, Int.toNat_natCast, hT, Int.toNat_natCast] at e
 unfold mst_next
 rw [e]
 exact ⟨rfl, rfl, rfl⟩
structure RunG2 where
 n : Nat
 s : List Int
 l : List Int
 d : Bool
 last : Int
 ss : List Sl
 ow : Option Addr
 ww : Option Addr
 co : Nat
 cw : Nat
 J : List Chunk
set_option maxHeartbeats 4000000 in
set_option maxRecDepth 100000 in
theorem ref19_Run {p v picks : List Int} {a a2 a3 : Option Addr} {cap cap2 cap3 : Nat} {nw : Int} (hs : SlAt I a p) (hs2 : SlAt I a2 v) (hs3 : SlAt I a3 picks) (hk : Is picks) (hn : p.length ≤ 1000000000) (hpl : picks.length ≤ 9223372036854775807) :
  FnC Try.prog 16 [.slice a p.length cap, .slice a2 v.length cap2, .int .i64 nw, .slice a3 picks.length cap3].toArray A I (RunPost (R19.resM p v picks nw) A I) := by
 have bad : ¬ R19.good p v nw → RunPost (R19.resM p v picks nw) A I (.tuple [.agg [.int .i64 0, .slice none 0 0, .slice none 0 0, .int .i64 0].toArray, .int .i64 1].toArray) A I := fun h => by
  rw [R19.resM_bad h]
  exact ⟨none, none, 0, 0, rfl, SlAt.nil, SlAt.nil, rfl, fun _ h => h⟩
 skip
 refine fn_enter4 Try.func16 rfl Try.ntmps16 rfl fun w0 => ?_
 refine tS (tR ?_)
 refine tri_g opg_alloc rfl ?_
 rintro _ _ _ ⟨b8, rfl, rfl, rfl⟩
 refine tA rfl rfl (tN (tT (tS (tS (tR (tM rfl rfl ?_))))))
 refine tri_g (opg_call (xs := [_]) rfl (ref19_right hs hn)) rfl ?_
 rintro _ _ _ ⟨rfl, rfl, rfl⟩
 refine tri_v (by first | exact opv_notD rfl | exact opv_not rfl) rfl ?_
 refine tM rfl rfl ?_
 refine tri_split rfl rfl (fun h1 => ?_) (fun h1 => ?_)
 ·have hb : ¬ R19.good p v nw := fun h => absurd (decide_eq_true h.1) (by simpa using h1)
  refine tri_guard_skip rfl rfl rfl rfl (tri_guard_skip rfl rfl rfl rfl (tri_guard_skip rfl rfl rfl rfl (tri_guard_skip rfl rfl rfl rfl (tri_guard_skip rfl rfl rfl rfl ?_))))
  refine tri_v (by first | exact opv_pick_t rfl rfl | exact opv_pick_f rfl rfl | exact opv_pick_bool rfl rfl rfl | exact opv_pick rfl rfl rfl) rfl ?_
  refine tM rfl rfl (tri_guard_skip rfl rfl rfl rfl (tri_guard_skip rfl rfl rfl rfl ?_))
  refine tri_v (by first | exact opv_pick_t rfl rfl | exact opv_pick_f rfl rfl | exact opv_pick_bool rfl rfl rfl | exact opv_pick rfl rfl rfl) rfl ?_
  refine tM rfl rfl (tri_guard_skip rfl rfl rfl rfl (tri_guard_skip rfl rfl rfl rfl ?_))
  refine tri_v (by first | exact opv_pick_t rfl rfl | exact opv_pick_f rfl rfl | exact opv_pick_bool rfl rfl rfl | exact opv_pick rfl rfl rfl) rfl ?_
  refine tN (tT ?_)
  refine tri_cond_true rfl ?_
  refine tS (tR ?_)
  refine tri_v (by first | exact opv_buildS rfl rfl | exact opv_buildA rfl rfl) rfl ?_
  refine tri_g (opg_store rfl rfl rfl rfl rfl rfl) rfl ?_
  rintro _ _ _ ⟨rfl, rfl⟩
  refine tA rfl rfl (tN (tT (tri_ret (tri_then_ret ?_))))
  refine tri_end A Suf.h rfl (.cons (rv_cellA rfl rfl rfl) (.cons (rv_tmp rfl) .nil)) (bad hb)
 ·have hr : R19.right p := by simpa using h1
  have hr1 := hr.1
  refine tri_guard_run rfl rfl rfl (tM rfl rfl (tri_guard_run rfl rfl rfl ?_))
  refine tri_v (opv_len rfl) rfl ?_
  refine tri_guard_run rfl rfl rfl (tM rfl rfl (tri_guard_run rfl rfl rfl ?_))
  refine tri_v (opv_len rfl) rfl ?_
  refine tri_guard_run rfl rfl rfl ?_
  refine tri_v (by first | exact opv_neq rfl rfl | exact opv_neqI rfl rfl rfl rfl rfl rfl | exact opv_neqB rfl rfl) rfl ?_
  refine tri_v (by first | exact opv_pick_t rfl rfl | exact opv_pick_f rfl rfl | exact opv_pick_bool rfl rfl rfl | exact opv_pick rfl rfl rfl) rfl ?_
  refine tM rfl rfl ?_
  refine tri_split rfl rfl (fun h2 => ?_) (fun h2 => ?_)
  ·have hb : ¬ R19.good p v nw := fun h => by have := h.2.1; omega
   refine tri_guard_skip rfl rfl rfl rfl (tri_guard_skip rfl rfl rfl rfl ?_)
   refine tri_v (by first | exact opv_pick_t rfl rfl | exact opv_pick_f rfl rfl | exact opv_pick_bool rfl rfl rfl | exact opv_pick rfl rfl rfl) rfl ?_
   refine tM rfl rfl (tri_guard_skip rfl rfl rfl rfl (tri_guard_skip rfl rfl rfl rfl ?_))
   refine tri_v (by first | exact opv_pick_t rfl rfl | exact opv_pick_f rfl rfl | exact opv_pick_bool rfl rfl rfl | exact opv_pick rfl rfl rfl) rfl ?_
   refine tN (tT ?_)
   refine tri_cond_true rfl ?_
   refine tS (tR ?_)
   refine tri_v (by first | exact opv_buildS rfl rfl | exact opv_buildA rfl rfl) rfl ?_
   refine tri_g (opg_store rfl rfl rfl rfl rfl rfl) rfl ?_
   rintro _ _ _ ⟨rfl, rfl⟩
   refine tA rfl rfl (tN (tT (tri_ret (tri_then_ret ?_))))
   refine tri_end A Suf.h rfl (.cons (rv_cellA rfl rfl rfl) (.cons (rv_tmp rfl) .nil)) (bad hb)
  ·have hvl : v.length = p.length := by omega
   refine tri_guard_run rfl rfl rfl (tM rfl rfl (tri_guard_run rfl rfl rfl ?_))
   refine tri_v (opv_lss rfl rfl) rfl ?_
   refine tri_v (by first | exact opv_pick_t rfl rfl | exact opv_pick_f rfl rfl | exact opv_pick_bool rfl rfl rfl | exact opv_pick rfl rfl rfl) rfl ?_
   refine tM rfl rfl ?_
   refine tri_split rfl rfl (fun h3 => ?_) (fun h3 => ?_)
   ·have hb : ¬ R19.good p v nw := fun h => by have := h.2.2.1; omega
    refine tri_guard_skip rfl rfl rfl rfl (tri_guard_skip rfl rfl rfl rfl ?_)
    refine tri_v (by first | exact opv_pick_t rfl rfl | exact opv_pick_f rfl rfl | exact opv_pick_bool rfl rfl rfl | exact opv_pick rfl rfl rfl) rfl ?_
    refine tN (tT ?_)
    refine tri_cond_true rfl ?_
    refine tS (tR ?_)
    refine tri_v (by first | exact opv_buildS rfl rfl | exact opv_buildA rfl rfl) rfl ?_
    refine tri_g (opg_store rfl rfl rfl rfl rfl rfl) rfl ?_
    rintro _ _ _ ⟨rfl, rfl⟩
    refine tA rfl rfl (tN (tT (tri_ret (tri_then_ret ?_))))
    refine tri_end A Suf.h rfl (.cons (rv_cellA rfl rfl rfl) (.cons (rv_tmp rfl) .nil)) (bad hb)
   ·refine tri_guard_run rfl rfl rfl (tM rfl rfl (tri_guard_run rfl rfl rfl ?_))
    refine tri_v (opv_gtr rfl rfl) rfl ?_
    refine tri_v (by first | exact opv_pick_t rfl rfl | exact opv_pick_f rfl rfl | exact opv_pick_bool rfl rfl rfl | exact opv_pick rfl rfl rfl) rfl ?_
    refine tN (tT ?_)
    refine tri_cond_dec rfl (fun h4 => ?_) (fun h4 => ?_)
    ·have hb : ¬ R19.good p v nw := fun h => by have := h.2.2.2.1; omega
     refine tS (tR ?_)
     refine tri_v (by first | exact opv_buildS rfl rfl | exact opv_buildA rfl rfl) rfl ?_
     refine tri_g (opg_store rfl rfl rfl rfl rfl rfl) rfl ?_
     rintro _ _ _ ⟨rfl, rfl⟩
     refine tA rfl rfl (tN (tT (tri_ret (tri_then_ret ?_))))
     refine tri_end A Suf.h rfl (.cons (rv_cellA rfl rfl rfl) (.cons (rv_tmp rfl) .nil)) (bad hb)
    ·obtain ⟨W, rfl⟩ : ∃ W : Nat, nw = (W : Int) := ⟨nw.toNat, by omega⟩
     have hW1 : 1 ≤ W := by omega
     refine tri_skip (tT (tS (tS (tR (tA rfl rfl (tN (tT ?_)))))))
     refine tri_cut (fun F' A' J => (∀ t, t < v.length → -1099511627776 ≤ v.getD t default ∧ v.getD t default ≤ 1099511627776) ∧ F' = [(0, .slice a p.length cap), (1, .slice a2 v.length cap2), (2, .int .i64 (W : Nat)), (3, .slice a3 picks.length cap3), (8, pt b8 0), (9, .int .i64 0)] ∧ A' = Box b8 [.int .i64 0, .slice none 0 0, .slice none 0 0, .int .i64 0] 30 :: A ∧ I = J) ?_ ?_
     ·refine tri_block ?_
      refine tri_sub (F' := [(0, .slice a p.length cap), (1, .slice a2 v.length cap2), (2, .int .i64 (W : Nat)), (3, .slice a3 picks.length cap3), (8, pt b8 0), (9, .int .i64 0), (10, .int .i64 ((0 : Nat) : Int))]) ⟨rfl, rfl, rfl, rfl, rfl, rfl, rfl, trivial⟩ ?_
      refine loop_ind (G := Nat) (fun i => v.length - i) (fun i => i ≤ v.length ∧ ∀ t, t < i → -1099511627776 ≤ v.getD t default ∧ v.getD t default ≤ 1099511627776) (fun i => [(0, .slice a p.length cap), (1, .slice a2 v.length cap2), (2, .int .i64 (W : Nat)), (3, .slice a3 picks.length cap3), (8, pt b8 0), (9, .int .i64 0), (10, .int .i64 (i : Nat))]) (fun _ => _) (fun _ => _) ?_ 0 ⟨Nat.zero_le _, fun t h => by omega⟩
      rintro i ⟨hi, hv⟩ K hK
      skip
      refine tS (tS (tR (tM rfl rfl (tM rfl rfl ?_))))
      refine tri_v (opv_len rfl) rfl ?_
      refine tri_v (opv_lss rfl rfl) rfl ?_
      refine tN (tT ?_)
      refine tri_cond_dec rfl (fun h5 => ?_) (fun h5 => ?_)
      ·have hil : i < v.length := by omega
       have ti : (i : Int).toNat = i := rfl
       refine tri_skip (tT (tS (tri_block (tS (tR (tM rfl rfl (tM rfl rfl ?_)))))))
       refine tri_v (by first | exact opv_indexAddrA rfl rfl (by first | decide | omega) (by first | decide | omega) | exact opv_indexAddrSN rfl rfl (by omega) (by assumption) (by first | rfl | omega) | exact opv_indexAddrS rfl rfl (by omega) (by omega) (by assumption) (by first | rfl | omega) | exact opv_indexAddrE rfl (by assumption) (by omega) rfl (by first | decide | omega) (by first | decide | omega) | exact opv_indexAddrRN rfl rfl (by omega) | exact opv_indexAddrR rfl rfl (by omega) (by omega) | exact opv_indexAddrRA rfl (by omega) rfl (by first | decide | omega) (by first | decide | omega) | exact opv_indexAddrSP rfl rfl (by omega) (by omega)) rfl ?_
       refine tri_v (by first | exact opv_load1 rfl rfl rfl | exact opv_loadA rfl rfl rfl | exact opv_loadE1 rfl (by assumption) rfl (by omega) rfl rfl | exact opv_loadEA rfl (by assumption) rfl (by omega) rfl rfl | exact opv_loadRX1 rfl rfl (by omega) rfl rfl | exact opv_loadRXA rfl rfl (by omega) rfl rfl rfl | exact opv_loadIX rfl rfl (by omega) | exact opv_loadR1 rfl rfl rfl | exact opv_loadRA rfl rfl rfl rfl) rfl ?_
       refine tri_v (opv_lss rfl rfl) rfl ?_
       refine tM rfl rfl ?_
       refine tri_split rfl rfl (fun h6 => ?_) (fun h6 => ?_)
       ·have hb : ¬ R19.good p v W := fun h => by have := h.2.2.2.2 i hil; omega
        refine tri_guard_skip rfl rfl rfl rfl (tri_guard_skip rfl rfl rfl rfl (tri_guard_skip rfl rfl rfl rfl (tri_guard_skip rfl rfl rfl rfl (tri_guard_skip rfl rfl rfl rfl ?_))))
        refine tri_v (by first | exact opv_pick_t rfl rfl | exact opv_pick_f rfl rfl | exact opv_pick_bool rfl rfl rfl | exact opv_pick rfl rfl rfl) rfl ?_
        refine tN (tT ?_)
        refine tri_cond_true rfl ?_
        refine tS (tR ?_)
        refine tri_v (by first | exact opv_buildS rfl rfl | exact opv_buildA rfl rfl) rfl ?_
        refine tri_g (opg_store rfl rfl rfl rfl rfl rfl) rfl ?_
        rintro _ _ _ ⟨rfl, rfl⟩
        refine tA rfl rfl (tN (tT (tri_ret ?_)))
        refine tri_inBlock_ret ?_
        refine tri_then_ret (tri_then_ret ?_)
        refine tri_inBlock_ret ?_
        refine tri_cut_ret ?_
        refine tri_then_ret ?_
        refine tri_end A Suf.h rfl (.cons (rv_cellA rfl rfl rfl) (.cons (rv_tmp rfl) .nil)) (bad hb)
       ·refine tri_guard_run rfl rfl rfl (tM rfl rfl (tri_guard_run rfl rfl rfl (tM rfl rfl (tri_guard_run rfl rfl rfl ?_))))
        refine tri_v (by first | exact opv_indexAddrA rfl rfl (by first | decide | omega) (by first | decide | omega) | exact opv_indexAddrSN rfl rfl (by omega) (by assumption) (by first | rfl | omega) | exact opv_indexAddrS rfl rfl (by omega) (by omega) (by assumption) (by first | rfl | omega) | exact opv_indexAddrE rfl (by assumption) (by omega) rfl (by first | decide | omega) (by first | decide | omega) | exact opv_indexAddrRN rfl rfl (by omega) | exact opv_indexAddrR rfl rfl (by omega) (by omega) | exact opv_indexAddrRA rfl (by omega) rfl (by first | decide | omega) (by first | decide | omega) | exact opv_indexAddrSP rfl rfl (by omega) (by omega)) rfl ?_
        refine tri_guard_run rfl rfl rfl ?_
        refine tri_v (by first | exact opv_load1 rfl rfl rfl | exact opv_loadA rfl rfl rfl | exact opv_loadE1 rfl (by assumption) rfl (by omega) rfl rfl | exact opv_loadEA rfl (by assumption) rfl (by omega) rfl rfl | exact opv_loadRX1 rfl rfl (by omega) rfl rfl | exact opv_loadRXA rfl rfl (by omega) rfl rfl rfl | exact opv_loadIX rfl rfl (by omega) | exact opv_loadR1 rfl rfl rfl | exact opv_loadRA rfl rfl rfl rfl) rfl ?_
        refine tri_guard_run rfl rfl rfl ?_
        refine tri_v (opv_gtr rfl rfl) rfl ?_
        refine tri_v (by first | exact opv_pick_t rfl rfl | exact opv_pick_f rfl rfl | exact opv_pick_bool rfl rfl rfl | exact opv_pick rfl rfl rfl) rfl ?_
        refine tN (tT ?_)
        refine tri_cond_dec rfl (fun h7 => ?_) (fun h7 => ?_)
        ·have hb : ¬ R19.good p v W := fun h => by have := h.2.2.2.2 i hil; omega
         refine tS (tR ?_)
         refine tri_v (by first | exact opv_buildS rfl rfl | exact opv_buildA rfl rfl) rfl ?_
         refine tri_g (opg_store rfl rfl rfl rfl rfl rfl) rfl ?_
         rintro _ _ _ ⟨rfl, rfl⟩
         refine tA rfl rfl (tN (tT (tri_ret ?_)))
         refine tri_inBlock_ret ?_
         refine tri_then_ret (tri_then_ret ?_)
         refine tri_inBlock_ret ?_
         refine tri_cut_ret ?_
         refine tri_then_ret ?_
         refine tri_end A Suf.h rfl (.cons (rv_cellA rfl rfl rfl) (.cons (rv_tmp rfl) .nil)) (bad hb)
        ·refine tri_skip ?_
         refine tri_inBlock ?_
         refine tT (tR (tM rfl rfl ?_))
         refine tri_v (by first | exact opv_add rfl rfl (w64 (by omega) (by omega))) rfl ?_
         refine tA rfl rfl (tN (tT ?_))
         refine tri_sub ?_ (hK (i + 1) ⟨by omega, fun t ht => ?_⟩ (by omega))
         ·exact ⟨rfl, rfl, rfl, rfl, rfl, rfl, rfl, trivial⟩
         ·by_cases e : t = i
          ·rw [e]
           omega
          ·exact hv t (by omega)
      ·obtain rfl : i = v.length := by omega
       refine tri_exit ?_
       refine tri_then_exit ?_
       refine tri_then_exit ?_
       refine tri_inBlock_hit rfl ?_
       exact tri_cutEnd _ ⟨hv, rfl, rfl, rfl⟩ ⟨rfl, rfl, rfl, rfl, rfl, rfl, trivial⟩
     rintro _ _ _ ⟨hvb, rfl, rfl, rfl⟩
     have hg : R19.good p v W := ⟨hr, hvl, by omega, by omega, hvb⟩
     rw [R19.resM_good hg, Int.toNat_natCast]
     clear bad
     have hvp : ∀ t, t < p.length → -1099511627776 ≤ v.getD t default ∧ v.getD t default ≤ 1099511627776 := fun t ht => hvb t (by omega)
     refine tT (tS ?_)
     skip
     refine tri_cut (fun F' A' J => ∃ (c : Nat) (ad az al : Option Addr) (L : List Asrt), F' = [(1, .slice a2 v.length cap2), (2, .int .i64 (W : Nat)), (3, .slice a3 picks.length cap3), (8, pt b8 0), (9, .int .i64 0), (11, pt c 0)] ∧ A' = Box c [.slice a p.length cap, .slice ad W W, .slice az p.length p.length, .slice al p.length p.length, .int .i64 0, .slice none 0 0, .slice none 0 0, .int .i64 0, .bool false] 57 :: (L ++ Box b8 [.int .i64 0, .slice none 0 0, .slice none 0 0, .int .i64 0] 30 :: A) ∧ (ad ≠ none ∧ az ≠ none) ∧ I = J ∧ L.Perm [Row ad W W 22 1 (reps W [.slice none 0 0]), Row az p.length p.length 3 1 (reps p.length [.int .i64 0]), Row al p.length p.length 3 1 (reps p.length [.int .i64 0])]) ?_ ?_
     ·refine tri_draw [0, 1, 3, 4, 6, 7, 2, 5, 8, 9, 10, 11] rfl [] rfl mixed ?_
      refine th_take rfl rfl (by kernel_rfl)  (opv_move rfl) ?_
      refine th_take rfl rfl (by kernel_rfl)  (opv_move rfl) ?_
      refine th_take rfl rfl (by kernel_rfl)  (opv_move rfl) ?_
      refine th_take rfl rfl (by kernel_rfl)  (opv_len rfl) ?_
      refine th_take rfl rfl (by kernel_rfl)  (opv_move rfl) ?_
      refine th_take rfl rfl (by kernel_rfl)  (opv_len rfl) ?_
      refine th_many [(5, [2, 8, 9, 10, 11]), (8, [2, 5, 9, 10, 11])] (by kernel_rfl) rfl ?_ ⟨?_, ?_, trivial⟩
      ·refine (step_m rfl rfl (opg_makeSliceN rfl rfl rfl (by omega) (by omega)) ?_)
       rintro _ _ _ ⟨ad, had, rfl, rfl, rfl⟩
       refine ⟨Suf.h, (by first | exact fun _ h => h | assumption | exact fun _ h => (by assumption : _ ⊆ _) ((by assumption : _ ⊆ _) h)), ?_⟩
       refine th_two (j := 8) [5, 9, 10, 11] (by kernel_rfl) rfl ?_ ?_
       ·refine (step_m rfl rfl (opg_makeSliceN rfl rfl rfl (by omega) (by omega)) ?_)
        rintro _ _ _ ⟨az, haz, rfl, rfl, rfl⟩
        refine ⟨Suf.h, (by first | exact fun _ h => h | assumption | exact fun _ h => (by assumption : _ ⊆ _) ((by assumption : _ ⊆ _) h)), ?_⟩
        refine th_one (by kernel_rfl) (step_m rfl rfl (opg_makeSliceN rfl rfl rfl (by omega) (by omega)) ?_)
        rintro _ _ _ ⟨al, hal, rfl, rfl, rfl⟩
        refine ⟨Suf.h, (by first | exact fun _ h => h | assumption | exact fun _ h => (by assumption : _ ⊆ _) ((by assumption : _ ⊆ _) h)), ?_⟩
        refine th_take rfl rfl (by kernel_rfl)  (by first | exact opv_buildS rfl rfl | exact opv_buildA rfl rfl) ?_
        first | refine th_one (by kernel_rfl) (step_m rfl rfl (opg_box_agg rfl) ?_) | refine th_one (by kernel_rfl) (step_m rfl rfl (opg_box1 rfl rfl) ?_)
        rintro _ _ _ ⟨b66, rfl, rfl, rfl⟩
        refine ⟨Suf.h, (by first | exact fun _ h => h | assumption | exact fun _ h => (by assumption : _ ⊆ _) ((by assumption : _ ⊆ _) h)), ?_⟩
        refine th_take rfl rfl (by kernel_rfl)  (opv_assign rfl) ?_
        refine th_done (by kernel_rfl) ?_
        exact tri_cutEnd _ ⟨_, ad, az, al, [_, _, _], rfl, rfl, ⟨had, haz⟩, rfl, (by first | exact List.Perm.refl _ | exact List.Perm.swap _ _ _ | exact List.Perm.cons _ (List.Perm.swap _ _ _) | exact (List.Perm.swap _ _ _).trans (List.Perm.cons _ (List.Perm.swap _ _ _)) | exact (List.Perm.cons _ (List.Perm.swap _ _ _)).trans (List.Perm.swap _ _ _) | exact (List.Perm.swap _ _ _).trans ((List.Perm.cons _ (List.Perm.swap _ _ _)).trans (List.Perm.swap _ _ _)))⟩ ⟨rfl, rfl, rfl, rfl, rfl, rfl, trivial⟩
       ·refine (step_m rfl rfl (opg_makeSliceN rfl rfl rfl (by omega) (by omega)) ?_)
        rintro _ _ _ ⟨al, hal, rfl, rfl, rfl⟩
        refine ⟨Suf.h, (by first | exact fun _ h => h | assumption | exact fun _ h => (by assumption : _ ⊆ _) ((by assumption : _ ⊆ _) h)), ?_⟩
        refine th_one (by kernel_rfl) (step_m rfl rfl (opg_makeSliceN rfl rfl rfl (by omega) (by omega)) ?_)
        rintro _ _ _ ⟨az, haz, rfl, rfl, rfl⟩
        refine ⟨Suf.h, (by first | exact fun _ h => h | assumption | exact fun _ h => (by assumption : _ ⊆ _) ((by assumption : _ ⊆ _) h)), ?_⟩
        refine th_take rfl rfl (by kernel_rfl)  (by first | exact opv_buildS rfl rfl | exact opv_buildA rfl rfl) ?_
        first | refine th_one (by kernel_rfl) (step_m rfl rfl (opg_box_agg rfl) ?_) | refine th_one (by kernel_rfl) (step_m rfl rfl (opg_box1 rfl rfl) ?_)
        rintro _ _ _ ⟨b66, rfl, rfl, rfl⟩
        refine ⟨Suf.h, (by first | exact fun _ h => h | assumption | exact fun _ h => (by assumption : _ ⊆ _) ((by assumption : _ ⊆ _) h)), ?_⟩
        refine th_take rfl rfl (by kernel_rfl)  (opv_assign rfl) ?_
        refine th_done (by kernel_rfl) ?_
        exact tri_cutEnd _ ⟨_, ad, az, al, [_, _, _], rfl, rfl, ⟨had, haz⟩, rfl, (by first | exact List.Perm.refl _ | exact List.Perm.swap _ _ _ | exact List.Perm.cons _ (List.Perm.swap _ _ _) | exact (List.Perm.swap _ _ _).trans (List.Perm.cons _ (List.Perm.swap _ _ _)) | exact (List.Perm.cons _ (List.Perm.swap _ _ _)).trans (List.Perm.swap _ _ _) | exact (List.Perm.swap _ _ _).trans ((List.Perm.cons _ (List.Perm.swap _ _ _)).trans (List.Perm.swap _ _ _)))⟩ ⟨rfl, rfl, rfl, rfl, rfl, rfl, trivial⟩
      ·refine (step_m rfl rfl (opg_makeSliceN rfl rfl rfl (by omega) (by omega)) ?_)
       rintro _ _ _ ⟨az, haz, rfl, rfl, rfl⟩
       refine ⟨Suf.h, (by first | exact fun _ h => h | assumption | exact fun _ h => (by assumption : _ ⊆ _) ((by assumption : _ ⊆ _) h)), ?_⟩
       refine th_two (j := 8) [2, 9, 10, 11] (by kernel_rfl) rfl ?_ ?_
       ·refine (step_m rfl rfl (opg_makeSliceN rfl rfl rfl (by omega) (by omega)) ?_)
        rintro _ _ _ ⟨ad, had, rfl, rfl, rfl⟩
        refine ⟨Suf.h, (by first | exact fun _ h => h | assumption | exact fun _ h => (by assumption : _ ⊆ _) ((by assumption : _ ⊆ _) h)), ?_⟩
        refine th_one (by kernel_rfl) (step_m rfl rfl (opg_makeSliceN rfl rfl rfl (by omega) (by omega)) ?_)
        rintro _ _ _ ⟨al, hal, rfl, rfl, rfl⟩
        refine ⟨Suf.h, (by first | exact fun _ h => h | assumption | exact fun _ h => (by assumption : _ ⊆ _) ((by assumption : _ ⊆ _) h)), ?_⟩
        refine th_take rfl rfl (by kernel_rfl)  (by first | exact opv_buildS rfl rfl | exact opv_buildA rfl rfl) ?_
        first | refine th_one (by kernel_rfl) (step_m rfl rfl (opg_box_agg rfl) ?_) | refine th_one (by kernel_rfl) (step_m rfl rfl (opg_box1 rfl rfl) ?_)
        rintro _ _ _ ⟨b66, rfl, rfl, rfl⟩
        refine ⟨Suf.h, (by first | exact fun _ h => h | assumption | exact fun _ h => (by assumption : _ ⊆ _) ((by assumption : _ ⊆ _) h)), ?_⟩
        refine th_take rfl rfl (by kernel_rfl)  (opv_assign rfl) ?_
        refine th_done (by kernel_rfl) ?_
        exact tri_cutEnd _ ⟨_, ad, az, al, [_, _, _], rfl, rfl, ⟨had, haz⟩, rfl, (by first | exact List.Perm.refl _ | exact List.Perm.swap _ _ _ | exact List.Perm.cons _ (List.Perm.swap _ _ _) | exact (List.Perm.swap _ _ _).trans (List.Perm.cons _ (List.Perm.swap _ _ _)) | exact (List.Perm.cons _ (List.Perm.swap _ _ _)).trans (List.Perm.swap _ _ _) | exact (List.Perm.swap _ _ _).trans ((List.Perm.cons _ (List.Perm.swap _ _ _)).trans (List.Perm.swap _ _ _)))⟩ ⟨rfl, rfl, rfl, rfl, rfl, rfl, trivial⟩
       ·refine (step_m rfl rfl (opg_makeSliceN rfl rfl rfl (by omega) (by omega)) ?_)
        rintro _ _ _ ⟨al, hal, rfl, rfl, rfl⟩
        refine ⟨Suf.h, (by first | exact fun _ h => h | assumption | exact fun _ h => (by assumption : _ ⊆ _) ((by assumption : _ ⊆ _) h)), ?_⟩
        refine th_one (by kernel_rfl) (step_m rfl rfl (opg_makeSliceN rfl rfl rfl (by omega) (by omega)) ?_)
        rintro _ _ _ ⟨ad, had, rfl, rfl, rfl⟩
        refine ⟨Suf.h, (by first | exact fun _ h => h | assumption | exact fun _ h => (by assumption : _ ⊆ _) ((by assumption : _ ⊆ _) h)), ?_⟩
        refine th_take rfl rfl (by kernel_rfl)  (by first | exact opv_buildS rfl rfl | exact opv_buildA rfl rfl) ?_
        first | refine th_one (by kernel_rfl) (step_m rfl rfl (opg_box_agg rfl) ?_) | refine th_one (by kernel_rfl) (step_m rfl rfl (opg_box1 rfl rfl) ?_)
        rintro _ _ _ ⟨b66, rfl, rfl, rfl⟩
        refine ⟨Suf.h, (by first | exact fun _ h => h | assumption | exact fun _ h => (by assumption : _ ⊆ _) ((by assumption : _ ⊆ _) h)), ?_⟩
        refine th_take rfl rfl (by kernel_rfl)  (opv_assign rfl) ?_
        refine th_done (by kernel_rfl) ?_
        exact tri_cutEnd _ ⟨_, ad, az, al, [_, _, _], rfl, rfl, ⟨had, haz⟩, rfl, (by first | exact List.Perm.refl _ | exact List.Perm.swap _ _ _ | exact List.Perm.cons _ (List.Perm.swap _ _ _) | exact (List.Perm.swap _ _ _).trans (List.Perm.cons _ (List.Perm.swap _ _ _)) | exact (List.Perm.cons _ (List.Perm.swap _ _ _)).trans (List.Perm.swap _ _ _) | exact (List.Perm.swap _ _ _).trans ((List.Perm.cons _ (List.Perm.swap _ _ _)).trans (List.Perm.swap _ _ _)))⟩ ⟨rfl, rfl, rfl, rfl, rfl, rfl, trivial⟩
      ·refine (step_m rfl rfl (opg_makeSliceN rfl rfl rfl (by omega) (by omega)) ?_)
       rintro _ _ _ ⟨al, hal, rfl, rfl, rfl⟩
       refine ⟨Suf.h, (by first | exact fun _ h => h | assumption | exact fun _ h => (by assumption : _ ⊆ _) ((by assumption : _ ⊆ _) h)), ?_⟩
       refine th_two (j := 5) [2, 9, 10, 11] (by kernel_rfl) rfl ?_ ?_
       ·refine (step_m rfl rfl (opg_makeSliceN rfl rfl rfl (by omega) (by omega)) ?_)
        rintro _ _ _ ⟨ad, had, rfl, rfl, rfl⟩
        refine ⟨Suf.h, (by first | exact fun _ h => h | assumption | exact fun _ h => (by assumption : _ ⊆ _) ((by assumption : _ ⊆ _) h)), ?_⟩
        refine th_one (by kernel_rfl) (step_m rfl rfl (opg_makeSliceN rfl rfl rfl (by omega) (by omega)) ?_)
        rintro _ _ _ ⟨az, haz, rfl, rfl, rfl⟩
        refine ⟨Suf.h, (by first | exact fun _ h => h | assumption | exact fun _ h => (by assumption : _ ⊆ _) ((by assumption : _ ⊆ _) h)), ?_⟩
        refine th_take rfl rfl (by kernel_rfl)  (by first | exact opv_buildS rfl rfl | exact opv_buildA rfl rfl) ?_
        first | refine th_one (by kernel_rfl) (step_m rfl rfl (opg_box_agg rfl) ?_) | refine th_one (by kernel_rfl) (step_m rfl rfl (opg_box1 rfl rfl) ?_)
        rintro _ _ _ ⟨b66, rfl, rfl, rfl⟩
        refine ⟨Suf.h, (by first | exact fun _ h => h | assumption | exact fun _ h => (by assumption : _ ⊆ _) ((by assumption : _ ⊆ _) h)), ?_⟩
        refine th_take rfl rfl (by kernel_rfl)  (opv_assign rfl) ?_
        refine th_done (by kernel_rfl) ?_
        exact tri_cutEnd _ ⟨_, ad, az, al, [_, _, _], rfl, rfl, ⟨had, haz⟩, rfl, (by first | exact List.Perm.refl _ | exact List.Perm.swap _ _ _ | exact List.Perm.cons _ (List.Perm.swap _ _ _) | exact (List.Perm.swap _ _ _).trans (List.Perm.cons _ (List.Perm.swap _ _ _)) | exact (List.Perm.cons _ (List.Perm.swap _ _ _)).trans (List.Perm.swap _ _ _) | exact (List.Perm.swap _ _ _).trans ((List.Perm.cons _ (List.Perm.swap _ _ _)).trans (List.Perm.swap _ _ _)))⟩ ⟨rfl, rfl, rfl, rfl, rfl, rfl, trivial⟩
       ·refine (step_m rfl rfl (opg_makeSliceN rfl rfl rfl (by omega) (by omega)) ?_)
        rintro _ _ _ ⟨az, haz, rfl, rfl, rfl⟩
        refine ⟨Suf.h, (by first | exact fun _ h => h | assumption | exact fun _ h => (by assumption : _ ⊆ _) ((by assumption : _ ⊆ _) h)), ?_⟩
        refine th_one (by kernel_rfl) (step_m rfl rfl (opg_makeSliceN rfl rfl rfl (by omega) (by omega)) ?_)
        rintro _ _ _ ⟨ad, had, rfl, rfl, rfl⟩
        refine ⟨Suf.h, (by first | exact fun _ h => h | assumption | exact fun _ h => (by assumption : _ ⊆ _) ((by assumption : _ ⊆ _) h)), ?_⟩
        refine th_take rfl rfl (by kernel_rfl)  (by first | exact opv_buildS rfl rfl | exact opv_buildA rfl rfl) ?_
        first | refine th_one (by kernel_rfl) (step_m rfl rfl (opg_box_agg rfl) ?_) | refine th_one (by kernel_rfl) (step_m rfl rfl (opg_box1 rfl rfl) ?_)
        rintro _ _ _ ⟨b66, rfl, rfl, rfl⟩
        refine ⟨Suf.h, (by first | exact fun _ h => h | assumption | exact fun _ h => (by assumption : _ ⊆ _) ((by assumption : _ ⊆ _) h)), ?_⟩
        refine th_take rfl rfl (by kernel_rfl)  (opv_assign rfl) ?_
        refine th_done (by kernel_rfl) ?_
        exact tri_cutEnd _ ⟨_, ad, az, al, [_, _, _], rfl, rfl, ⟨had, haz⟩, rfl, (by first | exact List.Perm.refl _ | exact List.Perm.swap _ _ _ | exact List.Perm.cons _ (List.Perm.swap _ _ _) | exact (List.Perm.swap _ _ _).trans (List.Perm.cons _ (List.Perm.swap _ _ _)) | exact (List.Perm.cons _ (List.Perm.swap _ _ _)).trans (List.Perm.swap _ _ _) | exact (List.Perm.swap _ _ _).trans ((List.Perm.cons _ (List.Perm.swap _ _ _)).trans (List.Perm.swap _ _ _)))⟩ ⟨rfl, rfl, rfl, rfl, rfl, rfl, trivial⟩
     rintro _ _ _ ⟨c, ad, az, al, L, rfl, rfl, ⟨had, haz⟩, rfl, hL⟩
     refine tri_perm ((List.Perm.cons _ (hL.append_right _)).trans (List.Perm.swap _ _ _)) ?_
     refine tri_rowPt had fun bd ebd => ?_
     subst ebd
     refine tri_perm permX ?_
     refine tri_rowPt haz fun bz ebz => ?_
     subst ebz
     refine tri_perm permX' ?_
     rw [reps_sl0, reps_int0]
     skip
     refine tT (tS (tR (tM rfl rfl ?_)))
     refine tri_v (by first | exact opv_nilCheckE rfl | exact opv_nilCheck rfl) rfl ?_
     refine tri_v (by first | exact opv_fieldAddr rfl rfl | exact opv_fieldAddrE rfl (by assumption) (by omega) rfl | exact opv_fieldAddrR rfl (by omega) rfl | exact opv_fieldAddrP rfl rfl rfl) rfl ?_
     refine tri_v (by first | exact opv_load1 rfl rfl rfl | exact opv_loadA rfl rfl rfl | exact opv_loadE1 rfl (by assumption) rfl (by omega) rfl rfl | exact opv_loadEA rfl (by assumption) rfl (by omega) rfl rfl | exact opv_loadRX1 rfl rfl (by omega) rfl rfl | exact opv_loadRXA rfl rfl (by omega) rfl rfl rfl | exact opv_loadIX rfl rfl (by omega) | exact opv_loadR1 rfl rfl rfl | exact opv_loadRA rfl rfl rfl rfl) rfl ?_
     refine tri_g (opg_buildSlice rfl rfl rfl rfl) rfl ?_
     rintro _ _ _ ⟨b71, rfl, rfl, rfl⟩
     refine tri_v (by first | exact opv_indexAddrA rfl rfl (by first | decide | omega) (by first | decide | omega) | exact opv_indexAddrSN rfl rfl (by omega) (by assumption) (by first | rfl | omega) | exact opv_indexAddrS rfl rfl (by omega) (by omega) (by assumption) (by first | rfl | omega) | exact opv_indexAddrE rfl (by assumption) (by omega) rfl (by first | decide | omega) (by first | decide | omega) | exact opv_indexAddrRN rfl rfl (by omega) | exact opv_indexAddrR rfl rfl (by omega) (by omega) | exact opv_indexAddrRA rfl (by omega) rfl (by first | decide | omega) (by first | decide | omega) | exact opv_indexAddrSP rfl rfl (by omega) (by omega)) rfl ?_
     refine tri_g (opg_storeRX (⟨some ⟨b71, 0, none⟩, 1, 1⟩ : Sl) rfl rfl rfl (by rw [List.length_replicate]; omega) (by rw [List.length_replicate]) rfl rfl rfl rfl) rfl ?_
     rintro _ _ _ ⟨rfl, rfl⟩
     refine tri_freezeBoxS [(0 : Int)] rfl fun J2 hJ2 hz => ?_
     refine tN (tT (tS (tR (tM rfl rfl ?_))))
     refine tri_g (opg_makeSliceN rfl rfl rfl (by omega) (by omega)) rfl ?_
     rintro _ _ _ ⟨ao, hao, rfl, rfl, rfl⟩
     rw [reps_int0]
     have hd0 : Dqs J2 ((List.replicate W (⟨none, 0, 0⟩ : Sl)).set 0 ⟨some ⟨b71, 0, none⟩, 1, 1⟩) (R19.mst p picks W 0).D := by
      have e : (R19.mst p picks W 0).D = (List.replicate W ([] : List Int)).set 0 [0] := by
       obtain ⟨m, rfl⟩ : ∃ m, W = m + 1 := ⟨W - 1, by omega⟩
       rfl
      rw [e]
      refine Dqs.set ⟨by simp, fun i hi => ?_⟩ (s := ⟨some ⟨b71, 0, none⟩, 1, 1⟩) ⟨hz, Nat.le_refl _⟩ rfl
      rw [List.length_replicate] at hi
      rw [getD_rep hi, getD_rep hi]
      exact ⟨StA.nil, rfl⟩
     rw [show Int.toNat 0 = 0 from rfl]
     generalize ((List.replicate W (⟨none, 0, 0⟩ : Sl)).set 0 ⟨some ⟨b71, 0, none⟩, 1, 1⟩) = ss0 at hd0 ⊢
     refine tA rfl rfl (tN (tT (tS (tS (tR (tA rfl rfl (tN ?_)))))))
     refine tT ?_
     refine tri_cut (fun F' A' J => F' = [(1, .slice a2 v.length cap2), (2, .int .i64 (W : Nat)), (3, .slice a3 picks.length cap3), (8, pt b8 0), (9, .int .i64 0), (11, pt c 0), (12, .slice ao W W)] ∧ A' = Row ao W W 3 1 (encs (List.replicate W (1 : Int))) :: Row (some ⟨bd, 0, none⟩) W W 22 1 (encs ss0) :: Box c [.slice a p.length cap, .slice (some ⟨bd, 0, none⟩) W W, .slice (some ⟨bz, 0, none⟩) p.length p.length, .slice al p.length p.length, .int .i64 0, .slice none 0 0, .slice none 0 0, .int .i64 0, .bool false] 57 :: Row (some ⟨bz, 0, none⟩) p.length p.length 3 1 (encs (List.replicate p.length (0 : Int))) :: Row al p.length p.length 3 1 (encs (List.replicate p.length (0 : Int))) :: Box b8 [.int .i64 0, .slice none 0 0, .slice none 0 0, .int .i64 0] 30 :: A ∧ J2 = J) ?_ ?_
     ·refine tri_block ?_
      refine tri_sub (F' := [(1, .slice a2 v.length cap2), (2, .int .i64 (W : Nat)), (3, .slice a3 picks.length cap3), (8, pt b8 0), (9, .int .i64 0), (11, pt c 0), (12, .slice ao W W), (13, .int .i64 ((0 : Nat) : Int))]) ⟨rfl, rfl, rfl, rfl, rfl, rfl, rfl, rfl, trivial⟩ ?_
      refine loop_ind (G := Nat) (fun i => W - i) (fun i => i ≤ W) (fun i => [(1, .slice a2 v.length cap2), (2, .int .i64 (W : Nat)), (3, .slice a3 picks.length cap3), (8, pt b8 0), (9, .int .i64 0), (11, pt c 0), (12, .slice ao W W), (13, .int .i64 (i : Nat))])
       (fun i => Row ao W W 3 1 (encs (onesI W i)) :: Row (some ⟨bd, 0, none⟩) W W 22 1 (encs ss0) :: Box c [.slice a p.length cap, .slice (some ⟨bd, 0, none⟩) W W, .slice (some ⟨bz, 0, none⟩) p.length p.length, .slice al p.length p.length, .int .i64 0, .slice none 0 0, .slice none 0 0, .int .i64 0, .bool false] 57 :: Row (some ⟨bz, 0, none⟩) p.length p.length 3 1 (encs (List.replicate p.length (0 : Int))) :: Row al p.length p.length 3 1 (encs (List.replicate p.length (0 : Int))) :: Box b8 [.int .i64 0, .slice none 0 0, .slice none 0 0, .int .i64 0] 30 :: A) (fun _ => J2) ?_ 0 (Nat.zero_le _)
      rintro i hi K hK
      have hol := onesI_len hi
      skip
      refine tS (tS (tR (tM rfl rfl (tM rfl rfl ?_))))
      refine tri_v (opv_lss rfl rfl) rfl ?_
      refine tN (tT ?_)
      refine tri_cond_dec rfl (fun h5 => ?_) (fun h5 => ?_)
      ·have hil : i < W := by omega
       have e := onesI_set hil
       refine tri_skip (tT (tS (tri_block (tR (tM rfl rfl (tM rfl rfl ?_))))))
       refine tri_v (by first | exact opv_indexAddrA rfl rfl (by first | decide | omega) (by first | decide | omega) | exact opv_indexAddrSN rfl rfl (by omega) (by assumption) (by first | rfl | omega) | exact opv_indexAddrS rfl rfl (by omega) (by omega) (by assumption) (by first | rfl | omega) | exact opv_indexAddrE rfl (by assumption) (by omega) rfl (by first | decide | omega) (by first | decide | omega) | exact opv_indexAddrRN rfl rfl (by omega) | exact opv_indexAddrR rfl rfl (by omega) (by omega) | exact opv_indexAddrRA rfl (by omega) rfl (by first | decide | omega) (by first | decide | omega) | exact opv_indexAddrSP rfl rfl (by omega) (by omega)) rfl ?_
       refine tri_g (opg_storeRX (1 : Int) rfl rfl rfl (by omega) (by omega) rfl rfl rfl rfl) rfl ?_
       rintro _ _ _ ⟨rfl, rfl⟩
       have e2 : (onesI W i).set (i : Int).toNat 1 = onesI W (i + 1) := e
       try rw [e2]
       try rw [e]
       refine tN ?_
       refine tri_inBlock ?_
       refine tT (tR (tM rfl rfl ?_))
       refine tri_v (by first | exact opv_add rfl rfl (w64 (by omega) (by omega))) rfl ?_
       refine tA rfl rfl (tN (tT ?_))
       refine tri_sub ?_ (hK (i + 1) (by omega) (by omega))
       exact ⟨rfl, rfl, rfl, rfl, rfl, rfl, rfl, rfl, trivial⟩
      ·obtain rfl : i = W := by omega
       rw [onesI_all]
       refine tri_exit ?_
       refine tri_then_exit ?_
       refine tri_then_exit ?_
       refine tri_inBlock_hit rfl ?_
       exact tri_cutEnd _ ⟨rfl, rfl, rfl⟩ ⟨rfl, rfl, rfl, rfl, rfl, rfl, rfl, trivial⟩
     rintro _ _ _ ⟨rfl, rfl, rfl⟩
     have hinv0 := R19.RInv.start (picks := picks) (W := W) hr hW1 hvp
     refine tT (tS (tR (tA rfl rfl (tN (tT (tS (tS ?_)))))))
     refine tR (tA rfl rfl (tN (tT (tri_block ?_))))
     refine tri_nilRow (E := 3) (sz := 1) ?_
     refine tri_nilRow (E := 3) (sz := 1) ?_
     refine tri_perm permT ?_
     refine tri_sub (F' := [(1, .slice a2 v.length cap2), (2, .int .i64 (W : Nat)), (3, .slice a3 picks.length cap3), (8, pt b8 0), (9, .int .i64 0), (11, pt c 0), (12, .slice ao W W), (14, .int .i64 (-1)), (15, .int .i64 ((0 : Nat) : Int))]) ⟨rfl, rfl, rfl, rfl, rfl, rfl, rfl, rfl, rfl, trivial⟩ ?_
     refine loop_ind (G := RunG2) (fun g => p.length - g.n) (fun g => g.n < p.length ∧ R19.RInv p v picks W g.n g.s g.l g.d g.last ∧ Dqs g.J g.ss (R19.mst p picks W g.n).D ∧ J2 ⊆ g.J) (fun g => [(1, .slice a2 v.length cap2), (2, .int .i64 (W : Nat)), (3, .slice a3 picks.length cap3), (8, pt b8 0), (9, .int .i64 0), (11, pt c 0), (12, .slice ao W W), (14, .int .i64 g.last), (15, .int .i64 (g.n : Int))])
      (fun g => Row ao W W 3 1 (encs (List.replicate W (1 : Int))) :: Row (some ⟨bd, 0, none⟩) W W 22 1 (encs g.ss) :: Row g.ow g.co (R19.mst p picks W g.n).order.length 3 1 (encs (R19.mst p picks W g.n).order) :: Row g.ww g.cw (R19.mst p picks W g.n).who.length 3 1 (encs (R19.mst p picks W g.n).who) :: Row (some ⟨bz, 0, none⟩) p.length p.length 3 1 (encs g.s) :: Row al p.length p.length 3 1 (encs g.l) ::
       Box c [.slice a p.length cap, .slice (some ⟨bd, 0, none⟩) W W, .slice (some ⟨bz, 0, none⟩) p.length p.length, .slice al p.length p.length, .int .i64 0, .slice g.ow (R19.mst p picks W g.n).order.length g.co, .slice g.ww (R19.mst p picks W g.n).who.length g.cw, .int .i64 0, .bool g.d] 57 :: Box b8 [.int .i64 0, .slice none 0 0, .slice none 0 0, .int .i64 0] 30 :: A) (fun g => g.J) ?_ ⟨0, _, _, false, -1, ss0, none, none, 0, 0, J2⟩ ⟨hr1.1, hinv0, hd0, fun _ h => h⟩
     rintro ⟨n, s, l, d, last, ss, ow, ww, co, cw, J4⟩ ⟨hnN, hinv, hd, hJ4⟩ K hK
     simp only at hnN hinv hd hJ4 hK ⊢
     have hmo := R19.MOk.run hr hW1 n (by omega) (picks := picks)
     have hlb := R19.last_bd (p := p) (picks := picks) hW1 n
     rw [← hinv.last] at hlb
     obtain ⟨hx0, hx1⟩ := R19.nxt_ok (picks := picks) (nw := W) (n := n) (last := last) hW1
     obtain ⟨w, ew⟩ : ∃ w : Nat, R19.nxt picks W n last = (w : Int) := ⟨(R19.nxt picks W n last).toNat, by omega⟩
     have ew2 : R11.next picks n (List.replicate W 1) last = (w : Int) := ew
     obtain ⟨T, hT, hTl, hTo, _⟩ := hmo.take hr hnN (w := w) (by omega)
     obtain ⟨hsl, hll, hl0, hinv2⟩ := hinv.step hr hW1 hnN (T := T) (by rw [ew, Int.toNat_natCast]; exact hT)
     rw [ew] at hinv2
     have hms : mst_next p picks W n w T := mst_nextI hr hW1 hnN (by rw [← hinv.last]; exact ew) hT
     obtain ⟨m1, m2, m3⟩ := hms
     skip
     refine tS (tS (tR (tM rfl rfl ?_)))
     refine tri_v (opv_lss rfl rfl) rfl ?_
     refine tN (tT ?_)
     refine tri_cond_is rfl ((by omega)) ?_
     refine tri_skip (tT (tS (tri_block (tS (tR (tM rfl rfl (tM rfl rfl ?_)))))))
     refine tM rfl rfl (tM rfl rfl ?_)
     refine tri_g (opg_call (xs := [_, _, _, _]) rfl (ref11_next (n := n) (hs3.mono fun _ h => hJ4 (hJ2 h)) hk hW1 (by omega) hlb.1 hlb.2 (by omega) hpl)) rfl ?_
     rintro _ _ _ ⟨rfl, rfl, rfl⟩
     rw [ew2]
     refine tri_perm permU ?_
     refine tA rfl rfl (tN (tT (tS (tR (tM rfl rfl (tA rfl rfl (tN ?_)))))))
     refine tT (tS (tR (tM rfl rfl (tM rfl rfl ?_))))
     refine tri_g (opg_call (xs := [_, _]) rfl (ref19_take (w := w) hmo.dl hd (by have := hmo.dl; omega) (by have := hmo.dl; omega) (fun i hi => by have := hmo.at_le (i := i) (by have := hmo.dl; omega); omega))) rfl ?_
     rintro _ _ _ ⟨ss1, rfl, rfl, hd1, rfl⟩
     rw [hT]
     refine tri_perm permV ?_
     have hvT : T < v.length := by omega
     have sv := hs2.mono fun _ h => hJ4 (hJ2 h)
     refine tA rfl rfl (tN (tT (tS (tS (tR (tM rfl rfl ?_))))))
     refine tri_v (opv_geq rfl rfl) rfl ?_
     refine tN (tT ?_)
     refine tri_cond_is rfl ((by omega)) ?_
     refine tR (tM rfl rfl (tM rfl rfl (tM rfl rfl (tM rfl rfl (tM rfl rfl ?_)))))
     refine tri_v (by first | exact opv_indexAddrA rfl rfl (by first | decide | omega) (by first | decide | omega) | exact opv_indexAddrSN rfl rfl (by omega) (by assumption) (by first | rfl | omega) | exact opv_indexAddrS rfl rfl (by omega) (by omega) (by assumption) (by first | rfl | omega) | exact opv_indexAddrE rfl (by assumption) (by omega) rfl (by first | decide | omega) (by first | decide | omega) | exact opv_indexAddrRN rfl rfl (by omega) | exact opv_indexAddrR rfl rfl (by omega) (by omega) | exact opv_indexAddrRA rfl (by omega) rfl (by first | decide | omega) (by first | decide | omega) | exact opv_indexAddrSP rfl rfl (by omega) (by omega)) rfl ?_
     refine tri_v (by first | exact opv_load1 rfl rfl rfl | exact opv_loadA rfl rfl rfl | exact opv_loadE1 rfl (by assumption) rfl (by omega) rfl rfl | exact opv_loadEA rfl (by assumption) rfl (by omega) rfl rfl | exact opv_loadRX1 rfl rfl (by omega) rfl rfl | exact opv_loadRXA rfl rfl (by omega) rfl rfl rfl | exact opv_loadIX rfl rfl (by omega) | exact opv_loadR1 rfl rfl rfl | exact opv_loadRA rfl rfl rfl rfl) rfl ?_
     refine tri_g (opg_call (xs := [_, _, _, _]) rfl (ref19_run (N := p.length) (v := v) (s := s) (l := l) (T := T) (w := w) (hs.mono fun _ h => hJ4 (hJ2 h)) hr rfl ((R19.takeM_len _ _).trans hmo.dl) hd1 (by omega) hTl hsl hll hl0 (by have h1 := R19.takeM_dl (R19.mst p picks W n).D w w; have h2 := hmo.at_le (i := w) (by omega); omega) (by have := hmo.ol; omega) (by have := hmo.wl; omega))) rfl ?_
     rintro _ _ J6 ⟨ss2, ow2, ww2, co2, cw2, rfl, hd2, hJ6⟩
     rw [← m2, ← m3]
     rw [← m1] at hd2
     refine tri_perm permW ?_
     have hend := hinv2.ends hr hW1 (by omega)
     have hmo2 := R19.MOk.run hr hW1 (n + 1) (by omega) (picks := picks)
     have hol2 := hmo2.ol
     have hwl2 := hmo2.wl
     have hr2l : (R19.runM p v s l d T).1.length = p.length := by
      obtain ⟨_, _, _, _, hre, _⟩ := hinv2
      exact hre.sl
     generalize (R19.runM p v s l d T).1 = s2 at *
     generalize (R19.runM p v s l d T).2.1 = l2 at *
     generalize (R19.runM p v s l d T).2.2 = d2 at *
     refine tN (tT (tS (tR (tM rfl rfl ?_))))
     refine tri_v (by first | exact opv_nilCheckE rfl | exact opv_nilCheck rfl) rfl ?_
     refine tri_v (by first | exact opv_fieldAddr rfl rfl | exact opv_fieldAddrE rfl (by assumption) (by omega) rfl | exact opv_fieldAddrR rfl (by omega) rfl | exact opv_fieldAddrP rfl rfl rfl) rfl ?_
     refine tri_v (by first | exact opv_load1 rfl rfl rfl | exact opv_loadA rfl rfl rfl | exact opv_loadE1 rfl (by assumption) rfl (by omega) rfl rfl | exact opv_loadEA rfl (by assumption) rfl (by omega) rfl rfl | exact opv_loadRX1 rfl rfl (by omega) rfl rfl | exact opv_loadRXA rfl rfl (by omega) rfl rfl rfl | exact opv_loadIX rfl rfl (by omega) | exact opv_loadR1 rfl rfl rfl | exact opv_loadRA rfl rfl rfl rfl) rfl ?_
     refine tN (tT ?_)
     refine tri_cond rfl (fun h8 => ?_) (fun h8 => ?_)
     ·have hN : n + 1 = p.length := hend.1 h8
      have hinv3 : R19.RInv p v picks W p.length s2 l2 d2 (w : Int) := by rw [← hN]; exact hinv2
      have hsum := hinv3.sums hr hW1 hvp
      have hst : (n : Int) + 1 = (p.length : Nat) := by omega
      skip
      refine tS (tR (tM rfl rfl (tM rfl rfl ?_)))
      refine tri_v (by first | exact opv_nilCheckE rfl | exact opv_nilCheck rfl) rfl ?_
      refine tri_v (by first | exact opv_fieldAddr rfl rfl | exact opv_fieldAddrE rfl (by assumption) (by omega) rfl | exact opv_fieldAddrR rfl (by omega) rfl | exact opv_fieldAddrP rfl rfl rfl) rfl ?_
      refine tri_v (by first | exact opv_load1 rfl rfl rfl | exact opv_loadA rfl rfl rfl | exact opv_loadE1 rfl (by assumption) rfl (by omega) rfl rfl | exact opv_loadEA rfl (by assumption) rfl (by omega) rfl rfl | exact opv_loadRX1 rfl rfl (by omega) rfl rfl | exact opv_loadRXA rfl rfl (by omega) rfl rfl rfl | exact opv_loadIX rfl rfl (by omega) | exact opv_loadR1 rfl rfl rfl | exact opv_loadRA rfl rfl rfl rfl) rfl ?_
      refine tri_v (by first | exact opv_indexAddrA rfl rfl (by first | decide | omega) (by first | decide | omega) | exact opv_indexAddrSN rfl rfl (by omega) (by assumption) (by first | rfl | omega) | exact opv_indexAddrS rfl rfl (by omega) (by omega) (by assumption) (by first | rfl | omega) | exact opv_indexAddrE rfl (by assumption) (by omega) rfl (by first | decide | omega) (by first | decide | omega) | exact opv_indexAddrRN rfl rfl (by omega) | exact opv_indexAddrR rfl rfl (by omega) (by omega) | exact opv_indexAddrRA rfl (by omega) rfl (by first | decide | omega) (by first | decide | omega) | exact opv_indexAddrSP rfl rfl (by omega) (by omega)) rfl ?_
      refine tri_v (opv_loadRX1 (v := .int .i64 (R19.total v p.length)) rfl rfl (by omega) rfl (by rw [← hsum]; rfl)) rfl ?_
      refine tri_v (by first | exact opv_nilCheckE rfl | exact opv_nilCheck rfl) rfl ?_
      refine tri_v (by first | exact opv_fieldAddr rfl rfl | exact opv_fieldAddrE rfl (by assumption) (by omega) rfl | exact opv_fieldAddrR rfl (by omega) rfl | exact opv_fieldAddrP rfl rfl rfl) rfl ?_
      refine tri_v (by first | exact opv_fieldAddr rfl rfl | exact opv_fieldAddrE rfl (by assumption) (by omega) rfl | exact opv_fieldAddrR rfl (by omega) rfl | exact opv_fieldAddrP rfl rfl rfl) rfl ?_
      refine tri_g (opg_store rfl rfl rfl rfl rfl rfl) rfl ?_
      rintro _ _ _ ⟨rfl, rfl⟩
      refine tN (tT (tS (tR (tM rfl rfl (tM rfl rfl ?_)))))
      refine tri_v (by first | exact opv_add rfl rfl (w64 (by omega) (by omega))) rfl ?_
      refine tri_v (by first | exact opv_nilCheckE rfl | exact opv_nilCheck rfl) rfl ?_
      refine tri_v (by first | exact opv_fieldAddr rfl rfl | exact opv_fieldAddrE rfl (by assumption) (by omega) rfl | exact opv_fieldAddrR rfl (by omega) rfl | exact opv_fieldAddrP rfl rfl rfl) rfl ?_
      refine tri_v (by first | exact opv_fieldAddr rfl rfl | exact opv_fieldAddrE rfl (by assumption) (by omega) rfl | exact opv_fieldAddrR rfl (by omega) rfl | exact opv_fieldAddrP rfl rfl rfl) rfl ?_
      refine tri_g (opg_store rfl rfl rfl rfl rfl rfl) rfl ?_
      rintro _ _ _ ⟨rfl, rfl⟩
      refine tN (tT (tS (tR (tM rfl rfl ?_))))
      refine tri_v (by first | exact opv_nilCheckE rfl | exact opv_nilCheck rfl) rfl ?_
      refine tri_v (by first | exact opv_fieldAddr rfl rfl | exact opv_fieldAddrE rfl (by assumption) (by omega) rfl | exact opv_fieldAddrR rfl (by omega) rfl | exact opv_fieldAddrP rfl rfl rfl) rfl ?_
      refine tri_v (by first | exact opv_load1 rfl rfl rfl | exact opv_loadA rfl rfl rfl | exact opv_loadE1 rfl (by assumption) rfl (by omega) rfl rfl | exact opv_loadEA rfl (by assumption) rfl (by omega) rfl rfl | exact opv_loadRX1 rfl rfl (by omega) rfl rfl | exact opv_loadRXA rfl rfl (by omega) rfl rfl rfl | exact opv_loadIX rfl rfl (by omega) | exact opv_loadR1 rfl rfl rfl | exact opv_loadRA rfl rfl rfl rfl) rfl ?_
      refine tri_g (opg_store rfl rfl rfl rfl rfl rfl) rfl ?_
      rintro _ _ _ ⟨rfl, rfl⟩
      refine tA rfl rfl (tN (tT (tri_ret ?_)))
      refine tri_inBlock_ret ?_
      refine tri_then_ret (tri_then_ret ?_)
      refine tri_inBlock_ret ?_
      refine tri_then_ret ?_
      refine tri_drop (tri_drop ?_)
      refine tri_freezeRowC (xs := (R19.mst p picks W (n + 1)).order) rfl fun J8 hJ8 hso => ?_
      refine tri_freezeRowC (xs := (R19.mst p picks W (n + 1)).who) rfl fun J9 hJ9 hsw => ?_
      refine tri_end A Suf.h rfl (.cons (rv_cellA rfl rfl rfl) (.cons (rv_tmp rfl) .nil)) ⟨ow2, ww2, co2, cw2, ?_, ?_, ?_, rfl, fun _ h => hJ9 (hJ8 (hJ6 (hJ4 (hJ2 h))))⟩
      ·rw [hst]
       simp only [hN]
       rfl
      ·simp only [← hN]
       exact hso.sl.mono hJ9
      ·simp only [← hN]
       exact hsw.sl
     ·have hN : n + 1 < p.length := by
       have : ¬ n + 1 = p.length := fun e => by have := hend.2 e; rw [h8] at this; exact nomatch this
       omega
      refine tri_skip ?_
      refine tri_inBlock ?_
      refine tT (tR (tM rfl rfl ?_))
      refine tri_v (by first | exact opv_add rfl rfl (w64 (by omega) (by omega))) rfl ?_
      refine tA rfl rfl (tN (tT ?_))
      refine tri_sub ?_ (hK ⟨n + 1, s2, l2, d2, w, ss2, ow2, ww2, co2, cw2, J6⟩ ⟨by simp only; omega, hinv2, hd2, fun _ h => hJ6 (hJ4 h)⟩ (by simp only; omega))
      exact ⟨rfl, rfl, rfl, rfl, rfl, rfl, rfl, rfl, rfl, trivial⟩
end Go.GL

set_option linter.unusedVariables false
namespace Go.GL
open Go.Proofs
attribute [local irreducible] wpList Code.wp Exit.then Exit.inBlock Ends Tri TriH OpV OpG FnC epf wpAnyH
variable {A : List Asrt} {I : List Chunk}
namespace R19
theorem getD_mapI {v : List Int} {f : Int → Int} {t : Nat} (h : t < v.length) : (v.map f).getD t default = f (v.getD t default) := by
 rw [List.getD_eq_getElem?_getD, List.getElem?_map, List.getElem?_eq_getElem h, List.getD_eq_getElem?_getD, List.getElem?_eq_getElem h]
 rfl
theorem mapTo_succ {v : List Int} {f : Int → Int} {i : Nat} (h : i < v.length) : (v.take (i + 1)).map f = (v.take i).map f ++ [f (v.getD i default)] := by
 rw [List.take_succ_eq_append_getElem h, List.map_append, List.getD_eq_getElem?_getD, List.getElem?_eq_getElem h]
 rfl
theorem total_succ (v : List Int) (n : Nat) : total v (n + 1) = total v n + v.getD n default := rfl
theorem total_add {v : List Int} {k : Int} : ∀ n, n ≤ v.length → total (v.map fun x => x + k) n = total v n + k * n
 | 0, _ => by show (0 : Int) = 0 + k * 0; omega
 | n + 1, h => by
  rw [total_succ, total_succ, total_add n (by omega), getD_mapI (by omega), Int.natCast_add, Int.mul_add]
  omega
theorem total_twice {v : List Int} : ∀ n, n ≤ v.length → total (v.map fun x => 2 * x) n = 2 * total v n
 | 0, _ => by show (0 : Int) = 2 * 0; omega
 | n + 1, h => by
  rw [total_succ, total_succ, total_twice n (by omega), getD_mapI (by omega)]
  omega
theorem good_map {p v : List Int} {nw : Int} {f : Int → Int} (h : good p v nw) (hf : ∀ t, t < v.length → -1099511627776 ≤ f (v.getD t default) ∧ f (v.getD t default) ≤ 1099511627776) : good p (v.map f) nw := by
 obtain ⟨h1, h2, h3, h4, h5⟩ := h
 refine ⟨h1, by rw [List.length_map]; exact h2, h3, h4, fun t ht => ?_⟩
 rw [List.length_map] at ht
 rw [getD_mapI ht]
 exact hf t ht
theorem vals_bd (vs : List Int) {n t : Nat} (h : t < n) (hn : n ≤ 40) : -300 ≤ (vals vs n).getD t default ∧ (vals vs n).getD t default ≤ 700 := by
 have e : (vals vs n).getD t default = valAt vs t := by
  unfold vals
  rw [List.getD_eq_getElem?_getD, List.getElem?_map, List.getElem?_range h]
  rfl
 rw [e]
 have := valAt_bd vs t
 omega
end R19
theorem fork_run_okV {p v picks : List Int} {nv : Nat} {a a2 a3 : Option Addr} {cap cap2 cap3 : Nat} {nw : Int} (hnv : v.length = nv) (hs : SlAt I a p) (hs2 : SlAt I a2 v) (hs3 : SlAt I a3 picks) (hk : Is picks) (hg : R19.good p v nw) :
  FnC Try.prog 15 [.slice a p.length cap, .slice a2 nv cap2, .int .i64 nw, .slice a3 picks.length cap3].toArray A I (fun r A' I' =>
   ∃ ao aw co cw, r = .tuple [.agg [.int .i64 (R19.total v p.length), .slice ao p.length co, .slice aw p.length cw, .int .i64 (p.length : Nat)].toArray, .int .i64 0].toArray ∧ StA I' ao co (R19.mst p picks nw.toNat p.length).order ∧ StA I' aw cw (R19.mst p picks nw.toNat p.length).who ∧ A = A' ∧ I ⊆ I') := by
 subst hnv
 exact fork_run_ok hs hs2 hs3 hk hg
theorem ref03_intsM {l m : List Int} {nl nm : Nat} {a b : Option Addr} {cap cap2 : Nat} (hl : l.length = nl) (hm : m.length = nm) (hs : SlAt I a l) (ht : SlAt I b m) (hn : nl ≤ 1000000000) :
  FnC Try.prog 18 [.slice a nl cap, .slice b nm cap2].toArray A I (fun v A' I' => v = .bool (decide (l = m)) ∧ A = A' ∧ I = I') := by
 subst hl
 subst hm
 exact ref03_ints hs ht hn
set_option maxHeartbeats 4000000 in
set_option maxRecDepth 100000 in
theorem law19_vals {raw vs picks : List Int} {workers by_ : Int} {a a2 a3 : Option Addr} {cap cap2 cap3 : Nat} (hs : SlAt I a raw) (hr : Is raw) (hs2 : SlAt I a2 vs) (hvs : Is vs) (hvl : vs.length ≤ 9223372036854775807) (hw : I64 workers) (hs3 : SlAt I a3 picks) (hk : Is picks) (hby : I64 by_) :
  FnC Try.prog 8 [.slice a raw.length cap, .slice a2 vs.length cap2, .int .i64 workers, .slice a3 picks.length cap3, .int .i64 by_].toArray A I (fun v A' I' => v = .bool true ∧ A = A' ∧ I ⊆ I') := by
 have hb := pk_bd (c := workers) (n := 9) (by omega)
 have hb2 := pk_bd (c := by_) (n := 100) (by omega)
 have htl := R19.tree_len raw
 have hg := vals_good (raw := raw) (vs := vs) (nw := 1 + pk workers 9) (by omega) (by omega)
 have hvl2 := R19.vals_len vs (R19.tree raw).length
 have hvb : ∀ t, t < (R19.tree raw).length → -300 ≤ (R19.vals vs (R19.tree raw).length).getD t default ∧ (R19.vals vs (R19.tree raw).length).getD t default ≤ 700 := fun t ht => R19.vals_bd vs ht (by omega)
 skip
 refine fn_enter5 Try.func8 rfl Try.ntmps8 rfl fun w0 => ?_
 refine tS (tR (tA rfl rfl (tN (tT (tS (tR ?_))))))
 refine tri_g (opg_call (xs := []) rfl (law19_awake)) rfl ?_
 rintro _ _ I0 ⟨rfl, rfl, hI0⟩
 refine tA rfl rfl (tN (tT (tS (tR (tM rfl rfl ?_)))))
 refine tri_g (opg_call (xs := [_]) rfl (law19_tree (hs.mono hI0) hr)) rfl ?_
 rintro _ _ I1 ⟨a4, c4, rfl, hs4, rfl, hI1⟩
 generalize hp : R19.tree raw = p at *
 refine tA rfl rfl (tN (tT (tS (tR (tM rfl rfl (tM rfl rfl ?_))))))
 refine tri_v (opv_len rfl) rfl ?_
 refine tri_g (opg_call (xs := [_, _]) rfl (law19_values ((hs2.mono hI0).mono hI1) hvs (by omega) hvl)) rfl ?_
 rintro _ _ I2 ⟨a5, c5, rfl, hs5, rfl, hI2⟩
 generalize hv : R19.vals vs p.length = v at *
 refine tA rfl rfl (tN (tT (tS (tR (tM rfl rfl ?_)))))
 refine tri_g (opg_call (xs := [_, _]) rfl (law19_pick hby (by omega))) rfl ?_
 rintro _ _ _ ⟨rfl, rfl, rfl⟩
 generalize hkk : pk by_ 100 = k at *
 refine tA rfl rfl (tN (tT (tS (tR (tA rfl rfl (tN (tT ?_)))))))
 refine tS (tR (tA rfl rfl (tN (tT (tS (tS (tR ?_)))))))
 refine tA rfl rfl (tN (tT ?_))
 refine tri_cut (fun F' A' J => ∃ (b1 b2 : Option Addr) (d1 d2 : Nat), (SlAt J b1 (v.map fun x => x + k) ∧ SlAt J b2 (v.map fun x => 2 * x) ∧ I2 ⊆ J) ∧ F' = [(2, .int .i64 workers), (3, .slice a3 picks.length cap3), (11, .bool true), (12, .slice a4 p.length c4), (13, .slice a5 v.length c5), (14, .int .i64 k), (15, .slice b1 v.length d1), (16, .slice b2 v.length d2)] ∧ A' = A) ?_ ?_
 ·refine tri_block ?_
  refine tri_nilRow (E := 3) (sz := 1) ?_
  refine tri_nilRow (E := 3) (sz := 1) ?_
  refine tri_sub (F' := [(2, .int .i64 workers), (3, .slice a3 picks.length cap3), (11, .bool true), (12, .slice a4 p.length c4), (13, .slice a5 v.length c5), (14, .int .i64 k), (15, .slice none ((v.take 0).map fun x => x + k).length 0), (16, .slice none ((v.take 0).map fun x => 2 * x).length 0), (17, .int .i64 (0 : Nat))]) ⟨rfl, rfl, rfl, rfl, rfl, rfl, rfl, rfl, rfl, trivial⟩ ?_
  refine loop_ind (G := Nat × Option Addr × Option Addr × Nat × Nat) (fun g => v.length - g.1) (fun g => g.1 ≤ v.length) (fun g => [(2, .int .i64 workers), (3, .slice a3 picks.length cap3), (11, .bool true), (12, .slice a4 p.length c4), (13, .slice a5 v.length c5), (14, .int .i64 k), (15, .slice g.2.1 ((v.take g.1).map fun x => x + k).length g.2.2.2.1), (16, .slice g.2.2.1 ((v.take g.1).map fun x => 2 * x).length g.2.2.2.2), (17, .int .i64 (g.1 : Nat))])
   (fun g => Row g.2.1 g.2.2.2.1 ((v.take g.1).map fun x => x + k).length 3 1 (encs ((v.take g.1).map fun x => x + k)) :: Row g.2.2.1 g.2.2.2.2 ((v.take g.1).map fun x => 2 * x).length 3 1 (encs ((v.take g.1).map fun x => 2 * x)) :: A) (fun _ => I2) ?_ (0, none, none, 0, 0) (Nat.zero_le _)
  rintro ⟨i, b1, b2, d1, d2⟩ hi K hK
  simp only at hi hK ⊢
  have hl1 : ((v.take i).map fun x => x + k).length = i := by rw [List.length_map, List.length_take]; omega
  have hl2 : ((v.take i).map fun x => 2 * x).length = i := by rw [List.length_map, List.length_take]; omega
  skip
  refine tS (tS (tR (tM rfl rfl (tM rfl rfl ?_))))
  refine tri_v (opv_len rfl) rfl ?_
  refine tri_v (opv_lss rfl rfl) rfl ?_
  refine tN (tT ?_)
  refine tri_cond_dec rfl (fun h => ?_) (fun h => ?_)
  ·have hil : i < v.length := by omega
   have e1 := R19.mapTo_succ (f := fun x => x + k) hil
   have e2 := R19.mapTo_succ (f := fun x => 2 * x) hil
   have hbi := hvb i (by omega)
   have ti : (i : Int).toNat = i := rfl
   have hbi2 : -300 ≤ v.getD (i : Int).toNat default ∧ v.getD (i : Int).toNat default ≤ 700 := hbi
   refine tri_skip (tT (tS (tri_block (tS (tR (tM rfl rfl (tM rfl rfl ?_)))))))
   refine tM rfl rfl ?_
   refine tri_v (by first | exact opv_indexAddrA rfl rfl (by first | decide | omega) (by first | decide | omega) | exact opv_indexAddrSN rfl rfl (by omega) (by assumption) (by first | rfl | omega) | exact opv_indexAddrS rfl rfl (by omega) (by omega) (by assumption) (by first | rfl | omega) | exact opv_indexAddrE rfl (by assumption) (by omega) rfl (by first | decide | omega) (by first | decide | omega) | exact opv_indexAddrRN rfl rfl (by omega) | exact opv_indexAddrR rfl rfl (by omega) (by omega) | exact opv_indexAddrRA rfl (by omega) rfl (by first | decide | omega) (by first | decide | omega) | exact opv_indexAddrSP rfl rfl (by omega) (by omega)) rfl ?_
   refine tri_v (by first | exact opv_load1 rfl rfl rfl | exact opv_loadA rfl rfl rfl | exact opv_loadE1 rfl (by assumption) rfl (by omega) rfl rfl | exact opv_loadEA rfl (by assumption) rfl (by omega) rfl rfl | exact opv_loadRX1 rfl rfl (by omega) rfl rfl | exact opv_loadRXA rfl rfl (by omega) rfl rfl rfl | exact opv_loadIX rfl rfl (by omega) | exact opv_loadR1 rfl rfl rfl | exact opv_loadRA rfl rfl rfl rfl) rfl ?_
   refine tM rfl rfl ?_
   refine tri_v (by first | exact opv_add rfl rfl (w64 (by omega) (by omega))) rfl ?_
   refine tri_g (opg_buildSlice rfl rfl rfl rfl) rfl ?_
   rintro _ _ _ ⟨b47, rfl, rfl, rfl⟩
   refine tri_g (opg_appendB rfl rfl rfl rfl (by omega) rfl) rfl ?_
   rintro _ _ _ ⟨b3, d3, rfl, rfl, rfl⟩
   refine tA rfl rfl (tN (tT (tR (tM rfl rfl (tM rfl rfl (tM rfl rfl ?_))))))
   refine tri_v (by first | exact opv_indexAddrA rfl rfl (by first | decide | omega) (by first | decide | omega) | exact opv_indexAddrSN rfl rfl (by omega) (by assumption) (by first | rfl | omega) | exact opv_indexAddrS rfl rfl (by omega) (by omega) (by assumption) (by first | rfl | omega) | exact opv_indexAddrE rfl (by assumption) (by omega) rfl (by first | decide | omega) (by first | decide | omega) | exact opv_indexAddrRN rfl rfl (by omega) | exact opv_indexAddrR rfl rfl (by omega) (by omega) | exact opv_indexAddrRA rfl (by omega) rfl (by first | decide | omega) (by first | decide | omega) | exact opv_indexAddrSP rfl rfl (by omega) (by omega)) rfl ?_
   refine tri_v (by first | exact opv_load1 rfl rfl rfl | exact opv_loadA rfl rfl rfl | exact opv_loadE1 rfl (by assumption) rfl (by omega) rfl rfl | exact opv_loadEA rfl (by assumption) rfl (by omega) rfl rfl | exact opv_loadRX1 rfl rfl (by omega) rfl rfl | exact opv_loadRXA rfl rfl (by omega) rfl rfl rfl | exact opv_loadIX rfl rfl (by omega) | exact opv_loadR1 rfl rfl rfl | exact opv_loadRA rfl rfl rfl rfl) rfl ?_
   refine tri_v (by first | exact opv_mul rfl rfl (w64 (by omega) (by omega)) | exact opv_mul rfl rfl (by assumption)) rfl ?_
   refine tri_g (opg_buildSlice rfl rfl rfl rfl) rfl ?_
   rintro _ _ _ ⟨b55, rfl, rfl, rfl⟩
   refine tri_g (opg_appendB rfl rfl rfl rfl (by omega) rfl) rfl ?_
   rintro _ _ _ ⟨b4, d4, rfl, rfl, rfl⟩
   refine tA rfl rfl (tN ?_)
   refine tri_inBlock ?_
   refine tT (tR (tM rfl rfl ?_))
   refine tri_v (by first | exact opv_add rfl rfl (w64 (by omega) (by omega))) rfl ?_
   refine tA rfl rfl (tN (tT ?_))
   refine tri_drop (tri_drop ?_)
   refine tri_rowEq (len' := ((v.take (i + 1)).map fun x => x + k).length) (cells' := encs ((v.take (i + 1)).map fun x => x + k)) (by rw [e1]; simp) (by rw [e1, encs_append]; rfl) ?_
   refine tri_perm (List.Perm.swap _ _ _) ?_
   refine tri_rowEq (len' := ((v.take (i + 1)).map fun x => 2 * x).length) (cells' := encs ((v.take (i + 1)).map fun x => 2 * x)) (by rw [e2]; simp) (by rw [e2, encs_append]; rfl) ?_
   refine tri_perm (List.Perm.swap _ _ _) ?_
   refine tri_sub ?_ (hK (i + 1, b3, b4, d3, d4) (by simp only; omega) (by simp only; omega))
   exact ⟨rfl, rfl, rfl, rfl, rfl, rfl, by simp only [e1, List.length_append]; rfl, by simp only [e2, List.length_append]; rfl, rfl, trivial⟩
  ·have ei : v.take i = v := List.take_of_length_le (by omega)
   rw [ei]
   refine tri_exit ?_
   refine tri_then_exit ?_
   refine tri_then_exit ?_
   refine tri_inBlock_hit rfl ?_
   refine tri_freezeRow (α := Int) rfl fun I3 hI3 hs6 => ?_
   refine tri_freezeRow (α := Int) rfl fun I4 hI4 hs7 => ?_
   exact tri_cutEnd _ ⟨b1, b2, d1, d2, ⟨hs6.mono hI4, hs7, fun _ h => hI4 (hI3 h)⟩, rfl, rfl⟩ ⟨rfl, rfl, rfl, rfl, rfl, rfl, by simp only [List.length_map]; rfl, by simp only [List.length_map]; rfl, trivial⟩
 rintro _ _ I3 ⟨b1, b2, d1, d2, ⟨hs6, hs7, hI3⟩, rfl, rfl⟩
 have hvp : v.length = p.length := hvl2
 have hm1 : (v.map fun x => x + k).length = v.length := List.length_map _
 have hm2 : (v.map fun x => 2 * x).length = v.length := List.length_map _
 have hg1 : R19.good p (v.map fun x => x + k) (1 + pk workers 9) := R19.good_map hg fun t ht => by have := hvb t (by omega); omega
 have hg2 : R19.good p (v.map fun x => 2 * x) (1 + pk workers 9) := R19.good_map hg fun t ht => by have := hvb t (by omega); omega
 have ht1 := R19.total_add (v := v) (k := k) p.length (by omega)
 have ht2 := R19.total_twice (v := v) p.length (by omega)
 have htb := R19.total_bd (v := v) (B := 1000) (n := p.length) fun t ht => by have := hvb t ht; omega
 have hm : 0 ≤ k * (p.length : Int) ∧ k * (p.length : Int) ≤ 100 * 40 := ⟨Int.mul_nonneg (by omega) (by omega), Int.mul_le_mul (by omega) (by omega) (by omega) (by omega)⟩
 have hs04 : I ⊆ I3 := fun _ h => hI3 (hI2 (hI1 (hI0 h)))
 refine tT (tS (tR (tM rfl rfl ?_)))
 refine tri_g (opg_call (xs := [_, _]) rfl (law19_pick hw (by omega))) rfl ?_
 rintro _ _ _ ⟨rfl, rfl, rfl⟩
 refine tri_v (by first | exact opv_add rfl rfl (w64 (by omega) (by omega))) rfl ?_
 refine tA rfl rfl (tN (tT (tS (tR (tM rfl rfl (tM rfl rfl (tM rfl rfl ?_)))))))
 refine tM rfl rfl ?_
 refine tri_g (opg_call (xs := [_, _, _, _]) rfl (fork_run_ok (picks := picks) (hs4.mono fun _ h => hI3 (hI2 h)) (hs5.mono hI3) (hs3.mono hs04) hk hg)) rfl ?_
 rintro _ _ I5 ⟨o1, w1, c6, d6, rfl, ho1, hw1, rfl, hI5⟩
 refine tM rfl rfl ?_
 refine tri_v (opv_extract rfl rfl) rfl ?_
 refine tri_v (opv_extract rfl rfl) rfl ?_
 refine tri_g opg_alloc rfl ?_
 rintro _ _ _ ⟨b19, rfl, rfl, rfl⟩
 refine tri_g (opg_store rfl rfl rfl rfl rfl rfl) rfl ?_
 rintro _ _ _ ⟨rfl, rfl⟩
 refine tA rfl rfl (tN (tT (tS (tR (tM rfl rfl (tM rfl rfl (tM rfl rfl ?_)))))))
 refine tM rfl rfl ?_
 refine tri_g (opg_call (xs := [_, _, _, _]) rfl (fork_run_okV (picks := picks) hm1 (hs4.mono fun _ h => hI5 (hI3 (hI2 h))) (hs6.mono hI5) (hs3.mono fun _ h => hI5 (hs04 h)) hk hg1)) rfl ?_
 rintro _ _ I6 ⟨o2, w2, c7, d7, rfl, ho2, hw2, rfl, hI6⟩
 rw [ht1]
 refine tM rfl rfl ?_
 refine tri_v (opv_extract rfl rfl) rfl ?_
 refine tri_v (opv_extract rfl rfl) rfl ?_
 refine tri_g opg_alloc rfl ?_
 rintro _ _ _ ⟨b21, rfl, rfl, rfl⟩
 refine tri_g (opg_store rfl rfl rfl rfl rfl rfl) rfl ?_
 rintro _ _ _ ⟨rfl, rfl⟩
 refine tA rfl rfl (tN (tT (tS (tR (tM rfl rfl (tM rfl rfl (tM rfl rfl ?_)))))))
 refine tM rfl rfl ?_
 refine tri_g (opg_call (xs := [_, _, _, _]) rfl (fork_run_okV (picks := picks) hm2 (hs4.mono fun _ h => hI6 (hI5 (hI3 (hI2 h)))) (hs7.mono fun _ h => hI6 (hI5 h)) (hs3.mono fun _ h => hI6 (hI5 (hs04 h))) hk hg2)) rfl ?_
 rintro _ _ I7 ⟨o3, w3, c8, d8, rfl, ho3, hw3, rfl, hI7⟩
 rw [ht2]
 have hmo := R19.MOk.run (p := p) (by rw [← hp]; exact R19.tree_right raw) (nw := (1 + pk workers 9).toNat) (by omega) p.length (Nat.le_refl _) (picks := picks)
 have hol := hmo.ol
 have hwl := hmo.wl
 generalize R19.mst p picks (1 + pk workers 9).toNat p.length = M at *
 generalize R19.total v p.length = S at *
 refine tM rfl rfl ?_
 refine tri_v (opv_extract rfl rfl) rfl ?_
 refine tri_v (opv_extract rfl rfl) rfl ?_
 refine tri_g opg_alloc rfl ?_
 rintro _ _ _ ⟨b23, rfl, rfl, rfl⟩
 refine tri_g (opg_store rfl rfl rfl rfl rfl rfl) rfl ?_
 rintro _ _ _ ⟨rfl, rfl⟩
 refine tA rfl rfl (tN (tT (tS (tR (tM rfl rfl (tM rfl rfl ?_))))))
 refine tri_bool 85 rfl (fun _ => ?_) (fun h => absurd h (by decide))
 refine tri_guard_run rfl rfl rfl (tM rfl rfl (tri_guard_run rfl rfl rfl ?_))
 refine tri_v (by first | exact opv_eql rfl rfl | exact opv_eqlI rfl rfl rfl rfl rfl rfl | exact opv_eqlB rfl rfl | exact opv_eqlNil rfl rfl) rfl ?_
 refine tri_v (by first | exact opv_pick_t rfl rfl | exact opv_pick_f rfl rfl | exact opv_pick_bool rfl rfl rfl | exact opv_pick rfl rfl rfl) rfl ?_
 refine tM rfl rfl ?_
 refine tri_true rfl rfl (rfl) ?_
 refine tri_guard_run rfl rfl rfl (tM rfl rfl (tri_guard_run rfl rfl rfl ?_))
 refine tri_v (by first | exact opv_eql rfl rfl | exact opv_eqlI rfl rfl rfl rfl rfl rfl | exact opv_eqlB rfl rfl | exact opv_eqlNil rfl rfl) rfl ?_
 refine tri_v (by first | exact opv_pick_t rfl rfl | exact opv_pick_f rfl rfl | exact opv_pick_bool rfl rfl rfl | exact opv_pick rfl rfl rfl) rfl ?_
 refine tM rfl rfl ?_
 refine tri_true rfl rfl (rfl) ?_
 refine tri_guard_run rfl rfl rfl (tM rfl rfl (tri_guard_run rfl rfl rfl ?_))
 refine tri_v (by first | exact opv_eql rfl rfl | exact opv_eqlI rfl rfl rfl rfl rfl rfl | exact opv_eqlB rfl rfl | exact opv_eqlNil rfl rfl) rfl ?_
 refine tri_v (by first | exact opv_pick_t rfl rfl | exact opv_pick_f rfl rfl | exact opv_pick_bool rfl rfl rfl | exact opv_pick rfl rfl rfl) rfl ?_
 refine tM rfl rfl ?_
 refine tri_true rfl rfl (rfl) ?_
 refine tri_guard_run rfl rfl rfl ?_
 refine tri_v (by first | exact opv_fieldAddr rfl rfl | exact opv_fieldAddrE rfl (by assumption) (by omega) rfl | exact opv_fieldAddrR rfl (by omega) rfl | exact opv_fieldAddrP rfl rfl rfl) rfl ?_
 refine tri_guard_run rfl rfl rfl ?_
 refine tri_v (by first | exact opv_load1 rfl rfl rfl | exact opv_loadA rfl rfl rfl | exact opv_loadE1 rfl (by assumption) rfl (by omega) rfl rfl | exact opv_loadEA rfl (by assumption) rfl (by omega) rfl rfl | exact opv_loadRX1 rfl rfl (by omega) rfl rfl | exact opv_loadRXA rfl rfl (by omega) rfl rfl rfl | exact opv_loadIX rfl rfl (by omega) | exact opv_loadR1 rfl rfl rfl | exact opv_loadRA rfl rfl rfl rfl) rfl ?_
 refine tri_guard_run rfl rfl rfl ?_
 refine tri_v (by first | exact opv_fieldAddr rfl rfl | exact opv_fieldAddrE rfl (by assumption) (by omega) rfl | exact opv_fieldAddrR rfl (by omega) rfl | exact opv_fieldAddrP rfl rfl rfl) rfl ?_
 refine tri_guard_run rfl rfl rfl ?_
 refine tri_v (by first | exact opv_load1 rfl rfl rfl | exact opv_loadA rfl rfl rfl | exact opv_loadE1 rfl (by assumption) rfl (by omega) rfl rfl | exact opv_loadEA rfl (by assumption) rfl (by omega) rfl rfl | exact opv_loadRX1 rfl rfl (by omega) rfl rfl | exact opv_loadRXA rfl rfl (by omega) rfl rfl rfl | exact opv_loadIX rfl rfl (by omega) | exact opv_loadR1 rfl rfl rfl | exact opv_loadRA rfl rfl rfl rfl) rfl ?_
 refine tri_guard_run rfl rfl rfl (tM rfl rfl (tri_guard_run rfl rfl rfl (tM rfl rfl (tri_guard_run rfl rfl rfl ?_))))
 refine tri_v (opv_len rfl) rfl ?_
 refine tri_guard_run rfl rfl rfl ?_
 refine tri_v (by first | exact opv_mul rfl rfl (w64 (by omega) (by omega)) | exact opv_mul rfl rfl (by assumption)) rfl ?_
 refine tri_guard_run rfl rfl rfl ?_
 refine tri_v (by first | exact opv_add rfl rfl (w64 (by omega) (by omega))) rfl ?_
 refine tri_guard_run rfl rfl rfl ?_
 refine tri_v (by first | exact opv_eql rfl rfl | exact opv_eqlI rfl rfl rfl rfl rfl rfl | exact opv_eqlB rfl rfl | exact opv_eqlNil rfl rfl) rfl ?_
 refine tri_v (by first | exact opv_pick_t rfl rfl | exact opv_pick_f rfl rfl | exact opv_pick_bool rfl rfl rfl | exact opv_pick rfl rfl rfl) rfl ?_
 refine tM rfl rfl ?_
 refine tri_true rfl rfl (rfl) ?_
 refine tri_guard_run rfl rfl rfl ?_
 refine tri_v (by first | exact opv_fieldAddr rfl rfl | exact opv_fieldAddrE rfl (by assumption) (by omega) rfl | exact opv_fieldAddrR rfl (by omega) rfl | exact opv_fieldAddrP rfl rfl rfl) rfl ?_
 refine tri_guard_run rfl rfl rfl ?_
 refine tri_v (by first | exact opv_load1 rfl rfl rfl | exact opv_loadA rfl rfl rfl | exact opv_loadE1 rfl (by assumption) rfl (by omega) rfl rfl | exact opv_loadEA rfl (by assumption) rfl (by omega) rfl rfl | exact opv_loadRX1 rfl rfl (by omega) rfl rfl | exact opv_loadRXA rfl rfl (by omega) rfl rfl rfl | exact opv_loadIX rfl rfl (by omega) | exact opv_loadR1 rfl rfl rfl | exact opv_loadRA rfl rfl rfl rfl) rfl ?_
 refine tri_guard_run rfl rfl rfl ?_
 refine tri_v (by first | exact opv_fieldAddr rfl rfl | exact opv_fieldAddrE rfl (by assumption) (by omega) rfl | exact opv_fieldAddrR rfl (by omega) rfl | exact opv_fieldAddrP rfl rfl rfl) rfl ?_
 refine tri_guard_run rfl rfl rfl ?_
 refine tri_v (by first | exact opv_load1 rfl rfl rfl | exact opv_loadA rfl rfl rfl | exact opv_loadE1 rfl (by assumption) rfl (by omega) rfl rfl | exact opv_loadEA rfl (by assumption) rfl (by omega) rfl rfl | exact opv_loadRX1 rfl rfl (by omega) rfl rfl | exact opv_loadRXA rfl rfl (by omega) rfl rfl rfl | exact opv_loadIX rfl rfl (by omega) | exact opv_loadR1 rfl rfl rfl | exact opv_loadRA rfl rfl rfl rfl) rfl ?_
 refine tri_guard_run rfl rfl rfl ?_
 refine tri_v (by first | exact opv_mul rfl rfl (w64 (by omega) (by omega)) | exact opv_mul rfl rfl (by assumption)) rfl ?_
 refine tri_guard_run rfl rfl rfl ?_
 refine tri_v (by first | exact opv_eql rfl rfl | exact opv_eqlI rfl rfl rfl rfl rfl rfl | exact opv_eqlB rfl rfl | exact opv_eqlNil rfl rfl) rfl ?_
 refine tri_v (by first | exact opv_pick_t rfl rfl | exact opv_pick_f rfl rfl | exact opv_pick_bool rfl rfl rfl | exact opv_pick rfl rfl rfl) rfl ?_
 refine tM rfl rfl ?_
 refine tri_true rfl rfl (rfl) ?_
 refine tri_guard_run rfl rfl rfl ?_
 refine tri_v (by first | exact opv_fieldAddr rfl rfl | exact opv_fieldAddrE rfl (by assumption) (by omega) rfl | exact opv_fieldAddrR rfl (by omega) rfl | exact opv_fieldAddrP rfl rfl rfl) rfl ?_
 refine tri_guard_run rfl rfl rfl ?_
 refine tri_v (by first | exact opv_load1 rfl rfl rfl | exact opv_loadA rfl rfl rfl | exact opv_loadE1 rfl (by assumption) rfl (by omega) rfl rfl | exact opv_loadEA rfl (by assumption) rfl (by omega) rfl rfl | exact opv_loadRX1 rfl rfl (by omega) rfl rfl | exact opv_loadRXA rfl rfl (by omega) rfl rfl rfl | exact opv_loadIX rfl rfl (by omega) | exact opv_loadR1 rfl rfl rfl | exact opv_loadRA rfl rfl rfl rfl) rfl ?_
 refine tri_guard_run rfl rfl rfl ?_
 refine tri_v (by first | exact opv_fieldAddr rfl rfl | exact opv_fieldAddrE rfl (by assumption) (by omega) rfl | exact opv_fieldAddrR rfl (by omega) rfl | exact opv_fieldAddrP rfl rfl rfl) rfl ?_
 refine tri_guard_run rfl rfl rfl ?_
 refine tri_v (by first | exact opv_load1 rfl rfl rfl | exact opv_loadA rfl rfl rfl | exact opv_loadE1 rfl (by assumption) rfl (by omega) rfl rfl | exact opv_loadEA rfl (by assumption) rfl (by omega) rfl rfl | exact opv_loadRX1 rfl rfl (by omega) rfl rfl | exact opv_loadRXA rfl rfl (by omega) rfl rfl rfl | exact opv_loadIX rfl rfl (by omega) | exact opv_loadR1 rfl rfl rfl | exact opv_loadRA rfl rfl rfl rfl) rfl ?_
 refine tri_guard_run rfl rfl rfl ?_
 refine tri_g (opg_call (xs := [_, _]) rfl (ref03_intsM hol hol (ho1.sl.mono fun _ h => hI7 (hI6 h)) (ho2.sl.mono hI7) (by omega))) rfl ?_
 rintro _ _ _ ⟨rfl, rfl, rfl⟩
 refine tri_v (by first | exact opv_pick_t rfl rfl | exact opv_pick_f rfl rfl | exact opv_pick_bool rfl rfl rfl | exact opv_pick rfl rfl rfl) rfl ?_
 refine tM rfl rfl ?_
 refine tri_true rfl rfl (rfl) ?_
 refine tri_guard_run rfl rfl rfl ?_
 refine tri_v (by first | exact opv_fieldAddr rfl rfl | exact opv_fieldAddrE rfl (by assumption) (by omega) rfl | exact opv_fieldAddrR rfl (by omega) rfl | exact opv_fieldAddrP rfl rfl rfl) rfl ?_
 refine tri_guard_run rfl rfl rfl ?_
 refine tri_v (by first | exact opv_load1 rfl rfl rfl | exact opv_loadA rfl rfl rfl | exact opv_loadE1 rfl (by assumption) rfl (by omega) rfl rfl | exact opv_loadEA rfl (by assumption) rfl (by omega) rfl rfl | exact opv_loadRX1 rfl rfl (by omega) rfl rfl | exact opv_loadRXA rfl rfl (by omega) rfl rfl rfl | exact opv_loadIX rfl rfl (by omega) | exact opv_loadR1 rfl rfl rfl | exact opv_loadRA rfl rfl rfl rfl) rfl ?_
 refine tri_guard_run rfl rfl rfl ?_
 refine tri_v (by first | exact opv_fieldAddr rfl rfl | exact opv_fieldAddrE rfl (by assumption) (by omega) rfl | exact opv_fieldAddrR rfl (by omega) rfl | exact opv_fieldAddrP rfl rfl rfl) rfl ?_
 refine tri_guard_run rfl rfl rfl ?_
 refine tri_v (by first | exact opv_load1 rfl rfl rfl | exact opv_loadA rfl rfl rfl | exact opv_loadE1 rfl (by assumption) rfl (by omega) rfl rfl | exact opv_loadEA rfl (by assumption) rfl (by omega) rfl rfl | exact opv_loadRX1 rfl rfl (by omega) rfl rfl | exact opv_loadRXA rfl rfl (by omega) rfl rfl rfl | exact opv_loadIX rfl rfl (by omega) | exact opv_loadR1 rfl rfl rfl | exact opv_loadRA rfl rfl rfl rfl) rfl ?_
 refine tri_guard_run rfl rfl rfl ?_
 refine tri_g (opg_call (xs := [_, _]) rfl (ref03_intsM hwl hwl (hw1.sl.mono fun _ h => hI7 (hI6 h)) hw3.sl (by omega))) rfl ?_
 rintro _ _ _ ⟨rfl, rfl, rfl⟩
 refine tri_v (by first | exact opv_pick_t rfl rfl | exact opv_pick_f rfl rfl | exact opv_pick_bool rfl rfl rfl | exact opv_pick rfl rfl rfl) rfl ?_
 refine tA rfl rfl (tN (tT (tri_ret ?_)))
 refine tri_end _ (by first | exact ⟨[], rfl⟩ | exact ⟨[_], rfl⟩ | exact ⟨[_, _], rfl⟩ | exact ⟨[_, _, _], rfl⟩ | exact ⟨[_, _, _, _], rfl⟩ | exact ⟨[_, _, _, _, _], rfl⟩ | exact ⟨[_, _, _, _, _, _], rfl⟩ | exact ⟨[_, _, _, _, _, _, _], rfl⟩ | exact ⟨[_, _, _, _, _, _, _, _], rfl⟩) rfl (.cons (rv_tmp rfl) .nil) ⟨?_, rfl, fun _ h => hI7 (hI6 (hI5 (hs04 h)))⟩
 exact congrArg Value.bool (decide_eq_true rfl)
end Go.GL

set_option linter.unusedVariables false
namespace Go.GL
open Go.Proofs
attribute [local irreducible] wpList Code.wp Exit.then Exit.inBlock Ends Tri TriH OpV OpG FnC epf wpAnyH
variable {A : List Asrt} {I : List Chunk}
theorem ref03_intsR {l m : List Int} {nl nm len cap3 : Nat} {E : TypeId} {a b : Option Addr} {cap cap2 : Nat} (hl : l.length = nl) (hm : m.length = nm) (hs : SlAt I a l) (hn : nl ≤ 1000000000) :
  FnC Try.prog 18 [.slice a nl cap, .slice b nm cap2].toArray (Row b cap3 len E 1 (encs m) :: A) I (fun v A' I' => v = .bool (decide (l = m)) ∧ A = A' ∧ I ⊆ I') :=
 FnC.freezeRow fun I' hI' hz => (ref03_intsM hl hm (hs.mono hI') hz hn).mono fun v A' J h => ⟨h.1, h.2.1, h.2.2 ▸ hI'⟩
set_option maxHeartbeats 4000000 in
set_option maxRecDepth 100000 in
theorem law19_alone {raw picks : List Int} {a a3 : Option Addr} {cap cap3 : Nat} (hs : SlAt I a raw) (hr : Is raw) (hs3 : SlAt I a3 picks) (hk : Is picks) :
  FnC Try.prog 6 [.slice a raw.length cap, .slice a3 picks.length cap3].toArray A I (fun v A' I' => v = .bool true ∧ A = A' ∧ I ⊆ I') := by
 have htl := R19.tree_len raw
 have hrt := R19.tree_right raw
 have hg := vals_good (raw := raw) (vs := []) (nw := 1) (by omega) (by omega)
 have hvl2 := R19.vals_len [] (R19.tree raw).length
 skip
 refine fn_enter2 Try.func6 rfl Try.ntmps6 rfl fun w0 => ?_
 refine tS (tR (tA rfl rfl (tN (tT (tS (tR ?_))))))
 refine tri_g (opg_call (xs := []) rfl (law19_awake)) rfl ?_
 rintro _ _ I0 ⟨rfl, rfl, hI0⟩
 refine tA rfl rfl (tN (tT (tS (tR (tM rfl rfl ?_)))))
 refine tri_g (opg_call (xs := [_]) rfl (law19_tree (hs.mono hI0) hr)) rfl ?_
 rintro _ _ I1 ⟨a4, c4, rfl, hs4, rfl, hI1⟩
 generalize hp : R19.tree raw = p at *
 refine tA rfl rfl (tN (tT (tS (tR (tM rfl rfl ?_)))))
 refine tri_v (opv_len rfl) rfl ?_
 refine tri_g (opg_call (xs := [_, _]) rfl (law19_values (raw := []) SlAt.nil (fun i hi => absurd hi (Nat.not_lt_zero _)) (by omega) (by decide))) rfl ?_
 rintro _ _ I2 ⟨a5, c5, rfl, hs5, rfl, hI2⟩
 refine tA rfl rfl (tN (tT (tS (tR (tM rfl rfl (tM rfl rfl (tM rfl rfl ?_)))))))
 refine tri_g (opg_call (xs := [_, _, _, _]) rfl (fork_run_ok (picks := picks) (hs4.mono hI2) hs5 (hs3.mono fun _ h => hI2 (hI1 (hI0 h))) hk hg)) rfl ?_
 rintro _ _ I3 ⟨o1, w1, c6, d6, rfl, ho1, hw1, rfl, hI3⟩
 refine tM rfl rfl ?_
 refine tri_v (opv_extract rfl rfl) rfl ?_
 refine tri_v (opv_extract rfl rfl) rfl ?_
 refine tri_g opg_alloc rfl ?_
 rintro _ _ _ ⟨b8, rfl, rfl, rfl⟩
 refine tri_g (opg_store rfl rfl rfl rfl rfl rfl) rfl ?_
 rintro _ _ _ ⟨rfl, rfl⟩
 refine tA rfl rfl (tN (tT (tS (tR (tM rfl rfl (tM rfl rfl ?_))))))
 refine tri_g (opg_call (xs := [_, _, _, _]) rfl (fork_run_ok (picks := []) (hs4.mono fun _ h => hI3 (hI2 h)) (hs5.mono hI3) SlAt.nil (fun i hi => absurd hi (Nat.not_lt_zero _)) hg)) rfl ?_
 rintro _ _ I4 ⟨o2, w2, c7, d7, rfl, ho2, hw2, rfl, hI4⟩
 have ho1 : StA I4 o1 c6 (R19.mst p picks 1 p.length).order := ho1.mono hI4
 have hw1 : StA I4 w1 d6 (R19.mst p picks 1 p.length).who := hw1.mono hI4
 have ho2 : StA I4 o2 c7 (R19.mst p [] 1 p.length).order := ho2
 rw [← R19.mst_alone picks] at ho2
 rw [R19.who_alone hrt (Nat.le_refl _)] at hw1
 have hmo := R19.MOk.run hrt (Nat.le_refl 1) p.length (Nat.le_refl _) (picks := picks)
 have hol := hmo.ol
 have hnext := fun (i T : Nat) (hi : i + 1 < p.length) => R19.alone_next (picks := picks) hrt hi (Nat.le_refl _) (T := T)
 have hord := fun (i : Nat) (hi : i < p.length) => R19.ord_at (picks := picks) hrt (Nat.le_refl 1) hi (Nat.le_refl _)
 generalize (R19.mst p picks 1 p.length).order = O at *
 have hs4 := ((hs4.mono hI2).mono hI3).mono hI4
 have hI04 : I ⊆ I4 := fun _ h => hI4 (hI3 (hI2 (hI1 (hI0 h))))
 have sO := ho1.sl
 refine tM rfl rfl ?_
 refine tri_v (opv_extract rfl rfl) rfl ?_
 refine tri_v (opv_extract rfl rfl) rfl ?_
 refine tri_g opg_alloc rfl ?_
 rintro _ _ _ ⟨b10, rfl, rfl, rfl⟩
 refine tri_g (opg_store rfl rfl rfl rfl rfl rfl) rfl ?_
 rintro _ _ _ ⟨rfl, rfl⟩
 refine tA rfl rfl (tN (tT (tS (tS (tR (tM rfl rfl ?_))))))
 refine tri_v (by first | exact opv_neq rfl rfl | exact opv_neqI rfl rfl rfl rfl rfl rfl | exact opv_neqB rfl rfl) rfl ?_
 refine tM rfl rfl ?_
 refine tri_false rfl rfl ((fun h => h rfl)) ?_
 refine tri_guard_run rfl rfl rfl (tM rfl rfl (tri_guard_run rfl rfl rfl ?_))
 refine tri_v (by first | exact opv_neq rfl rfl | exact opv_neqI rfl rfl rfl rfl rfl rfl | exact opv_neqB rfl rfl) rfl ?_
 refine tri_v (by first | exact opv_pick_t rfl rfl | exact opv_pick_f rfl rfl | exact opv_pick_bool rfl rfl rfl | exact opv_pick rfl rfl rfl) rfl ?_
 refine tM rfl rfl ?_
 refine tri_false rfl rfl ((fun h => h rfl)) ?_
 refine tri_guard_run rfl rfl rfl ?_
 refine tri_v (by first | exact opv_fieldAddr rfl rfl | exact opv_fieldAddrE rfl (by assumption) (by omega) rfl | exact opv_fieldAddrR rfl (by omega) rfl | exact opv_fieldAddrP rfl rfl rfl) rfl ?_
 refine tri_guard_run rfl rfl rfl ?_
 refine tri_v (by first | exact opv_load1 rfl rfl rfl | exact opv_loadA rfl rfl rfl | exact opv_loadE1 rfl (by assumption) rfl (by omega) rfl rfl | exact opv_loadEA rfl (by assumption) rfl (by omega) rfl rfl | exact opv_loadRX1 rfl rfl (by omega) rfl rfl | exact opv_loadRXA rfl rfl (by omega) rfl rfl rfl | exact opv_loadIX rfl rfl (by omega) | exact opv_loadR1 rfl rfl rfl | exact opv_loadRA rfl rfl rfl rfl) rfl ?_
 refine tri_guard_run rfl rfl rfl ?_
 refine tri_v (opv_len rfl) rfl ?_
 refine tri_guard_run rfl rfl rfl (tM rfl rfl (tri_guard_run rfl rfl rfl ?_))
 refine tri_v (opv_len rfl) rfl ?_
 refine tri_guard_run rfl rfl rfl ?_
 refine tri_v (by first | exact opv_neq rfl rfl | exact opv_neqI rfl rfl rfl rfl rfl rfl | exact opv_neqB rfl rfl) rfl ?_
 refine tri_v (by first | exact opv_pick_t rfl rfl | exact opv_pick_f rfl rfl | exact opv_pick_bool rfl rfl rfl | exact opv_pick rfl rfl rfl) rfl ?_
 refine tM rfl rfl ?_
 refine tri_false rfl rfl ((fun h => h rfl)) ?_
 refine tri_guard_run rfl rfl rfl ?_
 refine tri_v (by first | exact opv_fieldAddr rfl rfl | exact opv_fieldAddrE rfl (by assumption) (by omega) rfl | exact opv_fieldAddrR rfl (by omega) rfl | exact opv_fieldAddrP rfl rfl rfl) rfl ?_
 refine tri_guard_run rfl rfl rfl ?_
 refine tri_v (by first | exact opv_load1 rfl rfl rfl | exact opv_loadA rfl rfl rfl | exact opv_loadE1 rfl (by assumption) rfl (by omega) rfl rfl | exact opv_loadEA rfl (by assumption) rfl (by omega) rfl rfl | exact opv_loadRX1 rfl rfl (by omega) rfl rfl | exact opv_loadRXA rfl rfl (by omega) rfl rfl rfl | exact opv_loadIX rfl rfl (by omega) | exact opv_loadR1 rfl rfl rfl | exact opv_loadRA rfl rfl rfl rfl) rfl ?_
 refine tri_guard_run rfl rfl rfl ?_
 refine tri_v (by first | exact opv_fieldAddr rfl rfl | exact opv_fieldAddrE rfl (by assumption) (by omega) rfl | exact opv_fieldAddrR rfl (by omega) rfl | exact opv_fieldAddrP rfl rfl rfl) rfl ?_
 refine tri_guard_run rfl rfl rfl ?_
 refine tri_v (by first | exact opv_load1 rfl rfl rfl | exact opv_loadA rfl rfl rfl | exact opv_loadE1 rfl (by assumption) rfl (by omega) rfl rfl | exact opv_loadEA rfl (by assumption) rfl (by omega) rfl rfl | exact opv_loadRX1 rfl rfl (by omega) rfl rfl | exact opv_loadRXA rfl rfl (by omega) rfl rfl rfl | exact opv_loadIX rfl rfl (by omega) | exact opv_loadR1 rfl rfl rfl | exact opv_loadRA rfl rfl rfl rfl) rfl ?_
 refine tri_guard_run rfl rfl rfl ?_
 refine tri_g (opg_call (xs := [_, _]) rfl (ref03_intsM hol hol ho1.sl ho2.sl (by omega))) rfl ?_
 rintro _ _ _ ⟨rfl, rfl, rfl⟩
 refine tri_guard_run rfl rfl rfl ?_
 refine tri_v (by first | exact opv_notD rfl | exact opv_not rfl) rfl ?_
 refine tri_v (by first | exact opv_pick_t rfl rfl | exact opv_pick_f rfl rfl | exact opv_pick_bool rfl rfl rfl | exact opv_pick rfl rfl rfl) rfl ?_
 refine tN (tT ?_)
 refine tri_cond_not rfl ((fun h => h rfl)) ?_
 refine tri_skip (tT (tS (tS (tR (tA rfl rfl (tN (tT ?_)))))))
 refine tri_block ?_
 refine tri_sub (F' := [(5, .bool true), (6, .slice a4 p.length c4), (8, pt b8 0), (12, .int .i64 (0 : Nat))]) ⟨rfl, rfl, rfl, rfl, trivial⟩ ?_
 refine loop_ind (G := Nat) (fun g => p.length - g) (fun g => g + 1 ≤ p.length) (fun g => [(5, .bool true), (6, .slice a4 p.length c4), (8, pt b8 0), (12, .int .i64 (g : Nat))]) (fun _ => _) (fun _ => _) ?_ 0 (by omega)
 rintro i hi K hK
 obtain ⟨T, hT, hTl, _⟩ := hord i (by omega)
 have ti : (i : Int).toNat = i := rfl
 have ti2 : ((i : Int) + 1).toNat = i + 1 := rfl
 skip
 refine tS (tS (tR (tM rfl rfl ?_)))
 refine tri_v (by first | exact opv_add rfl rfl (w64 (by omega) (by omega))) rfl ?_
 refine tM rfl rfl ?_
 refine tri_v (opv_len rfl) rfl ?_
 refine tri_v (opv_lss rfl rfl) rfl ?_
 refine tN (tT ?_)
 refine tri_cond_dec rfl (fun h => ?_) (fun h => ?_)
 ·have hil : i + 1 < p.length := by omega
  refine tri_skip (tT (tS (tri_block (tS (tR (tA rfl rfl (tN ?_)))))))
  refine tT (tS (tS (tR (tA rfl rfl (tN (tT (tri_block ?_)))))))
  refine tri_sub (F' := [(5, .bool true), (6, .slice a4 p.length c4), (8, pt b8 0), (12, .int .i64 (i : Nat)), (13, .int .i64 (R19.lastKid p T 0)), (14, .int .i64 (0 : Nat))]) ⟨rfl, rfl, rfl, rfl, rfl, rfl, trivial⟩ ?_
  refine loop_ind (G := Nat) (fun g => p.length - g) (fun g => g ≤ p.length) (fun g => [(5, .bool true), (6, .slice a4 p.length c4), (8, pt b8 0), (12, .int .i64 (i : Nat)), (13, .int .i64 (R19.lastKid p T g)), (14, .int .i64 (g : Nat))]) (fun _ => _) (fun _ => _) ?_ 0 (by omega)
  rintro k hk2 K2 hK2
  have hlb := R19.lastKid_bd (p := p) (T := T) k
  skip
  refine tS (tS (tR (tM rfl rfl (tM rfl rfl ?_))))
  refine tri_v (opv_len rfl) rfl ?_
  refine tri_v (opv_lss rfl rfl) rfl ?_
  refine tN (tT ?_)
  refine tri_cond_dec rfl (fun h2 => ?_) (fun h2 => ?_)
  ·have hkl : k < p.length := by omega
   have tk : (k : Int).toNat = k := rfl
   refine tri_skip (tT (tS (tri_block (tS ?_))))
   refine tri_draw [0, 1, 2, 3, 4, 5, 6, 7, 8, 9] rfl [] rfl mixed ?_
   refine th_take rfl rfl (by kernel_rfl)  (opv_move rfl) ?_
   refine th_take rfl rfl (by kernel_rfl)  (opv_move rfl) ?_
   refine th_take rfl rfl (by kernel_rfl)  (by first | exact opv_indexAddrA rfl rfl (by first | decide | omega) (by first | decide | omega) | exact opv_indexAddrSN rfl rfl (by omega) (by assumption) (by first | rfl | omega) | exact opv_indexAddrS rfl rfl (by omega) (by omega) (by assumption) (by first | rfl | omega) | exact opv_indexAddrE rfl (by assumption) (by omega) rfl (by first | decide | omega) (by first | decide | omega) | exact opv_indexAddrRN rfl rfl (by omega) | exact opv_indexAddrR rfl rfl (by omega) (by omega) | exact opv_indexAddrRA rfl (by omega) rfl (by first | decide | omega) (by first | decide | omega) | exact opv_indexAddrSP rfl rfl (by omega) (by omega)) ?_
   refine th_take rfl rfl (by kernel_rfl)  (by first | exact opv_load1 rfl rfl rfl | exact opv_loadA rfl rfl rfl | exact opv_loadE1 rfl (by assumption) rfl (by omega) rfl rfl | exact opv_loadEA rfl (by assumption) rfl (by omega) rfl rfl | exact opv_loadRX1 rfl rfl (by omega) rfl rfl | exact opv_loadRXA rfl rfl (by omega) rfl rfl rfl | exact opv_loadIX rfl rfl (by omega) | exact opv_loadR1 rfl rfl rfl | exact opv_loadRA rfl rfl rfl rfl) ?_
   refine th_take rfl rfl (by kernel_rfl)  (by first | exact opv_fieldAddr rfl rfl | exact opv_fieldAddrE rfl (by assumption) (by omega) rfl | exact opv_fieldAddrR rfl (by omega) rfl | exact opv_fieldAddrP rfl rfl rfl) ?_
   refine th_take rfl rfl (by kernel_rfl)  (by first | exact opv_load1 rfl rfl rfl | exact opv_loadA rfl rfl rfl | exact opv_loadE1 rfl (by assumption) rfl (by omega) rfl rfl | exact opv_loadEA rfl (by assumption) rfl (by omega) rfl rfl | exact opv_loadRX1 rfl rfl (by omega) rfl rfl | exact opv_loadRXA rfl rfl (by omega) rfl rfl rfl | exact opv_loadIX rfl rfl (by omega) | exact opv_loadR1 rfl rfl rfl | exact opv_loadRA rfl rfl rfl rfl) ?_
   refine th_take rfl rfl (by kernel_rfl)  (opv_move rfl) ?_
   refine th_take rfl rfl (by kernel_rfl)  (by first | exact opv_indexAddrA rfl rfl (by first | decide | omega) (by first | decide | omega) | exact opv_indexAddrSN rfl rfl (by omega) (by assumption) (by first | rfl | omega) | exact opv_indexAddrS rfl rfl (by omega) (by omega) (by assumption) (by first | rfl | omega) | exact opv_indexAddrE rfl (by assumption) (by omega) rfl (by first | decide | omega) (by first | decide | omega) | exact opv_indexAddrRN rfl rfl (by omega) | exact opv_indexAddrR rfl rfl (by omega) (by omega) | exact opv_indexAddrRA rfl (by omega) rfl (by first | decide | omega) (by first | decide | omega) | exact opv_indexAddrSP rfl rfl (by omega) (by omega)) ?_
   refine th_take rfl rfl (by kernel_rfl)  (by first | exact opv_load1 rfl rfl rfl | exact opv_loadA rfl rfl rfl | exact opv_loadE1 rfl (by assumption) rfl (by omega) rfl rfl | exact opv_loadEA rfl (by assumption) rfl (by omega) rfl rfl | exact opv_loadRX1 rfl rfl (by omega) rfl rfl | exact opv_loadRXA rfl rfl (by omega) rfl rfl rfl | exact opv_loadIX rfl rfl (by omega) | exact opv_loadR1 rfl rfl rfl | exact opv_loadRA rfl rfl rfl rfl) ?_
   refine th_take rfl rfl (by kernel_rfl)  (by first | exact opv_eql rfl rfl | exact opv_eqlI rfl rfl rfl rfl rfl rfl | exact opv_eqlB rfl rfl | exact opv_eqlNil rfl rfl) ?_
   refine th_done (by kernel_rfl) ?_
   refine tT ?_
   rw [hT]
   refine tri_cond_dec rfl (fun h3 => ?_) (fun h3 => ?_)
   ·have e : R19.lastKid p T (k + 1) = (k : Int) := if_pos h3
    refine tR (tM rfl rfl (tA rfl rfl (tN ?_)))
    refine tri_inBlock ?_
    refine tT (tR (tM rfl rfl ?_))
    refine tri_v (by first | exact opv_add rfl rfl (w64 (by omega) (by omega))) rfl ?_
    refine tA rfl rfl (tN (tT ?_))
    refine tri_sub ?_ (hK2 (k + 1) (by omega) (by omega))
    exact ⟨rfl, rfl, rfl, rfl, by rw [e]; rfl, rfl, trivial⟩
   ·have e : R19.lastKid p T (k + 1) = R19.lastKid p T k := if_neg h3
    refine tri_skip ?_
    refine tri_inBlock ?_
    refine tT (tR (tM rfl rfl ?_))
    refine tri_v (by first | exact opv_add rfl rfl (w64 (by omega) (by omega))) rfl ?_
    refine tA rfl rfl (tN (tT ?_))
    refine tri_sub ?_ (hK2 (k + 1) (by omega) (by omega))
    exact ⟨rfl, rfl, rfl, rfl, by rw [e]; rfl, rfl, trivial⟩
  ·obtain rfl : k = p.length := by omega
   have hle := fun h => R19.lastKid_eq (p := p) (T := T) p.length h
   refine tri_exit ?_
   refine tri_then_exit ?_
   refine tri_then_exit ?_
   refine tri_inBlock_hit rfl ?_
   refine tT (tS (tR (tM rfl rfl ?_)))
   refine tri_v (opv_geq rfl rfl) rfl ?_
   refine tM rfl rfl ?_
   refine tri_split rfl rfl (fun h4 => ?_) (fun h4 => ?_)
   ·obtain ⟨h5, h6⟩ := hle (by omega)
    have hn2 := hnext i T (by omega) hT h5
    have hil2 : i + 1 < O.length := by omega
    skip
    refine tri_guard_run rfl rfl rfl ?_
    refine tri_v (by first | exact opv_fieldAddr rfl rfl | exact opv_fieldAddrE rfl (by assumption) (by omega) rfl | exact opv_fieldAddrR rfl (by omega) rfl | exact opv_fieldAddrP rfl rfl rfl) rfl ?_
    refine tri_guard_run rfl rfl rfl ?_
    refine tri_v (by first | exact opv_load1 rfl rfl rfl | exact opv_loadA rfl rfl rfl | exact opv_loadE1 rfl (by assumption) rfl (by omega) rfl rfl | exact opv_loadEA rfl (by assumption) rfl (by omega) rfl rfl | exact opv_loadRX1 rfl rfl (by omega) rfl rfl | exact opv_loadRXA rfl rfl (by omega) rfl rfl rfl | exact opv_loadIX rfl rfl (by omega) | exact opv_loadR1 rfl rfl rfl | exact opv_loadRA rfl rfl rfl rfl) rfl ?_
    refine tri_guard_run rfl rfl rfl (tM rfl rfl (tri_guard_run rfl rfl rfl ?_))
    refine tri_v (by first | exact opv_add rfl rfl (w64 (by omega) (by omega))) rfl ?_
    refine tri_guard_run rfl rfl rfl ?_
    refine tri_v (by first | exact opv_indexAddrA rfl rfl (by first | decide | omega) (by first | decide | omega) | exact opv_indexAddrSN rfl rfl (by omega) (by assumption) (by first | rfl | omega) | exact opv_indexAddrS rfl rfl (by omega) (by omega) (by assumption) (by first | rfl | omega) | exact opv_indexAddrE rfl (by assumption) (by omega) rfl (by first | decide | omega) (by first | decide | omega) | exact opv_indexAddrRN rfl rfl (by omega) | exact opv_indexAddrR rfl rfl (by omega) (by omega) | exact opv_indexAddrRA rfl (by omega) rfl (by first | decide | omega) (by first | decide | omega) | exact opv_indexAddrSP rfl rfl (by omega) (by omega)) rfl ?_
    refine tri_guard_run rfl rfl rfl ?_
    refine tri_v (opv_loadE1 rfl sO rfl hil2 rfl rfl) rfl ?_
    refine tri_guard_run rfl rfl rfl (tM rfl rfl (tri_guard_run rfl rfl rfl ?_))
    refine tri_v (by first | exact opv_neq rfl rfl | exact opv_neqI rfl rfl rfl rfl rfl rfl | exact opv_neqB rfl rfl) rfl ?_
    refine tri_v (by first | exact opv_pick_t rfl rfl | exact opv_pick_f rfl rfl | exact opv_pick_bool rfl rfl rfl | exact opv_pick rfl rfl rfl) rfl ?_
    refine tN (tT ?_)
    try rw [ti2]
    refine tri_cond_not rfl ((fun h => h (hn2.trans h6))) ?_
    refine tri_skip ?_
    refine tri_inBlock ?_
    refine tT (tR (tM rfl rfl ?_))
    refine tri_v (by first | exact opv_add rfl rfl (w64 (by omega) (by omega))) rfl ?_
    refine tA rfl rfl (tN (tT ?_))
    refine tri_sub ?_ (hK (i + 1) (by omega) (by omega))
    exact ⟨rfl, rfl, rfl, rfl, trivial⟩
   ·refine tri_guard_skip rfl rfl rfl rfl (tri_guard_skip rfl rfl rfl rfl (tri_guard_skip rfl rfl rfl rfl (tri_guard_skip rfl rfl rfl rfl (tri_guard_skip rfl rfl rfl rfl (tri_guard_skip rfl rfl rfl rfl (tri_guard_skip rfl rfl rfl rfl (tri_guard_skip rfl rfl rfl rfl ?_)))))))
    refine tri_v (by first | exact opv_pick_t rfl rfl | exact opv_pick_f rfl rfl | exact opv_pick_bool rfl rfl rfl | exact opv_pick rfl rfl rfl) rfl ?_
    refine tN (tT ?_)
    refine tri_cond_false rfl ?_
    refine tri_skip ?_
    refine tri_inBlock ?_
    refine tT (tR (tM rfl rfl ?_))
    refine tri_v (by first | exact opv_add rfl rfl (w64 (by omega) (by omega))) rfl ?_
    refine tA rfl rfl (tN (tT ?_))
    refine tri_sub ?_ (hK (i + 1) (by omega) (by omega))
    exact ⟨rfl, rfl, rfl, rfl, trivial⟩
 ·refine tri_exit ?_
  refine tri_then_exit ?_
  refine tri_then_exit ?_
  refine tri_inBlock_hit rfl ?_
  refine tT (tS ?_)
  skip
  refine tri_draw [0, 1, 2, 3, 4, 5, 6, 7, 8, 9] rfl [] rfl mixed ?_
  refine th_take rfl rfl (by kernel_rfl)  (opv_move rfl) ?_
  refine th_take rfl rfl (by kernel_rfl)  (opv_move rfl) ?_
  refine th_bool 93 rfl (fun _ => ?_) (fun h => absurd h (by decide))
  refine th_take_g rfl rfl rfl rfl rfl (by kernel_rfl)  (by first | exact opv_fieldAddr rfl rfl | exact opv_fieldAddrE rfl (by assumption) (by omega) rfl | exact opv_fieldAddrR rfl (by omega) rfl | exact opv_fieldAddrP rfl rfl rfl) ?_
  refine th_take_g rfl rfl rfl rfl rfl (by kernel_rfl)  (by first | exact opv_load1 rfl rfl rfl | exact opv_loadA rfl rfl rfl | exact opv_loadE1 rfl (by assumption) rfl (by omega) rfl rfl | exact opv_loadEA rfl (by assumption) rfl (by omega) rfl rfl | exact opv_loadRX1 rfl rfl (by omega) rfl rfl | exact opv_loadRXA rfl rfl (by omega) rfl rfl rfl | exact opv_loadIX rfl rfl (by omega) | exact opv_loadR1 rfl rfl rfl | exact opv_loadRA rfl rfl rfl rfl) ?_
  refine th_take_g rfl rfl rfl rfl rfl (by kernel_rfl)  (opv_move rfl) ?_
  refine th_take_g rfl rfl rfl rfl rfl (by kernel_rfl)  (opv_len rfl) ?_
  refine th_one (by kernel_rfl) (step_mg rfl rfl rfl rfl rfl (opg_makeSliceN rfl rfl rfl (by omega) (by omega)) ?_)
  rintro _ _ _ ⟨az, haz, rfl, rfl, rfl⟩
  refine ⟨Suf.h, (by first | exact fun _ h => h | assumption | exact fun _ h => (by assumption : _ ⊆ _) ((by assumption : _ ⊆ _) h)), ?_⟩
  rw [reps_int0]
  skip
  refine th_one (by kernel_rfl) (step_mg rfl rfl rfl rfl rfl (opg_call (xs := [_, _]) rfl (ref03_intsR (by rw [List.length_replicate]) (by rw [List.length_replicate]) hw1.sl (by omega))) ?_)
  rintro _ _ I5 ⟨rfl, rfl, hI5⟩
  refine ⟨Suf.h, hI5, ?_⟩
  refine th_take rfl rfl (by kernel_rfl)  (by first | exact opv_pick_t rfl rfl | exact opv_pick_f rfl rfl | exact opv_pick_bool rfl rfl rfl | exact opv_pick rfl rfl rfl) ?_
  refine th_take rfl rfl (by kernel_rfl)  (opv_assign rfl) ?_
  refine th_done (by kernel_rfl) ?_
  refine tT (tri_ret ?_)
  refine tri_end _ (by first | exact ⟨[], rfl⟩ | exact ⟨[_], rfl⟩ | exact ⟨[_, _], rfl⟩ | exact ⟨[_, _, _], rfl⟩ | exact ⟨[_, _, _, _], rfl⟩ | exact ⟨[_, _, _, _, _], rfl⟩ | exact ⟨[_, _, _, _, _, _], rfl⟩ | exact ⟨[_, _, _, _, _, _, _], rfl⟩ | exact ⟨[_, _, _, _, _, _, _, _], rfl⟩) rfl (.cons (rv_tmp rfl) .nil) ⟨?_, rfl, fun _ h => hI5 (hI04 h)⟩
  exact congrArg Value.bool (decide_eq_true rfl)
end Go.GL

set_option linter.unusedVariables false
namespace Go.GL
open Go.Proofs
attribute [local irreducible] wpList Code.wp Exit.then Exit.inBlock Ends Tri TriH OpV OpG FnC epf wpAnyH
variable {A : List Asrt} {I : List Chunk}
theorem take_succI {l : List Int} {i : Nat} (h : i < l.length) : l.take (i + 1) = l.take i ++ [l.getD i default] := by
 rw [List.take_succ_eq_append_getElem h, List.getD_eq_getElem?_getD, List.getElem?_eq_getElem h]
 rfl
/-- Which tasks were seen. -/
def Seen (O : List Int) (N i : Nat) (l : List Int) : Prop := l.length = N ∧ ∀ u : Nat, u < N → l.getD u default = if (u : Int) ∈ O.take i then 1 else 0
theorem Seen.start (O : List Int) (N : Nat) : Seen O N 0 (List.replicate N 0) := ⟨by simp, fun u hu => by
 rw [List.take_zero, if_neg (by simp), List.getD_eq_getElem?_getD, List.getElem?_replicate, if_pos hu]
 rfl⟩
theorem Seen.step {O l : List Int} {N i T : Nat} (h : Seen O N i l) (hi : i < O.length) (hT : O.getD i default = (T : Int)) (hTl : T < N) (hn : (T : Int) ∉ O.take i) : l.getD T default = 0 ∧ Seen O N (i + 1) (l.set T (l.getD T default + 1)) := by
 obtain ⟨h1, h2⟩ := h
 have h3 := h2 T hTl
 rw [if_neg hn] at h3
 refine ⟨h3, by rw [List.length_set]; exact h1, fun u hu => ?_⟩
 rw [take_succI hi, hT]
 have e : (l.set T (l.getD T default + 1)).getD u default = if u = T then l.getD T default + 1 else l.getD u default := by
  rw [List.getD_eq_getElem?_getD, List.getElem?_set]
  by_cases e : T = u
  ·subst e
   rw [if_pos rfl, if_pos rfl, if_pos (by omega)]
   rfl
  ·rw [if_neg e, if_neg (fun h => e h.symm), List.getD_eq_getElem?_getD]
 rw [e]
 by_cases e2 : u = T
 ·subst e2
  rw [if_pos rfl, h3, if_pos (List.mem_append_right _ List.mem_cons_self)]
  rfl
 ·rw [if_neg e2, h2 u hu]
  by_cases h4 : (u : Int) ∈ O.take i
  ·rw [if_pos h4, if_pos (List.mem_append_left _ h4)]
  ·rw [if_neg h4, if_neg]
   intro hc
   rcases List.mem_append.1 hc with hc | hc
   ·exact h4 hc
   ·rw [List.mem_singleton] at hc
    omega
set_option maxHeartbeats 4000000 in
set_option maxRecDepth 100000 in
theorem law19_sums {raw vs picks : List Int} {workers : Int} {a a2 a3 : Option Addr} {cap cap2 cap3 : Nat} (hs : SlAt I a raw) (hr : Is raw) (hs2 : SlAt I a2 vs) (hvs : Is vs) (hvl : vs.length ≤ 9223372036854775807) (hw : I64 workers) (hs3 : SlAt I a3 picks) (hk : Is picks) :
  FnC Try.prog 4 [.slice a raw.length cap, .slice a2 vs.length cap2, .int .i64 workers, .slice a3 picks.length cap3].toArray A I (fun v A' I' => v = .bool true ∧ A = A' ∧ I ⊆ I') := by
 have hb := pk_bd (c := workers) (n := 64) (by omega)
 have htl := R19.tree_len raw
 have hrt := R19.tree_right raw
 have hg := vals_good (raw := raw) (vs := vs) (nw := 1 + pk workers 64) (by omega) (by omega)
 have hvl2 := R19.vals_len vs (R19.tree raw).length
 have hvb : ∀ t, t < (R19.tree raw).length → -300 ≤ (R19.vals vs (R19.tree raw).length).getD t default ∧ (R19.vals vs (R19.tree raw).length).getD t default ≤ 700 := fun t ht => R19.vals_bd vs ht (by omega)
 skip
 refine fn_enter4 Try.func4 rfl Try.ntmps4 rfl fun w0 => ?_
 refine tS (tR (tA rfl rfl (tN (tT (tS (tR ?_))))))
 refine tri_g (opg_call (xs := []) rfl (law19_awake)) rfl ?_
 rintro _ _ I0 ⟨rfl, rfl, hI0⟩
 refine tA rfl rfl (tN (tT (tS (tR (tM rfl rfl ?_)))))
 refine tri_g (opg_call (xs := [_]) rfl (law19_tree (hs.mono hI0) hr)) rfl ?_
 rintro _ _ I1 ⟨a4, c4, rfl, hs4, rfl, hI1⟩
 generalize hp : R19.tree raw = p at *
 refine tA rfl rfl (tN (tT (tS (tR (tM rfl rfl (tM rfl rfl ?_))))))
 refine tri_v (opv_len rfl) rfl ?_
 refine tri_g (opg_call (xs := [_, _]) rfl (law19_values ((hs2.mono hI0).mono hI1) hvs (by omega) hvl)) rfl ?_
 rintro _ _ I2 ⟨a5, c5, rfl, hs5, rfl, hI2⟩
 generalize hv : R19.vals vs p.length = v at *
 refine tA rfl rfl (tN (tT (tS (tR (tM rfl rfl (tM rfl rfl (tM rfl rfl ?_)))))))
 refine tri_g (opg_call (xs := [_, _]) rfl (law19_pick hw (by omega))) rfl ?_
 rintro _ _ _ ⟨rfl, rfl, rfl⟩
 refine tri_v (by first | exact opv_add rfl rfl (w64 (by omega) (by omega))) rfl ?_
 refine tM rfl rfl ?_
 refine tri_g (opg_call (xs := [_, _, _, _]) rfl (fork_run_ok (picks := picks) (hs4.mono hI2) hs5 (hs3.mono fun _ h => hI2 (hI1 (hI0 h))) hk hg)) rfl ?_
 rintro _ _ I3 ⟨o1, w1, c6, d6, rfl, ho1, hw1, rfl, hI3⟩
 have hnw : 1 ≤ (1 + pk workers 64).toNat := by omega
 have hmo := R19.MOk.run hrt hnw p.length (Nat.le_refl _) (picks := picks)
 have hol := hmo.ol
 have hwl := hmo.wl
 have hord := fun (i : Nat) (hi : i < p.length) => R19.ord_at (picks := picks) hrt hnw hi (Nat.le_refl _)
 have hwho := fun (i : Nat) (hi : i < p.length) => R19.who_at (picks := picks) hrt hnw hi (Nat.le_refl _)
 have hpar := fun (T : Nat) (h : T < p.length) => R19.par_lt hrt h
 generalize (R19.mst p picks (1 + pk workers 64).toNat p.length).order = O at *
 generalize (R19.mst p picks (1 + pk workers 64).toNat p.length).who = Wh at *
 have sO := ho1.sl
 have sW := hw1.sl
 have hs4 := (hs4.mono hI2).mono hI3
 have hs5 := hs5.mono hI3
 have hI03 : I ⊆ I3 := fun _ h => hI3 (hI2 (hI1 (hI0 h)))
 have htb := fun (n : Nat) (h : n ≤ p.length) => R19.total_bd (v := v) (B := 1000) (n := n) fun t ht => by have := hvb t (by omega); omega
 refine tM rfl rfl ?_
 refine tri_v (opv_extract rfl rfl) rfl ?_
 refine tri_v (opv_extract rfl rfl) rfl ?_
 refine tri_g opg_alloc rfl ?_
 rintro _ _ _ ⟨b12, rfl, rfl, rfl⟩
 refine tri_g (opg_store rfl rfl rfl rfl rfl rfl) rfl ?_
 rintro _ _ _ ⟨rfl, rfl⟩
 refine tA rfl rfl (tN (tT (tS (tS (tR (tM rfl rfl ?_))))))
 refine tri_v (by first | exact opv_neq rfl rfl | exact opv_neqI rfl rfl rfl rfl rfl rfl | exact opv_neqB rfl rfl) rfl ?_
 refine tM rfl rfl ?_
 refine tri_false rfl rfl ((fun h => h rfl)) ?_
 refine tri_guard_run rfl rfl rfl ?_
 refine tri_v (by first | exact opv_fieldAddr rfl rfl | exact opv_fieldAddrE rfl (by assumption) (by omega) rfl | exact opv_fieldAddrR rfl (by omega) rfl | exact opv_fieldAddrP rfl rfl rfl) rfl ?_
 refine tri_guard_run rfl rfl rfl ?_
 refine tri_v (by first | exact opv_load1 rfl rfl rfl | exact opv_loadA rfl rfl rfl | exact opv_loadE1 rfl (by assumption) rfl (by omega) rfl rfl | exact opv_loadEA rfl (by assumption) rfl (by omega) rfl rfl | exact opv_loadRX1 rfl rfl (by omega) rfl rfl | exact opv_loadRXA rfl rfl (by omega) rfl rfl rfl | exact opv_loadIX rfl rfl (by omega) | exact opv_loadR1 rfl rfl rfl | exact opv_loadRA rfl rfl rfl rfl) rfl ?_
 refine tri_guard_run rfl rfl rfl ?_
 refine tri_v (opv_len rfl) rfl ?_
 refine tri_guard_run rfl rfl rfl (tM rfl rfl (tri_guard_run rfl rfl rfl ?_))
 refine tri_v (opv_len rfl) rfl ?_
 refine tri_guard_run rfl rfl rfl ?_
 refine tri_v (by first | exact opv_neq rfl rfl | exact opv_neqI rfl rfl rfl rfl rfl rfl | exact opv_neqB rfl rfl) rfl ?_
 refine tri_v (by first | exact opv_pick_t rfl rfl | exact opv_pick_f rfl rfl | exact opv_pick_bool rfl rfl rfl | exact opv_pick rfl rfl rfl) rfl ?_
 refine tM rfl rfl ?_
 refine tri_false rfl rfl ((fun h => h rfl)) ?_
 refine tri_guard_run rfl rfl rfl ?_
 refine tri_v (by first | exact opv_fieldAddr rfl rfl | exact opv_fieldAddrE rfl (by assumption) (by omega) rfl | exact opv_fieldAddrR rfl (by omega) rfl | exact opv_fieldAddrP rfl rfl rfl) rfl ?_
 refine tri_guard_run rfl rfl rfl ?_
 refine tri_v (by first | exact opv_load1 rfl rfl rfl | exact opv_loadA rfl rfl rfl | exact opv_loadE1 rfl (by assumption) rfl (by omega) rfl rfl | exact opv_loadEA rfl (by assumption) rfl (by omega) rfl rfl | exact opv_loadRX1 rfl rfl (by omega) rfl rfl | exact opv_loadRXA rfl rfl (by omega) rfl rfl rfl | exact opv_loadIX rfl rfl (by omega) | exact opv_loadR1 rfl rfl rfl | exact opv_loadRA rfl rfl rfl rfl) rfl ?_
 refine tri_guard_run rfl rfl rfl ?_
 refine tri_v (opv_len rfl) rfl ?_
 refine tri_guard_run rfl rfl rfl (tM rfl rfl (tri_guard_run rfl rfl rfl ?_))
 refine tri_v (opv_len rfl) rfl ?_
 refine tri_guard_run rfl rfl rfl ?_
 refine tri_v (by first | exact opv_neq rfl rfl | exact opv_neqI rfl rfl rfl rfl rfl rfl | exact opv_neqB rfl rfl) rfl ?_
 refine tri_v (by first | exact opv_pick_t rfl rfl | exact opv_pick_f rfl rfl | exact opv_pick_bool rfl rfl rfl | exact opv_pick rfl rfl rfl) rfl ?_
 refine tN (tT ?_)
 refine tri_cond_not rfl ((fun h => h rfl)) ?_
 refine tri_skip (tT (tS (tR (tA rfl rfl (tN (tT (tS ?_)))))))
 refine tR (tM rfl rfl ?_)
 refine tri_v (opv_len rfl) rfl ?_
 refine tri_g (opg_makeSliceN rfl rfl rfl (by omega) (by omega)) rfl ?_
 rintro _ _ _ ⟨az, haz, rfl, rfl, rfl⟩
 rw [reps_int0]
 refine tA rfl rfl (tN (tT (tS (tS (tR (tA rfl rfl (tN ?_)))))))
 refine tT (tri_block ?_)
 refine tri_sub (F' := [(2, .int .i64 workers), (9, .bool true), (10, .slice a4 p.length c4), (11, .slice a5 v.length c5), (12, pt b12 0), (14, .int .i64 (R19.total v 0)), (15, .slice az p.length p.length), (16, .int .i64 (0 : Nat))]) ⟨rfl, rfl, rfl, rfl, rfl, rfl, rfl, rfl, trivial⟩ ?_
 refine loop_ind (G := Nat × List Int) (fun g => p.length - g.1) (fun g => g.1 ≤ p.length ∧ Seen O p.length g.1 g.2) (fun g => [(2, .int .i64 workers), (9, .bool true), (10, .slice a4 p.length c4), (11, .slice a5 v.length c5), (12, pt b12 0), (14, .int .i64 (R19.total v g.1)), (15, .slice az p.length p.length), (16, .int .i64 (g.1 : Nat))])
  (fun g => Row az p.length p.length 3 1 (encs g.2) :: Box b12 [.int .i64 (R19.total v p.length), .slice o1 p.length c6, .slice w1 p.length d6, .int .i64 (p.length : Nat)] 30 :: A) (fun _ => I3) ?_ (0, List.replicate p.length 0) ⟨Nat.zero_le _, Seen.start O p.length⟩
 rintro ⟨i, se⟩ ⟨hi, hse⟩ K hK
 simp only at hi hse hK ⊢
 have hsl := hse.1
 have htbi := htb i hi
 have ti : (i : Int).toNat = i := rfl
 skip
 refine tS (tS (tR (tM rfl rfl (tM rfl rfl ?_))))
 refine tri_v (opv_len rfl) rfl ?_
 refine tri_v (opv_lss rfl rfl) rfl ?_
 refine tN (tT ?_)
 refine tri_cond_dec rfl (fun h => ?_) (fun h => ?_)
 ·have hil : i < p.length := by omega
  obtain ⟨T, hT, hTl, hTn, hTp⟩ := hord i hil
  obtain ⟨hs0, hse2⟩ := hse.step (by omega) hT hTl hTn
  have hpT := hpar T hTl
  have hvi := hvb i hil
  have hwi := hwho i hil
  have tTn : (T : Int).toNat = T := rfl
  refine tri_skip (tT (tS (tri_block (tS (tR ?_)))))
  refine tri_v (by first | exact opv_fieldAddr rfl rfl | exact opv_fieldAddrE rfl (by assumption) (by omega) rfl | exact opv_fieldAddrR rfl (by omega) rfl | exact opv_fieldAddrP rfl rfl rfl) rfl ?_
  refine tri_v (by first | exact opv_load1 rfl rfl rfl | exact opv_loadA rfl rfl rfl | exact opv_loadE1 rfl (by assumption) rfl (by omega) rfl rfl | exact opv_loadEA rfl (by assumption) rfl (by omega) rfl rfl | exact opv_loadRX1 rfl rfl (by omega) rfl rfl | exact opv_loadRXA rfl rfl (by omega) rfl rfl rfl | exact opv_loadIX rfl rfl (by omega) | exact opv_loadR1 rfl rfl rfl | exact opv_loadRA rfl rfl rfl rfl) rfl ?_
  refine tM rfl rfl ?_
  refine tri_v (by first | exact opv_indexAddrA rfl rfl (by first | decide | omega) (by first | decide | omega) | exact opv_indexAddrSN rfl rfl (by omega) (by assumption) (by first | rfl | omega) | exact opv_indexAddrS rfl rfl (by omega) (by omega) (by assumption) (by first | rfl | omega) | exact opv_indexAddrE rfl (by assumption) (by omega) rfl (by first | decide | omega) (by first | decide | omega) | exact opv_indexAddrRN rfl rfl (by omega) | exact opv_indexAddrR rfl rfl (by omega) (by omega) | exact opv_indexAddrRA rfl (by omega) rfl (by first | decide | omega) (by first | decide | omega) | exact opv_indexAddrSP rfl rfl (by omega) (by omega)) rfl ?_
  refine tri_v (by first | exact opv_load1 rfl rfl rfl | exact opv_loadA rfl rfl rfl | exact opv_loadE1 rfl (by assumption) rfl (by omega) rfl rfl | exact opv_loadEA rfl (by assumption) rfl (by omega) rfl rfl | exact opv_loadRX1 rfl rfl (by omega) rfl rfl | exact opv_loadRXA rfl rfl (by omega) rfl rfl rfl | exact opv_loadIX rfl rfl (by omega) | exact opv_loadR1 rfl rfl rfl | exact opv_loadRA rfl rfl rfl rfl) rfl ?_
  refine tA rfl rfl (tN (tT (tS (tR (tM rfl rfl (tM rfl rfl (tM rfl rfl ?_)))))))
  refine tri_v (by first | exact opv_indexAddrA rfl rfl (by first | decide | omega) (by first | decide | omega) | exact opv_indexAddrSN rfl rfl (by omega) (by assumption) (by first | rfl | omega) | exact opv_indexAddrS rfl rfl (by omega) (by omega) (by assumption) (by first | rfl | omega) | exact opv_indexAddrE rfl (by assumption) (by omega) rfl (by first | decide | omega) (by first | decide | omega) | exact opv_indexAddrRN rfl rfl (by omega) | exact opv_indexAddrR rfl rfl (by omega) (by omega) | exact opv_indexAddrRA rfl (by omega) rfl (by first | decide | omega) (by first | decide | omega) | exact opv_indexAddrSP rfl rfl (by omega) (by omega)) rfl ?_
  refine tri_v (by first | exact opv_load1 rfl rfl rfl | exact opv_loadA rfl rfl rfl | exact opv_loadE1 rfl (by assumption) rfl (by omega) rfl rfl | exact opv_loadEA rfl (by assumption) rfl (by omega) rfl rfl | exact opv_loadRX1 rfl rfl (by omega) rfl rfl | exact opv_loadRXA rfl rfl (by omega) rfl rfl rfl | exact opv_loadIX rfl rfl (by omega) | exact opv_loadR1 rfl rfl rfl | exact opv_loadRA rfl rfl rfl rfl) rfl ?_
  refine tri_v (by first | exact opv_add rfl rfl (w64 (by omega) (by omega))) rfl ?_
  refine tA rfl rfl (tN (tT (tS (tS ?_))))
  refine tri_draw [0, 1, 2, 3, 4, 5, 6, 7, 8, 9, 10, 11, 12, 13, 14, 15, 16, 17, 18, 19, 20, 21, 22, 23, 24, 25, 26, 27, 28, 29, 30, 31, 32, 33, 34, 35, 36, 37, 38, 39, 40, 41, 42, 43, 44, 45, 46] rfl [] rfl mixed ?_
  refine th_take rfl rfl (by kernel_rfl)  (opv_move rfl) ?_
  refine th_take rfl rfl (by kernel_rfl)  (opv_lss rfl rfl) ?_
  refine th_take rfl rfl (by kernel_rfl)  (opv_move rfl) ?_
  rw [hT]
  refine th_false rfl rfl rfl ((by omega)) ?_
  refine th_take_g rfl rfl rfl rfl rfl (by kernel_rfl)  (opv_move rfl) ?_
  refine th_take_g rfl rfl rfl rfl rfl (by kernel_rfl)  (opv_move rfl) ?_
  refine th_take_g rfl rfl rfl rfl rfl (by kernel_rfl)  (opv_len rfl) ?_
  refine th_take_g rfl rfl rfl rfl rfl (by kernel_rfl)  (opv_geq rfl rfl) ?_
  refine th_take rfl rfl (by kernel_rfl)  (by first | exact opv_pick_t rfl rfl | exact opv_pick_f rfl rfl | exact opv_pick_bool rfl rfl rfl | exact opv_pick rfl rfl rfl) ?_
  refine th_take rfl rfl (by kernel_rfl)  (opv_move rfl) ?_
  refine th_false rfl rfl rfl ((by omega)) ?_
  refine th_take_g rfl rfl rfl rfl rfl (by kernel_rfl)  (opv_move rfl) ?_
  refine th_take_g rfl rfl rfl rfl rfl (by kernel_rfl)  (opv_move rfl) ?_
  refine th_take_g rfl rfl rfl rfl rfl (by kernel_rfl)  (by first | exact opv_indexAddrA rfl rfl (by first | decide | omega) (by first | decide | omega) | exact opv_indexAddrSN rfl rfl (by omega) (by assumption) (by first | rfl | omega) | exact opv_indexAddrS rfl rfl (by omega) (by omega) (by assumption) (by first | rfl | omega) | exact opv_indexAddrE rfl (by assumption) (by omega) rfl (by first | decide | omega) (by first | decide | omega) | exact opv_indexAddrRN rfl rfl (by omega) | exact opv_indexAddrR rfl rfl (by omega) (by omega) | exact opv_indexAddrRA rfl (by omega) rfl (by first | decide | omega) (by first | decide | omega) | exact opv_indexAddrSP rfl rfl (by omega) (by omega)) ?_
  refine th_take_g rfl rfl rfl rfl rfl (by kernel_rfl)  (by first | exact opv_load1 rfl rfl rfl | exact opv_loadA rfl rfl rfl | exact opv_loadE1 rfl (by assumption) rfl (by omega) rfl rfl | exact opv_loadEA rfl (by assumption) rfl (by omega) rfl rfl | exact opv_loadRX1 rfl rfl (by omega) rfl rfl | exact opv_loadRXA rfl rfl (by omega) rfl rfl rfl | exact opv_loadIX rfl rfl (by omega) | exact opv_loadR1 rfl rfl rfl | exact opv_loadRA rfl rfl rfl rfl) ?_
  refine th_take_g rfl rfl rfl rfl rfl (by kernel_rfl)  (opv_gtr rfl rfl) ?_
  refine th_take rfl rfl (by kernel_rfl)  (by first | exact opv_pick_t rfl rfl | exact opv_pick_f rfl rfl | exact opv_pick_bool rfl rfl rfl | exact opv_pick rfl rfl rfl) ?_
  refine th_take rfl rfl (by kernel_rfl)  (opv_move rfl) ?_
  refine th_false rfl rfl rfl ((by rw [hs0]; omega)) ?_
  refine th_take_g rfl rfl rfl rfl rfl (by kernel_rfl)  (opv_move rfl) ?_
  refine th_take_g rfl rfl rfl rfl rfl (by kernel_rfl)  (opv_gtr rfl rfl) ?_
  refine th_take_g rfl rfl rfl rfl rfl (by kernel_rfl)  (opv_move rfl) ?_
  refine th_split rfl rfl rfl (fun h5 => ?_) (fun h5 => ?_)
  ·have hq : p.getD T default ∈ O.take i := hTp.resolve_left (by omega)
   obtain ⟨q, eq⟩ : ∃ q : Nat, p.getD T default = (q : Int) := ⟨(p.getD T default).toNat, by omega⟩
   rw [eq] at hq
   have hqs := hse.2 q (by omega)
   rw [if_pos hq] at hqs
   have hq0 : se.getD (p.getD T default).toNat default = 1 := by rw [eq]; exact hqs
   refine th_take_g rfl rfl rfl rfl rfl (by kernel_rfl)  (opv_move rfl) ?_
   refine th_take_g rfl rfl rfl rfl rfl (by kernel_rfl)  (opv_move rfl) ?_
   refine th_take_g rfl rfl rfl rfl rfl (by kernel_rfl)  (opv_move rfl) ?_
   refine th_take_g rfl rfl rfl rfl rfl (by kernel_rfl)  (by first | exact opv_indexAddrA rfl rfl (by first | decide | omega) (by first | decide | omega) | exact opv_indexAddrSN rfl rfl (by omega) (by assumption) (by first | rfl | omega) | exact opv_indexAddrS rfl rfl (by omega) (by omega) (by assumption) (by first | rfl | omega) | exact opv_indexAddrE rfl (by assumption) (by omega) rfl (by first | decide | omega) (by first | decide | omega) | exact opv_indexAddrRN rfl rfl (by omega) | exact opv_indexAddrR rfl rfl (by omega) (by omega) | exact opv_indexAddrRA rfl (by omega) rfl (by first | decide | omega) (by first | decide | omega) | exact opv_indexAddrSP rfl rfl (by omega) (by omega)) ?_
   refine th_take_g rfl rfl rfl rfl rfl (by kernel_rfl)  (by first | exact opv_load1 rfl rfl rfl | exact opv_loadA rfl rfl rfl | exact opv_loadE1 rfl (by assumption) rfl (by omega) rfl rfl | exact opv_loadEA rfl (by assumption) rfl (by omega) rfl rfl | exact opv_loadRX1 rfl rfl (by omega) rfl rfl | exact opv_loadRXA rfl rfl (by omega) rfl rfl rfl | exact opv_loadIX rfl rfl (by omega) | exact opv_loadR1 rfl rfl rfl | exact opv_loadRA rfl rfl rfl rfl) ?_
   refine th_take_g rfl rfl rfl rfl rfl (by kernel_rfl)  (by first | exact opv_indexAddrA rfl rfl (by first | decide | omega) (by first | decide | omega) | exact opv_indexAddrSN rfl rfl (by omega) (by assumption) (by first | rfl | omega) | exact opv_indexAddrS rfl rfl (by omega) (by omega) (by assumption) (by first | rfl | omega) | exact opv_indexAddrE rfl (by assumption) (by omega) rfl (by first | decide | omega) (by first | decide | omega) | exact opv_indexAddrRN rfl rfl (by omega) | exact opv_indexAddrR rfl rfl (by omega) (by omega) | exact opv_indexAddrRA rfl (by omega) rfl (by first | decide | omega) (by first | decide | omega) | exact opv_indexAddrSP rfl rfl (by omega) (by omega)) ?_
   refine th_take_g rfl rfl rfl rfl rfl (by kernel_rfl)  (by first | exact opv_load1 rfl rfl rfl | exact opv_loadA rfl rfl rfl | exact opv_loadE1 rfl (by assumption) rfl (by omega) rfl rfl | exact opv_loadEA rfl (by assumption) rfl (by omega) rfl rfl | exact opv_loadRX1 rfl rfl (by omega) rfl rfl | exact opv_loadRXA rfl rfl (by omega) rfl rfl rfl | exact opv_loadIX rfl rfl (by omega) | exact opv_loadR1 rfl rfl rfl | exact opv_loadRA rfl rfl rfl rfl) ?_
   refine th_take_g rfl rfl rfl rfl rfl (by kernel_rfl)  (by first | exact opv_neq rfl rfl | exact opv_neqI rfl rfl rfl rfl rfl rfl | exact opv_neqB rfl rfl) ?_
   refine th_take_g rfl rfl rfl rfl rfl (by kernel_rfl)  (by first | exact opv_pick_t rfl rfl | exact opv_pick_f rfl rfl | exact opv_pick_bool rfl rfl rfl | exact opv_pick rfl rfl rfl) ?_
   refine th_take rfl rfl (by kernel_rfl)  (by first | exact opv_pick_t rfl rfl | exact opv_pick_f rfl rfl | exact opv_pick_bool rfl rfl rfl | exact opv_pick rfl rfl rfl) ?_
   refine th_take rfl rfl (by kernel_rfl)  (opv_move rfl) ?_
   refine th_false rfl rfl rfl ((fun h => h hq0)) ?_
   refine th_take_g rfl rfl rfl rfl rfl (by kernel_rfl)  (by first | exact opv_fieldAddr rfl rfl | exact opv_fieldAddrE rfl (by assumption) (by omega) rfl | exact opv_fieldAddrR rfl (by omega) rfl | exact opv_fieldAddrP rfl rfl rfl) ?_
   refine th_take_g rfl rfl rfl rfl rfl (by kernel_rfl)  (by first | exact opv_load1 rfl rfl rfl | exact opv_loadA rfl rfl rfl | exact opv_loadE1 rfl (by assumption) rfl (by omega) rfl rfl | exact opv_loadEA rfl (by assumption) rfl (by omega) rfl rfl | exact opv_loadRX1 rfl rfl (by omega) rfl rfl | exact opv_loadRXA rfl rfl (by omega) rfl rfl rfl | exact opv_loadIX rfl rfl (by omega) | exact opv_loadR1 rfl rfl rfl | exact opv_loadRA rfl rfl rfl rfl) ?_
   refine th_take_g rfl rfl rfl rfl rfl (by kernel_rfl)  (opv_move rfl) ?_
   refine th_take_g rfl rfl rfl rfl rfl (by kernel_rfl)  (by first | exact opv_indexAddrA rfl rfl (by first | decide | omega) (by first | decide | omega) | exact opv_indexAddrSN rfl rfl (by omega) (by assumption) (by first | rfl | omega) | exact opv_indexAddrS rfl rfl (by omega) (by omega) (by assumption) (by first | rfl | omega) | exact opv_indexAddrE rfl (by assumption) (by omega) rfl (by first | decide | omega) (by first | decide | omega) | exact opv_indexAddrRN rfl rfl (by omega) | exact opv_indexAddrR rfl rfl (by omega) (by omega) | exact opv_indexAddrRA rfl (by omega) rfl (by first | decide | omega) (by first | decide | omega) | exact opv_indexAddrSP rfl rfl (by omega) (by omega)) ?_
   refine th_take_g rfl rfl rfl rfl rfl (by kernel_rfl)  (by first | exact opv_load1 rfl rfl rfl | exact opv_loadA rfl rfl rfl | exact opv_loadE1 rfl (by assumption) rfl (by omega) rfl rfl | exact opv_loadEA rfl (by assumption) rfl (by omega) rfl rfl | exact opv_loadRX1 rfl rfl (by omega) rfl rfl | exact opv_loadRXA rfl rfl (by omega) rfl rfl rfl | exact opv_loadIX rfl rfl (by omega) | exact opv_loadR1 rfl rfl rfl | exact opv_loadRA rfl rfl rfl rfl) ?_
   refine th_take_g rfl rfl rfl rfl rfl (by kernel_rfl)  (opv_lss rfl rfl) ?_
   refine th_take rfl rfl (by kernel_rfl)  (by first | exact opv_pick_t rfl rfl | exact opv_pick_f rfl rfl | exact opv_pick_bool rfl rfl rfl | exact opv_pick rfl rfl rfl) ?_
   refine th_take rfl rfl (by kernel_rfl)  (opv_move rfl) ?_
   skip
   refine th_false rfl rfl rfl ((by omega)) ?_
   refine th_take_g rfl rfl rfl rfl rfl (by kernel_rfl)  (by first | exact opv_fieldAddr rfl rfl | exact opv_fieldAddrE rfl (by assumption) (by omega) rfl | exact opv_fieldAddrR rfl (by omega) rfl | exact opv_fieldAddrP rfl rfl rfl) ?_
   refine th_take_g rfl rfl rfl rfl rfl (by kernel_rfl)  (by first | exact opv_load1 rfl rfl rfl | exact opv_loadA rfl rfl rfl | exact opv_loadE1 rfl (by assumption) rfl (by omega) rfl rfl | exact opv_loadEA rfl (by assumption) rfl (by omega) rfl rfl | exact opv_loadRX1 rfl rfl (by omega) rfl rfl | exact opv_loadRXA rfl rfl (by omega) rfl rfl rfl | exact opv_loadIX rfl rfl (by omega) | exact opv_loadR1 rfl rfl rfl | exact opv_loadRA rfl rfl rfl rfl) ?_
   refine th_take_g rfl rfl rfl rfl rfl (by kernel_rfl)  (opv_move rfl) ?_
   refine th_take_g rfl rfl rfl rfl rfl (by kernel_rfl)  (by first | exact opv_indexAddrA rfl rfl (by first | decide | omega) (by first | decide | omega) | exact opv_indexAddrSN rfl rfl (by omega) (by assumption) (by first | rfl | omega) | exact opv_indexAddrS rfl rfl (by omega) (by omega) (by assumption) (by first | rfl | omega) | exact opv_indexAddrE rfl (by assumption) (by omega) rfl (by first | decide | omega) (by first | decide | omega) | exact opv_indexAddrRN rfl rfl (by omega) | exact opv_indexAddrR rfl rfl (by omega) (by omega) | exact opv_indexAddrRA rfl (by omega) rfl (by first | decide | omega) (by first | decide | omega) | exact opv_indexAddrSP rfl rfl (by omega) (by omega)) ?_
   refine th_take_g rfl rfl rfl rfl rfl (by kernel_rfl)  (by first | exact opv_load1 rfl rfl rfl | exact opv_loadA rfl rfl rfl | exact opv_loadE1 rfl (by assumption) rfl (by omega) rfl rfl | exact opv_loadEA rfl (by assumption) rfl (by omega) rfl rfl | exact opv_loadRX1 rfl rfl (by omega) rfl rfl | exact opv_loadRXA rfl rfl (by omega) rfl rfl rfl | exact opv_loadIX rfl rfl (by omega) | exact opv_loadR1 rfl rfl rfl | exact opv_loadRA rfl rfl rfl rfl) ?_
   refine th_take_g rfl rfl rfl rfl rfl (by kernel_rfl)  (opv_move rfl) ?_
   refine th_one (by kernel_rfl) (step_mg rfl rfl rfl rfl rfl (opg_call (xs := [_, _]) rfl (law19_pick hw (by omega))) ?_)
   rintro _ _ _ ⟨rfl, rfl, rfl⟩
   refine ⟨Suf.h, (by first | exact fun _ h => h | assumption | exact fun _ h => (by assumption : _ ⊆ _) ((by assumption : _ ⊆ _) h)), ?_⟩
   refine th_take_g rfl rfl rfl rfl rfl (by kernel_rfl)  (opv_gtr rfl rfl) ?_
   refine th_take rfl rfl (by kernel_rfl)  (by first | exact opv_pick_t rfl rfl | exact opv_pick_f rfl rfl | exact opv_pick_bool rfl rfl rfl | exact opv_pick rfl rfl rfl) ?_
   refine th_done (by kernel_rfl) ?_
   refine tT ?_
   refine tri_cond_not rfl ((by omega)) ?_
   skip
   refine tri_skip (tT (tR (tM rfl rfl (tM rfl rfl ?_))))
   refine tri_v (by first | exact opv_indexAddrA rfl rfl (by first | decide | omega) (by first | decide | omega) | exact opv_indexAddrSN rfl rfl (by omega) (by assumption) (by first | rfl | omega) | exact opv_indexAddrS rfl rfl (by omega) (by omega) (by assumption) (by first | rfl | omega) | exact opv_indexAddrE rfl (by assumption) (by omega) rfl (by first | decide | omega) (by first | decide | omega) | exact opv_indexAddrRN rfl rfl (by omega) | exact opv_indexAddrR rfl rfl (by omega) (by omega) | exact opv_indexAddrRA rfl (by omega) rfl (by first | decide | omega) (by first | decide | omega) | exact opv_indexAddrSP rfl rfl (by omega) (by omega)) rfl ?_
   refine tri_v (by first | exact opv_load1 rfl rfl rfl | exact opv_loadA rfl rfl rfl | exact opv_loadE1 rfl (by assumption) rfl (by omega) rfl rfl | exact opv_loadEA rfl (by assumption) rfl (by omega) rfl rfl | exact opv_loadRX1 rfl rfl (by omega) rfl rfl | exact opv_loadRXA rfl rfl (by omega) rfl rfl rfl | exact opv_loadIX rfl rfl (by omega) | exact opv_loadR1 rfl rfl rfl | exact opv_loadRA rfl rfl rfl rfl) rfl ?_
   refine tri_v (by first | exact opv_add rfl rfl (w64 (by omega) (by omega))) rfl ?_
   refine tri_v (by first | exact opv_indexAddrA rfl rfl (by first | decide | omega) (by first | decide | omega) | exact opv_indexAddrSN rfl rfl (by omega) (by assumption) (by first | rfl | omega) | exact opv_indexAddrS rfl rfl (by omega) (by omega) (by assumption) (by first | rfl | omega) | exact opv_indexAddrE rfl (by assumption) (by omega) rfl (by first | decide | omega) (by first | decide | omega) | exact opv_indexAddrRN rfl rfl (by omega) | exact opv_indexAddrR rfl rfl (by omega) (by omega) | exact opv_indexAddrRA rfl (by omega) rfl (by first | decide | omega) (by first | decide | omega) | exact opv_indexAddrSP rfl rfl (by omega) (by omega)) rfl ?_
   refine tri_g (opg_storeRX (se.getD T default + 1) rfl rfl rfl (by omega) (by omega) rfl rfl rfl rfl) rfl ?_
   rintro _ _ _ ⟨rfl, rfl⟩
   refine tN ?_
   refine tri_inBlock ?_
   refine tT (tR (tM rfl rfl ?_))
   refine tri_v (by first | exact opv_add rfl rfl (w64 (by omega) (by omega))) rfl ?_
   refine tA rfl rfl (tN (tT ?_))
   refine tri_sub ?_ (hK (i + 1, se.set T (se.getD T default + 1)) ⟨by simp only; omega, hse2⟩ (by simp only; omega))
   exact ⟨rfl, rfl, rfl, rfl, rfl, rfl, rfl, rfl, trivial⟩
  ·refine th_skip rfl rfl rfl rfl rfl (by kernel_rfl)  ?_
   refine th_skip rfl rfl rfl rfl rfl (by kernel_rfl)  ?_
   refine th_skip rfl rfl rfl rfl rfl (by kernel_rfl)  ?_
   refine th_skip rfl rfl rfl rfl rfl (by kernel_rfl)  ?_
   refine th_skip rfl rfl rfl rfl rfl (by kernel_rfl)  ?_
   refine th_skip rfl rfl rfl rfl rfl (by kernel_rfl)  ?_
   refine th_skip rfl rfl rfl rfl rfl (by kernel_rfl)  ?_
   refine th_skip rfl rfl rfl rfl rfl (by kernel_rfl)  ?_
   refine th_take_g rfl rfl rfl rfl rfl (by kernel_rfl)  (by first | exact opv_pick_t rfl rfl | exact opv_pick_f rfl rfl | exact opv_pick_bool rfl rfl rfl | exact opv_pick rfl rfl rfl) ?_
   refine th_take rfl rfl (by kernel_rfl)  (by first | exact opv_pick_t rfl rfl | exact opv_pick_f rfl rfl | exact opv_pick_bool rfl rfl rfl | exact opv_pick rfl rfl rfl) ?_
   refine th_take rfl rfl (by kernel_rfl)  (opv_move rfl) ?_
   refine th_take_g rfl rfl rfl rfl rfl (by kernel_rfl)  (by first | exact opv_fieldAddr rfl rfl | exact opv_fieldAddrE rfl (by assumption) (by omega) rfl | exact opv_fieldAddrR rfl (by omega) rfl | exact opv_fieldAddrP rfl rfl rfl) ?_
   refine th_take_g rfl rfl rfl rfl rfl (by kernel_rfl)  (by first | exact opv_load1 rfl rfl rfl | exact opv_loadA rfl rfl rfl | exact opv_loadE1 rfl (by assumption) rfl (by omega) rfl rfl | exact opv_loadEA rfl (by assumption) rfl (by omega) rfl rfl | exact opv_loadRX1 rfl rfl (by omega) rfl rfl | exact opv_loadRXA rfl rfl (by omega) rfl rfl rfl | exact opv_loadIX rfl rfl (by omega) | exact opv_loadR1 rfl rfl rfl | exact opv_loadRA rfl rfl rfl rfl) ?_
   refine th_take_g rfl rfl rfl rfl rfl (by kernel_rfl)  (opv_move rfl) ?_
   refine th_take_g rfl rfl rfl rfl rfl (by kernel_rfl)  (by first | exact opv_indexAddrA rfl rfl (by first | decide | omega) (by first | decide | omega) | exact opv_indexAddrSN rfl rfl (by omega) (by assumption) (by first | rfl | omega) | exact opv_indexAddrS rfl rfl (by omega) (by omega) (by assumption) (by first | rfl | omega) | exact opv_indexAddrE rfl (by assumption) (by omega) rfl (by first | decide | omega) (by first | decide | omega) | exact opv_indexAddrRN rfl rfl (by omega) | exact opv_indexAddrR rfl rfl (by omega) (by omega) | exact opv_indexAddrRA rfl (by omega) rfl (by first | decide | omega) (by first | decide | omega) | exact opv_indexAddrSP rfl rfl (by omega) (by omega)) ?_
   refine th_take_g rfl rfl rfl rfl rfl (by kernel_rfl)  (by first | exact opv_load1 rfl rfl rfl | exact opv_loadA rfl rfl rfl | exact opv_loadE1 rfl (by assumption) rfl (by omega) rfl rfl | exact opv_loadEA rfl (by assumption) rfl (by omega) rfl rfl | exact opv_loadRX1 rfl rfl (by omega) rfl rfl | exact opv_loadRXA rfl rfl (by omega) rfl rfl rfl | exact opv_loadIX rfl rfl (by omega) | exact opv_loadR1 rfl rfl rfl | exact opv_loadRA rfl rfl rfl rfl) ?_
   refine th_take_g rfl rfl rfl rfl rfl (by kernel_rfl)  (opv_lss rfl rfl) ?_
   refine th_take rfl rfl (by kernel_rfl)  (by first | exact opv_pick_t rfl rfl | exact opv_pick_f rfl rfl | exact opv_pick_bool rfl rfl rfl | exact opv_pick rfl rfl rfl) ?_
   refine th_take rfl rfl (by kernel_rfl)  (opv_move rfl) ?_
   skip
   refine th_false rfl rfl rfl ((by omega)) ?_
   refine th_take_g rfl rfl rfl rfl rfl (by kernel_rfl)  (by first | exact opv_fieldAddr rfl rfl | exact opv_fieldAddrE rfl (by assumption) (by omega) rfl | exact opv_fieldAddrR rfl (by omega) rfl | exact opv_fieldAddrP rfl rfl rfl) ?_
   refine th_take_g rfl rfl rfl rfl rfl (by kernel_rfl)  (by first | exact opv_load1 rfl rfl rfl | exact opv_loadA rfl rfl rfl | exact opv_loadE1 rfl (by assumption) rfl (by omega) rfl rfl | exact opv_loadEA rfl (by assumption) rfl (by omega) rfl rfl | exact opv_loadRX1 rfl rfl (by omega) rfl rfl | exact opv_loadRXA rfl rfl (by omega) rfl rfl rfl | exact opv_loadIX rfl rfl (by omega) | exact opv_loadR1 rfl rfl rfl | exact opv_loadRA rfl rfl rfl rfl) ?_
   refine th_take_g rfl rfl rfl rfl rfl (by kernel_rfl)  (opv_move rfl) ?_
   refine th_take_g rfl rfl rfl rfl rfl (by kernel_rfl)  (by first | exact opv_indexAddrA rfl rfl (by first | decide | omega) (by first | decide | omega) | exact opv_indexAddrSN rfl rfl (by omega) (by assumption) (by first | rfl | omega) | exact opv_indexAddrS rfl rfl (by omega) (by omega) (by assumption) (by first | rfl | omega) | exact opv_indexAddrE rfl (by assumption) (by omega) rfl (by first | decide | omega) (by first | decide | omega) | exact opv_indexAddrRN rfl rfl (by omega) | exact opv_indexAddrR rfl rfl (by omega) (by omega) | exact opv_indexAddrRA rfl (by omega) rfl (by first | decide | omega) (by first | decide | omega) | exact opv_indexAddrSP rfl rfl (by omega) (by omega)) ?_
   refine th_take_g rfl rfl rfl rfl rfl (by kernel_rfl)  (by first | exact opv_load1 rfl rfl rfl | exact opv_loadA rfl rfl rfl | exact opv_loadE1 rfl (by assumption) rfl (by omega) rfl rfl | exact opv_loadEA rfl (by assumption) rfl (by omega) rfl rfl | exact opv_loadRX1 rfl rfl (by omega) rfl rfl | exact opv_loadRXA rfl rfl (by omega) rfl rfl rfl | exact opv_loadIX rfl rfl (by omega) | exact opv_loadR1 rfl rfl rfl | exact opv_loadRA rfl rfl rfl rfl) ?_
   refine th_take_g rfl rfl rfl rfl rfl (by kernel_rfl)  (opv_move rfl) ?_
   refine th_one (by kernel_rfl) (step_mg rfl rfl rfl rfl rfl (opg_call (xs := [_, _]) rfl (law19_pick hw (by omega))) ?_)
   rintro _ _ _ ⟨rfl, rfl, rfl⟩
   refine ⟨Suf.h, (by first | exact fun _ h => h | assumption | exact fun _ h => (by assumption : _ ⊆ _) ((by assumption : _ ⊆ _) h)), ?_⟩
   refine th_take_g rfl rfl rfl rfl rfl (by kernel_rfl)  (opv_gtr rfl rfl) ?_
   refine th_take rfl rfl (by kernel_rfl)  (by first | exact opv_pick_t rfl rfl | exact opv_pick_f rfl rfl | exact opv_pick_bool rfl rfl rfl | exact opv_pick rfl rfl rfl) ?_
   refine th_done (by kernel_rfl) ?_
   refine tT ?_
   refine tri_cond_not rfl ((by omega)) ?_
   skip
   refine tri_skip (tT (tR (tM rfl rfl (tM rfl rfl ?_))))
   refine tri_v (by first | exact opv_indexAddrA rfl rfl (by first | decide | omega) (by first | decide | omega) | exact opv_indexAddrSN rfl rfl (by omega) (by assumption) (by first | rfl | omega) | exact opv_indexAddrS rfl rfl (by omega) (by omega) (by assumption) (by first | rfl | omega) | exact opv_indexAddrE rfl (by assumption) (by omega) rfl (by first | decide | omega) (by first | decide | omega) | exact opv_indexAddrRN rfl rfl (by omega) | exact opv_indexAddrR rfl rfl (by omega) (by omega) | exact opv_indexAddrRA rfl (by omega) rfl (by first | decide | omega) (by first | decide | omega) | exact opv_indexAddrSP rfl rfl (by omega) (by omega)) rfl ?_
   refine tri_v (by first | exact opv_load1 rfl rfl rfl | exact opv_loadA rfl rfl rfl | exact opv_loadE1 rfl (by assumption) rfl (by omega) rfl rfl | exact opv_loadEA rfl (by assumption) rfl (by omega) rfl rfl | exact opv_loadRX1 rfl rfl (by omega) rfl rfl | exact opv_loadRXA rfl rfl (by omega) rfl rfl rfl | exact opv_loadIX rfl rfl (by omega) | exact opv_loadR1 rfl rfl rfl | exact opv_loadRA rfl rfl rfl rfl) rfl ?_
   refine tri_v (by first | exact opv_add rfl rfl (w64 (by omega) (by omega))) rfl ?_
   refine tri_v (by first | exact opv_indexAddrA rfl rfl (by first | decide | omega) (by first | decide | omega) | exact opv_indexAddrSN rfl rfl (by omega) (by assumption) (by first | rfl | omega) | exact opv_indexAddrS rfl rfl (by omega) (by omega) (by assumption) (by first | rfl | omega) | exact opv_indexAddrE rfl (by assumption) (by omega) rfl (by first | decide | omega) (by first | decide | omega) | exact opv_indexAddrRN rfl rfl (by omega) | exact opv_indexAddrR rfl rfl (by omega) (by omega) | exact opv_indexAddrRA rfl (by omega) rfl (by first | decide | omega) (by first | decide | omega) | exact opv_indexAddrSP rfl rfl (by omega) (by omega)) rfl ?_
   refine tri_g (opg_storeRX (se.getD T default + 1) rfl rfl rfl (by omega) (by omega) rfl rfl rfl rfl) rfl ?_
   rintro _ _ _ ⟨rfl, rfl⟩
   refine tN ?_
   refine tri_inBlock ?_
   refine tT (tR (tM rfl rfl ?_))
   refine tri_v (by first | exact opv_add rfl rfl (w64 (by omega) (by omega))) rfl ?_
   refine tA rfl rfl (tN (tT ?_))
   refine tri_sub ?_ (hK (i + 1, se.set T (se.getD T default + 1)) ⟨by simp only; omega, hse2⟩ (by simp only; omega))
   exact ⟨rfl, rfl, rfl, rfl, rfl, rfl, rfl, rfl, trivial⟩
 ·obtain rfl : i = p.length := by omega
  refine tri_exit ?_
  refine tri_then_exit ?_
  refine tri_then_exit ?_
  refine tri_inBlock_hit rfl ?_
  refine tT (tS (tR (tM rfl rfl (tM rfl rfl ?_))))
  refine tri_bool 127 rfl (fun _ => ?_) (fun h => absurd h (by decide))
  refine tri_guard_run rfl rfl rfl ?_
  refine tri_v (by first | exact opv_fieldAddr rfl rfl | exact opv_fieldAddrE rfl (by assumption) (by omega) rfl | exact opv_fieldAddrR rfl (by omega) rfl | exact opv_fieldAddrP rfl rfl rfl) rfl ?_
  refine tri_guard_run rfl rfl rfl ?_
  refine tri_v (by first | exact opv_load1 rfl rfl rfl | exact opv_loadA rfl rfl rfl | exact opv_loadE1 rfl (by assumption) rfl (by omega) rfl rfl | exact opv_loadEA rfl (by assumption) rfl (by omega) rfl rfl | exact opv_loadRX1 rfl rfl (by omega) rfl rfl | exact opv_loadRXA rfl rfl (by omega) rfl rfl rfl | exact opv_loadIX rfl rfl (by omega) | exact opv_loadR1 rfl rfl rfl | exact opv_loadRA rfl rfl rfl rfl) rfl ?_
  refine tri_guard_run rfl rfl rfl (tM rfl rfl (tri_guard_run rfl rfl rfl ?_))
  refine tri_v (by first | exact opv_eql rfl rfl | exact opv_eqlI rfl rfl rfl rfl rfl rfl | exact opv_eqlB rfl rfl | exact opv_eqlNil rfl rfl) rfl ?_
  refine tri_v (by first | exact opv_pick_t rfl rfl | exact opv_pick_f rfl rfl | exact opv_pick_bool rfl rfl rfl | exact opv_pick rfl rfl rfl) rfl ?_
  refine tA rfl rfl (tN (tT (tri_ret ?_)))
  refine tri_end _ (by first | exact ⟨[], rfl⟩ | exact ⟨[_], rfl⟩ | exact ⟨[_, _], rfl⟩ | exact ⟨[_, _, _], rfl⟩ | exact ⟨[_, _, _, _], rfl⟩ | exact ⟨[_, _, _, _, _], rfl⟩ | exact ⟨[_, _, _, _, _, _], rfl⟩ | exact ⟨[_, _, _, _, _, _, _], rfl⟩ | exact ⟨[_, _, _, _, _, _, _, _], rfl⟩) rfl (.cons (rv_tmp rfl) .nil) ⟨?_, rfl, hI03⟩
  exact congrArg Value.bool (decide_eq_true rfl)
end Go.GL
