import PyProof.Rows.All
import Wide.All
import OpenK.AllK
import Wide.FinOn
import Open.SpecLaws
import KE.OsHead
import KE.OsGo
import HandS.ForSpec
import HandS.Comp
import HandS.Iter
import HandS.Walk
import HandS.Codes
import PySem.Challenge.RW_millrows_s01_answers
set_option Elab.async false
set_option maxRecDepth 100000
set_option maxHeartbeats 4000000
/-! The mathematics: rows of mills, without any program. -/
namespace Mr
open Sj02 (Row Stand lift)

structure WF (r : Row) : Prop where
  b : r.basins.length ≤ 3
  n : r.hours.length ≤ 8
  l : ∀ h ∈ r.hours, h.length = r.mills

structure SOk (r : Row) (s : Stand) : Prop where
  len : s.length = r.mills + 1
  fit : ∀ k, k < r.basins.length → s.getD (k + 1) 0 ≤ r.basins.getD k 0

theorem mills_eq (r : Row) : r.mills = r.basins.length + 1 := rfl
theorem begun_eq (r : Row) : r.begun = r.water :: List.replicate r.mills 0 := by
  unfold Row.begun
  rw [mills_eq, List.replicate_succ', List.map_const']
  rfl
theorem begun_ok (r : Row) : SOk r r.begun := by
  refine ⟨?_, fun k hk => ?_⟩
  · rw [begun_eq]; simp
  · rw [begun_eq, List.getD_cons_succ]
    have : (List.replicate r.mills 0).getD k 0 = 0 := by
      rw [List.getD_eq_getElem?_getD, List.getElem?_replicate]
      split <;> rfl
    omega
theorem begun_out (r : Row) : r.begun.getD r.mills 0 = 0 := by
  rw [begun_eq, mills_eq, List.getD_cons_succ, List.getD_eq_getElem?_getD, List.getElem?_replicate]
  split <;> rfl

/-- mill k may lift x -/
def Fits (r : Row) (s : Stand) (k x : Nat) : Prop := x ≤ s.getD k 0 ∧ (k < r.basins.length → s.getD (k + 1) 0 + x ≤ r.basins.getD k 0)

theorem lift_len (s : Stand) (k x : Nat) : (lift s k x).length = s.length := by
  unfold lift
  rw [List.length_set, List.length_set]
theorem lift_get {s : Stand} {k x : Nat} (hk : k + 1 < s.length) (j : Nat) :
    (lift s k x).getD j 0 = if j = k + 1 then s.getD (k + 1) 0 + x else if j = k then s.getD k 0 - x else s.getD j 0 := by
  unfold lift
  rw [List.getD_eq_getElem?_getD, List.getElem?_set, List.getElem?_set, List.length_set]
  by_cases h1 : j = k + 1
  · subst h1
    rw [if_pos rfl, if_pos hk, if_pos rfl]
    rfl
  · rw [if_neg (fun e => h1 e.symm), if_neg h1]
    by_cases h2 : j = k
    · subst h2
      rw [if_pos rfl, if_pos (by omega), if_pos rfl]
      rfl
    · rw [if_neg (fun e => h2 e.symm), if_neg h2, ← List.getD_eq_getElem?_getD]
theorem lift_ok {r : Row} {s : Stand} {k x : Nat} (h : SOk r s) (hk : k < r.mills) (hf : Fits r s k x) : SOk r (lift s k x) := by
  have hl : k + 1 < s.length := by rw [h.len]; omega
  refine ⟨by rw [lift_len, h.len], fun j hj => ?_⟩
  rw [lift_get hl]
  by_cases h1 : j + 1 = k + 1
  · rw [if_pos h1]
    obtain rfl : j = k := by omega
    exact hf.2 hj
  · rw [if_neg h1]
    by_cases h2 : j + 1 = k
    · subst h2
      rw [if_pos rfl]
      have := h.fit j hj
      omega
    · rw [if_neg h2]
      exact h.fit j hj
theorem room_eq {r : Row} {s : Stand} {k : Nat} (hk : k < r.mills) : r.room s (k + 1) = if k = r.basins.length then none else some (r.basins.getD k 0 - s.getD (k + 1) 0) := by
  unfold Row.room
  have := mills_eq r
  by_cases e : k = r.basins.length
  · rw [if_pos e, if_neg (by omega)]
  · rw [if_neg e, if_pos (by omega)]
    rfl
theorem wrong_eq {r : Row} {s : Stand} {h : List Nat} {k x : Nat} (o : SOk r s) (hk : k < r.mills) :
    r.wrong h s k x = if h.getD k 0 < x then 1 else if s.getD k 0 < x then 2 else if k = r.basins.length then 0 else
      if (r.basins.getD k 0 : Int) - (s.getD (k + 1) 0 : Int) < (x : Int) then 3 else 0 := by
  unfold Row.wrong
  rw [room_eq hk]
  by_cases e : k = r.basins.length
  · rw [if_pos e, if_pos e]
  · rw [if_neg e, if_neg e]
    have hm := mills_eq r
    have q := o.fit k (by omega)
    by_cases c : r.basins.getD k 0 - s.getD (k + 1) 0 < x
    · rw [if_pos (show (r.basins.getD k 0 : Int) - (s.getD (k + 1) 0 : Int) < (x : Int) by omega)]
      simp only [c, if_true]
    · rw [if_neg (show ¬ (r.basins.getD k 0 : Int) - (s.getD (k + 1) 0 : Int) < (x : Int) by omega)]
      simp only [c, if_false]
theorem wrong_fits {r : Row} {s : Stand} {h : List Nat} {k x : Nat} (o : SOk r s) (hk : k < r.mills) (hw : r.wrong h s k x = 0) : Fits r s k x := by
  rw [wrong_eq o hk] at hw
  split at hw
  · cases hw
  · split at hw
    · cases hw
    · rename_i h2
      refine ⟨by omega, fun hb => ?_⟩
      rw [if_neg (by omega)] at hw
      split at hw
      · cases hw
      · omega
/-- what min says, twice -/
def mostI (can below : Int) : Int := if below < can then below else can
theorem can_eq {r : Row} {s : Stand} {h : List Nat} {k : Nat} (o : SOk r s) (hk : k < r.mills) :
    ((r.can h s k : Nat) : Int) = if k = r.basins.length then mostI (h.getD k 0 : Nat) (s.getD k 0 : Nat) else
      mostI (mostI (h.getD k 0 : Nat) (s.getD k 0 : Nat)) ((r.basins.getD k 0 : Int) - (s.getD (k + 1) 0 : Int)) := by
  unfold Row.can
  rw [room_eq hk]
  by_cases e : k = r.basins.length
  · rw [if_pos e, if_pos e]
    show ((min (h.getD k 0) (s.getD k 0) : Nat) : Int) = _
    unfold mostI
    split <;> omega
  · rw [if_neg e, if_neg e]
    have hm := mills_eq r
    have q := o.fit k (by omega)
    show ((min (min (h.getD k 0) (s.getD k 0)) (r.basins.getD k 0 - s.getD (k + 1) 0) : Nat) : Int) = _
    unfold mostI
    split <;> split <;> omega
theorem can_fits {r : Row} {s : Stand} {h : List Nat} {k : Nat} (o : SOk r s) (hk : k < r.mills) : Fits r s k (r.can h s k) := by
  unfold Row.can
  rw [room_eq hk]
  by_cases e : k = r.basins.length
  · rw [if_pos e]
    exact ⟨Nat.min_le_right _ _, fun z => absurd e (by omega)⟩
  · rw [if_neg e]
    have hm := mills_eq r
    have q := o.fit k (by omega)
    show Fits r s k (min (min (h.getD k 0) (s.getD k 0)) (r.basins.getD k 0 - s.getD (k + 1) 0))
    exact ⟨by omega, fun _ => by omega⟩

/-! ### an hour -/
theorem fullHour_ok {r : Row} {h : List Nat} : ∀ (k : Nat) (s : Stand), k ≤ r.mills → SOk r s → SOk r (r.fullHour h k s).2
  | 0, s, _, o => o
  | k + 1, s, hk, o => fullHour_ok k (lift s k (r.can h s k)) (by omega) (lift_ok o (by omega) (can_fits o (by omega)))
theorem fullHour_len {r : Row} {h : List Nat} : ∀ (k : Nat) (s : Stand), (r.fullHour h k s).1.length = k
  | 0, s => rfl
  | k + 1, s => by
    show ((r.fullHour h k (lift s k (r.can h s k))).1 ++ [r.can h s k]).length = k + 1
    rw [List.length_append, fullHour_len k]
    rfl
theorem fullHour_succ (r : Row) (h : List Nat) (k : Nat) (s : Stand) : r.fullHour h (k + 1) s = ((r.fullHour h k (lift s k (r.can h s k))).1 ++ [r.can h s k], (r.fullHour h k (lift s k (r.can h s k))).2) := rfl
theorem hour_succ (r : Row) (h l : List Nat) (k : Nat) (s : Stand) : r.hour h l (k + 1) s = if r.wrong h s k (l.getD k 0) ≠ 0 then .error (k, r.wrong h s k (l.getD k 0)) else r.hour h l k (lift s k (l.getD k 0)) := rfl
theorem hour_ok {r : Row} {h l : List Nat} : ∀ (k : Nat) (s u : Stand), k ≤ r.mills → SOk r s → r.hour h l k s = .ok u → SOk r u
  | 0, s, u, _, o, e => by
    cases e
    exact o
  | k + 1, s, u, hk, o, e => by
    rw [hour_succ] at e
    by_cases c : r.wrong h s k (l.getD k 0) = 0
    · rw [if_neg (by simpa using c)] at e
      exact hour_ok k _ u (by omega) (lift_ok o (by omega) (wrong_fits o (by omega) c)) e
    · rw [if_pos c] at e
      cases e

/-! ### full hours -/
def stand (r : Row) (hss : List (List Nat)) (s : Stand) : Stand := hss.foldl (fun s h => (r.fullHour h r.mills s).2) s
def waters (r : Row) (hss : List (List Nat)) (s : Stand) : List Stand := s :: (r.full hss s).map (fun x => x.2)
def parts (r : Row) (hss : List (List Nat)) (s : Stand) : List (List Nat) := (r.full hss s).map (fun x => x.1)
theorem stand_ok {r : Row} : ∀ (hss : List (List Nat)) (s : Stand), SOk r s → SOk r (stand r hss s)
  | [], _, o => o
  | h :: hss, s, o => stand_ok hss _ (fullHour_ok r.mills s (Nat.le_refl _) o)
theorem full_snoc {r : Row} {h : List Nat} : ∀ (hss : List (List Nat)) (s : Stand), r.full (hss ++ [h]) s = r.full hss s ++ [r.fullHour h r.mills (stand r hss s)]
  | [], s => rfl
  | g :: hss, s => by
    show r.fullHour g r.mills s :: r.full (hss ++ [h]) (r.fullHour g r.mills s).2 = r.fullHour g r.mills s :: (r.full hss (r.fullHour g r.mills s).2 ++ [r.fullHour h r.mills (stand r hss (r.fullHour g r.mills s).2)])
    rw [full_snoc hss]
theorem stand_snoc {r : Row} {h : List Nat} (hss : List (List Nat)) (s : Stand) : stand r (hss ++ [h]) s = (r.fullHour h r.mills (stand r hss s)).2 := by
  unfold stand
  rw [List.foldl_append]
  rfl
theorem waters_snoc {r : Row} {h : List Nat} (hss : List (List Nat)) (s : Stand) : waters r (hss ++ [h]) s = waters r hss s ++ [(r.fullHour h r.mills (stand r hss s)).2] := by
  unfold waters
  rw [full_snoc, List.map_append]
  rfl
theorem parts_snoc {r : Row} {h : List Nat} (hss : List (List Nat)) (s : Stand) : parts r (hss ++ [h]) s = parts r hss s ++ [(r.fullHour h r.mills (stand r hss s)).1] := by
  unfold parts
  rw [full_snoc, List.map_append]
  rfl
theorem full_len {r : Row} : ∀ (hss : List (List Nat)) (s : Stand), (r.full hss s).length = hss.length
  | [], _ => rfl
  | h :: hss, s => by
    show (r.full hss (r.fullHour h r.mills s).2).length + 1 = hss.length + 1
    rw [full_len hss]
theorem waters_len (r : Row) (hss : List (List Nat)) (s : Stand) : (waters r hss s).length = hss.length + 1 := by
  unfold waters
  rw [List.length_cons, List.length_map, full_len]
theorem parts_len (r : Row) (hss : List (List Nat)) (s : Stand) : (parts r hss s).length = hss.length := by
  unfold parts
  rw [List.length_map, full_len]
theorem waters_last {r : Row} : ∀ (hss : List (List Nat)) (s : Stand), (waters r hss s).getLast? = some (stand r hss s)
  | [], _ => rfl
  | h :: hss, s => by
    have ih := waters_last (r := r) hss (r.fullHour h r.mills s).2
    show (s :: (waters r hss (r.fullHour h r.mills s).2)).getLast? = some (stand r hss (r.fullHour h r.mills s).2)
    rw [← ih]
    rfl
theorem parts_each {r : Row} : ∀ (hss : List (List Nat)) (s : Stand), ∀ p ∈ parts r hss s, p.length = r.mills
  | [], _, p, h => by cases h
  | g :: hss, s, p, h => by
    rcases List.mem_cons.mp (show p ∈ (r.fullHour g r.mills s).1 :: parts r hss (r.fullHour g r.mills s).2 from h) with e | e
    · rw [e]
      exact fullHour_len _ _
    · exact parts_each hss _ p e
theorem waters_each {r : Row} : ∀ (hss : List (List Nat)) (s : Stand), SOk r s → ∀ u ∈ waters r hss s, SOk r u
  | [], s, o, u, h => by
    rcases List.mem_cons.mp h with e | e
    · rw [e]; exact o
    · cases e
  | g :: hss, s, o, u, h => by
    rcases List.mem_cons.mp (show u ∈ s :: waters r hss (r.fullHour g r.mills s).2 from h) with e | e
    · rw [e]; exact o
    · exact waters_each hss _ (fullHour_ok _ _ (Nat.le_refl _) o) u e
theorem flatten_len {m : Nat} : ∀ (l : List (List Nat)), (∀ p ∈ l, p.length = m) → l.flatten.length = l.length * m
  | [], _ => by simp
  | a :: l, h => by
    rw [List.flatten_cons, List.length_append, h a (List.mem_cons_self ..), flatten_len l fun p q => h p (List.mem_cons_of_mem _ q), List.length_cons, Nat.succ_mul, Nat.add_comm]
theorem outs_eq (r : Row) : 0 :: r.outs = (waters r r.hours r.begun).map fun s => s.getD r.mills 0 := by
  unfold Row.outs waters
  rw [List.map_cons, begun_out, List.map_map]
  rfl
theorem out_eq (r : Row) : r.out = (stand r r.hours r.begun).getD r.mills 0 := by
  unfold Row.out
  rw [outs_eq, List.getLast?_map, waters_last]
  rfl
theorem flat_eq (r : Row) : ((r.full r.hours r.begun).flatMap fun x => x.1) = (parts r r.hours r.begun).flatten := by
  unfold parts
  rw [List.flatMap_def]
theorem outs_at {r : Row} {i : Nat} {u : Stand} (h : (waters r r.hours r.begun)[i]? = some u) : (0 :: r.outs).getD i 0 = u.getD r.mills 0 := by
  rw [outs_eq, List.getD_eq_getElem?_getD, List.getElem?_map, h]
  rfl
theorem soonest_some {r : Row} {n i : Nat} (hi : i < r.hours.length + 1) (h : n ≤ (0 :: r.outs).getD i 0) (hb : ∀ t, t < i → ¬ n ≤ (0 :: r.outs).getD t 0) : r.soonest n = some i := by
  unfold Row.soonest
  rw [List.find?_range_eq_some]
  exact ⟨decide_eq_true h, List.mem_range.mpr hi, fun j hj => by simpa using hb j hj⟩
theorem soonest_none {r : Row} {n : Nat} (hb : ∀ t, t < r.hours.length + 1 → ¬ n ≤ (0 :: r.outs).getD t 0) : r.soonest n = none := by
  unfold Row.soonest
  rw [List.find?_range_eq_none]
  exact fun j hj => by simpa using hb j hj

/-! ### a row with other hours -/
theorem fullHour_with {r : Row} {hs : List (List Nat)} {h : List Nat} : ∀ (k : Nat) (s : Stand), Row.fullHour { r with hours := hs } h k s = r.fullHour h k s
  | 0, _ => rfl
  | k + 1, s => by
    rw [fullHour_succ, fullHour_succ]
    have e : Row.can { r with hours := hs } h s k = r.can h s k := rfl
    rw [e, fullHour_with k]
theorem stand_with {r : Row} {hs : List (List Nat)} : ∀ (hss : List (List Nat)) (s : Stand), stand { r with hours := hs } hss s = stand r hss s
  | [], _ => rfl
  | h :: hss, s => by
    show stand { r with hours := hs } hss (Row.fullHour { r with hours := hs } h r.mills s).2 = stand r hss (r.fullHour h r.mills s).2
    rw [fullHour_with, stand_with hss]
def more (k d : Nat) (h : List Nat) : List Nat := h.set k (h.getD k 0 + d)
theorem better_out (r : Row) (k d : Nat) : (r.better k d).out = (stand r (r.hours.map (more k d)) r.begun).getD r.mills 0 := by
  rw [out_eq]
  unfold Row.better
  rw [stand_with]
  rfl
theorem more_len (k d : Nat) (h : List Nat) : (more k d h).length = h.length := List.length_set ..
theorem more_eq {k d : Nat} {h : List Nat} (hk : k < h.length) : more k d h = h.take k ++ [h.getD k 0 + d] ++ h.drop (k + 1) := by
  unfold more
  rw [List.set_eq_take_append_cons_drop, if_pos hk]
  simp

/-! ### a plan -/
theorem goes_succ (r : Row) (l : List Nat) (n t : Nat) (s : Stand) : r.goes l (n + 1) t s = match r.hour (r.hours.getD t []) (r.part l t) r.mills s with
    | .error x => .error (t, x.1, x.2)
    | .ok u => r.goes l n (t + 1) u := rfl
theorem part_len {r : Row} {l : List Nat} {t : Nat} (hl : l.length = r.hours.length * r.mills) (ht : t < r.hours.length) : (r.part l t).length = r.mills := by
  unfold Row.part
  rw [List.length_take, List.length_drop, hl]
  have : (t + 1) * r.mills ≤ r.hours.length * r.mills := Nat.mul_le_mul_right _ ht
  rw [Nat.succ_mul] at this
  omega
end Mr

/-! The list of calls, call by call. -/
namespace Mr
open Sj02 (Row Stand lift)

def intsOf (k : Nat) : Nat := [1, 0, 0, 0, 1, 2].getD k 0
def zs (l : List Nat) : List Int := l.map fun (n : Nat) => (n : Int)

inductive Mt : Nat → List Nat → List Nat → Sj02.Call → Prop
  | begins (w : Nat) (bs : List Nat) : Mt 0 [w] bs (.begins w bs)
  | hour (h : List Nat) : Mt 1 [] h (.hour h)
  | check (l : List Nat) : Mt 2 [] l (.check l)
  | full : Mt 3 [] [] .full
  | soonest (n : Nat) : Mt 4 [n] [] (.soonest n)
  | better (k d : Nat) : Mt 5 [k, d] [] (.better k d)

/-- the call that stands at i, as it is read: its number k, its numbers, its row, where the next one stands -/
structure Tk (l : List Int) (i k : Nat) (nums row : List Nat) (q : Sj02.Call) (j : Nat) : Prop where
  at_ : l[i]? = some (k : Int)
  le : k ≤ 5
  nlen : nums.length = intsOf k
  inn : i + 1 + intsOf k ≤ l.length
  nums_ : (l.drop (i + 1)).take (intsOf k) = zs nums
  listed : k ≤ 2 → l[i + 1 + intsOf k]? = some (row.length : Int) ∧ (l.drop (i + 1 + intsOf k + 1)).take row.length = zs row ∧ j = i + 1 + intsOf k + 1 + row.length
  bare : ¬ k ≤ 2 → row = [] ∧ j = i + 1 + intsOf k
  rlen : row.length ≤ 40
  jle : j ≤ l.length
  q_ : Mt k nums row q

theorem drop_next {α : Type} {l : List α} {i : Nat} {a : α} {t : List α} (h : l.drop i = a :: t) : l[i]? = some a ∧ l.drop (i + 1) = t ∧ i < l.length := by
  have hi : i < l.length := by
    rcases Nat.lt_or_ge i l.length with z | z
    · exact z
    · rw [List.drop_eq_nil_of_le z] at h
      cases h
  have e := List.drop_eq_getElem_cons hi
  rw [h] at e
  injection e with e1 e2
  exact ⟨by rw [List.getElem?_eq_getElem hi, ← e1], e2.symm, hi⟩
theorem zs_toNat : ∀ {l : List Int}, (∀ z ∈ l, 0 ≤ z) → zs (l.map Int.toNat) = l
  | [], _ => rfl
  | a :: l, h => by
    show ((a.toNat : Nat) : Int) :: zs (l.map Int.toNat) = a :: l
    rw [zs_toNat fun z m => h z (List.mem_cons_of_mem _ m), Int.toNat_of_nonneg (h a (List.mem_cons_self ..))]
theorem all_nat {l : List Int} (h : (l.all fun (z : Int) => Sj02Neutral.natural z 32) = true) : ∀ z ∈ l, 0 ≤ z := fun z m => by
  have q := List.all_eq_true.mp h z m
  unfold Sj02Neutral.natural at q
  rw [Bool.and_eq_true] at q
  exact of_decide_eq_true q.1
theorem asked1_one {x : List Int} (h : Sj02Neutral.asked1 [x] = true) : (∀ z ∈ x, 0 ≤ z) ∧ (Sj02Neutral.callOf x).isSome = true := by
  unfold Sj02Neutral.asked1 at h
  rw [Bool.and_eq_true, Bool.and_eq_true] at h
  exact ⟨all_nat h.2.1, h.2.2⟩
theorem row_some {r : List Int} {x t : List Int} (h : PyFlat.row r = some (x, t)) : ∃ (m : Nat) (r2 : List Int), r = (m : Int) :: r2 ∧ m ≤ r2.length ∧ x = r2.take m ∧ t = r2.drop m := by
  cases r with
  | nil => cases h
  | cons n r2 =>
    have h : (if 0 ≤ n ∧ n.toNat ≤ r2.length then some (r2.take n.toNat, r2.drop n.toNat) else none) = some (x, t) := h
    split at h
    · rename_i c
      injection h with h
      injection h with h1 h2
      exact ⟨n.toNat, r2, by rw [Int.toNat_of_nonneg c.1], c.2, h1.symm, h2.symm⟩
    · cases h
theorem rows_one {r : List Int} {xs : List (List Int)} {t : List Int} (h : PyFlat.rows 1 r = some (xs, t)) : ∃ (m : Nat) (r2 : List Int), r = (m : Int) :: r2 ∧ m ≤ r2.length ∧ xs = [r2.take m] ∧ t = r2.drop m := by
  unfold PyFlat.rows at h
  cases e : PyFlat.row r with
  | none => rw [e] at h; cases h
  | some xt =>
    obtain ⟨x, s⟩ := xt
    rw [e] at h
    obtain ⟨m, r2, h1, h2, h3, h4⟩ := row_some e
    have h' : some ([x], s) = some (xs, t) := h
    injection h' with h'
    injection h' with e1 e2
    exact ⟨m, r2, h1, h2, by rw [← e1, h3], by rw [← e2, h4]⟩
theorem call_some {p : Int} {r : List Int} {c : List (List Int)} {t : List Int} (h : PyFlat.call PySj02.shape (p :: r) = some (c, t)) :
    ∃ n k xs, PySj02.shape p = some (n, k) ∧ n ≤ r.length ∧ PyFlat.rows k (r.drop n) = some (xs, t) ∧ c = (p :: r.take n) :: xs := by
  unfold PyFlat.call at h
  dsimp only at h
  cases e : PySj02.shape p with
  | none =>
    rw [e] at h
    cases h
  | some nk =>
    obtain ⟨n, k⟩ := nk
    rw [e] at h
    have h : (if r.length < n then none else match PyFlat.rows k (r.drop n) with
      | none => none
      | some (xs, t) => some ((p :: r.take n) :: xs, t)) = some (c, t) := h
    by_cases hn : r.length < n
    · rw [if_pos hn] at h
      cases h
    · rw [if_neg hn] at h
      cases e2 : PyFlat.rows k (r.drop n) with
      | none =>
        rw [e2] at h
        cases h
      | some xt =>
        obtain ⟨xs, t'⟩ := xt
        rw [e2] at h
        have h' : some ((p :: r.take n) :: xs, t') = some (c, t) := h
        injection h' with h'
        injection h' with h1 h2
        subst h2
        exact ⟨n, k, xs, rfl, by omega, e2, h1.symm⟩
theorem shape_some {p : Int} {n k : Nat} (h : PySj02.shape p = some (n, k)) : (p = 0 ∧ n = 1 ∧ k = 1) ∨ (p = 1 ∧ n = 0 ∧ k = 1) ∨ (p = 2 ∧ n = 0 ∧ k = 1) ∨ (p = 3 ∧ n = 0 ∧ k = 0) ∨ (p = 4 ∧ n = 1 ∧ k = 0) ∨ (p = 5 ∧ n = 2 ∧ k = 0) := by
  unfold PySj02.shape at h
  by_cases h0 : p = 0
  · rw [if_pos h0] at h; cases h; exact .inl ⟨h0, rfl, rfl⟩
  rw [if_neg h0] at h
  by_cases h1 : p = 1
  · rw [if_pos h1] at h; cases h; exact .inr (.inl ⟨h1, rfl, rfl⟩)
  rw [if_neg h1] at h
  by_cases h2 : p = 2
  · rw [if_pos h2] at h; cases h; exact .inr (.inr (.inl ⟨h2, rfl, rfl⟩))
  rw [if_neg h2] at h
  by_cases h3 : p = 3
  · rw [if_pos h3] at h; cases h; exact .inr (.inr (.inr (.inl ⟨h3, rfl, rfl⟩)))
  rw [if_neg h3] at h
  by_cases h4 : p = 4
  · rw [if_pos h4] at h; cases h; exact .inr (.inr (.inr (.inr (.inl ⟨h4, rfl, rfl⟩))))
  rw [if_neg h4] at h
  by_cases h5 : p = 5
  · rw [if_pos h5] at h; cases h; exact .inr (.inr (.inr (.inr (.inr ⟨h5, rfl, rfl⟩))))
  rw [if_neg h5] at h
  cases h

theorem take_one {l : List Int} {i : Nat} {p : Int} {r : List Int} (hd : l.drop i = p :: r) {c : List (List Int)} {t : List Int} (hc : PyFlat.call PySj02.shape (p :: r) = some (c, t)) (ha : Sj02Neutral.asked1 (PySj02.whole c) = true) :
    ∃ k nums row q j, Tk l i k nums row q j ∧ i < j ∧ t = l.drop j ∧ Sj02Neutral.callOf ((PySj02.whole c).headD []) = some q := by
  obtain ⟨n, k, xs, hs, hn, hr, rfl⟩ := call_some hc
  obtain ⟨g1, g2, g3⟩ := drop_next hd
  rcases shape_some hs with ⟨rfl, rfl, rfl⟩ | ⟨rfl, rfl, rfl⟩ | ⟨rfl, rfl, rfl⟩ | ⟨rfl, rfl, rfl⟩ | ⟨rfl, rfl, rfl⟩ | ⟨rfl, rfl, rfl⟩
  · -- begins
    obtain ⟨m, r2, h1, h2, rfl, rfl⟩ := rows_one hr
    obtain ⟨x, rfl⟩ : ∃ x, r = x :: (m : Int) :: r2 := by
      cases r with
      | nil => simp at hn
      | cons x r' => exact ⟨x, by rw [← h1]; rfl⟩
    obtain ⟨g4, g5, g6⟩ := drop_next g2
    obtain ⟨g7, g8, g9⟩ := drop_next g5
    have e : PySj02.whole ((0 :: (x :: (m : Int) :: r2).take 1) :: [r2.take m]) = [0 :: x :: r2.take m] := rfl
    rw [e] at ha ⊢
    obtain ⟨a1, a2⟩ := asked1_one ha
    have a3 : ∀ z ∈ r2.take m, 0 ≤ z := fun z hz => a1 z (by simp [hz])
    have hx : 0 ≤ x := a1 x (by simp)
    have e2 : Sj02Neutral.callOf (0 :: x :: r2.take m) = if ((r2.take m).map Int.toNat).length ≤ 6 then some (.begins x.toNat ((r2.take m).map Int.toNat)) else none := rfl
    have hl : (r2.take m).length = m := by rw [List.length_take]; omega
    have hlen : r2.length = l.length - (i + 1 + 1 + 1) := by rw [← g8, List.length_drop]
    rw [e2] at a2
    by_cases c6 : ((r2.take m).map Int.toNat).length ≤ 6
    · refine ⟨0, [x.toNat], (r2.take m).map Int.toNat, _, i + 1 + 1 + 1 + m, ⟨g1, by omega, rfl, ?_, ?_, fun _ => ⟨?_, ?_, ?_⟩, fun z => absurd (Nat.zero_le _) z, by omega, by omega, .begins ..⟩, by omega, ?_, by rw [List.headD_cons, e2, if_pos c6]⟩
      · show i + 1 + 1 ≤ l.length
        omega
      · rw [g2]
        show [x] = [((x.toNat : Nat) : Int)]
        rw [Int.toNat_of_nonneg hx]
      · show l[i + 1 + 1]? = _
        rw [g7, List.length_map, hl]
      · show (l.drop (i + 1 + 1 + 1)).take _ = _
        rw [g8, zs_toNat a3, List.length_map, hl]
      · rw [List.length_map, hl]
        rfl
      · rw [← List.drop_drop, g8]
    · rw [if_neg c6] at a2
      cases a2
  · -- hour
    obtain ⟨m, r2, h1, h2, rfl, rfl⟩ := rows_one hr
    obtain rfl : r = (m : Int) :: r2 := h1
    obtain ⟨g7, g8, g9⟩ := drop_next g2
    have e : PySj02.whole ((1 :: ((m : Int) :: r2).take 0) :: [r2.take m]) = [1 :: r2.take m] := rfl
    rw [e] at ha ⊢
    obtain ⟨a1, a2⟩ := asked1_one ha
    have a3 : ∀ z ∈ r2.take m, 0 ≤ z := fun z hz => a1 z (by simp [hz])
    have e2 : Sj02Neutral.callOf (1 :: r2.take m) = if ((r2.take m).map Int.toNat).length ≤ 6 then some (.hour ((r2.take m).map Int.toNat)) else none := rfl
    have hl : (r2.take m).length = m := by rw [List.length_take]; omega
    have hlen : r2.length = l.length - (i + 1 + 1) := by rw [← g8, List.length_drop]
    rw [e2] at a2
    by_cases c6 : ((r2.take m).map Int.toNat).length ≤ 6
    · refine ⟨1, [], (r2.take m).map Int.toNat, _, i + 1 + 1 + m, ⟨g1, by omega, rfl, ?_, ?_, fun _ => ⟨?_, ?_, ?_⟩, fun z => absurd (show 1 ≤ 2 by omega) z, by omega, by omega, .hour ..⟩, by omega, ?_, by rw [List.headD_cons, e2, if_pos c6]⟩
      · show i + 1 ≤ l.length
        omega
      · rfl
      · show l[i + 1]? = _
        rw [g7, List.length_map, hl]
      · show (l.drop (i + 1 + 1)).take _ = _
        rw [g8, zs_toNat a3, List.length_map, hl]
      · rw [List.length_map, hl]
        rfl
      · rw [← List.drop_drop, g8]
    · rw [if_neg c6] at a2
      cases a2
  · -- check
    obtain ⟨m, r2, h1, h2, rfl, rfl⟩ := rows_one hr
    obtain rfl : r = (m : Int) :: r2 := h1
    obtain ⟨g7, g8, g9⟩ := drop_next g2
    have e : PySj02.whole ((2 :: ((m : Int) :: r2).take 0) :: [r2.take m]) = [2 :: r2.take m] := rfl
    rw [e] at ha ⊢
    obtain ⟨a1, a2⟩ := asked1_one ha
    have a3 : ∀ z ∈ r2.take m, 0 ≤ z := fun z hz => a1 z (by simp [hz])
    have e2 : Sj02Neutral.callOf (2 :: r2.take m) = if ((r2.take m).map Int.toNat).length ≤ 40 then some (.check ((r2.take m).map Int.toNat)) else none := rfl
    have hl : (r2.take m).length = m := by rw [List.length_take]; omega
    have hlen : r2.length = l.length - (i + 1 + 1) := by rw [← g8, List.length_drop]
    rw [e2] at a2
    by_cases c6 : ((r2.take m).map Int.toNat).length ≤ 40
    · refine ⟨2, [], (r2.take m).map Int.toNat, _, i + 1 + 1 + m, ⟨g1, by omega, rfl, ?_, ?_, fun _ => ⟨?_, ?_, ?_⟩, fun z => absurd (show 2 ≤ 2 by omega) z, by omega, by omega, .check ..⟩, by omega, ?_, by rw [List.headD_cons, e2, if_pos c6]⟩
      · show i + 1 ≤ l.length
        omega
      · rfl
      · show l[i + 1]? = _
        rw [g7, List.length_map, hl]
      · show (l.drop (i + 1 + 1)).take _ = _
        rw [g8, zs_toNat a3, List.length_map, hl]
      · rw [List.length_map, hl]
        rfl
      · rw [← List.drop_drop, g8]
    · rw [if_neg c6] at a2
      cases a2
  · -- full
    have h' : some (([] : List (List Int)), r) = some (xs, t) := hr
    injection h' with h'
    injection h' with h1 h2
    subst h1 h2
    have hlen : r.length = l.length - (i + 1) := by rw [← g2, List.length_drop]
    exact ⟨3, [], [], .full, i + 1, ⟨g1, by omega, rfl, by show i + 1 ≤ l.length; omega, rfl, fun z => absurd z (by omega), fun _ => ⟨rfl, rfl⟩, by simp, by omega, .full⟩, by omega, g2.symm, rfl⟩
  · -- soonest
    have h' : some (([] : List (List Int)), r.drop 1) = some (xs, t) := hr
    injection h' with h'
    injection h' with h1 h2
    subst h1 h2
    obtain ⟨x, r', rfl⟩ : ∃ x r', r = x :: r' := by
      cases r with
      | nil => simp at hn
      | cons x r' => exact ⟨x, r', rfl⟩
    obtain ⟨g4, g5, g6⟩ := drop_next g2
    have e : PySj02.whole [4 :: (x :: r').take 1] = [[4, x]] := rfl
    rw [e] at ha ⊢
    obtain ⟨a1, a2⟩ := asked1_one ha
    have hx : 0 ≤ x := a1 x (by simp)
    refine ⟨4, [x.toNat], [], .soonest x.toNat, i + 1 + 1, ⟨g1, by omega, rfl, by show i + 1 + 1 ≤ l.length; omega, ?_, fun z => absurd z (by omega), fun _ => ⟨rfl, rfl⟩, by simp, by omega, .soonest _⟩, by omega, g5.symm, rfl⟩
    rw [g2]
    show [x] = [((x.toNat : Nat) : Int)]
    rw [Int.toNat_of_nonneg hx]
  · -- better
    have h' : some (([] : List (List Int)), r.drop 2) = some (xs, t) := hr
    injection h' with h'
    injection h' with h1 h2
    subst h1 h2
    obtain ⟨x, y, r', rfl⟩ : ∃ x y r', r = x :: y :: r' := by
      match r, hn with
      | x :: y :: r', _ => exact ⟨x, y, r', rfl⟩
    obtain ⟨g4, g5, g6⟩ := drop_next g2
    obtain ⟨g7, g8, g9⟩ := drop_next g5
    have e : PySj02.whole [5 :: (x :: y :: r').take 2] = [[5, x, y]] := rfl
    rw [e] at ha ⊢
    obtain ⟨a1, a2⟩ := asked1_one ha
    have hx : 0 ≤ x := a1 x (by simp)
    have hy : 0 ≤ y := a1 y (by simp)
    refine ⟨5, [x.toNat, y.toNat], [], .better x.toNat y.toNat, i + 1 + 1 + 1, ⟨g1, by omega, rfl, by show i + 1 + 2 ≤ l.length; omega, ?_, fun z => absurd z (by omega), fun _ => ⟨rfl, rfl⟩, by simp, by omega, .better _ _⟩, by omega, g8.symm, rfl⟩
    rw [g2]
    show [x, y] = [((x.toNat : Nat) : Int), ((y.toNat : Nat) : Int)]
    rw [Int.toNat_of_nonneg hx, Int.toNat_of_nonneg hy]

/-! ### all of them -/
def told1 (a : Sj02.Ans) : List Int := a.v :: a.l
/-- the calls from i on are still to be answered, from s; found is what was answered -/
structure Go (l : List Int) (i : Nat) (s : Row) (found : List Int) : Prop where
  ex : ∃ f raw, PyFlat.calls PySj02.shape f (l.drop i) = some raw ∧ (∀ c ∈ raw, Sj02Neutral.asked1 (PySj02.whole c) = true) ∧
    found ++ PyFlat.told (PyFlat.played Sj02Neutral.step s (raw.map PySj02.whole)) = PySj02.answers l
theorem go_start {l : List Int} (h : PySj02.answers_asked l = true) : Go l 0 Sj02.init [] := by
  unfold PySj02.answers_asked at h
  cases e : PyFlat.calls PySj02.shape l.length l with
  | none => rw [e] at h; cases h
  | some raw =>
    rw [e] at h
    have h : (!raw.isEmpty && PyFlat.atMost 60 raw && PyInside.calls PySj02.bound raw && Sj02Neutral.asked (raw.map PySj02.whole) && PyFlat.short 10000000 (PySj02.answers l)) = true := h
    simp only [Bool.and_eq_true] at h
    have ha := h.1.2
    unfold Sj02Neutral.asked at ha
    rw [Bool.and_eq_true] at ha
    refine ⟨l.length, raw, e, fun c hc => List.all_eq_true.mp ha.1 _ (List.mem_map_of_mem hc), ?_⟩
    unfold PySj02.answers PySj02.calls
    rw [e]
    rfl
theorem asked_short {l : List Int} (h : PySj02.answers_asked l = true) : (PySj02.answers l).length ≤ 10000000 := by
  unfold PySj02.answers_asked at h
  cases e : PyFlat.calls PySj02.shape l.length l with
  | none => rw [e] at h; cases h
  | some raw =>
    rw [e] at h
    have h : (!raw.isEmpty && PyFlat.atMost 60 raw && PyInside.calls PySj02.bound raw && Sj02Neutral.asked (raw.map PySj02.whole) && PyFlat.short 10000000 (PySj02.answers l)) = true := h
    simp only [Bool.and_eq_true] at h
    exact of_decide_eq_true h.2
theorem go_len {l : List Int} {i : Nat} {s : Row} {found : List Int} (g : Go l i s found) : found.length ≤ (PySj02.answers l).length := by
  obtain ⟨f, raw, _, _, e⟩ := g.ex
  rw [← e, List.length_append]
  omega
theorem go_end {l : List Int} {i : Nat} {s : Row} {found : List Int} (g : Go l i s found) (hi : l.length ≤ i) : found = PySj02.answers l := by
  obtain ⟨f, raw, h, _, e⟩ := g.ex
  rw [List.drop_eq_nil_of_le hi] at h
  have h' : some ([] : List (List (List Int))) = some raw := by
    rw [← h]
    cases f <;> rfl
  injection h' with h'
  subst h'
  rw [← e]
  show found = found ++ []
  rw [List.append_nil]
theorem go_turn {l : List Int} {i : Nat} {s : Row} {found : List Int} (g : Go l i s found) (hi : i < l.length) :
    ∃ k nums row q j, Tk l i k nums row q j ∧ i < j ∧ Go l j (Sj02.step s q).1 (found ++ [((told1 (Sj02.step s q).2).length : Int)] ++ told1 (Sj02.step s q).2) := by
  obtain ⟨f, raw, h, ha, e⟩ := g.ex
  have hd := List.drop_eq_getElem_cons hi
  generalize l[i] = p at hd
  generalize hr : l.drop (i + 1) = r at hd
  rw [hd] at h
  cases f with
  | zero => cases h
  | succ f =>
    unfold PyFlat.calls at h
    cases e1 : PyFlat.call PySj02.shape (p :: r) with
    | none => rw [e1] at h; cases h
    | some ct =>
      obtain ⟨c, t⟩ := ct
      rw [e1] at h
      cases e2 : PyFlat.calls PySj02.shape f t with
      | none =>
        have h : (match PyFlat.calls PySj02.shape f t with | none => none | some cs => some (c :: cs)) = some raw := h
        rw [e2] at h
        cases h
      | some cs =>
        have h : (match PyFlat.calls PySj02.shape f t with | none => none | some cs => some (c :: cs)) = some raw := h
        rw [e2] at h
        injection h with h
        subst h
        obtain ⟨k, nums, row, q, j, T, hij, ht, hq⟩ := take_one hd e1 (ha c (List.mem_cons_self ..))
        refine ⟨k, nums, row, q, j, T, hij, f, cs, by rw [← ht]; exact e2, fun c' hc' => ha c' (List.mem_cons_of_mem _ hc'), ?_⟩
        rw [← e]
        have es : Sj02Neutral.step s (PySj02.whole c) = ((Sj02.step s q).1, told1 (Sj02.step s q).2) := by
          unfold Sj02Neutral.step
          rw [hq]
          rfl
        have ep : PyFlat.played Sj02Neutral.step s ((c :: cs).map PySj02.whole) = (Sj02Neutral.step s (PySj02.whole c)).2 :: PyFlat.played Sj02Neutral.step (Sj02Neutral.step s (PySj02.whole c)).1 (cs.map PySj02.whole) := rfl
        rw [ep, es]
        show _ = found ++ ((((told1 (Sj02.step s q).2).length : Int) :: told1 (Sj02.step s q).2) ++ PyFlat.told (PyFlat.played Sj02Neutral.step (Sj02.step s q).1 (cs.map PySj02.whole)))
        simp [List.append_assoc]
/-- the row stays well formed -/
theorem step_wf {s : Row} (w : WF s) (q : Sj02.Call) : WF (Sj02.step s q).1 := by
  cases q with
  | begins wt b =>
    show WF (if _ then (s, Sj02.ok (-1)) else (⟨wt, b, []⟩, Sj02.ok 0)).1
    split
    · exact w
    · rename_i c
      refine ⟨?_, Nat.zero_le _, fun h m => by cases m⟩
      rcases Nat.lt_or_ge b.length 4 with z | z
      · exact Nat.le_of_lt_succ z
      · exact absurd (.inr (.inl z)) c
  | hour h =>
    show WF (if _ then (s, Sj02.ok (-1)) else if _ then (s, Sj02.ok (-5)) else ({ s with hours := s.hours ++ [h] }, Sj02.ok ((s.hours.length : Nat) : Int))).1
    split
    · exact w
    · rename_i c
      split
      · exact w
      · rename_i c2
        refine ⟨w.b, ?_, fun g m => ?_⟩
        · show (s.hours ++ [h]).length ≤ 8
          rw [List.length_append]
          have : ¬ 8 ≤ s.hours.length := c2
          show s.hours.length + 1 ≤ 8
          omega
        · rcases List.mem_append.mp m with z | z
          · exact w.l g z
          · rcases List.mem_cons.mp z with z | z
            · subst z
              rcases Nat.decEq g.length s.mills with y | y
              · exact absurd (.inl y) c
              · exact y
            · cases z
  | check l =>
    show WF (if _ then (s, Sj02.ok (-1)) else (s, _)).1
    split <;> exact w
  | full => exact w
  | soonest n => exact w
  | better k d =>
    show WF (if _ then (s, Sj02.ok (-2)) else if _ then (s, Sj02.ok (-1)) else (s, _)).1
    split
    · exact w
    · split <;> exact w
theorem wf_init : WF Sj02.init := ⟨Nat.zero_le _, Nat.zero_le _, fun h m => by cases m⟩
end Mr

/-! How rows of mills lie in the heap; the promise of each def. -/
namespace Mr
open PySem PySem.Spec PyProof.Rows L2

/-! ### lists of numbers as values -/
def iv (l : List Int) : List V := l.map V.int
def nv (l : List Nat) : List V := iv (zs l)
theorem nv_len (l : List Nat) : (nv l).length = l.length := by
  unfold nv iv zs
  rw [List.length_map, List.length_map]
theorem nv_map (l : List Nat) : nv l = l.map fun (n : Nat) => V.int (n : Int) := by
  unfold nv iv zs
  rw [List.map_map]
  rfl
theorem nv_at {l : List Nat} {k : Nat} (h : k < l.length) : (nv l)[k]? = some (.int ((l.getD k 0 : Nat) : Int)) := by
  rw [nv_map, List.getElem?_map, List.getD_eq_getElem?_getD, List.getElem?_eq_getElem h]
  rfl
theorem nv_set (l : List Nat) (k x : Nat) : (nv l).set k (.int (x : Int)) = nv (l.set k x) := by
  rw [nv_map, nv_map, List.map_set]
theorem nv_app (a b : List Nat) : nv (a ++ b) = nv a ++ nv b := by
  rw [nv_map, nv_map, nv_map, List.map_append]
theorem nv_last {l : List Nat} {n : Nat} (h : l.length = n + 1) : (nv l)[n]? = some (.int ((l.getD n 0 : Nat) : Int)) := nv_at (by omega)
theorem atI_m1 {α : Type} {xs : List α} {n : Nat} {v : α} (hl : xs.length = n + 1) (h : xs[n]? = some v) : atI xs (-1) = some v := by
  unfold atI ixN
  rw [if_neg (by decide), if_pos (by omega)]
  have e : ((-1 : Int) + (xs.length : Int)).toNat = n := by omega
  rw [e]
  exact h
theorem ixN_nat {n k : Nat} (h : k < n) : ixN n (k : Int) = some k := by
  unfold ixN
  rw [if_pos (by omega), if_pos (by omega)]
  rfl
theorem refs_ne {as : List Addr} {l : List Nat} (h : as ≠ [] ∨ l ≠ []) : as.map V.ref ≠ nv l := by
  intro e
  cases as with
  | nil =>
    cases l with
    | nil => exact h.elim (fun z => z rfl) fun z => z rfl
    | cons n l => cases e
  | cons a as =>
    cases l with
    | nil => cases e
    | cons n l =>
      have e : V.ref a :: as.map V.ref = V.int (n : Int) :: nv l := e
      cases e
theorem cut_nv {l : List Nat} {i j : Nat} (hij : i ≤ j) (hj : j ≤ l.length) : cutV (nv l) (some (i : Int)) (some (j : Int)) = nv ((l.drop i).take (j - i)) := by
  unfold cutV
  rw [HT.sIx_nat, HT.sIx_nat, nv_len, Nat.min_eq_left hj, Nat.min_eq_left (Nat.le_trans hij hj), nv_map, nv_map, List.map_take, List.map_drop]
theorem cut_iv {l : List Int} {i j : Nat} (hij : i ≤ j) (hj : j ≤ l.length) : cutV (iv l) (some (i : Int)) (some (j : Int)) = iv ((l.drop i).take (j - i)) := by
  unfold cutV iv
  rw [HT.sIx_nat, HT.sIx_nat, List.length_map, Nat.min_eq_left hj, Nat.min_eq_left (Nat.le_trans hij hj), List.map_take, List.map_drop]

/-! ### heaps -/
theorem same_upd {H H' : Hp} {q : Addr} {o : HO} (s : Same H H') (h : H' q = none) : Same H (upd H' q o) := fun b u e => by
  rw [upd_ne (ne_of_none (s b u e) h)]
  exact s b u e
theorem same_updF {H H' : Hp} {q : Addr} {o : HO} (s : Same H H') (h : H q = none) : Same H (upd H' q o) := fun b u e => by
  rw [upd_ne (ne_of_none e h)]
  exact s b u e
theorem same_new (H : Hp) {q : Addr} {o : HO} (h : H q = none) : Same H (upd H q o) := same_upd (Same.refl H) h

/-- a list of lists of numbers -/
structure LLs (H : Hp) (l : Addr) (as : List Addr) (hss : List (List Nat)) : Prop where
  lst : H l = some (.lst (as.map V.ref))
  len : as.length = hss.length
  at_ : ∀ (i : Nat) (a : Addr), as[i]? = some a → ∃ h, hss[i]? = some h ∧ H a = some (.lst (nv h))
theorem LLs.same {H H' : Hp} {l : Addr} {as : List Addr} {hss : List (List Nat)} (x : LLs H l as hss) (s : Same H H') : LLs H' l as hss :=
  ⟨s _ _ x.lst, x.len, fun i a e => let ⟨h, h1, h2⟩ := x.at_ i a e; ⟨h, h1, s _ _ h2⟩⟩
theorem LLs.item {H : Hp} {l : Addr} {as : List Addr} {hss : List (List Nat)} (x : LLs H l as hss) {i : Nat} {h : List Nat} (e : hss[i]? = some h) : ∃ a, as[i]? = some a ∧ (as.map V.ref)[i]? = some (.ref a) ∧ H a = some (.lst (nv h)) := by
  have hi := (List.getElem?_eq_some_iff.mp e).1
  have hi' : i < as.length := by rw [x.len]; exact hi
  have ea := List.getElem?_eq_getElem hi'
  obtain ⟨g, g1, g2⟩ := x.at_ i _ ea
  rw [e] at g1
  cases g1
  exact ⟨_, ea, by rw [List.getElem?_map, ea]; rfl, g2⟩
theorem LLs.nil {H : Hp} {l : Addr} (h : H l = some (.lst [])) : LLs H l [] [] := ⟨h, rfl, fun i a e => by simp at e⟩
theorem LLs.push {H : Hp} {l a : Addr} {as : List Addr} {hss : List (List Nat)} {h : List Nat} (x : LLs H l as hss) (ha : H a = some (.lst (nv h))) (hne : a ≠ l) :
    LLs (upd H l (.lst (as.map V.ref ++ [.ref a]))) l (as ++ [a]) (hss ++ [h]) := by
  refine ⟨?_, by rw [List.length_append, List.length_append, x.len]; rfl, fun i b e => ?_⟩
  · rw [upd_same, List.map_append]
    rfl
  · rcases Nat.lt_or_ge i as.length with c | c
    · rw [List.getElem?_append_left c] at e
      obtain ⟨g, g1, g2⟩ := x.at_ i b e
      have nb : b ≠ l := by
        refine ne_of g2 x.lst fun z => ?_
        have z' : as.map V.ref = nv g := (HO.lst.inj z).symm
        exact refs_ne (.inl (by intro y; rw [y] at c; simp at c)) z'
      exact ⟨g, by rw [List.getElem?_append_left (by rw [← x.len]; exact c)]; exact g1, by rw [upd_ne nb]; exact g2⟩
    · rw [List.getElem?_append_right c] at e
      cases q : i - as.length with
      | succ m => rw [q] at e; simp at e
      | zero =>
        rw [q] at e
        have e' : a = b := Option.some.inj e
        subst e'
        have hi : i = hss.length := by rw [← x.len]; omega
        exact ⟨h, by rw [hi, List.getElem?_append_right (Nat.le_refl _), Nat.sub_self]; rfl, by rw [upd_ne hne]; exact ha⟩

def rF (w : Int) (ba ha : Addr) : List (Str × V) := [("water", .int w), ("basins", .ref ba), ("hours", .ref ha)]
theorem lk_here {k : Str} {v : V} {r : List (Str × V)} : List.lookup k ((k, v) :: r) = some v := by
  have e : (k == k) = true := beq_self_eq_true k
  simp only [List.lookup, e]
theorem lk_past {k g : Str} {v : V} {r : List (Str × V)} (h : (k == g) = false) : List.lookup k ((g, v) :: r) = List.lookup k r := by
  simp only [List.lookup, h]
theorem put_past {f g : Str} {v x : V} {r : List (Str × V)} (h : ¬ g = f) : putF f v ((g, x) :: r) = (g, x) :: putF f v r := if_neg h
theorem put_here {f : Str} {v x : V} {r : List (Str × V)} : putF f v ((f, x) :: r) = (f, v) :: r := if_pos rfl
theorem rF_water (w : Int) (ba ha : Addr) : (rF w ba ha).lookup ("water" : Str) = some (.int w) := lk_here
theorem rF_basins (w : Int) (ba ha : Addr) : (rF w ba ha).lookup ("basins" : Str) = some (.ref ba) := (lk_past (by decide +kernel)).trans lk_here
theorem rF_hours (w : Int) (ba ha : Addr) : (rF w ba ha).lookup ("hours" : Str) = some (.ref ha) := (lk_past (by decide +kernel)).trans ((lk_past (by decide +kernel)).trans lk_here)
theorem rF_no {m : Str} (h1 : (m == "water") = false) (h2 : (m == "basins") = false) (h3 : (m == "hours") = false) (w : Int) (ba ha : Addr) : (rF w ba ha).lookup m = none :=
  (lk_past h1).trans ((lk_past h2).trans ((lk_past h3).trans rfl))
theorem rF_mills (w : Int) (ba ha : Addr) : (rF w ba ha).lookup ("mills" : Str) = none := rF_no (by decide +kernel) (by decide +kernel) (by decide +kernel) w ba ha
theorem rF_begin (w : Int) (ba ha : Addr) : (rF w ba ha).lookup ("begin" : Str) = none := rF_no (by decide +kernel) (by decide +kernel) (by decide +kernel) w ba ha
theorem rF_room (w : Int) (ba ha : Addr) : (rF w ba ha).lookup ("room" : Str) = none := rF_no (by decide +kernel) (by decide +kernel) (by decide +kernel) w ba ha
theorem rF_new (w : Int) (ba ha : Addr) : putF "hours" (.ref ha) (putF "basins" (.ref ba) (putF "water" (.int w) [])) = rF w ba ha := by
  show putF "hours" (.ref ha) (putF "basins" (.ref ba) [("water", .int w)]) = _
  rw [put_past (by decide +kernel)]
  show putF "hours" (.ref ha) [("water", .int w), ("basins", .ref ba)] = _
  rw [put_past (by decide +kernel), put_past (by decide +kernel)]
  rfl

/-- the row r lies at p; its hours' list at ha -/
structure RowAt (C : Addr) (H : Hp) (p ha : Addr) (as : List Addr) (r : Sj02.Row) : Prop where
  ex : ∃ dx ba, H p = some (.ins C dx (rF (r.water : Nat) ba ha)) ∧ H ba = some (.lst (nv r.basins)) ∧ ba ≠ ha
  hrs : LLs H ha as r.hours
theorem RowAt.same {C : Addr} {H H' : Hp} {p ha : Addr} {as : List Addr} {r : Sj02.Row} (x : RowAt C H p ha as r) (s : Same H H') : RowAt C H' p ha as r :=
  ⟨let ⟨dx, ba, h1, h2, h3⟩ := x.ex; ⟨dx, ba, s _ _ h1, s _ _ h2, h3⟩, x.hrs.same s⟩
theorem rF_inj {w w' : Int} {ba ba' ha ha' : Addr} (h : rF w ba ha = rF w' ba' ha') : ba = ba' := by
  unfold rF at h
  injection h with _ h
  injection h with h _
  injection h with _ h
  exact V.ref.inj h
/-- x is none of the lists of the row at p -/
def Off (C : Addr) (H : Hp) (p ha : Addr) (as : List Addr) (x : Addr) : Prop := x ≠ ha ∧ x ∉ as ∧ ∀ dx w ba, H p = some (.ins C dx (rF w ba ha)) → ba ≠ x
theorem Off.of {C : Addr} {H H' : Hp} {p ha x : Addr} {as as' : List Addr} (o : Off C H p ha as x) (e : H' p = H p) (h : x ∉ as → x ∉ as') : Off C H' p ha as' x :=
  ⟨o.1, h o.2.1, fun dx w ba z => o.2.2 dx w ba (e ▸ z)⟩
theorem RowAt.fresh {C : Addr} {H : Hp} {p ha x : Addr} {as : List Addr} {r : Sj02.Row} (R : RowAt C H p ha as r) (n : H x = none) : Off C H p ha as x := by
  refine ⟨Ne.symm (ne_of_none R.hrs.lst n), fun m => ?_, fun dx w ba z => ?_⟩
  · obtain ⟨i, hi, e⟩ := List.mem_iff_getElem.mp m
    obtain ⟨h, _, h2⟩ := R.hrs.at_ i x (by rw [List.getElem?_eq_getElem hi, e])
    rw [n] at h2
    cases h2
  · obtain ⟨dx', ba', h1, h2, _⟩ := R.ex
    rw [h1] at z
    have z := Option.some.inj z
    injection z with _ _ z
    rw [← rF_inj z]
    exact ne_of_none h2 n
theorem RowAt.upd {C : Addr} {H : Hp} {p ha x : Addr} {as : List Addr} {r : Sj02.Row} {xs : List V} {o : HO} (R : RowAt C H p ha as r) (hx : H x = some (.lst xs)) (f : Off C H p ha as x) : RowAt C (L2.upd H x o) p ha as r := by
  obtain ⟨dx, ba, h1, h2, h3⟩ := R.ex
  have np : p ≠ x := ne_of h1 hx (by intro z; cases z)
  refine ⟨⟨dx, ba, (upd_ne np).trans h1, (upd_ne (f.2.2 _ _ _ h1)).trans h2, h3⟩, (upd_ne (Ne.symm f.1)).trans R.hrs.lst, R.hrs.len, fun i a e => ?_⟩
  obtain ⟨h, g1, g2⟩ := R.hrs.at_ i a e
  refine ⟨h, g1, (upd_ne fun z => ?_).trans g2⟩
  subst z
  exact f.2.1 (List.mem_of_getElem? e)
def hF (p : Addr) : List (Str × V) := [("row", .ref p)]
theorem hF_row (p : Addr) : (hF p).lookup ("row" : Str) = some (.ref p) := lk_here
/-- the held row -/
structure HeldAt (C CH : Addr) (H : Hp) (hd p ha : Addr) (as : List Addr) (r : Sj02.Row) : Prop where
  obj : ∃ dx, H hd = some (.ins CH dx (hF p))
  row : RowAt C H p ha as r
  wf : WF r
theorem HeldAt.same {C CH : Addr} {H H' : Hp} {hd p ha : Addr} {as : List Addr} {r : Sj02.Row} (x : HeldAt C CH H hd p ha as r) (s : Same H H') : HeldAt C CH H' hd p ha as r :=
  ⟨let ⟨dx, h1⟩ := x.obj; ⟨dx, s _ _ h1⟩, x.row.same s, x.wf⟩

/-! ### the promises -/
def spRInit (C : Addr) : Sp := fun vs H Q _ => ∃ (p dx ba : Addr) (w : Int), vs = [.ref p, .int w, .ref ba] ∧ H p = some (.ins C dx []) ∧
  ∀ (H' : Hp) (ha : Addr), H ha = none → H' p = some (.ins C dx (rF w ba ha)) → H' ha = some (.lst []) → (∀ b o, H b = some o → b ≠ p → H' b = some o) → Q .non H'
def spMills (C : Addr) : Sp := fun vs H Q _ => ∃ (p ha : Addr) (as : List Addr) (r : Sj02.Row), vs = [.ref p] ∧ RowAt C H p ha as r ∧ Q (.int ((r.mills : Nat) : Int)) H
def spBegin (C : Addr) : Sp := fun vs H Q _ => ∃ (p ha : Addr) (as : List Addr) (r : Sj02.Row), vs = [.ref p] ∧ RowAt C H p ha as r ∧ r.basins.length ≤ 3 ∧
  ∀ (H' : Hp) (q : Addr), Same H H' → H q = none → H' q = some (.lst (nv r.begun)) → Q (.ref q) H'
/-- what room answers -/
def roomV (r : Sj02.Row) (s : List Nat) (k : Nat) : V := if k = r.basins.length then .non else .int (((r.basins.getD k 0 : Nat) : Int) - ((s.getD (k + 1) 0 : Nat) : Int))
def spRoom (C : Addr) : Sp := fun vs H Q _ => ∃ (p ha wa : Addr) (as : List Addr) (r : Sj02.Row) (s : List Nat) (k : Nat), vs = [.ref p, .ref wa, .int (k : Int)] ∧ RowAt C H p ha as r ∧ H wa = some (.lst (nv s)) ∧ SOk r s ∧ k < r.mills ∧
  Q (roomV r s k) H
def spWrong (C : Addr) : Sp := fun vs H Q _ => ∃ (p ha wa : Addr) (as : List Addr) (r : Sj02.Row) (s h : List Nat) (k x : Nat), vs = [.ref p, .ref wa, .int (k : Int), .int ((h.getD k 0 : Nat) : Int), .int (x : Int)] ∧ RowAt C H p ha as r ∧ H wa = some (.lst (nv s)) ∧ SOk r s ∧ k < r.mills ∧
  Q (.int ((r.wrong h s k x : Nat) : Int)) H
def spMost (C : Addr) : Sp := fun vs H Q _ => ∃ (p ha wa : Addr) (as : List Addr) (r : Sj02.Row) (s h : List Nat) (k : Nat), vs = [.ref p, .ref wa, .int (k : Int), .int ((h.getD k 0 : Nat) : Int)] ∧ RowAt C H p ha as r ∧ H wa = some (.lst (nv s)) ∧ SOk r s ∧ k < r.mills ∧
  Q (.int ((r.can h s k : Nat) : Int)) H
def spLifted : Sp := fun vs H Q _ => ∃ (wa : Addr) (s : List Nat) (k x : Nat), vs = [.ref wa, .int (k : Int), .int (x : Int)] ∧ H wa = some (.lst (nv s)) ∧ k + 1 < s.length ∧ x ≤ s.getD k 0 ∧
  ∀ (H' : Hp) (q : Addr), Same H H' → H q = none → H' q = some (.lst (nv (Sj02.lift s k x))) → Q (.ref q) H'
def spFullHour (C : Addr) : Sp := fun vs H Q _ => ∃ (p ha wa ca : Addr) (as : List Addr) (r : Sj02.Row) (s h : List Nat), vs = [.ref p, .ref wa, .ref ca] ∧ RowAt C H p ha as r ∧ r.basins.length ≤ 3 ∧ H wa = some (.lst (nv s)) ∧ SOk r s ∧ H ca = some (.lst (nv h)) ∧ h.length = r.mills ∧
  ∀ (H' : Hp) (t na pa : Addr), Same H H' → H' t = some (.tup [.ref na, .ref pa]) → H' na = some (.lst (nv (r.fullHour h r.mills s).2)) → H' pa = some (.lst (nv (r.fullHour h r.mills s).1)) → Q (.ref t) H'
def spFullHours (C : Addr) : Sp := fun vs H Q _ => ∃ (p ha hl : Addr) (as bs : List Addr) (r : Sj02.Row) (hss : List (List Nat)), vs = [.ref p, .ref hl] ∧ RowAt C H p ha as r ∧ r.basins.length ≤ 3 ∧ LLs H hl bs hss ∧ hss.length ≤ 8 ∧ (∀ h ∈ hss, h.length = r.mills) ∧
  ∀ (H' : Hp) (t wl pl : Addr) (was pas : List Addr), Same H H' → H' t = some (.tup [.ref wl, .ref pl]) → LLs H' wl was (waters r hss r.begun) → LLs H' pl pas (parts r hss r.begun) → Q (.ref t) H'
def spWorked (C : Addr) : Sp := fun vs H Q _ => ∃ (p ha wa ca la : Addr) (as : List Addr) (r : Sj02.Row) (s h l : List Nat), vs = [.ref p, .ref wa, .ref ca, .ref la] ∧ RowAt C H p ha as r ∧ r.basins.length ≤ 3 ∧ H wa = some (.lst (nv s)) ∧ SOk r s ∧ H ca = some (.lst (nv h)) ∧ h.length = r.mills ∧
  H la = some (.lst (nv l)) ∧ l.length = r.mills ∧
  (∀ (H' : Hp) (t na : Addr) (u : List Nat), r.hour h l r.mills s = .ok u → Same H H' → H' t = some (.tup [.ref na, .non]) → H' na = some (.lst (nv u)) → Q (.ref t) H') ∧
  (∀ (H' : Hp) (t na ea : Addr) (k x : Nat), r.hour h l r.mills s = .error (k, x) → Same H H' → H' t = some (.tup [.ref na, .ref ea]) → H' ea = some (.lst (nv [k, x])) → Q (.ref t) H')
def small (l : List Nat) : Bool := l.all fun n => decide (n ≤ Sj02.MUCH)
def spSmall : Sp := fun vs H Q _ => ∃ (a : Addr) (l : List Nat), vs = [.ref a] ∧ H a = some (.lst (nv l)) ∧ l.length ≤ 40 ∧ ∀ H' : Hp, Same H H' → Q (.bl (small l)) H'
/-- a call on the row: what is answered; the row as it was -/
def spAsk (C : Addr) (vs : List V) (H : Hp) (Q : VK) (p ha : Addr) (as : List Addr) (r : Sj02.Row) (a : Sj02.Ans) (more : List V) : Prop := vs = .ref p :: more ∧ RowAt C H p ha as r ∧ WF r ∧
  ∀ (H' : Hp) (q : Addr), Same H H' → H q = none → H' q = some (.lst (iv (told1 a))) → Q (.ref q) H'
def spHInit (C CH : Addr) : Sp := fun vs H Q _ => ∃ (hd dx : Addr), vs = [.ref hd] ∧ H hd = some (.ins CH dx []) ∧
  ∀ (H' : Hp) (p ha : Addr) (as : List Addr), H ha = none → HeldAt C CH H' hd p ha as Sj02.init → (∀ b o, H b = some o → b ≠ hd → H' b = some o) → Q .non H'
/-- what stands behind a call on the held row -/
def Behind (C CH : Addr) (H : Hp) (hd p ha : Addr) (as : List Addr) (st : Sj02.Row × Sj02.Ans) (Q : VK) : Prop := ∀ (H' : Hp) (p' ha' : Addr) (as' : List Addr) (q : Addr), HeldAt C CH H' hd p' ha' as' st.1 →
  (∀ b o, H b = some o → b ≠ hd → b ≠ ha → H' b = some o) → (ha' = ha ∨ H ha' = none) → (∀ x o, H x = some o → Off C H p ha as x → Off C H' p' ha' as' x) → H q = none → H' q = some (.lst (iv (told1 st.2))) → Q (.ref q) H'
def spBegins (C CH : Addr) : Sp := fun vs H Q _ => ∃ (hd p ha b : Addr) (as : List Addr) (r : Sj02.Row) (w : Nat) (bs : List Nat), vs = [.ref hd, .int (w : Int), .ref b] ∧ HeldAt C CH H hd p ha as r ∧ H b = some (.lst (nv bs)) ∧ bs.length ≤ 40 ∧
  Behind C CH H hd p ha as (Sj02.step r (.begins w bs)) Q
def spHour (C : Addr) : Sp := fun vs H Q _ => ∃ (p ha b : Addr) (as : List Addr) (r : Sj02.Row) (h : List Nat), vs = [.ref p, .ref b] ∧ RowAt C H p ha as r ∧ WF r ∧ H b = some (.lst (nv h)) ∧ h.length ≤ 40 ∧
  ∀ (H' : Hp) (as' : List Addr) (q : Addr), RowAt C H' p ha as' (Sj02.step r (.hour h)).1 → (∀ b o, H b = some o → b ≠ ha → H' b = some o) → (∀ x o, H x = some o → x ∉ as → x ∉ as') → H q = none → H' q = some (.lst (iv (told1 (Sj02.step r (.hour h)).2))) → Q (.ref q) H'
def spCheck (C : Addr) : Sp := fun vs H Q _ => ∃ (p ha b : Addr) (as : List Addr) (r : Sj02.Row) (l : List Nat), H b = some (.lst (nv l)) ∧ l.length ≤ 40 ∧ spAsk C vs H Q p ha as r (Sj02.step r (.check l)).2 [.ref b]
def spFull (C : Addr) : Sp := fun vs H Q _ => ∃ (p ha : Addr) (as : List Addr) (r : Sj02.Row), spAsk C vs H Q p ha as r (Sj02.step r .full).2 []
def spSoon (C : Addr) : Sp := fun vs H Q _ => ∃ (p ha : Addr) (as : List Addr) (r : Sj02.Row) (n : Nat), spAsk C vs H Q p ha as r (Sj02.step r (.soonest n)).2 [.int (n : Int)]
def spBetter (C : Addr) : Sp := fun vs H Q _ => ∃ (p ha : Addr) (as : List Addr) (r : Sj02.Row) (k d : Nat), spAsk C vs H Q p ha as r (Sj02.step r (.better k d)).2 [.int (k : Int), .int (d : Int)]
def spAnswer (C CH : Addr) : Sp := fun vs H Q _ => ∃ (hd p ha na ra : Addr) (as : List Addr) (r : Sj02.Row) (k : Nat) (nums row : List Nat) (q : Sj02.Call), vs = [.ref hd, .int (k : Int), .ref na, .ref ra] ∧ HeldAt C CH H hd p ha as r ∧
  H na = some (.lst (nv nums)) ∧ H ra = some (.lst (nv row)) ∧ row.length ≤ 40 ∧ Mt k nums row q ∧ Behind C CH H hd p ha as (Sj02.step r q) Q
def spAnswers (K : PySem.W.Frag) : Sp := fun vs H Q _ => ∃ (a : Addr) (ns : List Int), vs = [.ref a] ∧ SqL K H a (iv ns) ∧ ns.length ≤ 30000 ∧ PySj02.answers_asked ns = true ∧
  ∀ (H' : Hp) (p : Addr), H' p = some (.lst (iv (PySj02.answers ns))) → Q (.ref p) H'

/-! ### what the top has written -/
structure Txt (K : PySem.W.Frag) (mg : Str → Option Value) (C CH : Addr) : Prop where
  cl : Cls K C
  nW : NoAttr K C "water"
  nB : NoAttr K C "basins"
  nH : NoAttr K C "hours"
  gC : mg "MillRow" = some (.ref C)
  clH : Cls K CH
  nR : NoAttr K CH "row"
  gCH : mg "Held" = some (.ref CH)
  g1 : ∃ t, mg "TOO_MUCH" = some (.int 1 t)
  g2 : ∃ t, mg "TOO_LITTLE_BELOW" = some (.int 2 t)
  g3 : ∃ t, mg "NO_ROOM" = some (.int 3 t)
  gW : ∃ t, mg "MOST_WATER" = some (.int 1000 t)
  gB : ∃ t, mg "MOST_BASINS" = some (.int 3 t)
  gH : ∃ t, mg "MOST_HOURS" = some (.int 8 t)
  gI : ∃ a, mg "INTS" = some (.ref a) ∧ ∀ H : Hp, SqL K H a (iv [1, 0, 0, 0, 1, 2])
  gL : ∃ a, mg "LISTS" = some (.ref a) ∧ ∀ H : Hp, SqT K H a (iv [0, 1, 2])
  len : mg "len" = none
  list : mg "list" = none
  min : mg "min" = none
  range : mg "range" = none
  enumerate : mg "enumerate" = none
/-- a def of the module that keeps its promise -/
structure Cd (P : Program) (w : World) (K : PySem.W.Frag) (mg : Str → Option Value) (base : Heap) (nm : Str) (k : Nat) (ps : List Str) (sp : Sp) : Prop where
  ex : ∃ (f : Addr) (fd : FuncData), mg nm = some (.ref f) ∧ PySem.W.keepIn K (.ref f) = true ∧ Binds K fd ps [] ∧ FnOk P w K mg base CX0 k f fd ps sp
/-- a method of the class at C -/
structure Md (P : Program) (w : World) (K : PySem.W.Frag) (mg : Str → Option Value) (base : Heap) (C : Addr) (nm : Str) (k : Nat) (ps : List Str) (sp : Sp) : Prop where
  ex : ∃ (f : Addr) (fd : FuncData), Meth K C nm f ∧ Binds K fd ps [] ∧ FnOk P w K mg base CX0 k f fd ps sp
/-- how a class is made -/
structure Mkd (P : Program) (w : World) (K : PySem.W.Frag) (mg : Str → Option Value) (base : Heap) (C : Addr) (k : Nat) (ps : List Str) (sp : Sp) : Prop where
  ex : ∃ (f : Addr) (fd : FuncData), Mk K C f ∧ Binds K fd ps [] ∧ FnOk P w K mg base CX0 k f fd ps sp

/-! ### the text by places -/
def topS (i : Nat) : Stmt := PySem.Challenge.pw_millrows_s01_answers.main.body.getD i (.Pass ⟨0, 0, 0, 0⟩)
abbrev sRInit : Stmt := inClass (topS 1) 0
abbrev sMills : Stmt := inClass (topS 1) 1
abbrev sBegin : Stmt := inClass (topS 1) 2
abbrev sRoom : Stmt := inClass (topS 1) 3
abbrev sWrong : Stmt := topS 6
abbrev sMost : Stmt := topS 7
abbrev sLifted : Stmt := topS 8
abbrev sFullHour : Stmt := topS 9
abbrev sFullHours : Stmt := topS 10
abbrev sWorked : Stmt := topS 11
abbrev sHInit : Stmt := inClass (topS 16) 0
abbrev sSmall : Stmt := topS 17
abbrev sBegins : Stmt := topS 18
abbrev sHour : Stmt := topS 19
abbrev sCheck : Stmt := topS 20
abbrev sFull : Stmt := topS 21
abbrev sSoon : Stmt := topS 22
abbrev sBetter : Stmt := topS 23
abbrev sAnswer : Stmt := topS 27
abbrev sAnswers : Stmt := topS 28
/-- a global whole number -/
theorem pe_gi {X : Cx} {x : Str} {i : Int} {pos : Pos} (h : ∃ t, X.mg x = some (.int i t)) (hg : Gl X x) (hd : (x == ("__debug__" : Str)) = false := by decide) : PE X (.Name x pos) (tC (.int i)) := by
  obtain ⟨t, e⟩ := h
  exact pe_glob hg e ⟨t, rfl⟩ hd
/-- what xs[n] op= e reads first: the item of a list, by values -/
theorem get_list {X : Cx} : PGet X (rIxL X.K) := by
  rintro pins s σ H _ _ ov kv Q I ro ri ⟨p, xs, n, v, rfl, rfl, sq, hv, goal⟩
  obtain rfl : ov = Value.ref p := ro
  obtain ⟨tok, rfl⟩ : ∃ tok, kv = Value.int n tok := ri
  obtain ⟨us, vals, plain, -⟩ := I.list sq
  obtain ⟨j, hj, xj, -, low, high⟩ := atI_get hv
  obtain ⟨u, uj, rel⟩ := vals.get xj
  have size : us.toArray.size = xs.length := by rw [List.size_toArray, ← vals.length]
  have long := I.list sq |>.choose_spec.2.2
  have line := line63
  have answer : EP X pins σ Q u s := ⟨v, H, I, rel, goal⟩
  rcases Int.lt_or_le n 0 with neg | pos
  · rw [seqIndex_neg neg low] at hj
    refine wpAny_getItem_list_neg plain.isList neg (by omega) (by omega) ?_ answer
    rw [size, Option.some.inj hj, List.getElem?_toArray]
    exact uj
  · rw [seqIndex_of pos high] at hj
    refine wpAny_getItem_list plain.isList pos (by omega) ?_ answer
    rw [Option.some.inj hj, List.getElem?_toArray]
    exact uj
end Mr

namespace Mr
open PySem PySem.Spec PyProof.Rows L2
section
variable {P : Program} {w : World} {K : PySem.W.Frag} {mg : Str → Option Value} {base : Heap} {C CH : Addr}
theorem scRI : FnScope ["self", "water", "basins"] ["self", "water", "basins"] (defScope sRInit) := ⟨rfl, rfl, rfl, by decide +kernel, rfl, by decide +kernel, by decide +kernel⟩
theorem ok_rinit {f : Addr} {fd : FuncData} (F : Fun K "__init__" "MillRow.__init__" sRInit f fd) (T : Txt K mg C CH) : FnOk P w K mg base CX0 1 f fd ["self", "water", "basins"] (spRInit C) := by
  refine F.ok scRI (fun vs H Q E h => ?_) (fun cdv A outer s H vs Q E hr h => ?_)
  · obtain ⟨p, dx, ba, w, rfl, _⟩ := h
    rfl
  · obtain ⟨p, dx, ba, w, rfl, hp, k⟩ := h
    refine ⟨_, pss_cons (ps_fld (pv 0) (pv 1) rfl) (pss_cons (ps_fld (pv 0) (pv 2) rfl) (pss_one (ps_fld (pv 0) (pe_lst pa_nil) rfl))), ?_⟩
    refine ⟨_, rfl, _, rfl, p, C, dx, [], rfl, hp, T.cl, T.nW, (by show 0 < 1000; decide), ?_⟩
    refine ⟨_, rfl, _, rfl, p, C, dx, _, rfl, upd_same, T.cl, T.nB, (by show 1 < 1000; decide), ?_⟩
    refine ⟨Nat.zero_le _, fun l hl => ?_⟩
    rw [upd_upd] at hl ⊢
    have np : p ≠ l := ne_of_none (show upd H p _ p = some _ from upd_same) hl
    have hl0 : H l = none := by rw [upd_ne (Ne.symm np)] at hl; exact hl
    refine ⟨_, rfl, p, C, dx, _, rfl, (by rw [upd_ne np]; exact upd_same), T.cl, T.nH, (by show 2 < 1000; decide), ?_⟩
    refine k _ l hl0 ?_ ?_ fun b o e hb => ?_
    · rw [upd_same]
      exact congrArg (fun q => some (HO.ins C dx q)) (rF_new w ba l)
    · rw [upd_ne (Ne.symm np)]
      exact upd_same
    · rw [upd_ne hb, upd_ne (ne_of_none e hl0), upd_ne hb]
      exact e
theorem scMi : FnScope ["self"] ["self"] (defScope sMills) := ⟨rfl, rfl, rfl, by decide +kernel, rfl, by decide +kernel, by decide +kernel⟩
theorem ok_mills {f : Addr} {fd : FuncData} (F : Fun K "mills" "MillRow.mills" sMills f fd) (T : Txt K mg C CH) : FnOk P w K mg base CX0 1 f fd ["self"] (spMills C) := by
  refine F.ok scMi (fun vs H Q E h => ?_) (fun cdv A outer s H vs Q E hr h => ?_)
  · obtain ⟨p, ha, as, r, rfl, _⟩ := h
    rfl
  · obtain ⟨p, ha, as, r, rfl, R, k⟩ := h
    obtain ⟨dx, ba, hp, hb, _⟩ := R.ex
    refine ⟨_, pss_one (ps_ret (pe_op op_add (pe_callB call_len_seq (by rfl) T.len PySem.boot_len (pa_cons (pe_fld (pv 0) rfl) pa_nil)) pe_int)), ?_⟩
    refine ⟨_, rfl, p, C, dx, _, _, rfl, hp, T.cl, T.nB, rF_basins _ _ _, ba, _, rfl, .inl (SqL.of hb), _, _, rfl, rfl, ?_⟩
    have e : (((nv r.basins).length : Nat) : Int) + 1 = ((r.mills : Nat) : Int) := by
      rw [nv_len, mills_eq]
      omega
    show Q (.int ((((nv r.basins).length : Nat) : Int) + 1)) H
    rw [e]
    exact k
theorem scBe : FnScope ["self"] ["self"] (defScope sBegin) := ⟨rfl, rfl, rfl, by decide +kernel, rfl, by decide +kernel, by decide +kernel⟩
theorem rep1 (v : V) (n : Nat) : (List.replicate n [v]).flatten = List.replicate n v := by
  induction n with
  | zero => rfl
  | succ n ih =>
    rw [List.replicate_succ, List.flatten_cons, ih]
    rfl
theorem nv_begun (r : Sj02.Row) : nv r.begun = [V.int (r.water : Int)] ++ (List.replicate r.mills [V.int 0]).flatten := by
  rw [begun_eq, rep1, nv_map, List.map_cons, List.map_replicate]
  rfl
theorem ok_begin {f : Addr} {fd : FuncData} (F : Fun K "begin" "MillRow.begin" sBegin f fd) (T : Txt K mg C CH) (GM : Md P w K mg base C "mills" 1 ["self"] (spMills C)) : FnOk P w K mg base CX0 2 f fd ["self"] (spBegin C) := by
  obtain ⟨fm, fdm, mm, bm, Gm⟩ := GM.ex
  refine F.ok scBe (fun vs H Q E h => ?_) (fun cdv A outer s H vs Q E hr h => ?_)
  · obtain ⟨p, ha, as, r, rfl, _⟩ := h
    rfl
  · obtain ⟨p, ha, as, r, rfl, R, h3, k⟩ := h
    obtain ⟨dx, ba, hp, hb, _⟩ := R.ex
    refine ⟨_, pss_one (ps_ret (pe_op op_cat (pe_lst (pa_cons (pe_fld (pv 0) rfl) pa_nil)) (pe_op op_rep (pe_lst (pa_cons pe_int pa_nil)) (pe_meth0 (pv 0) T.cl mm Gm hr bm .nil pass0)))), ?_⟩
    refine ⟨_, rfl, p, C, dx, _, _, rfl, hp, T.cl, T.nW, rF_water _ _ _, (by show 1 ≤ sizeLine; decide), fun a1 n1 => ?_⟩
    refine ⟨(by show 1 ≤ sizeLine; decide), fun a2 n2 => ?_⟩
    have s1 : Same H (upd H a1 (.lst [.int (r.water : Int)])) := same_new H n1
    have s2 := same_upd (o := .lst [.int 0]) s1 n2
    have R2 := R.same s2
    obtain ⟨dx', ba', hp', _, _⟩ := R2.ex
    refine ⟨_, rfl, p, dx', _, rfl, hp', rF_mills _ _ _, p, ha, as, r, rfl, R2, ?_⟩
    have hm : r.mills ≤ 4 := by rw [mills_eq]; omega
    refine ⟨a2, _, _, rfl, rfl, upd_same, (by omega), (by omega), (by show 1 * ((r.mills : Nat) : Int).toNat ≤ sizeLine; rw [sizeLine_eq]; omega), fun a3 n3 => ?_⟩
    have n12 : a1 ≠ a2 := ne_of_none upd_same n2
    have n13 : a1 ≠ a3 := ne_of_none (show upd (upd H a1 _) a2 _ a1 = some (.lst [.int (r.water : Int)]) by rw [upd_ne n12]; exact upd_same) n3
    refine ⟨a1, a3, _, _, rfl, rfl, (by rw [upd_ne n13, upd_ne n12]; exact upd_same), upd_same, ?_, fun q hq => ?_⟩
    · show 1 + ((List.replicate ((r.mills : Nat) : Int).toNat [V.int 0]).flatten).length ≤ sizeLine
      rw [rep1, List.length_replicate, sizeLine_eq]
      omega
    · have s3 := same_upd (o := .lst (List.replicate ((r.mills : Nat) : Int).toNat [V.int 0]).flatten) s2 n3
      refine k _ q (same_upd s3 hq) (s3.free hq) ?_
      rw [upd_same, nv_begun]
      rfl
theorem scRo : FnScope ["self", "waters", "mill"] ["self", "waters", "mill"] (defScope sRoom) := ⟨rfl, rfl, rfl, by decide +kernel, rfl, by decide +kernel, by decide +kernel⟩
theorem ok_room {f : Addr} {fd : FuncData} (F : Fun K "room" "MillRow.room" sRoom f fd) (T : Txt K mg C CH) : FnOk P w K mg base CX0 1 f fd ["self", "waters", "mill"] (spRoom C) := by
  refine F.ok scRo (fun vs H Q E h => ?_) (fun cdv A outer s H vs Q E hr h => ?_)
  · obtain ⟨p, ha, wa, as, r, s, k, rfl, _⟩ := h
    rfl
  · obtain ⟨p, ha, wa, as, r, s, k, rfl, R, hw, o, hk, q⟩ := h
    obtain ⟨dx, ba, hp, hb, _⟩ := R.ex
    refine ⟨_, pss_cons (ps_if (pt_cmpR op_eq (pv 2) (pe_callB call_len_seq (by rfl) T.len PySem.boot_len (pa_cons (pe_fld (pv 0) rfl) pa_nil)) (nomark _)) (pss_one (ps_ret pe_non)) pss_nil)
      (pss_one (ps_ret (pe_op op_sub (pe_ix ix_list (pe_fld (pv 0) rfl) (pv 2) (fun _ _ => rfl)) (pe_ix ix_list (pv 1) (pe_op op_add (pv 2) pe_int) (fun _ _ => rfl))))), ?_⟩
    refine ⟨_, rfl, _, rfl, p, C, dx, _, _, rfl, hp, T.cl, T.nB, rF_basins _ _ _, ba, _, rfl, .inl (SqL.of hb), rfl, _, rfl, ?_⟩
    have hm := mills_eq r
    refine ite2 (fun c => ?_) (fun c => ?_)
    · have e := of_decide_eq_true c
      have e : (k : Int) = ((nv r.basins).length : Int) := V.int.inj e
      rw [nv_len] at e
      have e : k = r.basins.length := by omega
      show Q .non H
      unfold roomV at q
      rw [if_pos e] at q
      exact q
    · have e : ¬ k = r.basins.length := fun z => c (decide_eq_true (by rw [z, nv_len]))
      refine ⟨_, rfl, p, C, dx, _, _, rfl, hp, T.cl, T.nB, rF_basins _ _ _, _, rfl, ba, _, _, _, rfl, rfl, SqL.of hb, atI_nat (nv_at (by omega)), ?_⟩
      refine ⟨_, rfl, _, rfl, _, _, rfl, rfl, wa, _, _, _, rfl, rfl, SqL.of hw, at_of (j := k + 1) (by omega) (nv_at (by rw [o.len]; omega)), _, _, rfl, rfl, ?_⟩
      unfold roomV at q
      rw [if_neg e] at q
      exact q
end
end Mr

namespace Mr
open PySem PySem.Spec PyProof.Rows L2
section
variable {P : Program} {w : World} {K : PySem.W.Frag} {mg : Str → Option Value} {base : Heap} {C CH : Addr}
theorem scWr : FnScope ["row", "waters", "mill", "can", "much", "room"] ["row", "waters", "mill", "can", "much"] (defScope sWrong) := ⟨rfl, rfl, rfl, by decide +kernel, rfl, by decide +kernel, by decide +kernel⟩
theorem ok_wrong {f : Addr} {fd : FuncData} (F : Fun K "wrong_with" "wrong_with" sWrong f fd) (T : Txt K mg C CH) (GR : Md P w K mg base C "room" 1 ["self", "waters", "mill"] (spRoom C)) :
    FnOk P w K mg base CX0 2 f fd ["row", "waters", "mill", "can", "much"] (spWrong C) := by
  obtain ⟨fr, fdr, mr, br, Gr⟩ := GR.ex
  refine F.ok scWr (fun vs H Q E h => ?_) (fun cdv A outer s H vs Q E hr h => ?_)
  · obtain ⟨p, ha, wa, as, r, s, h, k, x, rfl, _⟩ := h
    rfl
  · obtain ⟨p, ha, wa, as, r, s, h, k, x, rfl, R, hw, o, hk, q⟩ := h
    obtain ⟨dx, ba, hp, hb, _⟩ := R.ex
    refine ⟨_, pss_cons (ps_set (i := 5) scWr.nd rfl (Or.inl rfl) (pe_meth (pv 0) T.cl mr Gr hr br .nil pass0 (pa_cons (pv 1) (pa_cons (pv 2) pa_nil))))
      (pss_cons (ps_if (pt_cmpR op_gt (pv 4) (pv 3) (nomark _)) (pss_one (ps_ret (pe_gi T.g1 rfl))) pss_nil)
      (pss_cons (ps_if (pt_cmpR op_gt (pv 4) (pe_ix ix_list (pv 1) (pv 2) (fun _ _ => rfl)) (nomark _)) (pss_one (ps_ret (pe_gi T.g2 rfl))) pss_nil)
      (pss_cons (ps_if (PW.pt (pw_and (pt_cmpR op_notN (pv 5) pe_non (nomark _)) (pw_and1 (pt_cmpR op_gt (pv 4) (pv 5) (nomark _))))) (pss_one (ps_ret (pe_gi T.g3 rfl))) pss_nil)
      (pss_one (ps_ret pe_int))))), ?_⟩
    refine ⟨_, rfl, p, dx, _, rfl, hp, rF_room _ _ _, _, rfl, _, rfl, p, ha, wa, as, r, s, k, rfl, R, hw, o, hk, ?_⟩
    rw [wrong_eq o hk] at q
    refine ⟨_, rfl, _, rfl, _, _, rfl, rfl, _, rfl, ite2 (fun c => ?_) (fun c => ?_)⟩
    · have c := of_decide_eq_true c
      rw [if_pos (show h.getD k 0 < x by omega)] at q
      exact q
    · have c : ¬ ((h.getD k 0 : Nat) : Int) < (x : Int) := fun z => c (decide_eq_true z)
      rw [if_neg (show ¬ h.getD k 0 < x by omega)] at q
      refine ⟨_, rfl, _, rfl, _, rfl, wa, _, _, _, rfl, rfl, SqL.of hw, atI_nat (nv_at (by rw [o.len]; omega)), _, _, rfl, rfl, _, rfl, ite2 (fun c => ?_) (fun c => ?_)⟩
      · have c := of_decide_eq_true c
        rw [if_pos (show s.getD k 0 < x by omega)] at q
        exact q
      · have c : ¬ ((s.getD k 0 : Nat) : Int) < (x : Int) := fun z => c (decide_eq_true z)
        rw [if_neg (show ¬ s.getD k 0 < x by omega)] at q
        refine ⟨_, rfl, rfl, _, rfl, ite2 (fun c => ?_) (fun c => ?_)⟩
        · by_cases e : k = r.basins.length
          · exfalso
            unfold roomV at c
            rw [if_pos e] at c
            cases c
          · rw [if_neg e] at q
            unfold roomV
            rw [if_neg e]
            refine ⟨_, rfl, _, rfl, _, _, rfl, rfl, _, rfl, ite2 (fun c => ?_) (fun c => ?_)⟩
            · rw [if_pos (of_decide_eq_true c)] at q
              exact q
            · rw [if_neg (fun z => c (decide_eq_true z))] at q
              exact q
        · by_cases e : k = r.basins.length
          · rw [if_pos e] at q
            refine iteF ?_
            exact q
          · exfalso
            apply c
            unfold roomV
            rw [if_neg e]
            rfl
theorem scMo : FnScope ["row", "waters", "mill", "can", "found", "room"] ["row", "waters", "mill", "can"] (defScope sMost) := ⟨rfl, rfl, rfl, by decide +kernel, rfl, by decide +kernel, by decide +kernel⟩
theorem ok_most {f : Addr} {fd : FuncData} (F : Fun K "most_for" "most_for" sMost f fd) (T : Txt K mg C CH) (GR : Md P w K mg base C "room" 1 ["self", "waters", "mill"] (spRoom C)) :
    FnOk P w K mg base CX0 2 f fd ["row", "waters", "mill", "can"] (spMost C) := by
  obtain ⟨fr, fdr, mr, br, Gr⟩ := GR.ex
  refine F.ok scMo (fun vs H Q E h => ?_) (fun cdv A outer s H vs Q E hr h => ?_)
  · obtain ⟨p, ha, wa, as, r, s, h, k, rfl, _⟩ := h
    rfl
  · obtain ⟨p, ha, wa, as, r, s, h, k, rfl, R, hw, o, hk, q⟩ := h
    obtain ⟨dx, ba, hp, hb, _⟩ := R.ex
    refine ⟨_, pss_cons (ps_set (i := 4) scMo.nd rfl (Or.inl rfl) (pe_callB (call_min2 rfl) (by rfl) T.min (by decide +kernel) (pa_cons (pv 3) (pa_cons (pe_ix ix_list (pv 1) (pv 2) (fun _ _ => rfl)) pa_nil))))
      (pss_cons (ps_set (i := 5) scMo.nd rfl (Or.inl rfl) (pe_meth (pv 0) T.cl mr Gr hr br .nil pass0 (pa_cons (pv 1) (pa_cons (pv 2) pa_nil))))
      (pss_cons (ps_if (pt_cmpR op_notN (pv 5) pe_non (nomark _)) (pss_one (ps_set (i := 4) scMo.nd rfl (Or.inl rfl) (pe_callB (call_min2 rfl) (by rfl) T.min (by decide +kernel) (pa_cons (pv 4) (pa_cons (pv 5) pa_nil))))) pss_nil)
      (pss_one (ps_ret (pv 4))))), ?_⟩
    rw [can_eq o hk] at q
    refine ⟨_, rfl, _, rfl, _, rfl, wa, _, _, _, rfl, rfl, SqL.of hw, atI_nat (nv_at (by rw [o.len]; omega)), _, _, rfl, ?_⟩
    refine ⟨_, rfl, p, dx, _, rfl, hp, rF_room _ _ _, _, rfl, _, rfl, p, ha, wa, as, r, s, k, rfl, R, hw, o, hk, ?_⟩
    refine ⟨_, rfl, rfl, _, rfl, ite2 (fun c => ?_) (fun c => ?_)⟩
    · by_cases e : k = r.basins.length
      · exfalso
        unfold roomV at c
        rw [if_pos e] at c
        cases c
      · rw [if_neg e] at q
        unfold roomV
        rw [if_neg e]
        exact ⟨_, rfl, _, rfl, _, _, rfl, _, rfl, q⟩
    · by_cases e : k = r.basins.length
      · rw [if_pos e] at q
        exact ⟨_, rfl, q⟩
      · exfalso
        apply c
        unfold roomV
        rw [if_neg e]
        rfl
theorem scLi : FnScope ["waters", "mill", "much", "found"] ["waters", "mill", "much"] (defScope sLifted) := ⟨rfl, rfl, rfl, by decide +kernel, rfl, by decide +kernel, by decide +kernel⟩
theorem ok_lifted {f : Addr} {fd : FuncData} (F : Fun K "lifted" "lifted" sLifted f fd) (T : Txt K mg C CH) : FnOk P w K mg base CX0 1 f fd ["waters", "mill", "much"] spLifted := by
  refine F.ok scLi (fun vs H Q E h => ?_) (fun cdv A outer s H vs Q E hr h => ?_)
  · obtain ⟨wa, s, k, x, rfl, _⟩ := h
    rfl
  · obtain ⟨wa, s, k, x, rfl, hw, hk, hx, q⟩ := h
    refine ⟨_, pss_cons (ps_set (i := 3) scLi.nd rfl (Or.inl rfl) (pe_callTy call_list_of (by rfl) T.list (by decide +kernel) (pa_cons (pv 0) pa_nil)))
      (pss_cons (ps_augS (pv 3) (pv 1) get_list (pv 2) ip_sub set_list)
      (pss_cons (ps_augS (pv 3) (pe_op op_add (pv 1) pe_int) get_list (pv 2) ip_add set_list)
      (pss_one (ps_ret (pv 3))))), ?_⟩
    refine ⟨_, rfl, wa, _, rfl, .inl (SqL.of hw), fun l hl => ?_⟩
    refine ⟨_, rfl, _, rfl, l, _, _, _, rfl, rfl, SqL.of upd_same, atI_nat (nv_at (show k < s.length by omega)), _, rfl, _, _, rfl, rfl, l, _, _, k, rfl, rfl, upd_same, ixN_nat (by rw [nv_len]; omega), ?_⟩
    have e1 : (nv s).set k (.int (((s.getD k 0 : Nat) : Int) - (x : Int))) = nv (s.set k (s.getD k 0 - x)) := by
      rw [← nv_set]
      congr 2
      omega
    refine ⟨_, rfl, _, rfl, _, _, rfl, rfl, l, nv (s.set k (s.getD k 0 - x)), _, _, rfl, rfl, SqL.of (by rw [upd_same, e1]), at_of (j := k + 1) (by omega) (nv_at (by rw [List.length_set]; exact hk)), _, rfl, _, _, rfl, rfl, l, nv (s.set k (s.getD k 0 - x)), _, k + 1, rfl, rfl, (by rw [upd_same, e1]), ?_, ?_⟩
    · have := ixN_nat (n := (nv (s.set k (s.getD k 0 - x))).length) (k := k + 1) (by rw [nv_len, List.length_set]; exact hk)
      exact this
    · refine ⟨_, rfl, ?_⟩
      refine q _ l ?_ hl ?_
      · exact same_updF (same_updF (same_new H hl) hl) hl
      · rw [upd_same]
        have e2 : (s.set k (s.getD k 0 - x)).getD (k + 1) 0 = s.getD (k + 1) 0 := by
          rw [List.getD_eq_getElem?_getD, List.getElem?_set_ne (by omega), ← List.getD_eq_getElem?_getD]
        rw [e2]
        exact congrArg (fun z => some (HO.lst z)) (nv_set (s.set k (s.getD k 0 - x)) (k + 1) (s.getD (k + 1) 0 + x))
end
end Mr

namespace Mr
open PySem PySem.Spec PyProof.Rows L2
section
variable {P : Program} {w : World} {K : PySem.W.Frag} {mg : Str → Option Value} {base : Heap} {C CH : Addr}
theorem rep_set (k x : Nat) (tail : List Nat) : (List.replicate (k + 1) 0 ++ tail).set k x = List.replicate k 0 ++ x :: tail := by
  rw [List.replicate_succ', List.append_assoc, List.set_append, List.length_replicate, if_neg (Nat.lt_irrefl k), Nat.sub_self]
  rfl
theorem rep_get (k x : Nat) (tail : List Nat) : (List.replicate k 0 ++ x :: tail).getD k 0 = x := by
  rw [List.getD_eq_getElem?_getD, List.getElem?_append_right (by rw [List.length_replicate]; exact Nat.le_refl _), List.length_replicate, Nat.sub_self]
  rfl
theorem nv_rep (n : Nat) : nv (List.replicate n 0) = (List.replicate n [V.int 0]).flatten := by
  rw [rep1, nv_map, List.map_replicate]
  rfl
theorem rg_down (m : Nat) (h : m ≤ 4) : RgC ((m : Int) - 1) (-1) (-1) m := by
  have q := RgC.neg (i := (m : Int) - 1) (j := -1) (by omega) (by omega) (by omega) (by omega)
  have e : ((m : Int) - 1 - -1).toNat = m := by omega
  rw [e] at q
  exact q
theorem LLs.keep {H H' : Hp} {l : Addr} {as : List Addr} {hss : List (List Nat)} (x : LLs H l as hss) (hl : H' l = H l) (ha : ∀ a h, h ∈ hss → H a = some (.lst (nv h)) → H' a = some (.lst (nv h))) : LLs H' l as hss :=
  ⟨hl.trans x.lst, x.len, fun i a e => let ⟨h, h1, h2⟩ := x.at_ i a e; ⟨h, h1, ha a h (List.mem_of_getElem? h1) h2⟩⟩
theorem scFh : FnScope ["row", "waters", "cans", "now", "parts", "mill"] ["row", "waters", "cans"] (defScope sFullHour) := ⟨rfl, rfl, rfl, by decide +kernel, rfl, by decide +kernel, by decide +kernel⟩
theorem ok_fullhour {f : Addr} {fd : FuncData} (F : Fun K "full_hour" "full_hour" sFullHour f fd) (T : Txt K mg C CH) (GM : Md P w K mg base C "mills" 1 ["self"] (spMills C))
    (GO : Cd P w K mg base "most_for" 2 ["row", "waters", "mill", "can"] (spMost C)) (GL : Cd P w K mg base "lifted" 1 ["waters", "mill", "much"] spLifted) : FnOk P w K mg base CX0 3 f fd ["row", "waters", "cans"] (spFullHour C) := by
  obtain ⟨fm, fdm, mm, bm, Gm⟩ := GM.ex
  obtain ⟨fo, fdo, mo, ko, bo, Go⟩ := GO.ex
  obtain ⟨fl, fdl, ml, kl, bl, Gl⟩ := GL.ex
  refine F.ok scFh (fun vs H Q E h => ?_) (fun cdv A outer s H vs Q E hr h => ?_)
  · obtain ⟨p, ha, wa, ca, as, r, s, h, rfl, _⟩ := h
    rfl
  · obtain ⟨p, ha, wa, ca, as, r, s, h, rfl, R, h3, hw, o, hc, hlen, k⟩ := h
    have hr1 : Room 1 _ := hr.mono (by decide)
    refine ⟨_, pss_cons (ps_set (i := 3) scFh.nd rfl (Or.inl rfl) (pv 1))
      (pss_cons (ps_set (i := 4) scFh.nd rfl (Or.inl rfl) (pe_op op_rep (pe_lst (pa_cons pe_int pa_nil)) (pe_meth0 (pv 0) T.cl mm Gm hr1 bm .nil pass0)))
      (pss_cons (ps_for PassesOwn.never rfl (pi_range3 rfl T.range (pa_cons (pe_op op_sub (pe_meth0 (pv 0) T.cl mm Gm hr1 bm .nil pass0) pe_int) (pa_cons (pe_un un_neg pe_int) (pa_cons (pe_un un_neg pe_int) pa_nil)))) (pg_name (i := 5) scFh.nd rfl (Or.inl rfl))
        (pss_cons (ps_asg (pe_call Go hr rfl mo ko bo .nil pass0 (pa_cons (pv 0) (pa_cons (pv 3) (pa_cons (pv 5) (pa_cons (pe_ix ix_list (pv 2) (pv 5) (fun _ _ => rfl)) pa_nil))))) (pg_sub (pv 4) (pv 5) set_list))
        (pss_one (ps_set (i := 3) scFh.nd rfl (Or.inl rfl) (pe_call Gl hr1 rfl ml kl bl .nil pass0 (pa_cons (pv 3) (pa_cons (pv 5) (pa_cons (pe_ix ix_list (pv 4) (pv 5) (fun _ _ => rfl)) pa_nil))))))))
      (pss_one (ps_ret (pe_tup (pa_cons (pv 3) (pa_cons (pv 4) pa_nil))))))), ?_⟩
    have hm : r.mills ≤ 4 := by rw [mills_eq]; omega
    have hm1 : 1 ≤ r.mills := by rw [mills_eq]; omega
    -- now = waters; parts = [0] * row.mills()
    refine ⟨_, rfl, (by show 1 ≤ sizeLine; decide), fun a1 n1 => ?_⟩
    have s1 : Same H (upd H a1 (.lst [.int 0])) := same_new H n1
    have R1 := R.same s1
    obtain ⟨dx, ba, hp, _, _⟩ := R1.ex
    refine ⟨_, rfl, p, dx, _, rfl, hp, rF_mills _ _ _, p, ha, as, r, rfl, R1, ?_⟩
    refine ⟨a1, _, _, rfl, rfl, upd_same, (by omega), (by omega), (by show 1 * ((r.mills : Nat) : Int).toNat ≤ sizeLine; rw [sizeLine_eq]; omega), fun pl npl => ?_⟩
    have hpl0 : H pl = none := s1.free npl
    have s2 := same_upd (o := .lst (List.replicate ((r.mills : Nat) : Int).toNat [V.int 0]).flatten) s1 npl
    have R2 := R.same s2
    obtain ⟨dx2, ba2, hp2, _, _⟩ := R2.ex
    -- for mill in range(row.mills() - 1, -1, -1)
    refine ⟨_, rfl, p, dx2, _, rfl, hp2, rF_mills _ _ _, p, ha, as, r, rfl, R2, _, _, rfl, rfl, _, rfl, _, rfl, (r.mills : Int) - 1, -1, -1, r.mills, rfl, rg_down _ hm, ?_⟩
    refine for_rangeC (lo := (r.mills : Int) - 1) (c := -1) (n := r.mills) (fun i σ H' => ∃ (v : Option V) (na : Addr) (u tail : List Nat), σ = [some (.ref p), some (.ref wa), some (.ref ca), some (.ref na), some (.ref pl), v] ∧ Same H H' ∧ H' na = some (.lst (nv u)) ∧ na ≠ pl ∧ SOk r u ∧
        H' pl = some (.lst (nv (List.replicate (r.mills - i) 0 ++ tail))) ∧ r.fullHour h r.mills s = ((r.fullHour h (r.mills - i) u).1 ++ tail, (r.fullHour h (r.mills - i) u).2)) ?_ ?_ ?_
    · refine ⟨none, wa, s, [], rfl, s2, s2 _ _ hw, ne_of_none hw hpl0, o, ?_, ?_⟩
      · rw [upd_same, List.append_nil, nv_rep]
        rfl
      · rw [List.append_nil]
        rfl
    · rintro i σ H' hi ⟨v, na, u, tail, rfl, s3, hna, nap, ou, hpl, eq⟩
      obtain ⟨j, hj⟩ : ∃ j : Nat, r.mills = i + j + 1 := ⟨r.mills - i - 1, by omega⟩
      have ej : (r.mills : Int) - 1 + (i : Nat) * -1 = (j : Int) := by omega
      have e1 : r.mills - i = j + 1 := by omega
      have e2 : r.mills - (i + 1) = j := by omega
      rw [ej]
      rw [e1] at hpl eq
      have hjl : j < h.length := by omega
      have hju : j + 1 < u.length := by rw [ou.len]; omega
      have hfit := can_fits (h := h) ou (show j < r.mills by omega)
      -- parts[mill] = most_for(row, now, mill, cans[mill])
      refine ⟨_, rfl, _, rfl, _, rfl, _, rfl, _, rfl, ca, _, _, _, rfl, rfl, SqL.of (s3 _ _ hc), atI_nat (nv_at hjl), p, ha, na, as, r, u, h, j, rfl, R.same s3, hna, ou, (by omega), ?_⟩
      refine ⟨_, rfl, _, rfl, pl, _, _, j, rfl, rfl, hpl, ixN_nat (by rw [nv_len, List.length_append, List.length_replicate]; omega), ?_⟩
      rw [nv_set, rep_set]
      have s4 : Same H (upd H' pl (.lst (nv (List.replicate j 0 ++ r.can h u j :: tail)))) := same_updF s3 hpl0
      have hna4 : upd H' pl (.lst (nv (List.replicate j 0 ++ r.can h u j :: tail))) na = some (.lst (nv u)) := by rw [upd_ne nap]; exact hna
      -- now = lifted(now, mill, parts[mill])
      refine ⟨_, rfl, _, rfl, _, rfl, _, rfl, pl, _, _, _, rfl, rfl, SqL.of upd_same, atI_nat (nv_at (by rw [List.length_append, List.length_replicate, List.length_cons]; omega)), na, u, j, r.can h u j, (by rw [rep_get]; rfl), hna4, hju, hfit.1, fun H5 q s5 nq hq => ?_⟩
      refine ⟨_, q, _, r.can h u j :: tail, rfl, s4.trans s5, hq, (fun z => by rw [z, upd_same] at nq; cases nq), lift_ok ou (by omega) hfit, ?_, ?_⟩
      · rw [e2]
        exact s5 _ _ upd_same
      · rw [e2, eq, fullHour_succ, List.append_assoc]
        rfl
    · rintro σ H' ⟨v, na, u, tail, rfl, s3, hna, nap, ou, hpl, eq⟩
      rw [Nat.sub_self] at hpl eq
      have e3 : r.fullHour h r.mills s = (tail, u) := eq
      refine ⟨_, rfl, _, rfl, (by show 2 ≤ sizeLine; decide), fun t nt => ?_⟩
      refine k _ t na pl (same_upd s3 nt) upd_same ?_ ?_
      · rw [upd_ne (ne_of_none hna nt), e3]
        exact hna
      · rw [upd_ne (ne_of_none hpl nt), e3]
        exact hpl
theorem scFs : FnScope ["row", "hours", "waters", "parts", "cans", "now", "own"] ["row", "hours"] (defScope sFullHours) := ⟨rfl, rfl, rfl, by decide +kernel, rfl, by decide +kernel, by decide +kernel⟩
theorem waters_at {r : Sj02.Row} (hss : List (List Nat)) (s : List Nat) : (waters r hss s)[hss.length]? = some (stand r hss s) := by
  rw [← waters_last, List.getLast?_eq_getElem?, waters_len]
  rfl
theorem take_snoc {α : Type} {l : List α} {i : Nat} {x : α} (h : l[i]? = some x) : l.take (i + 1) = l.take i ++ [x] := by
  rw [List.take_add_one, h]
  rfl
theorem ok_fullhours {f : Addr} {fd : FuncData} (F : Fun K "full_hours" "full_hours" sFullHours f fd) (T : Txt K mg C CH) (GB : Md P w K mg base C "begin" 2 ["self"] (spBegin C))
    (GH : Cd P w K mg base "full_hour" 3 ["row", "waters", "cans"] (spFullHour C)) : FnOk P w K mg base CX0 4 f fd ["row", "hours"] (spFullHours C) := by
  obtain ⟨fb, fdb, mb, bb, Gb⟩ := GB.ex
  obtain ⟨fh, fdh, mh, kh, bh, Gh⟩ := GH.ex
  refine F.ok scFs (fun vs H Q E h => ?_) (fun cdv A outer s H vs Q E hr h => ?_)
  · obtain ⟨p, ha, hl, as, bs, r, hss, rfl, _⟩ := h
    rfl
  · obtain ⟨p, ha, hl, as, bs, r, hss, rfl, R, h3, L, h8, hin, k⟩ := h
    have hr2 : Room 2 _ := hr.mono (by decide)
    refine ⟨_, pss_cons (ps_set (i := 2) scFs.nd rfl (Or.inl rfl) (pe_lst (pa_cons (pe_meth0 (pv 0) T.cl mb Gb hr2 bb .nil pass0) pa_nil)))
      (pss_cons (ps_set (i := 3) scFs.nd rfl (Or.inl rfl) (pe_lst pa_nil))
      (pss_cons (ps_for PassesOwn.never rfl (pi_list (pv 1)) (pg_name (i := 4) scFs.nd rfl (Or.inl rfl))
        (pss_cons (ps_asg (pe_call Gh hr rfl mh kh bh .nil pass0 (pa_cons (pv 0) (pa_cons (pe_ix ix_list (pv 2) (pe_un un_neg pe_int) (fun _ _ => rfl)) (pa_cons (pv 4) pa_nil)))) (pg_tup rfl (pgs_cons (pg_name (i := 5) scFs.nd rfl (Or.inl rfl)) (pgs_cons (pg_name (i := 6) scFs.nd rfl (Or.inl rfl)) pgs_nil))))
        (pss_cons (ps_expr (pe_bm PySem.F.plainAttrs_list PySem.F.slot_list_append PySem.F.type_list_append mt_append (pv 2) (pa_cons (pv 5) pa_nil)))
        (pss_one (ps_expr (pe_bm PySem.F.plainAttrs_list PySem.F.slot_list_append PySem.F.type_list_append mt_append (pv 3) (pa_cons (pv 6) pa_nil)))))))
      (pss_one (ps_ret (pe_tup (pa_cons (pv 2) (pa_cons (pv 3) pa_nil))))))), ?_⟩
    obtain ⟨dx, ba, hp, _, _⟩ := R.ex
    -- waters = [row.begin()]
    refine ⟨_, rfl, p, dx, _, rfl, hp, rF_begin _ _ _, p, ha, as, r, rfl, R, h3, fun H1 b0 s1 nb0 hb0 => ?_⟩
    refine ⟨(by show 1 ≤ sizeLine; decide), fun wl nwl => ?_⟩
    have s2 := same_upd (o := .lst [.ref b0]) s1 nwl
    have hwl0 := s1.free nwl
    -- parts = []
    refine ⟨Nat.zero_le _, fun pl npl => ?_⟩
    have s3 := same_upd (o := .lst []) s2 npl
    have hpl0 := s2.free npl
    have nwp : wl ≠ pl := ne_of_none upd_same npl
    have nbw : b0 ≠ wl := ne_of_none hb0 nwl
    have nbp : b0 ≠ pl := ne_of_none (show upd H1 wl _ b0 = _ by rw [upd_ne nbw]; exact hb0) npl
    have L3 := L.same s3
    refine ⟨_, rfl, hl, rfl, ⟨_, SqL.of L3.lst⟩, ?_⟩
    refine for_list (K := K) (a := hl) (xs := bs.map V.ref) (fun i σ H' => ∃ (v4 v5 v6 : Option V) (was pas : List Addr), σ = [some (.ref p), some (.ref hl), some (.ref wl), some (.ref pl), v4, v5, v6] ∧ Same H H' ∧
        LLs H' wl was (waters r (hss.take i) r.begun) ∧ LLs H' pl pas (parts r (hss.take i) r.begun)) ?_ ?_ ?_ ?_
    · refine ⟨none, none, none, [b0], [], rfl, s3, ⟨by rw [upd_ne nwp]; exact upd_same, rfl, fun i a e => ?_⟩, LLs.nil upd_same⟩
      cases i with
      | zero =>
        have e : b0 = a := Option.some.inj e
        subst e
        exact ⟨r.begun, rfl, by rw [upd_ne nbp, upd_ne nbw]; exact hb0⟩
      | succ i => simp at e
    · rintro i σ H' _ ⟨v4, v5, v6, was, pas, rfl, s4, LW, LP⟩
      exact SqL.of (L.same s4).lst
    · rintro i x σ H' hi ⟨v4, v5, v6, was, pas, rfl, s4, LW, LP⟩
      obtain ⟨ca, hca, rfl⟩ : ∃ ca, bs[i]? = some ca ∧ x = V.ref ca := by
        rw [List.getElem?_map] at hi
        cases e : bs[i]? with
        | none => rw [e] at hi; cases hi
        | some c => rw [e] at hi; exact ⟨c, rfl, (Option.some.inj hi).symm⟩
      obtain ⟨h, hh, hcl⟩ := L.at_ i ca hca
      have hil : i < hss.length := (List.getElem?_eq_some_iff.mp hh).1
      have htl : (hss.take i).length = i := by rw [List.length_take]; omega
      have hwat := waters_at (r := r) (hss.take i) r.begun
      rw [htl] at hwat
      obtain ⟨la, hla, hlar, hlas⟩ := LW.item hwat
      have hwlen : was.length = i + 1 := by rw [LW.len, waters_len, htl]
      have hplen : pas.length = i := by rw [LP.len, parts_len, htl]
      have hil8 : i ≤ 8 := by omega
      have wne : was ≠ [] := by intro z; rw [z] at hwlen; simp at hwlen
      have ost := stand_ok (r := r) (hss.take i) r.begun (begun_ok r)
      have hlh := hin h (List.mem_of_getElem? hh)
      refine ⟨_, rfl, _, rfl, _, rfl, wl, _, _, _, rfl, rfl, SqL.of LW.lst, atI_m1 (n := i) (by rw [List.length_map, hwlen]) hlar, _, rfl, p, ha, la, ca, as, r, _, h, rfl, R.same s4, h3, hlas, ost, s4 _ _ hcl, hlh, fun H5 t na pa s5 ht hna hpa => ?_⟩
      have LW5 := LW.same s5
      have LP5 := LP.same s5
      have fne : (r.fullHour h r.mills (stand r (hss.take i) r.begun)).1 ≠ [] := by
        intro z
        have := fullHour_len (r := r) (h := h) r.mills (stand r (hss.take i) r.begun)
        rw [z, mills_eq] at this
        simp at this
      have n1 : na ≠ wl := ne_of hna LW5.lst fun z => refs_ne (.inl wne) (HO.lst.inj z).symm
      have n2 : pa ≠ wl := ne_of hpa LW5.lst fun z => refs_ne (.inl wne) (HO.lst.inj z).symm
      have n3 : pa ≠ pl := ne_of hpa LP5.lst fun z => refs_ne (.inr fne) (HO.lst.inj z).symm
      refine ⟨t, _, rfl, SqT.of ht, rfl, _, _, rfl, _, _, rfl, rfl, ?_⟩
      -- waters.append(now)
      refine ⟨_, rfl, .inl ⟨rfl, _, SqL.of LW5.lst⟩, _, rfl, wl, _, _, rfl, rfl, LW5.lst, (by rw [List.length_map, hwlen, sizeLine_eq]; omega), ?_⟩
      have LW6 := LW5.push hna n1
      have LP6 : LLs (upd H5 wl (.lst (was.map V.ref ++ [.ref na]))) pl pas (parts r (hss.take i) r.begun) := LP5.keep (by rw [upd_ne (Ne.symm nwp)]) fun a g _ hg => by
        rw [upd_ne (ne_of hg LW5.lst fun z => refs_ne (.inl wne) (HO.lst.inj z).symm)]
        exact hg
      have hpa6 : upd H5 wl (.lst (was.map V.ref ++ [.ref na])) pa = _ := (upd_ne n2).trans hpa
      -- parts.append(own)
      refine ⟨_, rfl, .inl ⟨rfl, _, SqL.of LP6.lst⟩, _, rfl, pl, _, _, rfl, rfl, LP6.lst, (by rw [List.length_map, hplen, sizeLine_eq]; omega), ?_⟩
      have LP7 := LP6.push hpa6 n3
      refine ⟨_, _, _, was ++ [na], pas ++ [pa], rfl, same_updF (same_updF (s4.trans s5) hwl0) hpl0, ?_, ?_⟩
      · rw [take_snoc hh, waters_snoc]
        refine LW6.keep (by rw [upd_ne nwp]) fun a g hg hga => ?_
        have hgl : g.length = r.mills + 1 := by
          rcases List.mem_append.mp hg with z | z
          · exact (waters_each _ _ (begun_ok r) g z).len
          · rcases List.mem_cons.mp z with z | z
            · rw [z]
              exact (fullHour_ok r.mills _ (Nat.le_refl _) ost).len
            · cases z
        rw [upd_ne (ne_of hga LP6.lst fun z => refs_ne (.inr (by intro y; rw [y] at hgl; simp at hgl)) (HO.lst.inj z).symm)]
        exact hga
      · rw [take_snoc hh, parts_snoc]
        exact LP7
    · rintro σ H' ⟨v4, v5, v6, was, pas, rfl, s4, LW, LP⟩
      rw [List.length_map, L.len, List.take_length] at LW LP
      refine ⟨_, rfl, _, rfl, (by show 2 ≤ sizeLine; decide), fun t nt => ?_⟩
      have s5 := same_new H' (o := .tup [.ref wl, .ref pl]) nt
      exact k _ t wl pl was pas (s4.trans s5) upd_same (LW.same s5) (LP.same s5)
end
end Mr

namespace Mr
open PySem PySem.Spec PyProof.Rows L2
section
variable {P : Program} {w : World} {K : PySem.W.Frag} {mg : Str → Option Value} {base : Heap} {C CH : Addr}
theorem scWo : FnScope ["row", "waters", "cans", "parts", "now", "mill", "wrong"] ["row", "waters", "cans", "parts"] (defScope sWorked) := ⟨rfl, rfl, rfl, by decide +kernel, rfl, by decide +kernel, by decide +kernel⟩
theorem ok_worked {f : Addr} {fd : FuncData} (F : Fun K "worked_hour" "worked_hour" sWorked f fd) (T : Txt K mg C CH) (GM : Md P w K mg base C "mills" 1 ["self"] (spMills C))
    (GW : Cd P w K mg base "wrong_with" 2 ["row", "waters", "mill", "can", "much"] (spWrong C)) (GL : Cd P w K mg base "lifted" 1 ["waters", "mill", "much"] spLifted) : FnOk P w K mg base CX0 3 f fd ["row", "waters", "cans", "parts"] (spWorked C) := by
  obtain ⟨fm, fdm, mm, bm, Gm⟩ := GM.ex
  obtain ⟨fo, fdo, mo, ko, bo, Go⟩ := GW.ex
  obtain ⟨fl, fdl, ml, kl, bl, Gl⟩ := GL.ex
  refine F.ok scWo (fun vs H Q E h => ?_) (fun cdv A outer s H vs Q E hr h => ?_)
  · obtain ⟨p, ha, wa, ca, la, as, r, s, h, l, rfl, _⟩ := h
    rfl
  · obtain ⟨p, ha, wa, ca, la, as, r, s, h, l, rfl, R, h3, hw, o, hc, hlen, hla, hll, kO, kE⟩ := h
    have hr1 : Room 1 _ := hr.mono (by decide)
    refine ⟨_, pss_cons (ps_set (i := 4) scWo.nd rfl (Or.inl rfl) (pv 1))
      (pss_cons (ps_for PassesOwn.never rfl (pi_range3 rfl T.range (pa_cons (pe_op op_sub (pe_meth0 (pv 0) T.cl mm Gm hr1 bm .nil pass0) pe_int) (pa_cons (pe_un un_neg pe_int) (pa_cons (pe_un un_neg pe_int) pa_nil)))) (pg_name (i := 5) scWo.nd rfl (Or.inl rfl))
        (pss_cons (ps_set (i := 6) scWo.nd rfl (Or.inl rfl) (pe_call Go hr rfl mo ko bo .nil pass0 (pa_cons (pv 0) (pa_cons (pv 4) (pa_cons (pv 5) (pa_cons (pe_ix ix_list (pv 2) (pv 5) (fun _ _ => rfl)) (pa_cons (pe_ix ix_list (pv 3) (pv 5) (fun _ _ => rfl)) pa_nil)))))))
        (pss_cons (ps_if (pt_cmpR op_gt (pv 6) pe_int (nomark _)) (pss_one (ps_ret (pe_tup (pa_cons (pv 4) (pa_cons (pe_lst (pa_cons (pv 5) (pa_cons (pv 6) pa_nil))) pa_nil))))) pss_nil)
        (pss_one (ps_set (i := 4) scWo.nd rfl (Or.inl rfl) (pe_call Gl hr1 rfl ml kl bl .nil pass0 (pa_cons (pv 4) (pa_cons (pv 5) (pa_cons (pe_ix ix_list (pv 3) (pv 5) (fun _ _ => rfl)) pa_nil)))))))))
      (pss_one (ps_ret (pe_tup (pa_cons (pv 4) (pa_cons pe_non pa_nil)))))), ?_⟩
    have hm : r.mills ≤ 4 := by rw [mills_eq]; omega
    obtain ⟨dx, ba, hp, _, _⟩ := R.ex
    refine ⟨_, rfl, ?_⟩
    refine ⟨_, rfl, p, dx, _, rfl, hp, rF_mills _ _ _, p, ha, as, r, rfl, R, _, _, rfl, rfl, _, rfl, _, rfl, (r.mills : Int) - 1, -1, -1, r.mills, rfl, rg_down _ hm, ?_⟩
    refine for_rangeC (lo := (r.mills : Int) - 1) (c := -1) (n := r.mills) (fun i σ H' => ∃ (v5 v6 : Option V) (na : Addr) (u : List Nat), σ = [some (.ref p), some (.ref wa), some (.ref ca), some (.ref la), some (.ref na), v5, v6] ∧ Same H H' ∧ H' na = some (.lst (nv u)) ∧ SOk r u ∧
        r.hour h l r.mills s = r.hour h l (r.mills - i) u) ?_ ?_ ?_
    · exact ⟨none, none, wa, s, rfl, Same.refl H, hw, o, rfl⟩
    · rintro i σ H' hi ⟨v5, v6, na, u, rfl, s3, hna, ou, eq⟩
      obtain ⟨j, hj⟩ : ∃ j : Nat, r.mills = i + j + 1 := ⟨r.mills - i - 1, by omega⟩
      have ej : (r.mills : Int) - 1 + (i : Nat) * -1 = (j : Int) := by omega
      have e1 : r.mills - i = j + 1 := by omega
      have e2 : r.mills - (i + 1) = j := by omega
      rw [ej]
      rw [e1, hour_succ] at eq
      have hjm : j < r.mills := by omega
      have hjl : j < h.length := by omega
      have hjp : j < l.length := by omega
      have hju : j + 1 < u.length := by rw [ou.len]; omega
      refine ⟨_, rfl, _, rfl, _, rfl, _, rfl, _, rfl, ca, _, _, _, rfl, rfl, SqL.of (s3 _ _ hc), atI_nat (nv_at hjl), _, rfl, _, rfl, la, _, _, _, rfl, rfl, SqL.of (s3 _ _ hla), atI_nat (nv_at hjp), p, ha, na, as, r, u, h, j, l.getD j 0, rfl, R.same s3, hna, ou, hjm, ?_⟩
      refine ⟨_, rfl, _, _, rfl, rfl, _, rfl, ite2 (fun c => ?_) (fun c => ?_)⟩
      · have c : (0 : Int) < ((r.wrong h u j (l.getD j 0) : Nat) : Int) := of_decide_eq_true c
        rw [if_pos (by omega)] at eq
        refine ⟨_, rfl, _, rfl, _, rfl, (by show 2 ≤ sizeLine; decide), fun ea nea => ?_⟩
        refine ⟨(by show 2 ≤ sizeLine; decide), fun t nt => ?_⟩
        refine kE _ t na ea j _ eq (same_upd (same_upd s3 nea) nt) upd_same ?_
        rw [upd_ne (ne_of_none upd_same nt)]
        exact upd_same
      · have c : ¬ (0 : Int) < ((r.wrong h u j (l.getD j 0) : Nat) : Int) := fun z => c (decide_eq_true z)
        have w0 : r.wrong h u j (l.getD j 0) = 0 := by omega
        rw [if_neg (by omega)] at eq
        have hfit := wrong_fits ou hjm w0
        refine ⟨_, rfl, _, rfl, _, rfl, _, rfl, la, _, _, _, rfl, rfl, SqL.of (s3 _ _ hla), atI_nat (nv_at hjp), na, u, j, l.getD j 0, rfl, hna, hju, hfit.1, fun H5 q s5 nq hq => ?_⟩
        refine ⟨_, _, q, _, rfl, s3.trans s5, hq, lift_ok ou hjm hfit, ?_⟩
        rw [e2]
        exact eq
    · rintro σ H' ⟨v5, v6, na, u, rfl, s3, hna, ou, eq⟩
      rw [Nat.sub_self] at eq
      refine ⟨_, rfl, (by show 2 ≤ sizeLine; decide), fun t nt => ?_⟩
      refine kO _ t na u eq (same_upd s3 nt) upd_same ?_
      rw [upd_ne (ne_of_none hna nt)]
      exact hna
theorem scSm : FnScope ["numbers", "number"] ["numbers"] (defScope sSmall) := ⟨rfl, rfl, rfl, by decide +kernel, rfl, by decide +kernel, by decide +kernel⟩
theorem dp_ints {H : Hp} : ∀ l : List Int, DpAll K H (iv l) (l.map PyData.int)
  | [] => .nil
  | n :: l => .cons (.int n) (dp_ints l)
def big (n : Nat) : Bool := decide (1000 < n)
theorem small_iff (l : List Nat) : small l = PyData.eqv (.list ((zs (l.filter big)).map PyData.int)) (.list []) := by
  have e : small l = (l.filter big).isEmpty := by
    induction l with
    | nil => rfl
    | cons n l ih =>
      have e1 : small (n :: l) = (decide (n ≤ 1000) && small l) := rfl
      rw [e1, ih]
      by_cases c : n ≤ 1000
      · rw [decide_eq_true c, List.filter_cons, if_neg (by unfold big; simp; omega)]
        rfl
      · rw [decide_eq_false c, List.filter_cons, if_pos (by unfold big; simp; omega)]
        rfl
  rw [e]
  cases l.filter big with
  | nil => simp [zs, PyData.eqv, PyData.eqvAll]
  | cons a b => simp [zs, PyData.eqv, PyData.eqvAll]
theorem ok_small {f : Addr} {fd : FuncData} (F : Fun K "are_small" "are_small" sSmall f fd) (T : Txt K mg C CH) : FnOk P w K mg base CX0 1 f fd ["numbers"] spSmall := by
  refine F.ok scSm (fun vs H Q E h => ?_) (fun cdv A outer s H vs Q E hr h => ?_)
  · obtain ⟨a, l, rfl, _⟩ := h
    rfl
  · obtain ⟨a, l, rfl, hl, h40, k⟩ := h
    refine ⟨_, pss_one (ps_ret (pe_cmpR (op_eqD hr.units) (pe_lc (own := [("number", 1)]) (g := gName 1) (by rfl) scSm.nd (pi_list (pv 0)) (blkOk_by (own := [("number", 1)]) (N := ["numbers", "number"]) (sc := defScope sSmall) (by decide +kernel))
      (fun _ _ _ _ _ => pg_name (i := 1) scSm.nd rfl (Or.inl rfl)) (fun _ _ _ _ _ => pts_one (pt_cmpR op_gt (pv 1) (pe_gi T.gW rfl) (nomark _))) (fun _ _ _ _ _ => pv 1)) (pe_lst pa_nil) (nomark _))), ?_⟩
    refine ⟨_, rfl, a, rfl, ⟨_, SqL.of hl⟩, fun D nD => lc_list (K := K) (a := a) (xs := nv l) (fun i H' => Same H H' ∧ H' D = some (.lst (nv ((l.take i).filter big)))) ⟨same_new H nD, upd_same⟩ (fun i H' _ ⟨s1, _⟩ => SqL.of (s1 _ _ hl)) ?_ ?_⟩
    · rintro i x H' hi ⟨s1, hD⟩
      have hil : i < l.length := by
        have := (List.getElem?_eq_some_iff.mp hi).1
        rw [nv_len] at this
        exact this
      have ex : x = V.int ((l.getD i 0 : Nat) : Int) := Option.some.inj (hi.symm.trans (nv_at hil))
      subst ex
      have et : l.take (i + 1) = l.take i ++ [l.getD i 0] := take_snoc (by rw [List.getD_eq_getElem?_getD, List.getElem?_eq_getElem hil]; rfl)
      refine ⟨rfl, _, rfl, _, _, rfl, rfl, _, rfl, ite2 (fun c => ?_) (fun c => ?_)⟩
      · have c : (1000 : Int) < ((l.getD i 0 : Nat) : Int) := of_decide_eq_true c
        refine ⟨_, rfl, _, hD, ?_, same_updF s1 nD, ?_⟩
        · rw [nv_len]
          refine Nat.lt_of_le_of_lt (List.length_filter_le _ _) ?_
          rw [List.length_take, sizeLine_eq]
          omega
        · rw [upd_same, et, List.filter_append, nv_app]
          have e2 : [l.getD i 0].filter big = [l.getD i 0] := List.filter_cons_of_pos (show decide (1000 < l.getD i 0) = true from decide_eq_true (by omega))
          rw [e2]
          rfl
      · have c : ¬ (1000 : Int) < ((l.getD i 0 : Nat) : Int) := fun z => c (decide_eq_true z)
        refine ⟨s1, ?_⟩
        have e2 : [l.getD i 0].filter big = [] := List.filter_cons_of_neg (show ¬ decide (1000 < l.getD i 0) = true from fun z => absurd (of_decide_eq_true z) (by omega))
        rw [et, List.filter_append, e2, List.append_nil]
        exact hD
    · rintro H' ⟨s1, hD⟩
      rw [nv_len, List.take_length] at hD
      refine ⟨Nat.zero_le _, fun e0 ne => ?_⟩
      have nDe : D ≠ e0 := ne_of_none hD ne
      refine ⟨_, .list [], .lst (SqL.of (by rw [upd_ne nDe]; exact hD)) (dp_ints _), .lst (SqL.of upd_same) .nil, PySem.W.shaped_ints _, (by decide +kernel), ?_⟩
      rw [← small_iff]
      exact k _ (same_upd s1 ne)
end
end Mr

namespace Mr
open PySem PySem.Spec PyProof.Rows L2
section
variable {P : Program} {w : World} {K : PySem.W.Frag} {mg : Str → Option Value} {base : Heap} {C CH : Addr}
theorem scHI : FnScope ["self"] ["self"] (defScope sHInit) := ⟨rfl, rfl, rfl, by decide +kernel, rfl, by decide +kernel, by decide +kernel⟩
theorem nv_nil : nv [] = [] := rfl
/-- a new row stands -/
theorem row_new {H' : Hp} {x dx ba ha : Addr} {wt : Nat} {bs : List Nat} (hp : H' x = some (.ins C dx (rF (wt : Nat) ba ha))) (hb : H' ba = some (.lst (nv bs))) (hne : ba ≠ ha) (hh : H' ha = some (.lst [])) : RowAt C H' x ha [] ⟨wt, bs, []⟩ :=
  ⟨⟨dx, ba, hp, hb, hne⟩, LLs.nil hh⟩
theorem ok_hinit {f : Addr} {fd : FuncData} (F : Fun K "__init__" "Held.__init__" sHInit f fd) (T : Txt K mg C CH) (GR : Mkd P w K mg base C 1 ["self", "water", "basins"] (spRInit C)) : FnOk P w K mg base CX0 3 f fd ["self"] (spHInit C CH) := by
  obtain ⟨fr, fdr, M, br, Gr⟩ := GR.ex
  refine F.ok scHI (fun vs H Q E h => ?_) (fun cdv A outer s H vs Q E hr h => ?_)
  · obtain ⟨hd, dx, rfl, _⟩ := h
    rfl
  · obtain ⟨hd, dx, rfl, hh, k⟩ := h
    refine ⟨_, pss_one (ps_fld (pv 0) (pe_make M Gr hr rfl T.gC br .nil pass0 (pa_cons pe_int (pa_cons (pe_lst pa_nil) pa_nil))) rfl), ?_⟩
    refine ⟨Nat.zero_le _, fun ba nba => ?_⟩
    intro x dr nx ndr nedx
    refine ⟨x, dr, ba, 0, rfl, upd_same, fun H1 ha nha hx hhl kp => ⟨rfl, ?_⟩⟩
    have s1 : Same H (upd H ba (.lst [])) := same_new H nba
    have s2 : Same (upd H ba (.lst [])) H1 := Same.made nx ndr kp
    have hha0 : upd H ba (.lst []) ha = none := by
      have n1 : ha ≠ x := fun z => by rw [z, upd_same] at nha; cases nha
      rw [upd_ne n1] at nha
      have n2 : ha ≠ dr := fun z => by rw [z, upd_same] at nha; cases nha
      rw [upd_ne n2] at nha
      exact nha
    have nbh : ba ≠ ha := ne_of_none upd_same hha0
    have hd1 : H1 hd = some (.ins CH dx []) := s2 _ _ (s1 _ _ hh)
    refine ⟨_, rfl, hd, CH, dx, _, rfl, hd1, T.clH, T.nR, (by show 0 < 1000; decide), ?_⟩
    have nxh : x ≠ hd := fun z => by rw [z, s1 _ _ hh] at nx; cases nx
    have nbd : ba ≠ hd := fun z => by rw [z, hh] at nba; cases nba
    have nhd : ha ≠ hd := fun z => by rw [z, s1 _ _ hh] at hha0; cases hha0
    refine k _ x ha [] (s1.free hha0) ⟨⟨dx, upd_same⟩, row_new (wt := 0) (bs := []) (by rw [upd_ne nxh]; exact hx) (by rw [upd_ne nbd]; exact s2 _ _ upd_same) nbh (by rw [upd_ne nhd]; exact hhl), wf_init⟩ fun b o e hb => ?_
    rw [upd_ne hb]
    exact s2 _ _ (s1 _ _ e)
theorem scBg : FnScope ["held", "water", "basins"] ["held", "water", "basins"] (defScope sBegins) := ⟨rfl, rfl, rfl, by decide +kernel, rfl, by decide +kernel, by decide +kernel⟩
theorem begins_no {r : Sj02.Row} {wt : Nat} {bs : List Nat} (h : 1000 < wt ∨ 4 ≤ bs.length ∨ small bs = false) : Sj02.step r (.begins wt bs) = (r, Sj02.ok (-1)) := if_pos h
theorem begins_yes {r : Sj02.Row} {wt : Nat} {bs : List Nat} (h : ¬ (1000 < wt ∨ 4 ≤ bs.length ∨ small bs = false)) : Sj02.step r (.begins wt bs) = (⟨wt, bs, []⟩, Sj02.ok 0) := if_neg h
theorem ok_begins {f : Addr} {fd : FuncData} (F : Fun K "begins" "begins" sBegins f fd) (T : Txt K mg C CH) (GR : Mkd P w K mg base C 1 ["self", "water", "basins"] (spRInit C)) (GS : Cd P w K mg base "are_small" 1 ["numbers"] spSmall) :
    FnOk P w K mg base CX0 3 f fd ["held", "water", "basins"] (spBegins C CH) := by
  obtain ⟨fr, fdr, M, br, Gr⟩ := GR.ex
  obtain ⟨fs, fds, ms, ks, bs', Gs⟩ := GS.ex
  refine F.ok scBg (fun vs H Q E h => ?_) (fun cdv A outer s H vs Q E hr h => ?_)
  · obtain ⟨hd, p, ha, b, as, r, wt, bs, rfl, _⟩ := h
    rfl
  · obtain ⟨hd, p, ha, b, as, r, wt, bs, rfl, HA, hb, h40, k⟩ := h
    have hr1 : Room 1 _ := hr.mono (by decide)
    refine ⟨_, pss_cons (ps_if (PW.pt (pw_or (pt_cmpR op_gt (pv 1) (pe_gi T.gW rfl) (nomark _)) (pw_or (pt_cmpR op_gt (pe_callB call_len_seq (by rfl) T.len PySem.boot_len (pa_cons (pv 2) pa_nil)) (pe_gi T.gB rfl) (nomark _))
        (pw_or1 (pt_not (pt_val (pe_call Gs hr1 rfl ms ks bs' .nil pass0 (pa_cons (pv 2) pa_nil)))))))) (pss_one (ps_ret (pe_lst (pa_cons (pe_un un_neg pe_int) pa_nil)))) pss_nil)
      (pss_cons (ps_fld (pv 0) (pe_make M Gr hr rfl T.gC br .nil pass0 (pa_cons (pv 1) (pa_cons (pe_callTy call_list_of (by rfl) T.list (by decide +kernel) (pa_cons (pv 2) pa_nil)) pa_nil))) rfl)
      (pss_one (ps_ret (pe_lst (pa_cons pe_int pa_nil))))), ?_⟩
    have no : (1000 < wt ∨ 4 ≤ bs.length ∨ small bs = false) → ∀ H1, Same H H1 → ∀ q, H1 q = none → Q (.ref q) (upd H1 q (.lst [.int (-1)])) := fun c H1 s1 q nq => by
      rw [begins_no c] at k
      exact k _ p ha as q (HA.same (same_upd s1 nq)) (fun b o e _ _ => same_upd s1 nq b o e) (.inl rfl) (fun x o _ f => f.of (by obtain ⟨dx, ba, h1, _, _⟩ := HA.row.ex; rw [h1]; exact same_upd s1 nq _ _ h1) id) (s1.free nq) upd_same
    refine ⟨_, rfl, _, _, rfl, rfl, _, rfl, ite2 (fun c1 => iteT ?_) (fun c1 => ?_)⟩
    · have c1 : (1000 : Int) < (wt : Int) := of_decide_eq_true c1
      exact ⟨_, rfl, (by show 1 ≤ sizeLine; decide), no (.inl (by omega)) H (Same.refl H)⟩
    have c1 : ¬ (1000 : Int) < (wt : Int) := fun z => c1 (decide_eq_true z)
    refine ⟨_, rfl, b, _, rfl, .inl (SqL.of hb), _, _, rfl, rfl, _, rfl, ite2 (fun c2 => iteT ?_) (fun c2 => ?_)⟩
    · have c2 : (3 : Int) < ((nv bs).length : Int) := of_decide_eq_true c2
      rw [nv_len] at c2
      exact ⟨_, rfl, (by show 1 ≤ sizeLine; decide), no (.inr (.inl (by omega))) H (Same.refl H)⟩
    have c2 : ¬ (3 : Int) < ((nv bs).length : Int) := fun z => c2 (decide_eq_true z)
    rw [nv_len] at c2
    refine ⟨_, rfl, b, bs, rfl, hb, h40, fun H1 s1 => ⟨_, rfl, ?_⟩⟩
    cases c3 : small bs with
    | false => exact iteT ⟨_, rfl, (by show 1 ≤ sizeLine; decide), no (.inr (.inr c3)) H1 s1⟩
    | true =>
      refine iteF ?_
      have cn : ¬ (1000 < wt ∨ 4 ≤ bs.length ∨ small bs = false) := fun z => by
        rcases z with z | z | z
        · omega
        · omega
        · rw [c3] at z
          cases z
      rw [begins_yes cn] at k
      -- held.row = MillRow(water, list(basins))
      refine ⟨_, rfl, _, rfl, b, _, rfl, .inl (SqL.of (s1 _ _ hb)), fun ba nba => ?_⟩
      intro x dr nx ndr nedx
      refine ⟨x, dr, ba, (wt : Int), rfl, upd_same, fun H2 hn nhn hx hhl kp => ⟨rfl, ?_⟩⟩
      have s2 : Same H1 (upd H1 ba (.lst (nv bs))) := same_new H1 nba
      have s3 : Same (upd H1 ba (.lst (nv bs))) H2 := Same.made nx ndr kp
      have hha0 : upd H1 ba (.lst (nv bs)) hn = none := by
        have n1 : hn ≠ x := fun z => by rw [z, upd_same] at nhn; cases nhn
        rw [upd_ne n1] at nhn
        have n2 : hn ≠ dr := fun z => by rw [z, upd_same] at nhn; cases nhn
        rw [upd_ne n2] at nhn
        exact nhn
      obtain ⟨dh, hh⟩ := HA.obj
      have hh1 := s1 _ _ hh
      have hd1 : H2 hd = some (.ins CH dh (hF p)) := s3 _ _ (s2 _ _ hh1)
      refine ⟨_, rfl, hd, CH, dh, _, rfl, hd1, T.clH, T.nR, (by show 1 < 1000; decide), ?_⟩
      have nxh : x ≠ hd := fun z => by rw [z, s2 _ _ hh1] at nx; cases nx
      have nbd : ba ≠ hd := fun z => by rw [z, hh1] at nba; cases nba
      have nhd : hn ≠ hd := fun z => by rw [z, s2 _ _ hh1] at hha0; cases hha0
      have nbh : ba ≠ hn := ne_of_none upd_same hha0
      -- return [0]
      refine ⟨(by show 1 ≤ sizeLine; decide), fun q nq => ?_⟩
      have hput : putF "row" (.ref x) (hF p) = hF x := put_here
      have eh : upd (upd H2 hd (.ins CH dh (putF "row" (.ref x) (hF p)))) q (.lst [.int 0]) = upd (upd H2 hd (.ins CH dh (hF x))) q (.lst [.int 0]) := by rw [hput]
      show Q (.ref q) (upd (upd H2 hd (.ins CH dh (putF "row" (.ref x) (hF p)))) q (.lst [.int 0]))
      have nq' : upd H2 hd (.ins CH dh (putF "row" (.ref x) (hF p))) q = none := nq
      rw [hput] at nq' ⊢
      have sq := same_new (upd H2 hd (.ins CH dh (hF x))) (o := .lst [.int 0]) nq'
      have nqh : q ≠ hd := fun z => by rw [z, upd_same] at nq'; cases nq'
      have nq2 : H2 q = none := by rw [upd_ne nqh] at nq'; exact nq'
      have hw0 : (wt : Int) = ((wt : Nat) : Int) := rfl
      refine k _ x hn [] q ⟨⟨dh, sq _ _ upd_same⟩, RowAt.same (row_new (by rw [upd_ne nxh]; exact hx) (by rw [upd_ne nbd]; exact s3 _ _ upd_same) nbh (by rw [upd_ne nhd]; exact hhl)) sq, ⟨(show bs.length ≤ 3 by omega), Nat.zero_le _, fun h m => by cases m⟩⟩ (fun b o e hb _ => ?_) (.inr (s1.free (s2.free hha0))) (fun y o e _ => ⟨ne_of_none e (s1.free (s2.free hha0)), (by simp), fun dx w ba' z => ?_⟩) (s1.free (s2.free (s3.free nq2))) upd_same
      · refine sq _ _ ?_
        rw [upd_ne hb]
        exact s3 _ _ (s2 _ _ (s1 _ _ e))
      · have z2 := sq x _ (show upd H2 hd (.ins CH dh (hF x)) x = some _ by rw [upd_ne nxh]; exact hx)
        rw [z2] at z
        have z := Option.some.inj z
        injection z with _ _ z
        rw [← rF_inj z]
        exact Ne.symm (ne_of_none (s1 _ _ e) nba)
theorem scHo : FnScope ["row", "cans"] ["row", "cans"] (defScope sHour) := ⟨rfl, rfl, rfl, by decide +kernel, rfl, by decide +kernel, by decide +kernel⟩
theorem hour_no {r : Sj02.Row} {h : List Nat} (c : h.length ≠ r.mills ∨ small h = false) : Sj02.step r (.hour h) = (r, Sj02.ok (-1)) := if_pos c
theorem hour_many {r : Sj02.Row} {h : List Nat} (c : ¬ (h.length ≠ r.mills ∨ small h = false)) (c2 : 8 ≤ r.hours.length) : Sj02.step r (.hour h) = (r, Sj02.ok (-5)) := (if_neg c).trans (if_pos c2)
theorem hour_yes {r : Sj02.Row} {h : List Nat} (c : ¬ (h.length ≠ r.mills ∨ small h = false)) (c2 : ¬ 8 ≤ r.hours.length) : Sj02.step r (.hour h) = ({ r with hours := r.hours ++ [h] }, Sj02.ok ((r.hours.length : Nat) : Int)) := (if_neg c).trans (if_neg c2)
theorem ok_hour {f : Addr} {fd : FuncData} (F : Fun K "hour" "hour" sHour f fd) (T : Txt K mg C CH) (GM : Md P w K mg base C "mills" 1 ["self"] (spMills C)) (GS : Cd P w K mg base "are_small" 1 ["numbers"] spSmall) :
    FnOk P w K mg base CX0 2 f fd ["row", "cans"] (spHour C) := by
  obtain ⟨fm, fdm, mm, bm, Gm⟩ := GM.ex
  obtain ⟨fs, fds, ms, ks, bs', Gs⟩ := GS.ex
  refine F.ok scHo (fun vs H Q E h => ?_) (fun cdv A outer s H vs Q E hr h => ?_)
  · obtain ⟨p, ha, b, as, r, h, rfl, _⟩ := h
    rfl
  · obtain ⟨p, ha, b, as, r, h, rfl, R, W, hb, h40, k⟩ := h
    obtain ⟨dx, ba, hp, hba, nbh⟩ := R.ex
    refine ⟨_, pss_cons (ps_if (PW.pt (pw_or (pt_cmpR op_ne (pe_callB call_len_seq (by rfl) T.len PySem.boot_len (pa_cons (pv 1) pa_nil)) (pe_meth0 (pv 0) T.cl mm Gm hr bm .nil pass0) (nomark _))
        (pw_or1 (pt_not (pt_val (pe_call Gs hr rfl ms ks bs' .nil pass0 (pa_cons (pv 1) pa_nil))))))) (pss_one (ps_ret (pe_lst (pa_cons (pe_un un_neg pe_int) pa_nil)))) pss_nil)
      (pss_cons (ps_if (pt_cmpR op_ge (pe_callB call_len_seq (by rfl) T.len PySem.boot_len (pa_cons (pe_fld (pv 0) rfl) pa_nil)) (pe_gi T.gH rfl) (nomark _)) (pss_one (ps_ret (pe_lst (pa_cons (pe_un un_neg pe_int) pa_nil)))) pss_nil)
      (pss_cons (ps_expr (pe_bm PySem.F.plainAttrs_list PySem.F.slot_list_append PySem.F.type_list_append mt_append (pe_fld (pv 0) rfl) (pa_cons (pe_callTy call_list_of (by rfl) T.list (by decide +kernel) (pa_cons (pv 1) pa_nil)) pa_nil)))
      (pss_one (ps_ret (pe_lst (pa_cons (pe_op op_sub (pe_callB call_len_seq (by rfl) T.len PySem.boot_len (pa_cons (pe_fld (pv 0) rfl) pa_nil)) pe_int) pa_nil)))))), ?_⟩
    have no : (h.length ≠ r.mills ∨ small h = false) → ∀ H1, Same H H1 → ∀ q, H1 q = none → Q (.ref q) (upd H1 q (.lst [.int (-1)])) := fun c H1 s1 q nq => by
      rw [hour_no c] at k
      exact k _ as q (R.same (same_upd s1 nq)) (fun b o e _ => same_upd s1 nq b o e) (fun _ _ _ f => f) (s1.free nq) upd_same
    refine ⟨_, rfl, b, _, rfl, .inl (SqL.of hb), _, rfl, p, dx, _, rfl, hp, rF_mills _ _ _, p, ha, as, r, rfl, R, rfl, _, rfl, ?_⟩
    by_cases c1 : h.length = r.mills
    · have e1 : V.int ((nv h).length : Int) = V.int ((r.mills : Nat) : Int) := by rw [nv_len, c1]
      refine iteNS e1 ?_
      refine ⟨_, rfl, b, h, rfl, hb, h40, fun H1 s1 => ⟨_, rfl, ?_⟩⟩
      cases c3 : small h with
      | false => exact iteT ⟨_, rfl, (by show 1 ≤ sizeLine; decide), no (.inr c3) H1 s1⟩
      | true =>
        refine iteF ?_
        have cn : ¬ (h.length ≠ r.mills ∨ small h = false) := fun z => by
          rcases z with z | z
          · exact z c1
          · rw [c3] at z
            cases z
        have R1 := R.same s1
        have hp1 := s1 _ _ hp
        have hal : as.length = r.hours.length := R.hrs.len
        refine ⟨_, rfl, p, C, dx, _, _, rfl, hp1, T.cl, T.nH, rF_hours _ _ _, ha, _, rfl, .inl (SqL.of R1.hrs.lst), _, _, rfl, rfl, _, rfl, ite2 (fun c4 => ?_) (fun c4 => ?_)⟩
        · have c4 : (8 : Int) ≤ ((as.map V.ref).length : Int) := of_decide_eq_true c4
          rw [List.length_map, hal] at c4
          refine ⟨_, rfl, (by show 1 ≤ sizeLine; decide), fun q nq => ?_⟩
          rw [hour_many cn (by omega)] at k
          exact k _ as q (R.same (same_upd s1 nq)) (fun b o e _ => same_upd s1 nq b o e) (fun _ _ _ f => f) (s1.free nq) upd_same
        · have c4 : ¬ (8 : Int) ≤ ((as.map V.ref).length : Int) := fun z => c4 (decide_eq_true z)
          rw [List.length_map, hal] at c4
          rw [hour_yes cn (by omega)] at k
          -- row.hours.append(list(cans))
          refine ⟨_, rfl, p, C, dx, _, _, rfl, hp1, T.cl, T.nH, rF_hours _ _ _, .inl ⟨rfl, _, SqL.of R1.hrs.lst⟩, _, rfl, b, _, rfl, .inl (SqL.of (s1 _ _ hb)), fun n nn => ?_⟩
          have s2 := same_upd (o := .lst (nv h)) s1 nn
          have R2 := R.same s2
          have nnh : n ≠ ha := fun z => by rw [z, R1.hrs.lst] at nn; cases nn
          refine ⟨ha, _, _, rfl, rfl, R2.hrs.lst, (by rw [List.length_map, hal, sizeLine_eq]; omega), ?_⟩
          have L3 := R2.hrs.push (a := n) (h := h) upd_same nnh
          have npa : p ≠ ha := ne_of (s2 _ _ hp) R2.hrs.lst (by intro z; cases z)
          -- return [len(row.hours) - 1]
          refine ⟨_, rfl, p, C, dx, _, _, rfl, (by rw [upd_ne npa]; exact s2 _ _ hp), T.cl, T.nH, rF_hours _ _ _, ha, _, rfl, .inl (SqL.of upd_same), _, _, rfl, rfl, (by show 1 ≤ sizeLine; decide), fun q nq => ?_⟩
          have sq := same_new _ (o := .lst [.int (((as.map V.ref ++ [V.ref n]).length : Int) - 1)]) nq
          refine k _ (as ++ [n]) q ⟨⟨dx, ba, sq _ _ (by rw [upd_ne npa]; exact s2 _ _ hp), sq _ _ (by rw [upd_ne nbh]; exact s2 _ _ hba), nbh⟩, L3.same sq⟩ (fun b' o e hb' => ?_) (fun y o e f m => ?_) ?_ ?_
          · refine sq _ _ ?_
            rw [upd_ne hb']
            exact s2 _ _ e
          · rcases List.mem_append.mp m with z | z
            · exact f z
            · rcases List.mem_cons.mp z with z | z
              · rw [z, s1.free nn] at e
                cases e
              · cases z
          · have nqh : q ≠ ha := fun z => by rw [z, upd_same] at nq; cases nq
            rw [upd_ne nqh] at nq
            exact s2.free nq
          · rw [upd_same]
            have el : ((as.map V.ref ++ [V.ref n]).length : Int) - 1 = ((r.hours.length : Nat) : Int) := by
              rw [List.length_append, List.length_map, hal]
              show ((r.hours.length + 1 : Nat) : Int) - 1 = _
              omega
            show some (HO.lst [V.int (((as.map V.ref ++ [V.ref n]).length : Int) - 1)]) = _
            rw [el]
            rfl
    · have e1 : ¬ V.int ((nv h).length : Int) = V.int ((r.mills : Nat) : Int) := fun z => by
        have z := V.int.inj z
        rw [nv_len] at z
        exact c1 (by omega)
      rw [decide_eq_false e1]
      exact iteT ⟨_, rfl, (by show 1 ≤ sizeLine; decide), no (.inl c1) H (Same.refl H)⟩
end
end Mr

namespace Mr
open PySem PySem.Spec PyProof.Rows L2
section
variable {P : Program} {w : World} {K : PySem.W.Frag} {mg : Str → Option Value} {base : Heap} {C CH : Addr}
/-! ### check -/
theorem scCk : FnScope ["row", "plan", "many", "waters", "at", "cans", "wrong"] ["row", "plan"] (defScope sCheck) := ⟨rfl, rfl, rfl, by decide +kernel, rfl, by decide +kernel, by decide +kernel⟩
theorem told_iff (r : Sj02.Row) (l : List Nat) : (r.told l = true) ↔ l.length = r.hours.length * r.mills := by
  unfold Sj02.Row.told
  exact beq_iff_eq
theorem check_no {r : Sj02.Row} {l : List Nat} (h : ¬ l.length = r.hours.length * r.mills) : (Sj02.step r (.check l)).2 = Sj02.ok (-1) := by
  have e : r.told l = false := by
    cases q : r.told l with
    | false => rfl
    | true => exact absurd ((told_iff r l).mp q) h
  have q : Sj02.step r (.check l) = (r, Sj02.ok (-1)) := if_pos e
  rw [q]
theorem check_go {r : Sj02.Row} {l : List Nat} (h : l.length = r.hours.length * r.mills) : (Sj02.step r (.check l)).2 = match r.goes l r.hours.length 0 r.begun with
    | .error x => ⟨-6, Sj02.ints [x.1, x.2.1, x.2.2]⟩
    | .ok s => ⟨((s.getD r.mills 0 : Nat) : Int), Sj02.ints s⟩ := by
  have e : ¬ r.told l = false := by
    rw [(told_iff r l).mpr h]
    exact fun z => Bool.noConfusion z
  have q : Sj02.step r (.check l) = (r, match r.goes l r.hours.length 0 r.begun with
    | .error x => ⟨-6, Sj02.ints [x.1, x.2.1, x.2.2]⟩
    | .ok s => ⟨((s.getD r.mills 0 : Nat) : Int), Sj02.ints s⟩) := if_neg e
  rw [q]
theorem cut_part {r : Sj02.Row} {l : List Nat} {i : Nat} (hl : l.length = r.hours.length * r.mills) (hi : i < r.hours.length) : cutV (nv l) (some ((i : Int) * (r.mills : Int))) (some (((i : Int) + 1) * (r.mills : Int))) = nv (r.part l i) := by
  have h1 : (i + 1) * r.mills ≤ l.length := by rw [hl]; exact Nat.mul_le_mul_right _ hi
  have h2 : i * r.mills ≤ (i + 1) * r.mills := Nat.mul_le_mul_right _ (by omega)
  have q := cut_nv (l := l) h2 h1
  have e1 : ((i * r.mills : Nat) : Int) = (i : Int) * (r.mills : Int) := Int.natCast_mul ..
  have e2 : (((i + 1) * r.mills : Nat) : Int) = ((i : Int) + 1) * (r.mills : Int) := by rw [Int.natCast_mul]; rfl
  rw [e1, e2] at q
  rw [q]
  unfold Sj02.Row.part
  rw [Nat.succ_mul, Nat.add_sub_cancel_left]
theorem ok_check {f : Addr} {fd : FuncData} (F : Fun K "check" "check" sCheck f fd) (T : Txt K mg C CH) (GM : Md P w K mg base C "mills" 1 ["self"] (spMills C)) (GB : Md P w K mg base C "begin" 2 ["self"] (spBegin C))
    (GW : Cd P w K mg base "worked_hour" 3 ["row", "waters", "cans", "parts"] (spWorked C)) : FnOk P w K mg base CX0 4 f fd ["row", "plan"] (spCheck C) := by
  obtain ⟨fm, fdm, mm, bm, Gm⟩ := GM.ex
  obtain ⟨fb, fdb, mb, bb, Gb⟩ := GB.ex
  obtain ⟨fw, fdw, mw, kw, bw, Gw⟩ := GW.ex
  refine F.ok scCk (fun vs H Q E h => ?_) (fun cdv A outer s H vs Q E hr h => ?_)
  · obtain ⟨p, ha, b, as, r, l, _, _, rfl, _⟩ := h
    rfl
  · obtain ⟨p, ha, b, as, r, l, hb, h40, rfl, R, W, k⟩ := h
    have hr1 : Room 1 _ := hr.mono (by decide)
    have hr2 : Room 2 _ := hr.mono (by decide)
    obtain ⟨dx, ba, hp, hba, nbh⟩ := R.ex
    refine ⟨_, pss_cons (ps_set (i := 2) scCk.nd rfl (Or.inl rfl) (pe_meth0 (pv 0) T.cl mm Gm hr1 bm .nil pass0))
      (pss_cons (ps_if (pt_cmpR op_ne (pe_callB call_len_seq (by rfl) T.len PySem.boot_len (pa_cons (pv 1) pa_nil)) (pe_op op_mul (pv 2) (pe_callB call_len_seq (by rfl) T.len PySem.boot_len (pa_cons (pe_fld (pv 0) rfl) pa_nil))) (nomark _)) (pss_one (ps_ret (pe_lst (pa_cons (pe_un un_neg pe_int) pa_nil)))) pss_nil)
      (pss_cons (ps_set (i := 3) scCk.nd rfl (Or.inl rfl) (pe_meth0 (pv 0) T.cl mb Gb hr2 bb .nil pass0))
      (pss_cons (ps_for PassesOwn.never rfl (pi_enum (by rfl) T.enumerate (pa_cons (pe_fld (pv 0) rfl) pa_nil)) (pg_tup rfl (pgs_cons (pg_name (i := 4) scCk.nd rfl (Or.inl rfl)) (pgs_cons (pg_name (i := 5) scCk.nd rfl (Or.inl rfl)) pgs_nil)))
        (pss_cons (ps_asg (pe_call Gw hr rfl mw kw bw .nil pass0 (pa_cons (pv 0) (pa_cons (pv 3) (pa_cons (pv 5) (pa_cons (pe_slice sl_list (pv 1) (po_some (pe_op op_mul (pv 4) (pv 2))) (po_some (pe_op op_mul (pe_op op_add (pv 4) pe_int) (pv 2)))) pa_nil)))))
            (pg_tup rfl (pgs_cons (pg_name (i := 3) scCk.nd rfl (Or.inl rfl)) (pgs_cons (pg_name (i := 6) scCk.nd rfl (Or.inl rfl)) pgs_nil))))
        (pss_one (ps_if (pt_cmpR op_notN (pv 6) pe_non (nomark _)) (pss_one (ps_ret (pe_op op_cat (pe_lst (pa_cons (pe_un un_neg pe_int) (pa_cons (pv 4) pa_nil))) (pv 6)))) pss_nil))))
      (pss_one (ps_ret (pe_op op_cat (pe_lst (pa_cons (pe_ix ix_list (pv 3) (pe_un un_neg pe_int) (fun _ _ => rfl)) pa_nil)) (pv 3))))))), ?_⟩
    have hm : r.mills ≤ 4 := by have := W.b; rw [mills_eq]; omega
    have hn8 := W.n
    have hal : as.length = r.hours.length := R.hrs.len
    refine ⟨_, rfl, p, dx, _, rfl, hp, rF_mills _ _ _, p, ha, as, r, rfl, R, ?_⟩
    refine ⟨_, rfl, b, _, rfl, .inl (SqL.of hb), _, rfl, _, rfl, p, C, dx, _, _, rfl, hp, T.cl, T.nH, rF_hours _ _ _, ha, _, rfl, .inl (SqL.of R.hrs.lst), _, _, rfl, rfl, .inl ⟨by omega, by omega⟩, rfl, _, rfl, ?_⟩
    have em : ((nv l).length : Int) = ((r.mills : Nat) : Int) * (((as.map V.ref).length : Nat) : Int) ↔ l.length = r.hours.length * r.mills := by
      rw [nv_len, List.length_map, hal, ← Int.natCast_mul, Nat.mul_comm r.hours.length]
      omega
    by_cases c1 : l.length = r.hours.length * r.mills
    · rw [check_go c1] at k
      refine iteNS (congrArg V.int (em.mpr c1)) ?_
      refine ⟨_, rfl, p, dx, _, rfl, hp, rF_begin _ _ _, p, ha, as, r, rfl, R, W.b, fun H1 wa s1 nwa hwa => ?_⟩
      have R1 := R.same s1
      refine ⟨_, rfl, p, C, dx, _, _, rfl, s1 _ _ hp, T.cl, T.nH, rF_hours _ _ _, ha, _, rfl, SqL.of R1.hrs.lst, ?_⟩
      refine for_it (walk_enum (K := K) (a := ha) (xs := as.map V.ref)) (fun i σ H' => ∃ (v4 v5 v6 : Option V) (wa : Addr) (u : List Nat), σ = [some (.ref p), some (.ref b), some (.int ((r.mills : Nat) : Int)), some (.ref wa), v4, v5, v6] ∧ Same H H' ∧ H' wa = some (.lst (nv u)) ∧ SOk r u ∧
        r.goes l r.hours.length 0 r.begun = r.goes l (r.hours.length - i) i u) ?_ ?_ ?_ ?_
      · exact ⟨none, none, none, wa, r.begun, rfl, s1, hwa, begun_ok r, rfl⟩
      · rintro i σ H' _ ⟨v4, v5, v6, wa, u, rfl, s3, _⟩
        exact SqL.of (R.same s3).hrs.lst
      · rintro i x σ H' H'' hi ⟨v4, v5, v6, wa, u, rfl, s3, hwa, ou, eq⟩ ⟨T0, x1, x2, rfl, nT, rfl, e1, e2⟩
        cases e1
        rw [List.length_map, hal] at hi
        obtain ⟨j, hj⟩ : ∃ j, r.hours.length - i = j + 1 := ⟨r.hours.length - i - 1, by omega⟩
        have hj2 : r.hours.length - (i + 1) = j := by omega
        rw [hj, goes_succ] at eq
        obtain ⟨ca, hca, hcar, hcl⟩ := R.hrs.item (List.getElem?_eq_getElem hi)
        have ex2 : x2 = .ref ca := Option.some.inj (e2.symm.trans hcar)
        subst ex2
        have eg : r.hours.getD i [] = r.hours[i] := by rw [List.getD_eq_getElem?_getD, List.getElem?_eq_getElem hi]; rfl
        rw [eg] at eq
        have hlh : r.hours[i].length = r.mills := W.l _ (List.getElem_mem hi)
        generalize r.hours[i] = h at eq hcl hlh
        have s4 := same_upd (o := .tup [.int (i : Nat), .ref ca]) s3 nT
        have hwa4 : upd H' T0 (.tup [.int (i : Nat), .ref ca]) wa = some (.lst (nv u)) := (upd_ne (ne_of_none hwa nT)).trans hwa
        refine ⟨T0, _, rfl, SqT.of upd_same, rfl, _, _, rfl, _, _, rfl, rfl, ?_⟩
        have hpl := part_len c1 hi
        refine ⟨_, rfl, _, rfl, _, rfl, _, rfl, _, rfl, _, rfl, _, _, rfl, rfl, .inl ⟨by omega, by omega⟩, _, rfl, _, rfl, _, _, rfl, rfl, _, rfl, _, _, rfl, rfl, .inl ⟨by omega, by omega⟩, _, rfl, b, _, rfl, SqL.of (s4 _ _ hb), fun la nla => ?_⟩
        have hcut := cut_part c1 hi
        have s5 := same_upd (o := .lst (cutV (nv l) (some ((i : Int) * (r.mills : Int))) (some (((i : Int) + 1) * (r.mills : Int))))) s4 nla
        refine ⟨p, ha, wa, ca, la, as, r, u, h, r.part l i, rfl, R.same s5, W.b, (by rw [upd_ne (ne_of_none hwa4 nla)]; exact hwa4), ou, s5 _ _ hcl, hlh, (by rw [← hcut]; exact upd_same), hpl, fun H5 t na u' eh s6 ht hna => ?_, fun H5 t na ea kk x eh s6 ht hea => ?_⟩
        · rw [eh] at eq
          refine ⟨t, _, rfl, SqT.of ht, rfl, _, _, rfl, _, _, rfl, rfl, ?_⟩
          refine ⟨_, rfl, rfl, _, rfl, iteNS rfl ?_⟩
          exact ⟨_, _, _, na, u', rfl, s5.trans s6, hna, hour_ok _ _ _ (Nat.le_refl _) ou eh, by rw [hj2]; exact eq⟩
        · rw [eh] at eq
          refine ⟨t, _, rfl, SqT.of ht, rfl, _, _, rfl, _, _, rfl, rfl, ?_⟩
          refine ⟨_, rfl, rfl, _, rfl, ite2 (fun _ => ?_) (fun c => absurd rfl c)⟩
          refine ⟨_, rfl, _, rfl, (by show 2 ≤ sizeLine; decide), fun a1 n1 => ?_⟩
          refine ⟨_, rfl, a1, ea, _, _, rfl, rfl, upd_same, (by rw [upd_ne (ne_of_none hea n1)]; exact hea), (by show 2 + 2 ≤ sizeLine; decide), fun q nq => ?_⟩
          have s7 := same_upd (o := .lst [.int (-6), .int (i : Nat)]) (s5.trans s6) n1
          refine k _ q (same_upd s7 nq) (s7.free nq) ?_
          rw [upd_same, eq]
          rfl
      · rintro σ H' ⟨v4, v5, v6, wa, u, rfl, s3, hwa, ou, eq⟩
        rw [List.length_map, hal, Nat.sub_self] at eq
        have eq : r.goes l r.hours.length 0 r.begun = .ok u := eq
        rw [eq] at k
        refine ⟨_, rfl, _, rfl, wa, _, _, _, rfl, rfl, SqL.of hwa, atI_m1 (n := r.mills) (by rw [nv_len]; exact ou.len) (nv_last ou.len), (by show 1 ≤ sizeLine; decide), fun a1 n1 => ?_⟩
        refine ⟨_, rfl, a1, wa, _, _, rfl, rfl, upd_same, (by rw [upd_ne (ne_of_none hwa n1)]; exact hwa), ?_, fun q nq => ?_⟩
        · rw [nv_len, ou.len, sizeLine_eq]
          show 1 + (r.mills + 1) ≤ 16777216
          omega
        · have s7 := same_upd (o := .lst [.int ((u.getD r.mills 0 : Nat) : Int)]) s3 n1
          exact k _ q (same_upd s7 nq) (s7.free nq) upd_same
    · rw [check_no c1] at k
      rw [decide_eq_false (fun z => c1 (em.mp (V.int.inj z)))]
      exact iteT ⟨_, rfl, (by show 1 ≤ sizeLine; decide), fun q nq => k _ q (same_new H nq) nq upd_same⟩
/-! ### full -/
theorem scFu : FnScope ["row", "waters", "parts", "found", "own"] ["row"] (defScope sFull) := ⟨rfl, rfl, rfl, by decide +kernel, rfl, by decide +kernel, by decide +kernel⟩
theorem full_told (r : Sj02.Row) : iv (told1 (Sj02.step r .full).2) = nv ((stand r r.hours r.begun).getD r.mills 0 :: (parts r r.hours r.begun).flatten) := by
  have e : told1 (Sj02.step r .full).2 = ((r.out : Nat) : Int) :: Sj02.ints ((r.full r.hours r.begun).flatMap fun x => x.1) := rfl
  rw [e, out_eq, flat_eq]
  rfl
theorem ok_full {f : Addr} {fd : FuncData} (F : Fun K "full" "full" sFull f fd) (T : Txt K mg C CH) (GF : Cd P w K mg base "full_hours" 4 ["row", "hours"] (spFullHours C)) : FnOk P w K mg base CX0 5 f fd ["row"] (spFull C) := by
  obtain ⟨fh, fdh, mh, kh, bh, Gh⟩ := GF.ex
  refine F.ok scFu (fun vs H Q E h => ?_) (fun cdv A outer s H vs Q E hr h => ?_)
  · obtain ⟨p, ha, as, r, rfl, _⟩ := h
    rfl
  · obtain ⟨p, ha, as, r, rfl, R, W, k⟩ := h
    obtain ⟨dx, ba, hp, hba, nbh⟩ := R.ex
    refine ⟨_, pss_cons (ps_asg (pe_call Gh hr rfl mh kh bh .nil pass0 (pa_cons (pv 0) (pa_cons (pe_fld (pv 0) rfl) pa_nil))) (pg_tup rfl (pgs_cons (pg_name (i := 1) scFu.nd rfl (Or.inl rfl)) (pgs_cons (pg_name (i := 2) scFu.nd rfl (Or.inl rfl)) pgs_nil))))
      (pss_cons (ps_set (i := 3) scFu.nd rfl (Or.inl rfl) (pe_lst (pa_cons (pe_ix ix_list (pe_ix ix_list (pv 1) (pe_un un_neg pe_int) (fun _ _ => rfl)) (pe_un un_neg pe_int) (fun _ _ => rfl)) pa_nil)))
      (pss_cons (ps_for PassesOwn.never rfl (pi_list (pv 2)) (pg_name (i := 4) scFu.nd rfl (Or.inl rfl)) (pss_one (ps_expr (pe_bm PySem.F.plainAttrs_list PySem.F.slot_list_extend PySem.F.type_list_extend mt_extend (pv 3) (pa_cons (pv 4) pa_nil)))))
      (pss_one (ps_ret (pv 3))))), ?_⟩
    have hm : r.mills ≤ 4 := by have := W.b; rw [mills_eq]; omega
    have hn8 := W.n
    refine ⟨_, rfl, _, rfl, p, C, dx, _, _, rfl, hp, T.cl, T.nH, rF_hours _ _ _, p, ha, ha, as, as, r, r.hours, rfl, R, W.b, R.hrs, hn8, W.l, fun H1 t wl pl was pas s1 ht LW LP => ?_⟩
    refine ⟨t, _, rfl, SqT.of ht, rfl, _, _, rfl, _, _, rfl, rfl, ?_⟩
    obtain ⟨la, hla, hlar, hlas⟩ := LW.item (waters_at (r := r) r.hours r.begun)
    have hwlen : was.length = r.hours.length + 1 := by rw [LW.len, waters_len]
    have ost := stand_ok (r := r) r.hours r.begun (begun_ok r)
    refine ⟨_, rfl, _, rfl, wl, _, _, _, rfl, rfl, SqL.of LW.lst, atI_m1 (n := r.hours.length) (by rw [List.length_map, hwlen]) hlar, _, rfl, la, _, _, _, rfl, rfl, SqL.of hlas, atI_m1 (n := r.mills) (by rw [nv_len]; exact ost.len) (nv_last ost.len), (by show 1 ≤ sizeLine; decide), fun fo nfo => ?_⟩
    have s2 := same_new H1 (o := .lst [.int (((stand r r.hours r.begun).getD r.mills 0 : Nat) : Int)]) nfo
    have LP2 := LP.same s2
    rw [full_told] at k
    generalize (stand r r.hours r.begun).getD r.mills 0 = ou at k s2 LP2
    have hplen : pas.length = r.hours.length := by rw [LP.len, parts_len]
    refine ⟨_, rfl, pl, rfl, ⟨_, SqL.of LP2.lst⟩, ?_⟩
    refine for_list (K := K) (a := pl) (xs := pas.map V.ref) (fun i σ H' => ∃ v4 : Option V, σ = [some (.ref p), some (.ref wl), some (.ref pl), some (.ref fo), v4] ∧ Same H1 H' ∧ H' fo = some (.lst (nv (ou :: ((parts r r.hours r.begun).take i).flatten)))) ?_ ?_ ?_ ?_
    · exact ⟨none, rfl, s2, upd_same⟩
    · rintro i σ H' _ ⟨v4, rfl, s3, _⟩
      exact SqL.of (LP.same s3).lst
    · rintro i x σ H' hi ⟨v4, rfl, s3, hfo⟩
      obtain ⟨ca, hca, rfl⟩ : ∃ ca, pas[i]? = some ca ∧ x = V.ref ca := by
        rw [List.getElem?_map] at hi
        cases e : pas[i]? with
        | none => rw [e] at hi; cases hi
        | some c => rw [e] at hi; exact ⟨c, rfl, (Option.some.inj hi).symm⟩
      obtain ⟨h, hh, hcl⟩ := LP.at_ i ca hca
      have hil : i < (parts r r.hours r.begun).length := (List.getElem?_eq_some_iff.mp hh).1
      rw [parts_len] at hil
      refine ⟨_, rfl, .inl ⟨rfl, _, SqL.of hfo⟩, _, rfl, fo, ca, _, _, rfl, rfl, hfo, s3 _ _ hcl, ?_, ?_⟩
      · rw [nv_len, nv_len, List.length_cons, flatten_len (m := r.mills) _ (fun q m => parts_each _ _ q (List.mem_of_mem_take m)), parts_each _ _ h (List.mem_of_getElem? hh), List.length_take, parts_len, sizeLine_eq]
        have h1 : min i r.hours.length * r.mills ≤ 8 * 4 := Nat.mul_le_mul (by omega) hm
        omega
      · refine ⟨_, rfl, same_updF s3 nfo, ?_⟩
        rw [upd_same, take_snoc hh, List.flatten_append, ← nv_app, List.cons_append]
        simp
    · rintro σ H' ⟨v4, rfl, s3, hfo⟩
      rw [List.length_map, hplen] at hfo
      have et : (parts r r.hours r.begun).take r.hours.length = parts r r.hours r.begun := by
        conv => lhs; rw [← parts_len r r.hours r.begun]
        exact List.take_length
      rw [et] at hfo
      exact ⟨_, rfl, k _ fo (s1.trans s3) (s1.free nfo) hfo⟩
end
end Mr

namespace Mr
open PySem PySem.Spec PyProof.Rows L2
section
variable {P : Program} {w : World} {K : PySem.W.Frag} {mg : Str → Option Value} {base : Heap} {C CH : Addr}
/-! ### soonest -/
theorem scSo : FnScope ["row", "much", "at", "waters"] ["row", "much"] (defScope sSoon) := ⟨rfl, rfl, rfl, by decide +kernel, rfl, by decide +kernel, by decide +kernel⟩
theorem soon_some {r : Sj02.Row} {n i : Nat} (h : r.soonest n = some i) : (Sj02.step r (.soonest n)).2 = Sj02.ok ((i : Nat) : Int) := by
  show (match r.soonest n with
    | none => Sj02.ok (-6)
    | some t => Sj02.ok ((t : Nat) : Int)) = _
  rw [h]
theorem soon_none {r : Sj02.Row} {n : Nat} (h : r.soonest n = none) : (Sj02.step r (.soonest n)).2 = Sj02.ok (-6) := by
  show (match r.soonest n with
    | none => Sj02.ok (-6)
    | some t => Sj02.ok ((t : Nat) : Int)) = _
  rw [h]
theorem ok_soon {f : Addr} {fd : FuncData} (F : Fun K "soonest" "soonest" sSoon f fd) (T : Txt K mg C CH) (GF : Cd P w K mg base "full_hours" 4 ["row", "hours"] (spFullHours C)) : FnOk P w K mg base CX0 5 f fd ["row", "much"] (spSoon C) := by
  obtain ⟨fh, fdh, mh, kh, bh, Gh⟩ := GF.ex
  refine F.ok scSo (fun vs H Q E h => ?_) (fun cdv A outer s H vs Q E hr h => ?_)
  · obtain ⟨p, ha, as, r, n, rfl, _⟩ := h
    rfl
  · obtain ⟨p, ha, as, r, n, rfl, R, W, k⟩ := h
    obtain ⟨dx, ba, hp, hba, nbh⟩ := R.ex
    refine ⟨_, pss_cons (ps_for PassesOwn.never rfl (pi_enum (by rfl) T.enumerate (pa_cons (pe_ix ix_tup (pe_call Gh hr rfl mh kh bh .nil pass0 (pa_cons (pv 0) (pa_cons (pe_fld (pv 0) rfl) pa_nil))) pe_int (fun _ _ => rfl)) pa_nil)) (pg_tup rfl (pgs_cons (pg_name (i := 2) scSo.nd rfl (Or.inl rfl)) (pgs_cons (pg_name (i := 3) scSo.nd rfl (Or.inl rfl)) pgs_nil)))
        (pss_one (ps_if (pt_cmpR op_ge (pe_ix ix_list (pv 3) (pe_un un_neg pe_int) (fun _ _ => rfl)) (pv 1) (nomark _)) (pss_one (ps_ret (pe_lst (pa_cons (pv 2) pa_nil)))) pss_nil)))
      (pss_one (ps_ret (pe_lst (pa_cons (pe_un un_neg pe_int) pa_nil)))), ?_⟩
    refine ⟨_, rfl, _, rfl, p, C, dx, _, _, rfl, hp, T.cl, T.nH, rF_hours _ _ _, p, ha, ha, as, as, r, r.hours, rfl, R, W.b, R.hrs, W.n, W.l, fun H1 t wl pl was pas s1 ht LW LP => ?_⟩
    refine ⟨t, _, _, _, rfl, rfl, SqT.of ht, at_of (j := 0) rfl rfl, wl, _, rfl, SqL.of LW.lst, ?_⟩
    have hwlen : was.length = r.hours.length + 1 := by rw [LW.len, waters_len]
    refine for_it (walk_enum (K := K) (a := wl) (xs := was.map V.ref)) (fun i σ H' => ∃ (v2 v3 : Option V), σ = [some (.ref p), some (.int (n : Int)), v2, v3] ∧ Same H1 H' ∧ ∀ j, j < i → ¬ n ≤ (0 :: r.outs).getD j 0) ?_ ?_ ?_ ?_
    · exact ⟨none, none, rfl, Same.refl H1, fun j hj => absurd hj (Nat.not_lt_zero _)⟩
    · rintro i σ H' _ ⟨v2, v3, rfl, s3, _⟩
      exact SqL.of (LW.same s3).lst
    · rintro i x σ H' H'' hi ⟨v2, v3, rfl, s3, hb⟩ ⟨T0, x1, x2, rfl, nT, rfl, e1, e2⟩
      cases e1
      rw [List.length_map, hwlen] at hi
      have hiw : i < (waters r r.hours r.begun).length := by rw [waters_len]; exact hi
      obtain ⟨ca, hca, hcar, hcl⟩ := LW.item (List.getElem?_eq_getElem hiw)
      have ex2 : x2 = .ref ca := Option.some.inj (e2.symm.trans hcar)
      subst ex2
      have hou := outs_at (r := r) (List.getElem?_eq_getElem hiw)
      have ou := waters_each (r := r) r.hours r.begun (begun_ok r) _ (List.getElem_mem hiw)
      generalize (waters r r.hours r.begun)[i] = u at hcl hou ou
      have s4 := same_upd (o := .tup [.int (i : Nat), .ref ca]) s3 nT
      refine ⟨T0, _, rfl, SqT.of upd_same, rfl, _, _, rfl, _, _, rfl, rfl, ?_⟩
      refine ⟨_, rfl, _, rfl, ca, _, _, _, rfl, rfl, SqL.of (s4 _ _ hcl), atI_m1 (n := r.mills) (by rw [nv_len]; exact ou.len) (nv_last ou.len), _, rfl, _, _, rfl, rfl, _, rfl, ite2 (fun c => ?_) (fun c => ?_)⟩
      · have c : (n : Int) ≤ ((u.getD r.mills 0 : Nat) : Int) := of_decide_eq_true c
        refine ⟨_, rfl, (by show 1 ≤ sizeLine; decide), fun q nq => ?_⟩
        rw [soon_some (soonest_some hi (by rw [hou]; omega) hb)] at k
        exact k _ q (same_upd (s1.trans s4) nq) ((s1.trans s4).free nq) upd_same
      · have c : ¬ (n : Int) ≤ ((u.getD r.mills 0 : Nat) : Int) := fun z => c (decide_eq_true z)
        refine ⟨_, _, rfl, s4, fun j hj => ?_⟩
        by_cases hji : j = i
        · subst hji
          rw [hou]
          omega
        · exact hb j (by omega)
    · rintro σ H' ⟨v2, v3, rfl, s3, hb⟩
      rw [List.length_map, hwlen] at hb
      refine ⟨_, rfl, (by show 1 ≤ sizeLine; decide), fun q nq => ?_⟩
      rw [soon_none (soonest_none hb)] at k
      exact k _ q (same_upd (s1.trans s3) nq) ((s1.trans s3).free nq) upd_same
/-! ### better -/
theorem scBt : FnScope ["row", "mill", "much", "hours", "cans"] ["row", "mill", "much"] (defScope sBetter) := ⟨rfl, rfl, rfl, by decide +kernel, rfl, by decide +kernel, by decide +kernel⟩
theorem better_no {r : Sj02.Row} {k d : Nat} (h : r.mills ≤ k) : (Sj02.step r (.better k d)).2 = Sj02.ok (-2) := by
  have q : Sj02.step r (.better k d) = (r, Sj02.ok (-2)) := if_pos h
  rw [q]
theorem better_big {r : Sj02.Row} {k d : Nat} (h : ¬ r.mills ≤ k) (h2 : 1000 < d) : (Sj02.step r (.better k d)).2 = Sj02.ok (-1) := by
  have q : Sj02.step r (.better k d) = (r, Sj02.ok (-1)) := (if_neg h).trans (if_pos h2)
  rw [q]
theorem better_yes {r : Sj02.Row} {k d : Nat} (h : ¬ r.mills ≤ k) (h2 : ¬ 1000 < d) : (Sj02.step r (.better k d)).2 = Sj02.ok (((stand r (r.hours.map (more k d)) r.begun).getD r.mills 0 : Nat) : Int) := by
  have q : Sj02.step r (.better k d) = (r, Sj02.ok (((r.better k d).out : Nat) : Int)) := (if_neg h).trans (if_neg h2)
  rw [q, better_out]
theorem cut_to {l : List Nat} {k : Nat} (h : k ≤ l.length) : cutV (nv l) none (some (k : Int)) = nv (l.take k) := by
  unfold cutV
  rw [HT.sIx_none, HT.sIx_nat, nv_len, Nat.min_eq_left h, nv_map, nv_map, List.map_take]
  rfl
theorem cut_from {l : List Nat} {k : Nat} (h : k + 1 ≤ l.length) : cutV (nv l) (some ((k : Int) + 1)) none = nv (l.drop (k + 1)) := by
  have e : ((k : Int) + 1) = ((k + 1 : Nat) : Int) := rfl
  unfold cutV
  rw [e, HT.sIx_none, HT.sIx_nat, nv_len, Nat.min_eq_left h, nv_map, nv_map, List.map_drop, List.take_of_length_le]
  rw [List.length_drop, List.length_map]
  exact Nat.le_refl _
theorem slK {X : Cx} (e : X.K = K) : SlR X (rSlL K) := e ▸ sl_list
theorem ixK {X : Cx} (e : X.K = K) : IxR X (rIxL K) := e ▸ ix_list
theorem ok_better {f : Addr} {fd : FuncData} (F : Fun K "better" "better" sBetter f fd) (T : Txt K mg C CH) (GM : Md P w K mg base C "mills" 1 ["self"] (spMills C)) (GF : Cd P w K mg base "full_hours" 4 ["row", "hours"] (spFullHours C)) :
    FnOk P w K mg base CX0 5 f fd ["row", "mill", "much"] (spBetter C) := by
  obtain ⟨fm, fdm, mm, bm, Gm⟩ := GM.ex
  obtain ⟨fh, fdh, mh, kh, bh, Gh⟩ := GF.ex
  refine F.ok scBt (fun vs H Q E h => ?_) (fun cdv A outer s H vs Q E hr h => ?_)
  · obtain ⟨p, ha, as, r, k, d, rfl, _⟩ := h
    rfl
  · obtain ⟨p, ha, as, r, m, d, rfl, R, W, k⟩ := h
    have hr1 : Room 1 _ := hr.mono (by decide)
    obtain ⟨dx, ba, hp, hba, nbh⟩ := R.ex
    refine ⟨_, pss_cons (ps_if (pt_cmpR op_ge (pv 1) (pe_meth0 (pv 0) T.cl mm Gm hr1 bm .nil pass0) (nomark _)) (pss_one (ps_ret (pe_lst (pa_cons (pe_un un_neg pe_int) pa_nil)))) pss_nil)
      (pss_cons (ps_if (pt_cmpR op_gt (pv 2) (pe_gi T.gW rfl) (nomark _)) (pss_one (ps_ret (pe_lst (pa_cons (pe_un un_neg pe_int) pa_nil)))) pss_nil)
      (pss_cons (ps_setLc (i := 3) (own := [("cans", 4)]) (g := gName 4) (tt := tYes) (by rfl) scBt.nd rfl rfl (sw_true rfl rfl rfl (by decide +kernel)) (pi_list (pe_fld (pv 0) rfl)) (blkOk_by (own := [("cans", 4)]) (N := ["row", "mill", "much", "hours", "cans"]) (sc := defScope sBetter) (by decide +kernel))
          (fun _ _ _ _ _ => pg_name (i := 4) scBt.nd rfl (Or.inl rfl)) (fun _ _ _ _ _ => pts_nil)
          (fun _ _ _ _ _ => pe_op op_cat (pe_op op_cat (pe_slice (slK (K := K) rfl) (pv 4) po_none (po_some (pv 1))) (pe_lst (pa_cons (pe_op op_add (pe_ix (ixK (K := K) rfl) (pv 4) (pv 1) (fun _ _ => rfl)) (pv 2)) pa_nil))) (pe_slice (slK (K := K) rfl) (pv 4) (po_some (pe_op op_add (pv 1) pe_int)) po_none)))
      (pss_one (ps_ret (pe_lst (pa_cons (pe_ix ix_list (pe_ix ix_list (pe_ix ix_tup (pe_call Gh hr rfl mh kh bh .nil pass0 (pa_cons (pv 0) (pa_cons (pv 3) pa_nil))) pe_int (fun _ _ => rfl)) (pe_un un_neg pe_int) (fun _ _ => rfl)) (pe_un un_neg pe_int) (fun _ _ => rfl)) pa_nil)))))), ?_⟩
    have hm : r.mills ≤ 4 := by have := W.b; rw [mills_eq]; omega
    have hn8 := W.n
    refine ⟨_, rfl, _, rfl, p, dx, _, rfl, hp, rF_mills _ _ _, p, ha, as, r, rfl, R, _, _, rfl, rfl, _, rfl, ite2 (fun c1 => ?_) (fun c1 => ?_)⟩
    · have c1 : ((r.mills : Nat) : Int) ≤ (m : Int) := of_decide_eq_true c1
      rw [better_no (by omega)] at k
      exact ⟨_, rfl, (by show 1 ≤ sizeLine; decide), fun q nq => k _ q (same_new H nq) nq upd_same⟩
    have c1 : ¬ ((r.mills : Nat) : Int) ≤ (m : Int) := fun z => c1 (decide_eq_true z)
    refine ⟨_, rfl, _, _, rfl, rfl, _, rfl, ite2 (fun c2 => ?_) (fun c2 => ?_)⟩
    · have c2 : (1000 : Int) < (d : Int) := of_decide_eq_true c2
      rw [better_big (by omega) (by omega)] at k
      exact ⟨_, rfl, (by show 1 ≤ sizeLine; decide), fun q nq => k _ q (same_new H nq) nq upd_same⟩
    have c2 : ¬ (1000 : Int) < (d : Int) := fun z => c2 (decide_eq_true z)
    rw [better_yes (by omega) (by omega)] at k
    have hal : as.length = r.hours.length := R.hrs.len
    -- hours = [.. for cans in row.hours]
    refine ⟨_, rfl, p, C, dx, _, _, rfl, hp, T.cl, T.nH, rF_hours _ _ _, ha, rfl, ⟨_, SqL.of R.hrs.lst⟩, fun D nD => lc_list (K := K) (a := ha) (xs := as.map V.ref) (fun i H' => ∃ bs, Same H H' ∧ LLs H' D bs ((r.hours.take i).map (more m d))) ⟨[], same_new H nD, LLs.nil upd_same⟩ (fun i H' _ ⟨_, s1, _⟩ => SqL.of (R.same s1).hrs.lst) ?_ ?_⟩
    · rintro i x H' hi ⟨bs, s1, LD⟩
      have hil : i < r.hours.length := by
        have := (List.getElem?_eq_some_iff.mp hi).1
        rw [List.length_map, hal] at this
        exact this
      obtain ⟨ca, hca, hcar, hcl⟩ := R.hrs.item (List.getElem?_eq_getElem hil)
      have ex : x = .ref ca := Option.some.inj (hi.symm.trans hcar)
      subst ex
      have hlh : r.hours[i].length = r.mills := W.l _ (List.getElem_mem hil)
      have et := take_snoc (List.getElem?_eq_getElem hil)
      rw [et, List.map_append]
      generalize r.hours[i] = h at hcl hlh
      have hmh : m < h.length := by omega
      have hbl : bs.length = i := by rw [LD.len, List.length_map, List.length_take]; omega
      refine ⟨rfl, ?_⟩
      -- cans[:mill]
      refine ⟨_, rfl, _, rfl, _, rfl, ca, _, rfl, SqL.of (s1 _ _ hcl), fun q1 n1 => ?_⟩
      rw [cut_to (Nat.le_of_lt hmh)]
      have t1 := same_new H' (o := .lst (nv (h.take m))) n1
      -- [cans[mill] + much]
      refine ⟨_, rfl, _, rfl, ca, _, _, _, rfl, rfl, SqL.of (t1 _ _ (s1 _ _ hcl)), atI_nat (nv_at hmh), _, rfl, _, _, rfl, rfl, (by show 1 ≤ sizeLine; decide), fun q2 n2 => ?_⟩
      have t2 := same_upd (o := .lst [.int (((h.getD m 0 : Nat) : Int) + (d : Int))]) t1 n2
      have h21 : upd (upd H' q1 (.lst (nv (h.take m)))) q2 (.lst [.int (((h.getD m 0 : Nat) : Int) + (d : Int))]) q1 = some (.lst (nv (h.take m))) := (upd_ne (ne_of_none upd_same n2)).trans upd_same
      refine ⟨q1, q2, _, _, rfl, rfl, h21, upd_same, ?_, fun q3 n3 => ?_⟩
      · rw [nv_len, List.length_take, sizeLine_eq]
        show min m h.length + 1 ≤ 16777216
        omega
      have e3 : nv (h.take m) ++ [V.int (((h.getD m 0 : Nat) : Int) + (d : Int))] = nv (h.take m ++ [h.getD m 0 + d]) := by
        rw [nv_app]
        rfl
      rw [e3]
      have t3 := same_upd (o := .lst (nv (h.take m ++ [h.getD m 0 + d]))) t2 n3
      -- cans[mill + 1:]
      refine ⟨_, rfl, _, rfl, _, _, rfl, rfl, _, rfl, ca, _, rfl, SqL.of (t3 _ _ (s1 _ _ hcl)), fun q4 n4 => ?_⟩
      rw [cut_from hmh]
      have t4 := same_upd (o := .lst (nv (h.drop (m + 1)))) t3 n4
      refine ⟨q3, q4, _, _, rfl, rfl, (upd_ne (ne_of_none upd_same n4)).trans upd_same, upd_same, ?_, fun q5 n5 => ?_⟩
      · rw [nv_len, nv_len, List.length_append, List.length_take, List.length_drop, sizeLine_eq]
        show min m h.length + 1 + (h.length - (m + 1)) ≤ 16777216
        omega
      rw [← nv_app, ← more_eq hmh]
      have t5 := same_upd (o := .lst (nv (more m d h))) t4 n5
      have LD5 := LD.same t5
      have nq5 : q5 ≠ D := fun z => by rw [z, (LD.same t4).lst] at n5; cases n5
      refine ⟨_, LD5.lst, (by rw [List.length_map, hbl, sizeLine_eq]; omega), bs ++ [q5], same_updF (s1.trans t5) nD, ?_⟩
      exact LD5.push upd_same nq5
    · rintro H' ⟨bs, s1, LD⟩
      rw [List.length_map, hal, List.take_length] at LD
      refine ⟨_, rfl, _, rfl, p, ha, D, as, bs, r, r.hours.map (more m d), rfl, R.same s1, W.b, LD, (by rw [List.length_map]; exact hn8), (fun h hh => ?_), fun H1 t wl pl was pas s2 ht LW LP => ?_⟩
      · obtain ⟨g, hg, rfl⟩ := List.mem_map.mp hh
        rw [more_len]
        exact W.l g hg
      · obtain ⟨la, hla, hlar, hlas⟩ := LW.item (waters_at (r := r) (r.hours.map (more m d)) r.begun)
        have hwlen : was.length = (r.hours.map (more m d)).length + 1 := by rw [LW.len, waters_len]
        have ost := stand_ok (r := r) (r.hours.map (more m d)) r.begun (begun_ok r)
        refine ⟨t, _, _, _, rfl, rfl, SqT.of ht, at_of (j := 0) rfl rfl, _, rfl, wl, _, _, _, rfl, rfl, SqL.of LW.lst, atI_m1 (by rw [List.length_map, hwlen]) hlar, _, rfl, la, _, _, _, rfl, rfl, SqL.of hlas, atI_m1 (n := r.mills) (by rw [nv_len]; exact ost.len) (nv_last ost.len), (by show 1 ≤ sizeLine; decide), fun q nq => ?_⟩
        exact k _ q (same_upd (s1.trans s2) nq) ((s1.trans s2).free nq) upd_same
end
end Mr

namespace Mr
open PySem PySem.Spec PyProof.Rows L2
section
variable {P : Program} {w : World} {K : PySem.W.Frag} {mg : Str → Option Value} {base : Heap} {C CH : Addr}
/-! ### answer -/
theorem scAn : FnScope ["held", "call", "numbers", "row"] ["held", "call", "numbers", "row"] (defScope sAnswer) := ⟨rfl, rfl, rfl, by decide +kernel, rfl, by decide +kernel, by decide +kernel⟩
theorem if_eq {i j : Int} {A B : Prop} (e : i = j) (h : A) : if decide (V.int i = V.int j) = true then A else B := by
  rw [decide_eq_true (congrArg V.int e)]
  exact iteT h
theorem if_ne {i j : Int} {A B : Prop} (e : i ≠ j) (h : B) : if decide (V.int i = V.int j) = true then A else B := by
  rw [decide_eq_false fun z => e (V.int.inj z)]
  exact iteF h
theorem check_row (r : Sj02.Row) (l : List Nat) : (Sj02.step r (.check l)).1 = r := by
  show (if _ then (r, Sj02.ok (-1)) else (r, _)).1 = r
  split <;> rfl
theorem better_row (r : Sj02.Row) (k d : Nat) : (Sj02.step r (.better k d)).1 = r := by
  show (if _ then (r, Sj02.ok (-2)) else if _ then (r, Sj02.ok (-1)) else (r, _)).1 = r
  split
  · rfl
  · split <;> rfl
/-- a call that leaves the row as it is -/
theorem behind_ask {H : Hp} {hd p ha : Addr} {as : List Addr} {r : Sj02.Row} {q : Sj02.Call} {Q : VK} (HA : HeldAt C CH H hd p ha as r) (e : (Sj02.step r q).1 = r) (k : Behind C CH H hd p ha as (Sj02.step r q) Q) :
    ∀ (H' : Hp) (t : Addr), Same H H' → H t = none → H' t = some (.lst (iv (told1 (Sj02.step r q).2))) → Q (.ref t) H' := fun H' t s n h =>
  k H' p ha as t (by rw [e]; exact HA.same s) (fun b o z _ _ => s b o z) (.inl rfl) (fun x o _ f => f.of (by obtain ⟨dx, ba, h1, _, _⟩ := HA.row.ex; rw [h1]; exact s _ _ h1) id) n h
theorem ok_answer {f : Addr} {fd : FuncData} (F : Fun K "answer" "answer" sAnswer f fd) (T : Txt K mg C CH) (G0 : Cd P w K mg base "begins" 3 ["held", "water", "basins"] (spBegins C CH)) (G1 : Cd P w K mg base "hour" 2 ["row", "cans"] (spHour C))
    (G2 : Cd P w K mg base "check" 4 ["row", "plan"] (spCheck C)) (G3 : Cd P w K mg base "full" 5 ["row"] (spFull C)) (G4 : Cd P w K mg base "soonest" 5 ["row", "much"] (spSoon C)) (G5 : Cd P w K mg base "better" 5 ["row", "mill", "much"] (spBetter C)) :
    FnOk P w K mg base CX0 6 f fd ["held", "call", "numbers", "row"] (spAnswer C CH) := by
  obtain ⟨f0, fd0, m0, k0, b0, F0⟩ := G0.ex
  obtain ⟨f1, fd1, m1, k1, b1, F1⟩ := G1.ex
  obtain ⟨f2, fd2, m2, k2, b2, F2⟩ := G2.ex
  obtain ⟨f3, fd3, m3, k3, b3, F3⟩ := G3.ex
  obtain ⟨f4, fd4, m4, k4, b4, F4⟩ := G4.ex
  obtain ⟨f5, fd5, m5, k5, b5, F5⟩ := G5.ex
  refine F.ok scAn (fun vs H Q E h => ?_) (fun cdv A outer s H vs Q E hr h => ?_)
  · obtain ⟨hd, p, ha, na, ra, as, r, k, nums, row, q, rfl, _⟩ := h
    rfl
  · obtain ⟨hd, p, ha, na, ra, as, r, k, nums, row, q, rfl, HA, hna, hra, h40, M, kk⟩ := h
    have hr2 : Room 2 _ := hr.mono (by decide)
    have hr3 : Room 3 _ := hr.mono (by decide)
    have hr4 : Room 4 _ := hr.mono (by decide)
    obtain ⟨dh, hh⟩ := HA.obj
    refine ⟨_, pss_cons (ps_if (pt_cmpR op_eq (pv 1) pe_int (nomark _)) (pss_one (ps_ret (pe_call F0 hr3 rfl m0 k0 b0 .nil pass0 (pa_cons (pv 0) (pa_cons (pe_ix ix_list (pv 2) pe_int (fun _ _ => rfl)) (pa_cons (pv 3) pa_nil)))))) pss_nil)
      (pss_cons (ps_if (pt_cmpR op_eq (pv 1) pe_int (nomark _)) (pss_one (ps_ret (pe_call F1 hr2 rfl m1 k1 b1 .nil pass0 (pa_cons (pe_fld (pv 0) rfl) (pa_cons (pv 3) pa_nil))))) pss_nil)
      (pss_cons (ps_if (pt_cmpR op_eq (pv 1) pe_int (nomark _)) (pss_one (ps_ret (pe_call F2 hr4 rfl m2 k2 b2 .nil pass0 (pa_cons (pe_fld (pv 0) rfl) (pa_cons (pv 3) pa_nil))))) pss_nil)
      (pss_cons (ps_if (pt_cmpR op_eq (pv 1) pe_int (nomark _)) (pss_one (ps_ret (pe_call F3 hr rfl m3 k3 b3 .nil pass0 (pa_cons (pe_fld (pv 0) rfl) pa_nil)))) pss_nil)
      (pss_cons (ps_if (pt_cmpR op_eq (pv 1) pe_int (nomark _)) (pss_one (ps_ret (pe_call F4 hr rfl m4 k4 b4 .nil pass0 (pa_cons (pe_fld (pv 0) rfl) (pa_cons (pe_ix ix_list (pv 2) pe_int (fun _ _ => rfl)) pa_nil))))) pss_nil)
      (pss_one (ps_ret (pe_call F5 hr rfl m5 k5 b5 .nil pass0 (pa_cons (pe_fld (pv 0) rfl) (pa_cons (pe_ix ix_list (pv 2) pe_int (fun _ _ => rfl)) (pa_cons (pe_ix ix_list (pv 2) pe_int (fun _ _ => rfl)) pa_nil)))))))))), ?_⟩
    cases M with
    | begins wt bs =>
      refine ⟨_, rfl, rfl, _, rfl, if_eq rfl ?_⟩
      exact ⟨_, rfl, _, rfl, na, _, _, _, rfl, rfl, SqL.of hna, at_of (j := 0) rfl rfl, _, rfl, hd, p, ha, ra, as, r, wt, row, rfl, HA, hra, h40, kk⟩
    | hour h =>
      refine ⟨_, rfl, rfl, _, rfl, if_ne (by decide) ?_⟩
      refine ⟨_, rfl, rfl, _, rfl, if_eq rfl ?_⟩
      refine ⟨_, rfl, hd, CH, dh, _, _, rfl, hh, T.clH, T.nR, hF_row _, _, rfl, p, ha, ra, as, r, row, rfl, HA.row, HA.wf, hra, h40, fun H' as' t R' fr fa' nt ht => ?_⟩
      have ne : hd ≠ ha := ne_of hh HA.row.hrs.lst (by intro z; cases z)
      obtain ⟨dx, ba, h1, _, _⟩ := HA.row.ex
      have np : p ≠ ha := ne_of h1 HA.row.hrs.lst (by intro z; cases z)
      exact kk H' p ha as' t ⟨⟨dh, fr _ _ hh ne⟩, R', step_wf HA.wf _⟩ (fun b o e _ hb => fr b o e hb) (.inl rfl) (fun x o e f => f.of (by rw [h1]; exact fr _ _ h1 np) (fa' x o e)) nt ht
    | check l =>
      refine ⟨_, rfl, rfl, _, rfl, if_ne (by decide) ?_⟩
      refine ⟨_, rfl, rfl, _, rfl, if_ne (by decide) ?_⟩
      refine ⟨_, rfl, rfl, _, rfl, if_eq rfl ?_⟩
      exact ⟨_, rfl, hd, CH, dh, _, _, rfl, hh, T.clH, T.nR, hF_row _, _, rfl, p, ha, ra, as, r, row, hra, h40, rfl, HA.row, HA.wf, behind_ask HA (check_row _ _) kk⟩
    | full =>
      refine ⟨_, rfl, rfl, _, rfl, if_ne (by decide) ?_⟩
      refine ⟨_, rfl, rfl, _, rfl, if_ne (by decide) ?_⟩
      refine ⟨_, rfl, rfl, _, rfl, if_ne (by decide) ?_⟩
      refine ⟨_, rfl, rfl, _, rfl, if_eq rfl ?_⟩
      exact ⟨_, rfl, hd, CH, dh, _, _, rfl, hh, T.clH, T.nR, hF_row _, p, ha, as, r, rfl, HA.row, HA.wf, behind_ask HA rfl kk⟩
    | soonest n =>
      refine ⟨_, rfl, rfl, _, rfl, if_ne (by decide) ?_⟩
      refine ⟨_, rfl, rfl, _, rfl, if_ne (by decide) ?_⟩
      refine ⟨_, rfl, rfl, _, rfl, if_ne (by decide) ?_⟩
      refine ⟨_, rfl, rfl, _, rfl, if_ne (by decide) ?_⟩
      refine ⟨_, rfl, rfl, _, rfl, if_eq rfl ?_⟩
      exact ⟨_, rfl, hd, CH, dh, _, _, rfl, hh, T.clH, T.nR, hF_row _, _, rfl, na, _, _, _, rfl, rfl, SqL.of hna, at_of (j := 0) rfl rfl, p, ha, as, r, n, rfl, HA.row, HA.wf, behind_ask HA rfl kk⟩
    | better m d =>
      refine ⟨_, rfl, rfl, _, rfl, if_ne (by decide) ?_⟩
      refine ⟨_, rfl, rfl, _, rfl, if_ne (by decide) ?_⟩
      refine ⟨_, rfl, rfl, _, rfl, if_ne (by decide) ?_⟩
      refine ⟨_, rfl, rfl, _, rfl, if_ne (by decide) ?_⟩
      refine ⟨_, rfl, rfl, _, rfl, if_ne (by decide) ?_⟩
      exact ⟨_, rfl, hd, CH, dh, _, _, rfl, hh, T.clH, T.nR, hF_row _, _, rfl, na, _, _, _, rfl, rfl, SqL.of hna, at_of (j := 0) rfl rfl, _, rfl, na, _, _, _, rfl, rfl, SqL.of hna, at_of (j := 1) rfl rfl, p, ha, as, r, m, d, rfl, HA.row, HA.wf, behind_ask HA (better_row _ _ _) kk⟩
/-! ### answers -/
theorem scAs : FnScope ["calls", "held", "found", "at", "call", "numbers", "row", "told"] ["calls"] (defScope sAnswers) := ⟨rfl, rfl, rfl, by decide +kernel, rfl, by decide +kernel, by decide +kernel⟩
theorem ints_at {k : Nat} (h : k ≤ 5) : (iv [1, 0, 0, 0, 1, 2])[k]? = some (.int ((intsOf k : Nat) : Int)) := by
  match k, h with
  | 0, _ => rfl
  | 1, _ => rfl
  | 2, _ => rfl
  | 3, _ => rfl
  | 4, _ => rfl
  | 5, _ => rfl
theorem in_lists {k : Nat} (h : k ≤ 5) : inV (.int (k : Int)) (iv [0, 1, 2]) = decide (k ≤ 2) := by
  match k, h with
  | 0, _ => decide
  | 1, _ => decide
  | 2, _ => decide
  | 3, _ => decide
  | 4, _ => decide
  | 5, _ => decide
theorem iv_at {l : List Int} {i : Nat} {z : Int} (h : l[i]? = some z) : (iv l)[i]? = some (.int z) := by
  unfold iv
  rw [List.getElem?_map, h]
  rfl
theorem iv_app (a b : List Int) : iv (a ++ b) = iv a ++ iv b := List.map_append
theorem iv_len (a : List Int) : (iv a).length = a.length := List.length_map ..
theorem ok_answers {f : Addr} {fd : FuncData} (F : Fun K "answers" "answers" sAnswers f fd) (T : Txt K mg C CH) (GH : Mkd P w K mg base CH 3 ["self"] (spHInit C CH)) (GA : Cd P w K mg base "answer" 6 ["held", "call", "numbers", "row"] (spAnswer C CH)) :
    FnOk P w K mg base CX0 7 f fd ["calls"] (spAnswers K) := by
  obtain ⟨fh, fdh, MH, bh, FH⟩ := GH.ex
  obtain ⟨fa, fda, ma, ka, ba', FA⟩ := GA.ex
  obtain ⟨aI, mI, qI⟩ := T.gI
  obtain ⟨aL, mL, qL⟩ := T.gL
  refine F.ok scAs (fun vs H Q E h => ?_) (fun cdv A outer s H vs Q E hr h => ?_)
  · obtain ⟨a, ns, rfl, _⟩ := h
    rfl
  · obtain ⟨a, ns, rfl, hS, hlen, hask, k⟩ := h
    have hr4 : Room 4 _ := hr.mono (by decide)
    have hshort := asked_short hask
    refine ⟨_, pss_cons (ps_set (i := 1) scAs.nd rfl (Or.inl rfl) (pe_make0 MH FH hr4 rfl T.gCH bh .nil pass0))
      (pss_cons (ps_set (i := 2) scAs.nd rfl (Or.inl rfl) (pe_lst pa_nil))
      (pss_cons (ps_set (i := 3) scAs.nd rfl (Or.inl rfl) pe_int)
      (pss_cons (ps_while PassesOwn.never (pt_cmpR op_lt (pv 3) (pe_callB call_len_seq (by rfl) T.len PySem.boot_len (pa_cons (pv 0) pa_nil)) (nomark _))
        (pss_cons (ps_set (i := 4) scAs.nd rfl (Or.inl rfl) (pe_ix ix_list (pv 0) (pv 3) (fun _ _ => rfl)))
        (pss_cons (ps_set (i := 5) scAs.nd rfl (Or.inl rfl) (pe_slice sl_list (pv 0) (po_some (pe_op op_add (pv 3) pe_int)) (po_some (pe_op op_add (pe_op op_add (pv 3) pe_int) (pe_ix ix_list (pe_glob (v := .ref aI) rfl mI rfl) (pv 4) (fun _ _ => rfl))))))
        (pss_cons (ps_aug (i := 3) scAs.nd rfl (Or.inl rfl) (pe_op op_add pe_int (pe_ix ix_list (pe_glob (v := .ref aI) rfl mI rfl) (pv 4) (fun _ _ => rfl))) ip_add)
        (pss_cons (ps_set (i := 6) scAs.nd rfl (Or.inl rfl) (pe_lst pa_nil))
        (C8.pss_cut (ps_if (pt_cmpR op_in_seq (pv 4) (pe_glob (v := .ref aL) rfl mL rfl) (by rfl))
            (pss_cons (ps_set (i := 6) scAs.nd rfl (Or.inl rfl) (pe_slice sl_list (pv 0) (po_some (pe_op op_add (pv 3) pe_int)) (po_some (pe_op op_add (pe_op op_add (pv 3) pe_int) (pe_ix ix_list (pv 0) (pv 3) (fun _ _ => rfl))))))
            (pss_one (ps_aug (i := 3) scAs.nd rfl (Or.inl rfl) (pe_op op_add pe_int (pe_callB call_len_seq (by rfl) T.len PySem.boot_len (pa_cons (pv 6) pa_nil))) ip_add))) pss_nil)
        (pss_cons (ps_set (i := 7) scAs.nd rfl (Or.inl rfl) (pe_call FA hr rfl ma ka ba' .nil pass0 (pa_cons (pv 1) (pa_cons (pv 4) (pa_cons (pv 5) (pa_cons (pv 6) pa_nil))))))
        (pss_cons (ps_expr (pe_bm PySem.F.plainAttrs_list PySem.F.slot_list_append PySem.F.type_list_append mt_append (pv 2) (pa_cons (pe_callB call_len_seq (by rfl) T.len PySem.boot_len (pa_cons (pv 7) pa_nil)) pa_nil)))
        (pss_one (ps_expr (pe_bm PySem.F.plainAttrs_list PySem.F.slot_list_extend PySem.F.type_list_extend mt_extend (pv 2) (pa_cons (pv 7) pa_nil))))))))))))
      (pss_one (ps_ret (pv 2)))))), ?_⟩
    -- held = Held(); found = []; at = 0
    intro hd dh nhd ndh nedh
    refine ⟨hd, dh, rfl, upd_same, fun H1 p0 ha0 as0 nha0 HA0 kp => ⟨rfl, ?_⟩⟩
    have s1 : Same H H1 := Same.made nhd ndh kp
    have hha0 : H ha0 = none := by
      have n1 : ha0 ≠ hd := fun z => by rw [z, upd_same] at nha0; cases nha0
      rw [upd_ne n1] at nha0
      have n2 : ha0 ≠ dh := fun z => by rw [z, upd_same] at nha0; cases nha0
      rw [upd_ne n2] at nha0
      exact nha0
    refine ⟨Nat.zero_le _, fun fo nfo => ?_⟩
    have s2 := same_upd (o := .lst []) s1 nfo
    have sf := same_new H1 (o := .lst []) nfo
    have hfo0 := s1.free nfo
    refine ⟨fun m σ H' => ∃ (i : Nat) (z : Int) (v4 v5 v6 v7 : Option V) (p ha : Addr) (as : List Addr) (r : Sj02.Row) (found : List Int), m = ns.length - i ∧ z = (i : Int) ∧ σ = [some (.ref a), some (.ref hd), some (.ref fo), some (.int z), v4, v5, v6, v7] ∧ Same H H' ∧
      HeldAt C CH H' hd p ha as r ∧ H' fo = some (.lst (iv found)) ∧ Off C H' p ha as fo ∧ H ha = none ∧ Go ns i r found, ⟨ns.length, 0, 0, none, none, none, none, p0, ha0, as0, Sj02.init, [], rfl, rfl, rfl, s2, HA0.same sf, upd_same, ((HA0.row.fresh nfo).of (by obtain ⟨dx, ba, h1, _, _⟩ := HA0.row.ex; rw [h1]; exact sf _ _ h1) id), hha0, go_start hask⟩, ?_⟩
    rintro m σ H' ⟨i, z, v4, v5, v6, v7, p, ha, as, r, found, rfl, rfl, rfl, s3, HA, hfo, nfh, hha, G⟩
    refine ⟨_, rfl, _, rfl, a, _, rfl, .inl (s3.seq hS), _, _, rfl, rfl, _, rfl, ite2 (fun c => ?_) (fun c => ?_)⟩
    · have c : (i : Int) < ((iv ns).length : Int) := of_decide_eq_true c
      rw [iv_len] at c
      have hi : i < ns.length := by omega
      obtain ⟨kk, nums, row, q, j, tk, hij, G'⟩ := go_turn G hi
      have hk5 := tk.le
      have hinn := tk.inn
      refine ⟨fun σ' H2 => ∃ (z : Int) (v4 v5 v6 v7 : Option V) (p ha : Addr) (as : List Addr), z = (j : Int) ∧ σ' = [some (.ref a), some (.ref hd), some (.ref fo), some (.int z), v4, v5, v6, v7] ∧ Same H H2 ∧
        HeldAt C CH H2 hd p ha as (Sj02.step r q).1 ∧ H2 fo = some (.lst (iv (found ++ [((told1 (Sj02.step r q).2).length : Int)] ++ told1 (Sj02.step r q).2))) ∧ Off C H2 p ha as fo ∧ H ha = none,
        fun σ' H2 ⟨z, v4, v5, v6, v7, p, ha, as, e1, e2, e3, e4, e5, e6, e7⟩ => ⟨ns.length - j, (by have := tk.jle; omega), j, z, v4, v5, v6, v7, p, ha, as, _, _, rfl, e1, e2, e3, e4, e5, e6, e7, G'⟩, ?_⟩
      -- call = calls[at]
      refine ⟨_, rfl, _, rfl, a, _, _, _, rfl, rfl, s3.seq hS, atI_nat (iv_at tk.at_), ?_⟩
      -- numbers = calls[at + 1:at + 1 + INTS[call]]
      refine ⟨_, rfl, _, rfl, _, _, rfl, rfl, _, rfl, _, rfl, _, _, rfl, rfl, _, rfl, aI, _, _, _, rfl, rfl, qI _, atI_nat (ints_at hk5), _, _, rfl, rfl, _, rfl, a, _, rfl, s3.seq hS, fun na nna => ?_⟩
      have ecut : cutV (iv ns) (some ((i : Int) + 1)) (some ((i : Int) + 1 + ((intsOf kk : Nat) : Int))) = nv nums := by
        have q := cut_iv (l := ns) (i := i + 1) (j := i + 1 + intsOf kk) (by omega) hinn
        have e : i + 1 + intsOf kk - (i + 1) = intsOf kk := by omega
        rw [e, tk.nums_] at q
        exact q
      have hna : upd H' na (.lst (cutV (iv ns) (some ((i : Int) + 1)) (some ((i : Int) + 1 + ((intsOf kk : Nat) : Int))))) na = some (.lst (nv nums)) := by rw [ecut]; exact upd_same
      have t1 : Same H' (upd H' na (.lst (cutV (iv ns) (some ((i : Int) + 1)) (some ((i : Int) + 1 + ((intsOf kk : Nat) : Int)))))) := same_new H' nna
      generalize upd H' na (.lst (cutV (iv ns) (some ((i : Int) + 1)) (some ((i : Int) + 1 + ((intsOf kk : Nat) : Int))))) = H4 at hna t1
      -- at += 1 + INTS[call]; row = []
      refine ⟨_, rfl, _, rfl, aI, _, _, _, rfl, rfl, qI _, atI_nat (ints_at hk5), _, _, rfl, rfl, _, _, rfl, rfl, ?_⟩
      refine ⟨Nat.zero_le _, fun r0 nr0 => ?_⟩
      have t2 := same_upd (o := .lst []) t1 nr0
      have hna2 : upd H4 r0 (.lst []) na = some (.lst (nv nums)) := (upd_ne (ne_of_none hna nr0)).trans hna
      -- if call in LISTS
      refine ⟨fun σ2 H5 => ∃ (z : Int) (ra : Addr), z = (j : Int) ∧ σ2 = [some (.ref a), some (.ref hd), some (.ref fo), some (.int z), some (.int (kk : Int)), some (.ref na), some (.ref ra), v7] ∧ Same H' H5 ∧ H5 na = some (.lst (nv nums)) ∧ H5 ra = some (.lst (nv row)), ?_, ?_⟩
      · refine ⟨_, rfl, aL, _, rfl, .inr (qL _), rfl, rfl, _, rfl, ?_⟩
        show if (inV (.int (kk : Int)) (iv [0, 1, 2])) = true then _ else _
        rw [in_lists hk5]
        refine ite2 (fun c2 => ?_) (fun c2 => ?_)
        · obtain ⟨l1, l2, l3⟩ := tk.listed (of_decide_eq_true c2)
          have sa := (s3.trans t2).seq hS
          have ez : (i : Int) + (1 + ((intsOf kk : Nat) : Int)) = ((i + 1 + intsOf kk : Nat) : Int) := by omega
          refine ⟨_, rfl, _, rfl, _, _, rfl, rfl, _, rfl, _, rfl, _, _, rfl, rfl, _, rfl, _, rfl, a, _, _, _, rfl, rfl, sa, at_of (j := i + 1 + intsOf kk) ez (iv_at l1), _, _, rfl, rfl, _, rfl, a, _, rfl, sa, fun ra nra => ?_⟩
          have hjl := tk.jle
          have ecut2 : cutV (iv ns) (some ((i : Int) + (1 + ((intsOf kk : Nat) : Int)) + 1)) (some ((i : Int) + (1 + ((intsOf kk : Nat) : Int)) + 1 + (row.length : Int))) = nv row := by
            have q := cut_iv (l := ns) (i := i + 1 + intsOf kk + 1) (j := i + 1 + intsOf kk + 1 + row.length) (by omega) (by omega)
            have e : i + 1 + intsOf kk + 1 + row.length - (i + 1 + intsOf kk + 1) = row.length := by omega
            rw [e, l2] at q
            rw [ez]
            exact q
          have t3 := same_upd (o := .lst (cutV (iv ns) (some ((i : Int) + (1 + ((intsOf kk : Nat) : Int)) + 1)) (some ((i : Int) + (1 + ((intsOf kk : Nat) : Int)) + 1 + (row.length : Int))))) t2 nra
          have hra : upd (upd H4 r0 (.lst [])) ra (.lst (cutV (iv ns) (some ((i : Int) + (1 + ((intsOf kk : Nat) : Int)) + 1)) (some ((i : Int) + (1 + ((intsOf kk : Nat) : Int)) + 1 + (row.length : Int))))) ra = some (.lst (nv row)) := by rw [ecut2]; exact upd_same
          refine ⟨_, rfl, _, rfl, ra, _, rfl, .inl (SqL.of hra), _, _, rfl, rfl, _, _, rfl, rfl, ?_⟩
          refine ⟨_, ra, ?_, rfl, t3, (upd_ne (ne_of_none hna2 nra)).trans hna2, hra⟩
          show (i : Int) + (1 + ((intsOf kk : Nat) : Int)) + (1 + ((nv row).length : Int)) = (j : Int)
          rw [nv_len, l3]
          omega
        · obtain ⟨l1, l2⟩ := tk.bare (fun z => c2 (decide_eq_true z))
          refine ⟨_, r0, ?_, rfl, t2, hna2, ?_⟩
          · show (i : Int) + (1 + ((intsOf kk : Nat) : Int)) = (j : Int)
            rw [l2]
            omega
          · rw [upd_same, l1]
            rfl
      · rintro σ2 H5 ⟨z, ra, hz, rfl, t5, hna5, hra5⟩
        have s5 := s3.trans t5
        have HA5 := HA.same t5
        have hfo5 := t5 _ _ hfo
        -- told = answer(held, call, numbers, row)
        refine ⟨_, rfl, _, rfl, _, rfl, _, rfl, hd, p, ha, na, ra, as, r, kk, nums, row, q, rfl, HA5, hna5, hra5, tk.rlen, tk.q_, fun H6 p' ha' as' t HA6 fr hha' fof nt ht => ?_⟩
        have nfd : fo ≠ hd := fun z => by
          obtain ⟨dd, hh⟩ := HA5.obj
          rw [z, hh] at hfo5
          cases hfo5
        have hfo6 : H6 fo = some (.lst (iv found)) := fr _ _ hfo5 nfd nfh.1
        have s6 : Same H H6 := fun b o e => fr b o (s5 b o e) (ne_of_none e nhd) (ne_of_none e hha)
        have hlen' := go_len G'
        rw [List.length_append, List.length_append] at hlen'
        have hlen1 : ([((told1 (Sj02.step r q).2).length : Int)] : List Int).length = 1 := rfl
        rw [hlen1] at hlen'
        have ntf : t ≠ fo := fun z => by rw [z, hfo5] at nt; cases nt
        -- found.append(len(told))
        refine ⟨_, rfl, .inl ⟨rfl, _, SqL.of hfo6⟩, _, rfl, t, _, rfl, .inl (SqL.of ht), fo, _, _, rfl, rfl, hfo6, (by rw [iv_len, sizeLine_eq]; omega), ?_⟩
        have ht7 : upd H6 fo (.lst (iv found ++ [.int ((iv (told1 (Sj02.step r q).2)).length : Int)])) t = some (.lst (iv (told1 (Sj02.step r q).2))) := (upd_ne ntf).trans ht
        -- found.extend(told)
        refine ⟨_, rfl, .inl ⟨rfl, _, SqL.of upd_same⟩, _, rfl, fo, t, _, _, rfl, rfl, upd_same, ht7, ?_, ?_⟩
        · rw [List.length_append, iv_len, iv_len, sizeLine_eq]
          show found.length + 1 + _ ≤ 16777216
          omega
        · have nfh5 : Off C H5 p ha as fo := nfh.of (by obtain ⟨dx, ba, h1, _, _⟩ := HA.row.ex; rw [h1]; exact t5 _ _ h1) id
          have nfh6 := fof fo _ hfo5 nfh5
          obtain ⟨dd, hh6⟩ := HA6.obj
          have npf : p' ≠ fo := by
            obtain ⟨dx, ba, h1, _, _⟩ := HA6.row.ex
            exact ne_of h1 hfo6 (by intro z; cases z)
          have hha6 : H ha' = none := by
            rcases hha' with e | e
            · rw [e]; exact hha
            · exact s5.free e
          refine ⟨z, _, _, _, _, p', ha', as', hz, rfl, same_updF (same_updF s6 hfo0) hfo0, ⟨⟨dd, ?_⟩, ?_, HA6.wf⟩, ?_, nfh6.of ?_ id, hha6⟩
          · rw [upd_ne (Ne.symm nfd), upd_ne (Ne.symm nfd)]
            exact hh6
          · rw [upd_upd]
            exact HA6.row.upd hfo6 nfh6
          · rw [upd_same, iv_app, iv_app, iv_len]
            rfl
          · rw [upd_ne npf, upd_ne npf]
    · have c : ¬ (i : Int) < ((iv ns).length : Int) := fun z => c (decide_eq_true z)
      rw [iv_len] at c
      have e := go_end G (by omega)
      refine ⟨_, rfl, k _ fo ?_⟩
      rw [← e]
      exact hfo
end
end Mr

namespace Mr
open PySem PySem.Spec PyProof.Rows L2
/-! ### what the top has written -/
theorem all_mk {P : Program} {w : World} {K : PySem.W.Frag} {h : Heap} {mg : Str → Option Value} {fa C CH pI pL f1 f2 f3 f4 f5 f6 f7 f8 f9 f10 f11 f12 f13 f14 f15 f16 f17 f18 f19 f20 : Addr} (X : K.In h) (G : h.Ns mainGlobals mg) (hfa : mg "answers" = some (.ref fa))
    {odL od1 an1 od2 an2 od3 an3 od4 an4 od5 an5 od6 an6 od7 an7 od8 an8 od9 an9 od10 an10 od11 an11 od12 an12 od13 an13 od14 an14 od15 an15 od16 an16 od17 an17 od18 an18 od19 an19 od20 an20 : Option Addr}
    {slI slL sl1 sl2 sl3 sl4 sl5 sl6 sl7 sl8 sl9 sl10 sl11 sl12 sl13 sl14 sl15 sl16 sl17 sl18 sl19 sl20 : Array (Option Value)}
    {oc1 kV1 dc1 pm1 cd1 ct1 oc2 kV2 dc2 pm2 cd2 ct2 oc3 kV3 dc3 pm3 cd3 ct3 oc4 kV4 dc4 pm4 cd4 ct4 oc5 kV5 dc5 pm5 cd5 ct5 oc6 kV6 dc6 pm6 cd6 ct6 oc7 kV7 dc7 pm7 cd7 ct7 oc8 kV8 dc8 pm8 cd8 ct8 oc9 kV9 dc9 pm9 cd9 ct9 oc10 kV10 dc10 pm10 cd10 ct10 oc11 kV11 dc11 pm11 cd11 ct11 oc12 kV12 dc12 pm12 cd12 ct12 oc13 kV13 dc13 pm13 cd13 ct13 oc14 kV14 dc14 pm14 cd14 ct14 oc15 kV15 dc15 pm15 cd15 ct15 oc16 kV16 dc16 pm16 cd16 ct16 oc17 kV17 dc17 pm17 cd17 ct17 oc18 kV18 dc18 pm18 cd18 ct18 oc19 kV19 dc19 pm19 cd19 ct19 oc20 kV20 dc20 pm20 cd20 ct20 : Value}
    {ti0 ti1 ti2 ti3 ti4 ti5 tl0 tl1 tl2 tg0 tg1 tg2 tg3 tg4 tg5 : Tok}
    {nI nL : Nat}
    (aC : PySem.W.nsIn K mainGlobals "MillRow" = some (some (.ref C)))
    (aCH : PySem.W.nsIn K mainGlobals "Held" = some (some (.ref CH)))
    (a1 : PySem.W.findIn K (.ref C) "__init__" = some (some (.ref f1)))
    (i1 : PySem.W.isFn K (.ref f1) = true)
    (l1 : K.lookup f1 = some ⟨oc1, od1, .func (PySem.W.fnOf "__init__" "MillRow.__init__" (defArgs sRInit) (defBody sRInit) (defScope sRInit) .none kV1 dc1 pm1 an1 cd1 ct1), sl1⟩)
    (c1 : PySem.W.codeIn K cd1 "MillRow.__init__" = true)
    (k1 : PySem.W.keepIn K (.ref f1) = true)
    (a2 : PySem.W.findIn K (.ref C) "mills" = some (some (.ref f2)))
    (i2 : PySem.W.isFn K (.ref f2) = true)
    (l2 : K.lookup f2 = some ⟨oc2, od2, .func (PySem.W.fnOf "mills" "MillRow.mills" (defArgs sMills) (defBody sMills) (defScope sMills) .none kV2 dc2 pm2 an2 cd2 ct2), sl2⟩)
    (c2 : PySem.W.codeIn K cd2 "MillRow.mills" = true)
    (k2 : PySem.W.keepIn K (.ref f2) = true)
    (a3 : PySem.W.findIn K (.ref C) "begin" = some (some (.ref f3)))
    (i3 : PySem.W.isFn K (.ref f3) = true)
    (l3 : K.lookup f3 = some ⟨oc3, od3, .func (PySem.W.fnOf "begin" "MillRow.begin" (defArgs sBegin) (defBody sBegin) (defScope sBegin) .none kV3 dc3 pm3 an3 cd3 ct3), sl3⟩)
    (c3 : PySem.W.codeIn K cd3 "MillRow.begin" = true)
    (k3 : PySem.W.keepIn K (.ref f3) = true)
    (a4 : PySem.W.findIn K (.ref C) "room" = some (some (.ref f4)))
    (i4 : PySem.W.isFn K (.ref f4) = true)
    (l4 : K.lookup f4 = some ⟨oc4, od4, .func (PySem.W.fnOf "room" "MillRow.room" (defArgs sRoom) (defBody sRoom) (defScope sRoom) .none kV4 dc4 pm4 an4 cd4 ct4), sl4⟩)
    (c4 : PySem.W.codeIn K cd4 "MillRow.room" = true)
    (k4 : PySem.W.keepIn K (.ref f4) = true)
    (a5 : PySem.W.findIn K (.ref CH) "__init__" = some (some (.ref f5)))
    (i5 : PySem.W.isFn K (.ref f5) = true)
    (l5 : K.lookup f5 = some ⟨oc5, od5, .func (PySem.W.fnOf "__init__" "Held.__init__" (defArgs sHInit) (defBody sHInit) (defScope sHInit) .none kV5 dc5 pm5 an5 cd5 ct5), sl5⟩)
    (c5 : PySem.W.codeIn K cd5 "Held.__init__" = true)
    (k5 : PySem.W.keepIn K (.ref f5) = true)
    (a6 : PySem.W.nsIn K mainGlobals "wrong_with" = some (some (.ref f6)))
    (l6 : K.lookup f6 = some ⟨oc6, od6, .func (PySem.W.fnOf "wrong_with" "wrong_with" (defArgs sWrong) (defBody sWrong) (defScope sWrong) .none kV6 dc6 pm6 an6 cd6 ct6), sl6⟩)
    (c6 : PySem.W.codeIn K cd6 "wrong_with" = true)
    (k6 : PySem.W.keepIn K (.ref f6) = true)
    (a7 : PySem.W.nsIn K mainGlobals "most_for" = some (some (.ref f7)))
    (l7 : K.lookup f7 = some ⟨oc7, od7, .func (PySem.W.fnOf "most_for" "most_for" (defArgs sMost) (defBody sMost) (defScope sMost) .none kV7 dc7 pm7 an7 cd7 ct7), sl7⟩)
    (c7 : PySem.W.codeIn K cd7 "most_for" = true)
    (k7 : PySem.W.keepIn K (.ref f7) = true)
    (a8 : PySem.W.nsIn K mainGlobals "lifted" = some (some (.ref f8)))
    (l8 : K.lookup f8 = some ⟨oc8, od8, .func (PySem.W.fnOf "lifted" "lifted" (defArgs sLifted) (defBody sLifted) (defScope sLifted) .none kV8 dc8 pm8 an8 cd8 ct8), sl8⟩)
    (c8 : PySem.W.codeIn K cd8 "lifted" = true)
    (k8 : PySem.W.keepIn K (.ref f8) = true)
    (a9 : PySem.W.nsIn K mainGlobals "full_hour" = some (some (.ref f9)))
    (l9 : K.lookup f9 = some ⟨oc9, od9, .func (PySem.W.fnOf "full_hour" "full_hour" (defArgs sFullHour) (defBody sFullHour) (defScope sFullHour) .none kV9 dc9 pm9 an9 cd9 ct9), sl9⟩)
    (c9 : PySem.W.codeIn K cd9 "full_hour" = true)
    (k9 : PySem.W.keepIn K (.ref f9) = true)
    (a10 : PySem.W.nsIn K mainGlobals "full_hours" = some (some (.ref f10)))
    (l10 : K.lookup f10 = some ⟨oc10, od10, .func (PySem.W.fnOf "full_hours" "full_hours" (defArgs sFullHours) (defBody sFullHours) (defScope sFullHours) .none kV10 dc10 pm10 an10 cd10 ct10), sl10⟩)
    (c10 : PySem.W.codeIn K cd10 "full_hours" = true)
    (k10 : PySem.W.keepIn K (.ref f10) = true)
    (a11 : PySem.W.nsIn K mainGlobals "worked_hour" = some (some (.ref f11)))
    (l11 : K.lookup f11 = some ⟨oc11, od11, .func (PySem.W.fnOf "worked_hour" "worked_hour" (defArgs sWorked) (defBody sWorked) (defScope sWorked) .none kV11 dc11 pm11 an11 cd11 ct11), sl11⟩)
    (c11 : PySem.W.codeIn K cd11 "worked_hour" = true)
    (k11 : PySem.W.keepIn K (.ref f11) = true)
    (a12 : PySem.W.nsIn K mainGlobals "are_small" = some (some (.ref f12)))
    (l12 : K.lookup f12 = some ⟨oc12, od12, .func (PySem.W.fnOf "are_small" "are_small" (defArgs sSmall) (defBody sSmall) (defScope sSmall) .none kV12 dc12 pm12 an12 cd12 ct12), sl12⟩)
    (c12 : PySem.W.codeIn K cd12 "are_small" = true)
    (k12 : PySem.W.keepIn K (.ref f12) = true)
    (a13 : PySem.W.nsIn K mainGlobals "begins" = some (some (.ref f13)))
    (l13 : K.lookup f13 = some ⟨oc13, od13, .func (PySem.W.fnOf "begins" "begins" (defArgs sBegins) (defBody sBegins) (defScope sBegins) .none kV13 dc13 pm13 an13 cd13 ct13), sl13⟩)
    (c13 : PySem.W.codeIn K cd13 "begins" = true)
    (k13 : PySem.W.keepIn K (.ref f13) = true)
    (a14 : PySem.W.nsIn K mainGlobals "hour" = some (some (.ref f14)))
    (l14 : K.lookup f14 = some ⟨oc14, od14, .func (PySem.W.fnOf "hour" "hour" (defArgs sHour) (defBody sHour) (defScope sHour) .none kV14 dc14 pm14 an14 cd14 ct14), sl14⟩)
    (c14 : PySem.W.codeIn K cd14 "hour" = true)
    (k14 : PySem.W.keepIn K (.ref f14) = true)
    (a15 : PySem.W.nsIn K mainGlobals "check" = some (some (.ref f15)))
    (l15 : K.lookup f15 = some ⟨oc15, od15, .func (PySem.W.fnOf "check" "check" (defArgs sCheck) (defBody sCheck) (defScope sCheck) .none kV15 dc15 pm15 an15 cd15 ct15), sl15⟩)
    (c15 : PySem.W.codeIn K cd15 "check" = true)
    (k15 : PySem.W.keepIn K (.ref f15) = true)
    (a16 : PySem.W.nsIn K mainGlobals "full" = some (some (.ref f16)))
    (l16 : K.lookup f16 = some ⟨oc16, od16, .func (PySem.W.fnOf "full" "full" (defArgs sFull) (defBody sFull) (defScope sFull) .none kV16 dc16 pm16 an16 cd16 ct16), sl16⟩)
    (c16 : PySem.W.codeIn K cd16 "full" = true)
    (k16 : PySem.W.keepIn K (.ref f16) = true)
    (a17 : PySem.W.nsIn K mainGlobals "soonest" = some (some (.ref f17)))
    (l17 : K.lookup f17 = some ⟨oc17, od17, .func (PySem.W.fnOf "soonest" "soonest" (defArgs sSoon) (defBody sSoon) (defScope sSoon) .none kV17 dc17 pm17 an17 cd17 ct17), sl17⟩)
    (c17 : PySem.W.codeIn K cd17 "soonest" = true)
    (k17 : PySem.W.keepIn K (.ref f17) = true)
    (a18 : PySem.W.nsIn K mainGlobals "better" = some (some (.ref f18)))
    (l18 : K.lookup f18 = some ⟨oc18, od18, .func (PySem.W.fnOf "better" "better" (defArgs sBetter) (defBody sBetter) (defScope sBetter) .none kV18 dc18 pm18 an18 cd18 ct18), sl18⟩)
    (c18 : PySem.W.codeIn K cd18 "better" = true)
    (k18 : PySem.W.keepIn K (.ref f18) = true)
    (a19 : PySem.W.nsIn K mainGlobals "answer" = some (some (.ref f19)))
    (l19 : K.lookup f19 = some ⟨oc19, od19, .func (PySem.W.fnOf "answer" "answer" (defArgs sAnswer) (defBody sAnswer) (defScope sAnswer) .none kV19 dc19 pm19 an19 cd19 ct19), sl19⟩)
    (c19 : PySem.W.codeIn K cd19 "answer" = true)
    (k19 : PySem.W.keepIn K (.ref f19) = true)
    (a20 : PySem.W.nsIn K mainGlobals "answers" = some (some (.ref f20)))
    (l20 : K.lookup f20 = some ⟨oc20, od20, .func (PySem.W.fnOf "answers" "answers" (defArgs sAnswers) (defBody sAnswers) (defScope sAnswers) .none kV20 dc20 pm20 an20 cd20 ct20), sl20⟩)
    (c20 : PySem.W.codeIn K cd20 "answers" = true)
    (k20 : PySem.W.keepIn K (.ref f20) = true)
    (pgC : PySem.W.plainGet K C Str.empty = true)
    (hdC : PySem.W.hasDictIn K C = true)
    (poC : PySem.W.plainOver K C = true)
    (saC : PySem.W.findIn K (.ref C) "__setattr__" = some (some (.builtin "object.__setattr__")))
    (mkC : PySem.W.makesIn K C = true)
    (kcC : PySem.W.keepIn K (.ref C) = true)
    (pgCH : PySem.W.plainGet K CH Str.empty = true)
    (hdCH : PySem.W.hasDictIn K CH = true)
    (poCH : PySem.W.plainOver K CH = true)
    (saCH : PySem.W.findIn K (.ref CH) "__setattr__" = some (some (.builtin "object.__setattr__")))
    (mkCH : PySem.W.makesIn K CH = true)
    (kcCH : PySem.W.keepIn K (.ref CH) = true)
    (nW : PySem.W.findIn K (.ref C) "water" = some none)
    (nB : PySem.W.findIn K (.ref C) "basins" = some none)
    (nH : PySem.W.findIn K (.ref C) "hours" = some none)
    (nR : PySem.W.findIn K (.ref CH) "row" = some none)
    (g0 : PySem.W.nsIn K mainGlobals "TOO_MUCH" = some (some (.int 1 tg0)))
    (g1 : PySem.W.nsIn K mainGlobals "TOO_LITTLE_BELOW" = some (some (.int 2 tg1)))
    (g2 : PySem.W.nsIn K mainGlobals "NO_ROOM" = some (some (.int 3 tg2)))
    (g3 : PySem.W.nsIn K mainGlobals "MOST_WATER" = some (some (.int 1000 tg3)))
    (g4 : PySem.W.nsIn K mainGlobals "MOST_BASINS" = some (some (.int 3 tg4)))
    (g5 : PySem.W.nsIn K mainGlobals "MOST_HOURS" = some (some (.int 8 tg5)))
    (aI : PySem.W.nsIn K mainGlobals "INTS" = some (some (.ref pI)))
    (lI : K.lookup pI = some ⟨.type "list", none, .seq #[.int 1 ti0, .int 0 ti1, .int 0 ti2, .int 0 ti3, .int 1 ti4, .int 2 ti5] nI, slI⟩)
    (aL : PySem.W.nsIn K mainGlobals "LISTS" = some (some (.ref pL)))
    (lL : K.lookup pL = some ⟨.type "tuple", odL, .seq #[.int 0 tl0, .int 1 tl1, .int 2 tl2] nL, slL⟩)
    (z0 : PySem.W.nsIn K mainGlobals "len" = some none)
    (z1 : PySem.W.nsIn K mainGlobals "list" = some none)
    (z2 : PySem.W.nsIn K mainGlobals "min" = some none)
    (z3 : PySem.W.nsIn K mainGlobals "range" = some none)
    (z4 : PySem.W.nsIn K mainGlobals "enumerate" = some none)
    : ∃ fd : FuncData, (∀ (s : Shared) (us : List Value), us.length = (["calls"] : List Str).length → BindsTo s fd ⟨us, []⟩ ((["calls"] : List Str).zip us)) ∧ ∀ base : Heap, K.In base → base.Ns mainGlobals mg → FnOk P w K mg base CX0 7 fa fd ["calls"] (spAnswers K) := by
  have e := hfa.symm.trans (PySem.W.mg_of X G a20)
  cases e
  have qI : ∀ H : Hp, SqL K H pI (iv [1, 0, 0, 0, 1, 2]) := fun H => .inr ⟨_, _, _, lI, rfl, rfl, rfl, (by show 6 ≤ sizeLine; decide), .cons ⟨_, rfl⟩ (.cons ⟨_, rfl⟩ (.cons ⟨_, rfl⟩ (.cons ⟨_, rfl⟩ (.cons ⟨_, rfl⟩ (.cons ⟨_, rfl⟩ .nil)))))⟩
  have qL : ∀ H : Hp, SqT K H pL (iv [0, 1, 2]) := fun H => .inr ⟨_, _, _, lL, rfl, rfl, (by show 3 ≤ sizeLine; decide), .cons ⟨_, rfl⟩ (.cons ⟨_, rfl⟩ (.cons ⟨_, rfl⟩ .nil))⟩
  have T : Txt K mg C CH := { cl := ⟨pgC, hdC, poC, saC⟩, nW := nW, nB := nB, nH := nH, gC := PySem.W.mg_of X G aC, clH := ⟨pgCH, hdCH, poCH, saCH⟩, nR := nR, gCH := PySem.W.mg_of X G aCH, g1 := ⟨_, PySem.W.mg_of X G g0⟩, g2 := ⟨_, PySem.W.mg_of X G g1⟩, g3 := ⟨_, PySem.W.mg_of X G g2⟩, gW := ⟨_, PySem.W.mg_of X G g3⟩, gB := ⟨_, PySem.W.mg_of X G g4⟩, gH := ⟨_, PySem.W.mg_of X G g5⟩, gI := ⟨pI, PySem.W.mg_of X G aI, qI⟩, gL := ⟨pL, PySem.W.mg_of X G aL, qL⟩, len := PySem.W.mg_none_of X G z0, list := PySem.W.mg_none_of X G z1, min := PySem.W.mg_none_of X G z2, range := PySem.W.mg_none_of X G z3, enumerate := PySem.W.mg_none_of X G z4 }
  have F1 := fun_mk (st := sRInit) l1 c1 k1
  have b1 := F1.binds (ps := ["self", "water", "basins"]) fun _ _ _ _ _ _ us hl => match us, hl with | [_, _, _], _ => rfl
  have F2 := fun_mk (st := sMills) l2 c2 k2
  have b2 := F2.binds (ps := ["self"]) fun _ _ _ _ _ _ us hl => match us, hl with | [_], _ => rfl
  have F3 := fun_mk (st := sBegin) l3 c3 k3
  have b3 := F3.binds (ps := ["self"]) fun _ _ _ _ _ _ us hl => match us, hl with | [_], _ => rfl
  have F4 := fun_mk (st := sRoom) l4 c4 k4
  have b4 := F4.binds (ps := ["self", "waters", "mill"]) fun _ _ _ _ _ _ us hl => match us, hl with | [_, _, _], _ => rfl
  have F5 := fun_mk (st := sHInit) l5 c5 k5
  have b5 := F5.binds (ps := ["self"]) fun _ _ _ _ _ _ us hl => match us, hl with | [_], _ => rfl
  have F6 := fun_mk (st := sWrong) l6 c6 k6
  have b6 := F6.binds (ps := ["row", "waters", "mill", "can", "much"]) fun _ _ _ _ _ _ us hl => match us, hl with | [_, _, _, _, _], _ => rfl
  have F7 := fun_mk (st := sMost) l7 c7 k7
  have b7 := F7.binds (ps := ["row", "waters", "mill", "can"]) fun _ _ _ _ _ _ us hl => match us, hl with | [_, _, _, _], _ => rfl
  have F8 := fun_mk (st := sLifted) l8 c8 k8
  have b8 := F8.binds (ps := ["waters", "mill", "much"]) fun _ _ _ _ _ _ us hl => match us, hl with | [_, _, _], _ => rfl
  have F9 := fun_mk (st := sFullHour) l9 c9 k9
  have b9 := F9.binds (ps := ["row", "waters", "cans"]) fun _ _ _ _ _ _ us hl => match us, hl with | [_, _, _], _ => rfl
  have F10 := fun_mk (st := sFullHours) l10 c10 k10
  have b10 := F10.binds (ps := ["row", "hours"]) fun _ _ _ _ _ _ us hl => match us, hl with | [_, _], _ => rfl
  have F11 := fun_mk (st := sWorked) l11 c11 k11
  have b11 := F11.binds (ps := ["row", "waters", "cans", "parts"]) fun _ _ _ _ _ _ us hl => match us, hl with | [_, _, _, _], _ => rfl
  have F12 := fun_mk (st := sSmall) l12 c12 k12
  have b12 := F12.binds (ps := ["numbers"]) fun _ _ _ _ _ _ us hl => match us, hl with | [_], _ => rfl
  have F13 := fun_mk (st := sBegins) l13 c13 k13
  have b13 := F13.binds (ps := ["held", "water", "basins"]) fun _ _ _ _ _ _ us hl => match us, hl with | [_, _, _], _ => rfl
  have F14 := fun_mk (st := sHour) l14 c14 k14
  have b14 := F14.binds (ps := ["row", "cans"]) fun _ _ _ _ _ _ us hl => match us, hl with | [_, _], _ => rfl
  have F15 := fun_mk (st := sCheck) l15 c15 k15
  have b15 := F15.binds (ps := ["row", "plan"]) fun _ _ _ _ _ _ us hl => match us, hl with | [_, _], _ => rfl
  have F16 := fun_mk (st := sFull) l16 c16 k16
  have b16 := F16.binds (ps := ["row"]) fun _ _ _ _ _ _ us hl => match us, hl with | [_], _ => rfl
  have F17 := fun_mk (st := sSoon) l17 c17 k17
  have b17 := F17.binds (ps := ["row", "much"]) fun _ _ _ _ _ _ us hl => match us, hl with | [_, _], _ => rfl
  have F18 := fun_mk (st := sBetter) l18 c18 k18
  have b18 := F18.binds (ps := ["row", "mill", "much"]) fun _ _ _ _ _ _ us hl => match us, hl with | [_, _, _], _ => rfl
  have F19 := fun_mk (st := sAnswer) l19 c19 k19
  have b19 := F19.binds (ps := ["held", "call", "numbers", "row"]) fun _ _ _ _ _ _ us hl => match us, hl with | [_, _, _, _], _ => rfl
  have F20 := fun_mk (st := sAnswers) l20 c20 k20
  refine ⟨PySem.W.fnOf "answers" "answers" (defArgs sAnswers) (defBody sAnswers) (defScope sAnswers) .none kV20 dc20 pm20 an20 cd20 ct20, fun s us hu => match us, hu with | [_], _ => .of_eq rfl, fun base _ _ => ?_⟩
  have R : Mkd P w K mg base C 1 ["self", "water", "basins"] (spRInit C) := ⟨f1, _, ⟨mkC, a1, i1, kcC⟩, b1, ok_rinit F1 T⟩
  have M2 : Md P w K mg base C "mills" 1 ["self"] (spMills C) := ⟨f2, _, ⟨a2, i2, k2⟩, b2, ok_mills F2 T⟩
  have M3 : Md P w K mg base C "begin" 2 ["self"] (spBegin C) := ⟨f3, _, ⟨a3, i3, k3⟩, b3, ok_begin F3 T M2⟩
  have M4 : Md P w K mg base C "room" 1 ["self", "waters", "mill"] (spRoom C) := ⟨f4, _, ⟨a4, i4, k4⟩, b4, ok_room F4 T⟩
  have R5 : Mkd P w K mg base CH 3 ["self"] (spHInit C CH) := ⟨f5, _, ⟨mkCH, a5, i5, kcCH⟩, b5, ok_hinit F5 T R⟩
  have D6 : Cd P w K mg base "wrong_with" 2 ["row", "waters", "mill", "can", "much"] (spWrong C) := ⟨f6, _, PySem.W.mg_of X G a6, k6, b6, ok_wrong F6 T M4⟩
  have D7 : Cd P w K mg base "most_for" 2 ["row", "waters", "mill", "can"] (spMost C) := ⟨f7, _, PySem.W.mg_of X G a7, k7, b7, ok_most F7 T M4⟩
  have D8 : Cd P w K mg base "lifted" 1 ["waters", "mill", "much"] (spLifted) := ⟨f8, _, PySem.W.mg_of X G a8, k8, b8, ok_lifted F8 T⟩
  have D9 : Cd P w K mg base "full_hour" 3 ["row", "waters", "cans"] (spFullHour C) := ⟨f9, _, PySem.W.mg_of X G a9, k9, b9, ok_fullhour F9 T M2 D7 D8⟩
  have D10 : Cd P w K mg base "full_hours" 4 ["row", "hours"] (spFullHours C) := ⟨f10, _, PySem.W.mg_of X G a10, k10, b10, ok_fullhours F10 T M3 D9⟩
  have D11 : Cd P w K mg base "worked_hour" 3 ["row", "waters", "cans", "parts"] (spWorked C) := ⟨f11, _, PySem.W.mg_of X G a11, k11, b11, ok_worked F11 T M2 D6 D8⟩
  have D12 : Cd P w K mg base "are_small" 1 ["numbers"] (spSmall) := ⟨f12, _, PySem.W.mg_of X G a12, k12, b12, ok_small F12 T⟩
  have D13 : Cd P w K mg base "begins" 3 ["held", "water", "basins"] (spBegins C CH) := ⟨f13, _, PySem.W.mg_of X G a13, k13, b13, ok_begins F13 T R D12⟩
  have D14 : Cd P w K mg base "hour" 2 ["row", "cans"] (spHour C) := ⟨f14, _, PySem.W.mg_of X G a14, k14, b14, ok_hour F14 T M2 D12⟩
  have D15 : Cd P w K mg base "check" 4 ["row", "plan"] (spCheck C) := ⟨f15, _, PySem.W.mg_of X G a15, k15, b15, ok_check F15 T M2 M3 D11⟩
  have D16 : Cd P w K mg base "full" 5 ["row"] (spFull C) := ⟨f16, _, PySem.W.mg_of X G a16, k16, b16, ok_full F16 T D10⟩
  have D17 : Cd P w K mg base "soonest" 5 ["row", "much"] (spSoon C) := ⟨f17, _, PySem.W.mg_of X G a17, k17, b17, ok_soon F17 T D10⟩
  have D18 : Cd P w K mg base "better" 5 ["row", "mill", "much"] (spBetter C) := ⟨f18, _, PySem.W.mg_of X G a18, k18, b18, ok_better F18 T M2 D10⟩
  have D19 : Cd P w K mg base "answer" 6 ["held", "call", "numbers", "row"] (spAnswer C CH) := ⟨f19, _, PySem.W.mg_of X G a19, k19, b19, ok_answer F19 T D13 D14 D15 D16 D17 D18⟩
  exact ok_answers F20 T R5 D19
end Mr
open PySem PySem.W PyProof.Rows
set_option maxRecDepth 100000 in
set_option maxHeartbeats 0 in
theorem PySem.Challenge.cw_millrows_s01_answers_holds : PySem.Challenge.rw_millrows_s01_answers.Holds := by
  w_on; k_headS; (case hw => exact ⟨[.list [.int 3]], by decide +kernel, by decide +kernel⟩)
  k_fillS
  refine L2.walk_specK (r := PySem.Challenge.rw_millrows_s01_answers) (k := 7) (CX := L2.CX0) (ps := ["calls"]) (sp := Mr.spAnswers) (by decide +kernel) rfl rfl ⟨rfl, by decide, by decide⟩ (fun w h Y => PySem.W.kIn_of Y) ?F ?S (fun _ _ _ _ z => z)
  case F =>
    intro w mg fa h Y KX G hmg
    refine' Mr.all_mk KX G hmg ?mr_aC ?mr_aCH ?mr_a1 ?mr_i1 ?mr_l1 ?mr_c1 ?mr_k1 ?mr_a2 ?mr_i2 ?mr_l2 ?mr_c2 ?mr_k2 ?mr_a3 ?mr_i3 ?mr_l3 ?mr_c3 ?mr_k3 ?mr_a4 ?mr_i4 ?mr_l4 ?mr_c4 ?mr_k4 ?mr_a5 ?mr_i5 ?mr_l5 ?mr_c5 ?mr_k5 ?mr_a6 ?mr_l6 ?mr_c6 ?mr_k6 ?mr_a7 ?mr_l7 ?mr_c7 ?mr_k7 ?mr_a8 ?mr_l8 ?mr_c8 ?mr_k8 ?mr_a9 ?mr_l9 ?mr_c9 ?mr_k9 ?mr_a10 ?mr_l10 ?mr_c10 ?mr_k10 ?mr_a11 ?mr_l11 ?mr_c11 ?mr_k11 ?mr_a12 ?mr_l12 ?mr_c12 ?mr_k12 ?mr_a13 ?mr_l13 ?mr_c13 ?mr_k13 ?mr_a14 ?mr_l14 ?mr_c14 ?mr_k14 ?mr_a15 ?mr_l15 ?mr_c15 ?mr_k15 ?mr_a16 ?mr_l16 ?mr_c16 ?mr_k16 ?mr_a17 ?mr_l17 ?mr_c17 ?mr_k17 ?mr_a18 ?mr_l18 ?mr_c18 ?mr_k18 ?mr_a19 ?mr_l19 ?mr_c19 ?mr_k19 ?mr_a20 ?mr_l20 ?mr_c20 ?mr_k20 ?mr_pgC ?mr_hdC ?mr_poC ?mr_saC ?mr_mkC ?mr_kcC ?mr_pgCH ?mr_hdCH ?mr_poCH ?mr_saCH ?mr_mkCH ?mr_kcCH ?mr_nW ?mr_nB ?mr_nH ?mr_nR ?mr_g0 ?mr_g1 ?mr_g2 ?mr_g3 ?mr_g4 ?mr_g5 ?mr_aI ?mr_lI ?mr_aL ?mr_lL ?mr_z0 ?mr_z1 ?mr_z2 ?mr_z3 ?mr_z4
    (case mr_aC => k_is); (case mr_aCH => k_is); (case mr_a1 => k_is); (case mr_i1 => k_is); (case mr_l1 => k_is); (case mr_c1 => k_is); (case mr_k1 => k_is); (case mr_a2 => k_is)
    (case mr_i2 => k_is); (case mr_l2 => k_is); (case mr_c2 => k_is); (case mr_k2 => k_is); (case mr_a3 => k_is); (case mr_i3 => k_is); (case mr_l3 => k_is); (case mr_c3 => k_is)
    (case mr_k3 => k_is); (case mr_a4 => k_is); (case mr_i4 => k_is); (case mr_l4 => k_is); (case mr_c4 => k_is); (case mr_k4 => k_is); (case mr_a5 => k_is); (case mr_i5 => k_is)
    (case mr_l5 => k_is); (case mr_c5 => k_is); (case mr_k5 => k_is); (case mr_a6 => k_is); (case mr_l6 => k_is); (case mr_c6 => k_is); (case mr_k6 => k_is); (case mr_a7 => k_is)
    (case mr_l7 => k_is); (case mr_c7 => k_is); (case mr_k7 => k_is); (case mr_a8 => k_is); (case mr_l8 => k_is); (case mr_c8 => k_is); (case mr_k8 => k_is); (case mr_a9 => k_is)
    (case mr_l9 => k_is); (case mr_c9 => k_is); (case mr_k9 => k_is); (case mr_a10 => k_is); (case mr_l10 => k_is); (case mr_c10 => k_is); (case mr_k10 => k_is); (case mr_a11 => k_is)
    (case mr_l11 => k_is); (case mr_c11 => k_is); (case mr_k11 => k_is); (case mr_a12 => k_is); (case mr_l12 => k_is); (case mr_c12 => k_is); (case mr_k12 => k_is); (case mr_a13 => k_is)
    (case mr_l13 => k_is); (case mr_c13 => k_is); (case mr_k13 => k_is); (case mr_a14 => k_is); (case mr_l14 => k_is); (case mr_c14 => k_is); (case mr_k14 => k_is); (case mr_a15 => k_is)
    (case mr_l15 => k_is); (case mr_c15 => k_is); (case mr_k15 => k_is); (case mr_a16 => k_is); (case mr_l16 => k_is); (case mr_c16 => k_is); (case mr_k16 => k_is); (case mr_a17 => k_is)
    (case mr_l17 => k_is); (case mr_c17 => k_is); (case mr_k17 => k_is); (case mr_a18 => k_is); (case mr_l18 => k_is); (case mr_c18 => k_is); (case mr_k18 => k_is); (case mr_a19 => k_is)
    (case mr_l19 => k_is); (case mr_c19 => k_is); (case mr_k19 => k_is); (case mr_a20 => k_is); (case mr_l20 => k_is); (case mr_c20 => k_is); (case mr_k20 => k_is); (case mr_pgC => k_is)
    (case mr_hdC => k_is); (case mr_poC => k_is); (case mr_saC => k_is); (case mr_mkC => k_is); (case mr_kcC => k_is); (case mr_pgCH => k_is); (case mr_hdCH => k_is); (case mr_poCH => k_is)
    (case mr_saCH => k_is); (case mr_mkCH => k_is); (case mr_kcCH => k_is); (case mr_nW => k_is); (case mr_nB => k_is); (case mr_nH => k_is); (case mr_nR => k_is); (case mr_g0 => k_is)
    (case mr_g1 => k_is); (case mr_g2 => k_is); (case mr_g3 => k_is); (case mr_g4 => k_is); (case mr_g5 => k_is); (case mr_aI => k_is); (case mr_lI => k_is); (case mr_aL => k_is)
    (case mr_lL => k_is); (case mr_z0 => k_is); (case mr_z1 => k_is); (case mr_z2 => k_is); (case mr_z3 => k_is); (case mr_z4 => k_is)
  case S =>
    intro K H xs a hO hwi hask hx
    cases hx with
    | cons h1 h2 =>
      cases h2
      cases h1 with
      | lst hs ha =>
        have e := L2.ints_dw a.1 _ ha
        subst e
        have q : ((Codec.inLen 0 30000 a.1 && a.1.all (Codec.inInt 0 4294967295)) && true) = true := hwi
        rw [Bool.and_eq_true, Bool.and_eq_true] at q
        exact ⟨_, a.1, rfl, hs, (Codec.inNat_iff.mp q.1.1).2, hask, fun H' p hp => .lst (L2.SqL.of hp) (L2.dw_ints _)⟩
#print axioms PySem.Challenge.cw_millrows_s01_answers_holds
