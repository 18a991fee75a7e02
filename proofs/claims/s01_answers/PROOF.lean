import PyProof.Rows.All
import Wide.All
import OpenK.AllK
import Wide.FinOn
import Open.SpecLaws
import KE.OsGo
import HandS.ForSpec
import HandS.Comp
import HandS.Conv
import HandS.NoneIn
import HandS.Style
import HandS.CallLocal
import HandS.Rev
import HandS.Codes
import PySem.Challenge.RW_freshlotsworks_s01_answers
set_option Elab.async false
set_option linter.all false
set_option maxRecDepth 100000
set_option maxHeartbeats 4000000
/-! Plain mathematics: the program's loops as functions of lists, and that they are the specification's. -/
namespace FL
open Sr101

abbrev zs (l : List Nat) : List Int := SrCommon.natsToInts l

theorem zs_nil : zs [] = [] := rfl
theorem zs_cons (a : Nat) (l : List Nat) : zs (a :: l) = (a : Int) :: zs l := rfl
theorem zs_append (a b : List Nat) : zs (a ++ b) = zs a ++ zs b := by simp [SrCommon.natsToInts]
theorem zs_length (l : List Nat) : (zs l).length = l.length := by simp [SrCommon.natsToInts]
theorem zs_get (l : List Nat) (i : Nat) : (zs l)[i]? = (l[i]?).map fun (x : Nat) => (x : Int) := by simp [SrCommon.natsToInts]
theorem zs_set (l : List Nat) (i x : Nat) : zs (l.set i x) = (zs l).set i (x : Int) := by simp [SrCommon.natsToInts, List.map_set]
theorem zs_drop (l : List Nat) (i : Nat) : (zs l).drop i = zs (l.drop i) := by simp [SrCommon.natsToInts]
theorem zs_take (l : List Nat) (i : Nat) : (zs l).take i = zs (l.take i) := by simp [SrCommon.natsToInts]
theorem zs_replicate (n x : Nat) : zs (List.replicate n x) = List.replicate n (x : Int) := by simp [SrCommon.natsToInts]
theorem zs_inj : ∀ {a b : List Nat}, zs a = zs b → a = b
  | [], [], _ => rfl
  | [], _ :: _, h => by simp [SrCommon.natsToInts] at h
  | _ :: _, [], h => by simp [SrCommon.natsToInts] at h
  | x :: a, y :: b, h => by
    rw [zs_cons, zs_cons] at h
    have h1 := (List.cons.inj h).1
    have h2 := zs_inj (List.cons.inj h).2
    have h3 : x = y := by omega
    rw [h2, h3]
theorem zs_toNats : ∀ {l : List Int}, (∀ x ∈ l, 0 ≤ x) → zs (SrCommon.intsToNats l) = l
  | [], _ => rfl
  | x :: l, h => by
    have h1 := h x (List.mem_cons_self)
    have h2 := zs_toNats (l := l) fun y hy => h y (List.mem_cons_of_mem _ hy)
    show ((x.toNat : Nat) : Int) :: zs (SrCommon.intsToNats l) = x :: l
    rw [h2, Int.toNat_of_nonneg h1]

theorem sum_foldl : ∀ (l : List Nat) (a : Nat), l.foldl (· + ·) a = a + SrCommon.sum l
  | [], a => rfl
  | x :: l, a => by
    have h1 := sum_foldl l (a + x)
    have h2 := sum_foldl l (0 + x)
    show l.foldl (· + ·) (a + x) = a + l.foldl (· + ·) (0 + x)
    rw [h1, h2]
    omega
theorem sum_nil : SrCommon.sum [] = 0 := rfl
theorem sum_cons (a : Nat) (l : List Nat) : SrCommon.sum (a :: l) = a + SrCommon.sum l := by
  show l.foldl (· + ·) (0 + a) = a + SrCommon.sum l
  rw [sum_foldl]
  omega
theorem sum_append : ∀ (a b : List Nat), SrCommon.sum (a ++ b) = SrCommon.sum a + SrCommon.sum b
  | [], b => by rw [List.nil_append, sum_nil, Nat.zero_add]
  | x :: a, b => by rw [List.cons_append, sum_cons, sum_cons, sum_append a b]; omega
theorem sum_reverse : ∀ (a : List Nat), SrCommon.sum a.reverse = SrCommon.sum a
  | [] => rfl
  | x :: a => by rw [List.reverse_cons, sum_append, sum_reverse a, sum_cons, sum_cons, sum_nil]; omega
theorem zs_sum : ∀ (l : List Nat), (zs l).sum = ((SrCommon.sum l : Nat) : Int)
  | [] => rfl
  | x :: l => by
    rw [zs_cons, List.sum_cons, zs_sum l, sum_cons]
    omega
theorem sum_all_le (m : Nat) : ∀ (l : List Nat), (∀ x ∈ l, x ≤ m) → SrCommon.sum l ≤ m * l.length
  | [], _ => Nat.zero_le _
  | x :: l, h => by
    have h1 := sum_all_le m l fun y hy => h y (List.mem_cons_of_mem _ hy)
    have h2 := h x List.mem_cons_self
    rw [sum_cons, List.length_cons, Nat.mul_succ]
    omega

/-! ### segments -/
theorem seg_list (p : Problem) (i n : Nat) (h : i + n ≤ p.demands.length) : (List.range n).map (fun k => demandOn p (i + k)) = (p.demands.drop i).take n := by
  apply List.ext_getElem?
  intro k
  by_cases hk : k < n
  · have h1 : i + k < p.demands.length := by omega
    rw [List.getElem?_map, List.getElem?_range hk, List.getElem?_take, if_pos hk, List.getElem?_drop, List.getElem?_eq_getElem h1]
    simp [demandOn, List.getD, List.getElem?_eq_getElem h1]
  · rw [List.getElem?_eq_none (by simp; omega), List.getElem?_eq_none (by simp; omega)]
theorem seg_demand (p : Problem) (i n : Nat) (h : i + n ≤ p.demands.length) : segmentDemand p i (i + n) = SrCommon.sum ((p.demands.drop i).take n) := by
  unfold segmentDemand
  rw [show i + n - i = n by omega, seg_list p i n h]
/-- the nights of the loaves of a segment of n days -/
def nights (p : Problem) (i n : Nat) : List Nat := (List.range n).map fun k => k * demandOn p (i + k)
theorem seg_cost (p : Problem) (i n : Nat) : segmentCost p i (i + n) = if segmentDemand p i (i + n) = 0 then 0 else p.setupCost + p.holdingCost * SrCommon.sum (nights p i n) := by
  unfold segmentCost nights
  rw [show i + n - i = n by omega]

/-! ### the search for the last day of a segment -/
def offer (p : Problem) (beh : List Nat) (first k : Nat) : Nat := segmentCost p first (first + k + 1) + beh.getD (first + k + 1) 0
def scanStep (p : Problem) (beh : List Nat) (first : Nat) (b : Option (Nat × Nat)) (k : Nat) : Option (Nat × Nat) := match b with
  | none => some (offer p beh first k, first + k)
  | some q => if offer p beh first k < q.1 then some (offer p beh first k, first + k) else some q
def scan (p : Problem) (beh : List Nat) (first n : Nat) : Option (Nat × Nat) := (List.range n).foldl (scanStep p beh first) none
theorem scan_zero (p : Problem) (beh : List Nat) (first : Nat) : scan p beh first 0 = none := rfl
theorem scan_succ (p : Problem) (beh : List Nat) (first n : Nat) : scan p beh first (n + 1) = scanStep p beh first (scan p beh first n) n := by
  unfold scan
  rw [List.range_succ (n := n), List.foldl_append]
  rfl
theorem scan_some (p : Problem) (beh : List Nat) (first : Nat) : ∀ n, 0 < n → ∃ q, scan p beh first n = some q
  | 0, h => absurd h (Nat.lt_irrefl _)
  | n + 1, _ => by
    rw [scan_succ]
    cases scan p beh first n with
    | none => exact ⟨_, rfl⟩
    | some q =>
      show ∃ q', (if offer p beh first n < q.1 then some (offer p beh first n, first + n) else some q) = some q'
      split <;> exact ⟨_, rfl⟩
/-- how many days a segment that begins at a day may have -/
def span (p : Problem) (first : Nat) : Nat := min p.shelfLife (p.demands.length - first)
def found (p : Problem) (beh : List Nat) (first : Nat) : Nat × Nat := (scan p beh first (span p first)).getD (0, 0)
/-- behind and lasts after some turns -/
def rowsAt (p : Problem) : Nat → List Nat × List Nat
  | 0 => (List.replicate (p.demands.length + 1) 0, List.replicate p.demands.length 0)
  | t + 1 => ((rowsAt p t).1.set (p.demands.length - 1 - t) (found p (rowsAt p t).1 (p.demands.length - 1 - t)).1,
      (rowsAt p t).2.set (p.demands.length - 1 - t) (found p (rowsAt p t).1 (p.demands.length - 1 - t)).2)
theorem rowsAt_length (p : Problem) : ∀ t, (rowsAt p t).1.length = p.demands.length + 1 ∧ (rowsAt p t).2.length = p.demands.length
  | 0 => by simp [rowsAt]
  | t + 1 => by
    have h := rowsAt_length p t
    simp only [rowsAt, List.length_set]
    exact h
def lasts (p : Problem) : List Nat := (rowsAt p p.demands.length).2
/-- the plan so far, and the first day of the next segment -/
def planAt (p : Problem) (ls : List Nat) : Nat → List Nat × Nat
  | 0 => (List.replicate p.demands.length 0, 0)
  | d + 1 => if d = (planAt p ls d).2 then ((planAt p ls d).1.set d (SrCommon.sum ((p.demands.drop d).take (ls.getD d 0 + 1 - d))), ls.getD d 0 + 1) else planAt p ls d
theorem planAt_length (p : Problem) (ls : List Nat) : ∀ d, (planAt p ls d).1.length = p.demands.length
  | 0 => by simp [planAt]
  | d + 1 => by
    have h := planAt_length p ls d
    unfold planAt
    split
    · rw [List.length_set]; exact h
    · exact h

/-! ### the stock -/
def soldStep (s : List Nat × Nat) (age : Nat) : List Nat × Nat := (s.1.set age (s.1.getD age 0 - min (s.1.getD age 0) s.2), s.2 - min (s.1.getD age 0) s.2)
def sold (stock : List Nat) (wanted : Nat) (ages : List Nat) : List Nat × Nat := ages.foldl soldStep (stock, wanted)
theorem sold_length : ∀ (ages stock : List Nat) (wanted : Nat), (sold stock wanted ages).1.length = stock.length
  | [], _, _ => rfl
  | a :: r, st, w => by
    have h := sold_length r (soldStep (st, w) a).1 (soldStep (st, w) a).2
    show (sold (soldStep (st, w) a).1 (soldStep (st, w) a).2 r).1.length = st.length
    rw [h]
    simp [soldStep]
def ages (n : Nat) (newest : Bool) : List Nat := if newest then List.range n else (List.range n).reverse
theorem ages_length (n : Nat) (b : Bool) : (ages n b).length = n := by cases b <;> simp [ages]
theorem ages_lt (n : Nat) (b : Bool) : ∀ a ∈ ages n b, a < n := by cases b <;> simp [ages]
def morning (plan st : List Nat) (i : Nat) : List Nat := st.set 0 (st.getD 0 0 + plan.getD i 0)
def evening (p : Problem) (nf : Bool) (plan st : List Nat) (i : Nat) : List Nat × Nat := sold (morning plan st i) (demandOn p i) (ages p.shelfLife nf)
def dayAt (p : Problem) (nf : Bool) (plan : List Nat) : Nat → List Nat × List DayReport
  | 0 => (List.replicate p.shelfLife 0, [])
  | i + 1 => (0 :: (evening p nf plan (dayAt p nf plan i).1 i).1.take (p.shelfLife - 1),
      (dayAt p nf plan i).2 ++ [⟨(evening p nf plan (dayAt p nf plan i).1 i).2, (evening p nf plan (dayAt p nf plan i).1 i).1.getD (p.shelfLife - 1) 0, SrCommon.sum ((evening p nf plan (dayAt p nf plan i).1 i).1.take (p.shelfLife - 1))⟩])
theorem dayAt_length (p : Problem) (nf : Bool) (plan : List Nat) (h : 0 < p.shelfLife) : ∀ i, (dayAt p nf plan i).1.length = p.shelfLife ∧ (dayAt p nf plan i).2.length = i
  | 0 => by simp [dayAt]
  | i + 1 => by
    have ih := dayAt_length p nf plan h i
    have e : (evening p nf plan (dayAt p nf plan i).1 i).1.length = p.shelfLife := by
      unfold evening
      rw [sold_length, morning, List.length_set]
      exact ih.1
    refine ⟨?_, ?_⟩
    · show (0 :: (evening p nf plan (dayAt p nf plan i).1 i).1.take (p.shelfLife - 1)).length = p.shelfLife
      rw [List.length_cons, List.length_take, e]
      omega
    · show ((dayAt p nf plan i).2 ++ [_]).length = i + 1
      rw [List.length_append, ih.2]
      rfl
end FL

namespace FL
open Sr101

/-! ### the table of lowest costs -/
def tabStep (p : Problem) (table : List Nat) (i : Nat) : List Nat :=
  (((List.range (min p.shelfLife (dayCount p - i))).foldl (fun best k => minOption best (segmentCost p i (i + k + 1) + table.getD k 0)) none).getD 0) :: table
def tab (p : Problem) (t : Nat) : List Nat := ((List.range (dayCount p)).reverse.take t).foldl (tabStep p) [0]
theorem tab_all (p : Problem) : tab p (dayCount p) = costTable p := by
  unfold tab costTable
  rw [List.take_of_length_le (by rw [List.length_reverse, List.length_range]; exact Nat.le_refl _)]
  rfl
theorem tab_zero (p : Problem) : tab p 0 = [0] := rfl
theorem tab_succ (p : Problem) (t : Nat) (h : t < dayCount p) : tab p (t + 1) = tabStep p (tab p t) (dayCount p - 1 - t) := by
  unfold tab
  rw [List.take_add_one, List.foldl_append]
  have e : (List.range (dayCount p)).reverse[t]? = some (dayCount p - 1 - t) := by
    rw [List.getElem?_reverse (by simpa using h), List.length_range, List.getElem?_range (by omega)]
  rw [e]
  rfl
theorem tab_length (p : Problem) : ∀ t, t ≤ dayCount p → (tab p t).length = t + 1
  | 0, _ => rfl
  | t + 1, h => by
    rw [tab_succ p t (by omega)]
    show (tab p t).length + 1 = t + 2
    rw [tab_length p t (by omega)]
theorem scan_fst (p : Problem) (beh : List Nat) (first : Nat) : ∀ n, (scan p beh first n).map (·.1) = (List.range n).foldl (fun b k => minOption b (offer p beh first k)) none
  | 0 => rfl
  | n + 1 => by
    rw [scan_succ, List.range_succ, List.foldl_append, ← scan_fst p beh first n]
    cases scan p beh first n with
    | none => rfl
    | some q =>
      show (scanStep p beh first (some q) n).map (·.1) = some (min q.1 (offer p beh first n))
      show (if offer p beh first n < q.1 then some (offer p beh first n, first + n) else some q).map (·.1) = _
      split
      · show some (offer p beh first n) = _
        congr 1
        omega
      · show some q.1 = _
        congr 1
        omega
theorem foldl_congr {α β : Type} {f g : α → β → α} : ∀ (l : List β) (a : α), (∀ x b, b ∈ l → f x b = g x b) → l.foldl f a = l.foldl g a
  | [], _, _ => rfl
  | x :: l, a, h => by
    show l.foldl f (f a x) = l.foldl g (g a x)
    rw [h a x List.mem_cons_self]
    exact foldl_congr l _ fun y b hb => h y b (List.mem_cons_of_mem _ hb)
theorem getD_app (a b : List Nat) (i : Nat) (h : a.length ≤ i) : (a ++ b).getD i 0 = b.getD (i - a.length) 0 := by
  simp only [List.getD]
  rw [List.getElem?_append_right h]
theorem found_fst (p : Problem) (beh : List Nat) (first : Nat) (tb : List Nat) (h : ∀ k, k < span p first → beh.getD (first + k + 1) 0 = tb.getD k 0) :
    (found p beh first).1 = ((List.range (span p first)).foldl (fun best k => minOption best (segmentCost p first (first + k + 1) + tb.getD k 0)) none).getD 0 := by
  have e := scan_fst p beh first (span p first)
  have e2 : (List.range (span p first)).foldl (fun b k => minOption b (offer p beh first k)) none = (List.range (span p first)).foldl (fun best k => minOption best (segmentCost p first (first + k + 1) + tb.getD k 0)) none := by
    refine foldl_congr _ _ fun x k hk => ?_
    unfold offer
    rw [h k (List.mem_range.mp hk)]
  rw [e2] at e
  unfold found
  rw [← e]
  cases scan p beh first (span p first) <;> rfl
theorem rows_tab (p : Problem) : ∀ t, t ≤ dayCount p → (rowsAt p t).1 = List.replicate (dayCount p - t) 0 ++ tab p t
  | 0, _ => by
    show List.replicate (p.demands.length + 1) 0 = List.replicate (p.demands.length - 0) 0 ++ [0]
    rw [List.replicate_succ']
    rfl
  | t + 1, h => by
    have ih := rows_tab p t (by omega)
    have hf : (found p (rowsAt p t).1 (p.demands.length - 1 - t)).1 = ((List.range (span p (dayCount p - 1 - t))).foldl (fun best k => minOption best (segmentCost p (dayCount p - 1 - t) (dayCount p - 1 - t + k + 1) + (tab p t).getD k 0)) none).getD 0 := by
      refine found_fst p _ _ (tab p t) fun k hk => ?_
      rw [ih, getD_app _ _ _ (by simp only [List.length_replicate, dayCount] at *; omega)]
      congr 1
      simp only [List.length_replicate, dayCount] at *
      omega
    show (rowsAt p t).1.set (p.demands.length - 1 - t) (found p (rowsAt p t).1 (p.demands.length - 1 - t)).1 = _
    rw [hf, tab_succ p t (by omega), ih]
    have e1 : dayCount p - t = (dayCount p - (t + 1)) + 1 := by omega
    rw [e1, List.replicate_succ', List.append_assoc]
    have e2 : p.demands.length - 1 - t = (List.replicate (dayCount p - (t + 1)) 0).length := by
      simp only [List.length_replicate, dayCount] at *
      omega
    rw [e2, List.set_append_right _ _ (Nat.le_refl _), Nat.sub_self]
    rfl
theorem rows_cost (p : Problem) : (rowsAt p p.demands.length).1 = costTable p := by
  have h := rows_tab p (dayCount p) (Nat.le_refl _)
  rw [Nat.sub_self, tab_all] at h
  exact h

/-! ### the last days -/
theorem rows_keep (p : Problem) (t : Nat) : ∀ d j, t + d ≤ p.demands.length → p.demands.length - t ≤ j → (rowsAt p (t + d)).1[j]? = (rowsAt p t).1[j]? ∧ (rowsAt p (t + d)).2[j]? = (rowsAt p t).2[j]?
  | 0, _, _, _ => ⟨rfl, rfl⟩
  | d + 1, j, h, hj => by
    have ih := rows_keep p t d j (by omega) hj
    show ((rowsAt p (t + d)).1.set (p.demands.length - 1 - (t + d)) _)[j]? = _ ∧ ((rowsAt p (t + d)).2.set (p.demands.length - 1 - (t + d)) _)[j]? = _
    rw [List.getElem?_set_ne (by omega), List.getElem?_set_ne (by omega)]
    exact ih
/-- what the search finds: the first offer that is least -/
theorem scan_least (p : Problem) (beh : List Nat) (first : Nat) : ∀ n q, scan p beh first n = some q → ∃ k, k < n ∧ q = (offer p beh first k, first + k) ∧ (∀ j, j < n → q.1 ≤ offer p beh first j) ∧ ∀ j, j < k → q.1 < offer p beh first j
  | 0, _, h => by cases h
  | n + 1, q, h => by
    rw [scan_succ] at h
    cases e : scan p beh first n with
    | none =>
      rw [e] at h
      have hn : n = 0 := by
        rcases Nat.eq_zero_or_pos n with h0 | h0
        · exact h0
        · obtain ⟨q', hq⟩ := scan_some p beh first n h0
          rw [e] at hq
          cases hq
      subst hn
      have h' : q = (offer p beh first 0, first + 0) := (Option.some.inj h).symm
      refine ⟨0, Nat.zero_lt_one, h', fun j hj => ?_, fun j hj => absurd hj (Nat.not_lt_zero _)⟩
      have hj0 : j = 0 := by omega
      rw [hj0, h']
      exact Nat.le_refl _
    | some q0 =>
      rw [e] at h
      obtain ⟨k, hk, hq, hall, hlt⟩ := scan_least p beh first n q0 e
      have h' : (if offer p beh first n < q0.1 then some (offer p beh first n, first + n) else some q0) = some q := h
      split at h'
      · rename_i hl
        have hq' := (Option.some.inj h').symm
        refine ⟨n, Nat.lt_succ_self n, hq', fun j hj => ?_, fun j hj => ?_⟩
        · rw [hq']
          show offer p beh first n ≤ _
          rcases Nat.lt_or_ge j n with h1 | h1
          · have := hall j h1
            omega
          · have hjn : j = n := by omega
            rw [hjn]
            exact Nat.le_refl _
        · rw [hq']
          show offer p beh first n < _
          have := hall j hj
          omega
      · rename_i hl
        have hq' := (Option.some.inj h').symm
        subst hq'
        refine ⟨k, by omega, hq, fun j hj => ?_, hlt⟩
        rcases Nat.lt_or_ge j n with h1 | h1
        · exact hall j h1
        · have hjn : j = n := by omega
          rw [hjn]
          omega
/-- the length of the best plan's segment from a day on, less one, in the specification's words -/
def segLast (p : Problem) (i : Nat) : Nat :=
  ((List.range (min p.shelfLife (dayCount p - i))).find? fun k => segmentCost p i (i + k + 1) + (costTable p).getD (i + k + 1) 0 == (costTable p).getD i 0).getD 0
theorem find_first {q : Nat → Bool} : ∀ (n k : Nat), k < n → q k = true → (∀ j, j < k → q j = false) → (List.range n).find? q = some k := by
  intro n k hk hq hl
  rw [List.find?_range_eq_some]
  exact ⟨hq, by simpa using hk, fun j hj => by rw [hl j hj]; rfl⟩
theorem lasts_get (p : Problem) (i : Nat) (hi : i < p.demands.length) (hs : 0 < p.shelfLife) : (lasts p).getD i 0 = i + segLast p i ∧ segLast p i < span p i := by
  have hspan : 0 < span p i := by unfold span; omega
  -- the turn that sets the i-th places
  have et : p.demands.length - 1 - (p.demands.length - 1 - i) = i := by omega
  have e1 : p.demands.length - 1 - i + 1 + i = p.demands.length := by omega
  have keep := fun j hj => rows_keep p (p.demands.length - 1 - i + 1) i j (by omega) hj
  rw [e1] at keep
  have keep0 := fun j hj => rows_keep p (p.demands.length - 1 - i) (i + 1) j (by omega) hj
  rw [show p.demands.length - 1 - i + (i + 1) = p.demands.length by omega] at keep0
  have hlen := rowsAt_length p (p.demands.length - 1 - i)
  generalize hB : (rowsAt p (p.demands.length - 1 - i)).1 = B at *
  have hset1 : (rowsAt p (p.demands.length - 1 - i + 1)).1[i]? = some (found p B i).1 := by
    show ((rowsAt p (p.demands.length - 1 - i)).1.set (p.demands.length - 1 - (p.demands.length - 1 - i)) _)[i]? = _
    rw [et, hB, List.getElem?_set_self (by omega)]
  have hset2 : (rowsAt p (p.demands.length - 1 - i + 1)).2[i]? = some (found p B i).2 := by
    show ((rowsAt p (p.demands.length - 1 - i)).2.set (p.demands.length - 1 - (p.demands.length - 1 - i)) _)[i]? = _
    rw [et, hB, List.getElem?_set_self (by omega)]
  obtain ⟨q, hq⟩ := scan_some p B i (span p i) hspan
  have hf : found p B i = q := by unfold found; rw [hq]; rfl
  obtain ⟨k, hk, eq, hall, hlt⟩ := scan_least p B i (span p i) q hq
  have hc : (costTable p).getD i 0 = q.1 := by
    rw [← rows_cost]
    simp only [List.getD]
    rw [(keep i (by omega)).1, hset1, hf]
    rfl
  have ho : ∀ k', k' < span p i → segmentCost p i (i + k' + 1) + (costTable p).getD (i + k' + 1) 0 = offer p B i k' := fun k' _ => by
    unfold offer
    rw [← rows_cost]
    simp only [List.getD]
    rw [(keep0 (i + k' + 1) (by omega)).1]
  have hsl : segLast p i = k := by
    unfold segLast
    rw [find_first (min p.shelfLife (dayCount p - i)) k hk ?_ ?_]
    · rfl
    · rw [hc, ho k hk, eq]
      exact beq_self_eq_true _
    · intro j hj
      rw [hc, ho j (by omega)]
      have := hlt j hj
      exact beq_eq_false_iff_ne.mpr (Nat.ne_of_gt this)
  refine ⟨?_, by rw [hsl]; exact hk⟩
  unfold lasts
  simp only [List.getD]
  rw [(keep i (by omega)).2, hset2, hf, eq, hsl]
  rfl

/-! ### the best plan -/
def look (l : List (Nat × Nat)) (day : Nat) : Nat := ((l.find? fun y => y.1 == day).map fun y => y.2).getD 0
theorem best_look (p : Problem) : bestPlan p = (List.range (dayCount p)).map (look (segmentsFrom p (dayCount p) 0)) := rfl
theorem seg_from (p : Problem) (fuel i : Nat) (h : i < p.demands.length) : segmentsFrom p (fuel + 1) i = (i, segmentDemand p i (i + segLast p i + 1)) :: segmentsFrom p fuel (i + segLast p i + 1) := by
  rw [segmentsFrom]
  rw [if_neg (by unfold dayCount; omega)]
  rfl
theorem seg_ge (p : Problem) : ∀ (fuel i : Nat) (y : Nat × Nat), y ∈ segmentsFrom p fuel i → i ≤ y.1
  | 0, i, y, h => by rw [segmentsFrom] at h; cases h
  | fuel + 1, i, y, h => by
    by_cases hi : i < p.demands.length
    · rw [seg_from p fuel i hi] at h
      rcases List.mem_cons.mp h with first | later
      · rw [first]
        exact Nat.le_refl _
      · have := seg_ge p fuel _ y later
        omega
    · rw [segmentsFrom, if_pos (by unfold dayCount; omega)] at h
      cases h
theorem look_none {l : List (Nat × Nat)} {day : Nat} (h : ∀ y ∈ l, y.1 ≠ day) : look l day = 0 := by
  unfold look
  rw [List.find?_eq_none.mpr fun y hy => by rw [beq_eq_false_iff_ne.mpr (h y hy)]; exact Bool.false_ne_true]
  rfl
theorem look_here {l : List (Nat × Nat)} {day x : Nat} : look ((day, x) :: l) day = x := by
  unfold look
  rw [List.find?_cons_of_pos (by exact beq_self_eq_true day)]
  rfl
theorem look_past {l : List (Nat × Nat)} {d day x : Nat} (h : d ≠ day) : look ((d, x) :: l) day = look l day := by
  unfold look
  rw [List.find?_cons_of_neg (by simpa using h)]
theorem plan_inv (p : Problem) (hs : 0 < p.shelfLife) : ∀ d, d ≤ p.demands.length → d ≤ (planAt p (lasts p) d).2 ∧ (planAt p (lasts p) d).2 ≤ p.demands.length ∧
    (∀ j, j < p.demands.length → (planAt p (lasts p) d).1[j]? = some (if j < d then look (segmentsFrom p (dayCount p) 0) j else 0)) ∧
    ∃ fuel, p.demands.length - (planAt p (lasts p) d).2 ≤ fuel ∧ ∀ day, d ≤ day → look (segmentsFrom p (dayCount p) 0) day = look (segmentsFrom p fuel (planAt p (lasts p) d).2) day
  | 0, _ => by
    refine ⟨Nat.le_refl _, Nat.zero_le _, fun j hj => ?_, dayCount p, ?_, fun day _ => rfl⟩
    · rw [if_neg (Nat.not_lt_zero _)]
      show (List.replicate p.demands.length 0)[j]? = some 0
      rw [List.getElem?_replicate, if_pos hj]
    · show p.demands.length - 0 ≤ p.demands.length
      omega
  | d + 1, h => by
    obtain ⟨h1, h2, h3, fuel, h4, h5⟩ := plan_inv p hs d (by omega)
    have hlen := planAt_length p (lasts p) d
    by_cases e : d = (planAt p (lasts p) d).2
    · have hd : d < p.demands.length := by omega
      obtain ⟨l1, l2⟩ := lasts_get p d hd hs
      have l3 : segLast p d < p.demands.length - d := Nat.lt_of_lt_of_le l2 (Nat.min_le_right _ _)
      have ep : planAt p (lasts p) (d + 1) = ((planAt p (lasts p) d).1.set d (SrCommon.sum ((p.demands.drop d).take ((lasts p).getD d 0 + 1 - d))), (lasts p).getD d 0 + 1) := by
        rw [planAt, if_pos e]
      rw [ep, l1]
      obtain ⟨f', rfl⟩ : ∃ f', fuel = f' + 1 := ⟨fuel - 1, by omega⟩
      rw [← e] at h5 h4
      have hcons : ∀ day, d ≤ day → look (segmentsFrom p (dayCount p) 0) day = look ((d, segmentDemand p d (d + segLast p d + 1)) :: segmentsFrom p f' (d + segLast p d + 1)) day := fun day hday => by
        rw [h5 day hday, seg_from p f' d hd]
      refine ⟨by omega, by omega, fun j hj => ?_, f', by omega, fun day hday => ?_⟩
      · by_cases hjd : j = d
        · subst hjd
          rw [List.getElem?_set_self (by omega), if_pos (by omega), hcons j (Nat.le_refl _), look_here]
          congr 1
          rw [show j + segLast p j + 1 = j + (segLast p j + 1) by omega, seg_demand p j (segLast p j + 1) (by omega)]
          congr 2
          omega
        · rw [List.getElem?_set_ne (fun z => hjd z.symm), h3 j hj]
          by_cases hlt : j < d
          · rw [if_pos hlt, if_pos (by omega)]
          · rw [if_neg hlt, if_neg (by omega)]
      · rw [hcons day (by omega), look_past (by omega)]
    · have ep : planAt p (lasts p) (d + 1) = planAt p (lasts p) d := by
        rw [planAt, if_neg e]
      rw [ep]
      refine ⟨by omega, h2, fun j hj => ?_, fuel, h4, fun day hday => h5 day (by omega)⟩
      rw [h3 j hj]
      by_cases hjd : j = d
      · subst hjd
        rw [if_neg (Nat.lt_irrefl _), if_pos (by omega), h5 j (Nat.le_refl _), look_none]
        intro y hy
        have := seg_ge p _ _ y hy
        omega
      · by_cases hlt : j < d
        · rw [if_pos hlt, if_pos (by omega)]
        · rw [if_neg hlt, if_neg (by omega)]
theorem plan_best (p : Problem) (hs : 0 < p.shelfLife) : (planAt p (lasts p) p.demands.length).1 = bestPlan p := by
  obtain ⟨_, _, h3, _⟩ := plan_inv p hs p.demands.length (Nat.le_refl _)
  have hlen := planAt_length p (lasts p) p.demands.length
  rw [best_look]
  apply List.ext_getElem?
  intro j
  by_cases hj : j < p.demands.length
  · rw [h3 j hj, if_pos hj, List.getElem?_map, List.getElem?_range (by exact hj)]
    rfl
  · rw [List.getElem?_eq_none (by omega), List.getElem?_eq_none (by simp [dayCount]; omega)]

/-! ### the stock -/
theorem sold_newest : ∀ (suf pre : List Nat) (m : Nat), sold (pre ++ suf) m ((List.range suf.length).map (pre.length + ·)) = suf.foldl (fun (acc : List Nat × Nat) x => (acc.1 ++ [x - min x acc.2], acc.2 - min x acc.2)) (pre, m)
  | [], pre, m => by
    show sold (pre ++ []) m [] = (pre, m)
    rw [List.append_nil]
    rfl
  | x :: suf, pre, m => by
    have ih := sold_newest suf (pre ++ [x - min x m]) (m - min x m)
    rw [List.length_cons, List.range_succ_eq_map]
    rw [List.map_cons, List.map_map]
    have e0 : ((pre.length + ·) ∘ Nat.succ : Nat → Nat) = fun k => (pre ++ [x - min x m]).length + k := by
      funext k
      simp only [Function.comp, List.length_append, List.length_cons, List.length_nil]
      omega
    rw [e0]
    have e1 : soldStep (pre ++ x :: suf, m) (pre.length + 0) = ((pre ++ [x - min x m]) ++ suf, m - min x m) := by
      have g : (pre ++ x :: suf).getD (pre.length + 0) 0 = x := by simp [List.getD]
      unfold soldStep
      simp only [g]
      rw [Nat.add_zero, List.set_append_right _ _ (Nat.le_refl _), Nat.sub_self, List.append_assoc]
      rfl
    show sold (soldStep (pre ++ x :: suf, m) (pre.length + 0)).1 (soldStep (pre ++ x :: suf, m) (pre.length + 0)).2 _ = _
    rw [e1]
    exact ih
theorem sold_oldest : ∀ (n : Nat) (pre suf : List Nat) (m : Nat), pre.length = n → sold (pre ++ suf) m (List.range n).reverse = pre.reverse.foldl (fun (acc : List Nat × Nat) x => ((x - min x acc.2) :: acc.1, acc.2 - min x acc.2)) (suf, m)
  | 0, pre, suf, m, h => by
    have e : pre = [] := List.length_eq_zero_iff.mp h
    subst e
    rfl
  | n + 1, pre, suf, m, h => by
    obtain ⟨q, x, rfl⟩ : ∃ q x, pre = q ++ [x] := ⟨pre.dropLast, pre.getLast (by intro e; rw [e] at h; cases h), (List.dropLast_concat_getLast _).symm⟩
    have hq : q.length = n := by
      rw [List.length_append] at h
      simpa using h
    have ih := sold_oldest n q ((x - min x m) :: suf) (m - min x m) hq
    rw [List.range_succ, List.reverse_append, List.reverse_append]
    have e1 : soldStep ((q ++ [x]) ++ suf, m) n = (q ++ (x - min x m) :: suf, m - min x m) := by
      have e2 : (q ++ [x]) ++ suf = q ++ x :: suf := by rw [List.append_assoc]; rfl
      have g : (q ++ x :: suf).getD n 0 = x := by simp [List.getD, ← hq]
      unfold soldStep
      rw [e2]
      simp only [g]
      rw [List.set_append_right _ _ (by omega), hq, Nat.sub_self]
      rfl
    show sold (soldStep ((q ++ [x]) ++ suf, m) n).1 (soldStep ((q ++ [x]) ++ suf, m) n).2 (List.range n).reverse = _
    rw [e1]
    exact ih
theorem fold_new_sum : ∀ (l pre : List Nat) (m : Nat), SrCommon.sum (l.foldl (fun (acc : List Nat × Nat) x => (acc.1 ++ [x - min x acc.2], acc.2 - min x acc.2)) (pre, m)).1 + m = SrCommon.sum pre + SrCommon.sum l + (l.foldl (fun (acc : List Nat × Nat) x => (acc.1 ++ [x - min x acc.2], acc.2 - min x acc.2)) (pre, m)).2 ∧ (l.foldl (fun (acc : List Nat × Nat) x => (acc.1 ++ [x - min x acc.2], acc.2 - min x acc.2)) (pre, m)).2 ≤ m
  | [], pre, m => by
    show SrCommon.sum pre + m = SrCommon.sum pre + 0 + m ∧ m ≤ m
    omega
  | x :: l, pre, m => by
    have ih := fold_new_sum l (pre ++ [x - min x m]) (m - min x m)
    rw [sum_append, sum_cons, sum_nil] at ih
    rw [List.foldl_cons, sum_cons]
    generalize l.foldl (fun (acc : List Nat × Nat) x => (acc.1 ++ [x - min x acc.2], acc.2 - min x acc.2)) (pre ++ [x - min x m], m - min x m) = r at *
    omega
theorem fold_old_sum : ∀ (l pre : List Nat) (m : Nat), SrCommon.sum (l.foldl (fun (acc : List Nat × Nat) x => ((x - min x acc.2) :: acc.1, acc.2 - min x acc.2)) (pre, m)).1 + m = SrCommon.sum pre + SrCommon.sum l + (l.foldl (fun (acc : List Nat × Nat) x => ((x - min x acc.2) :: acc.1, acc.2 - min x acc.2)) (pre, m)).2 ∧ (l.foldl (fun (acc : List Nat × Nat) x => ((x - min x acc.2) :: acc.1, acc.2 - min x acc.2)) (pre, m)).2 ≤ m
  | [], pre, m => by
    show SrCommon.sum pre + m = SrCommon.sum pre + 0 + m ∧ m ≤ m
    omega
  | x :: l, pre, m => by
    have ih := fold_old_sum l ((x - min x m) :: pre) (m - min x m)
    rw [sum_cons] at ih
    rw [List.foldl_cons, sum_cons]
    generalize l.foldl (fun (acc : List Nat × Nat) x => ((x - min x acc.2) :: acc.1, acc.2 - min x acc.2)) ((x - min x m) :: pre, m - min x m) = r at *
    omega
def seller (nf : Bool) : Stock → Nat → Stock := if nf then sellNewestFirst else sellOldestFirst
theorem sold_is (nf : Bool) (st : List Nat) (m : Nat) : (sold st m (ages st.length nf)).1 = seller nf st m ∧ (sold st m (ages st.length nf)).2 = m - (SrCommon.sum st - SrCommon.sum (seller nf st m)) := by
  cases nf with
  | true =>
    have h := sold_newest st [] m
    have e : (List.range st.length).map (([] : List Nat).length + ·) = List.range st.length := by
      rw [show ((([] : List Nat).length + ·) : Nat → Nat) = id from funext fun k => Nat.zero_add k, List.map_id]
    rw [e, List.nil_append] at h
    have hs := fold_new_sum st [] m
    rw [← h, sum_nil] at hs
    have e1 : seller true st m = (sold st m (ages st.length true)).1 := by
      show sellNewestFirst st m = (sold st m (List.range st.length)).1
      rw [h]
      rfl
    rw [e1]
    show _ ∧ (sold st m (List.range st.length)).2 = m - (SrCommon.sum st - SrCommon.sum (sold st m (List.range st.length)).1)
    refine ⟨rfl, ?_⟩
    omega
  | false =>
    have h := sold_oldest st.length st [] m rfl
    rw [List.append_nil] at h
    have hs := fold_old_sum st.reverse [] m
    rw [← h, sum_nil, sum_reverse] at hs
    have e1 : seller false st m = (sold st m (ages st.length false)).1 := by
      show sellOldestFirst st m = (sold st m (List.range st.length).reverse).1
      rw [h]
      rfl
    rw [e1]
    show _ ∧ (sold st m (List.range st.length).reverse).2 = m - (SrCommon.sum st - SrCommon.sum (sold st m (List.range st.length).reverse).1)
    refine ⟨rfl, ?_⟩
    omega
theorem drop_last {l : List Nat} {n : Nat} (h : l.length = n + 1) : l.drop n = [l.getD n 0] := by
  have h1 : n < l.length := by omega
  rw [List.drop_eq_getElem_cons h1, List.drop_eq_nil_of_le (by omega)]
  simp [List.getD, List.getElem?_eq_getElem h1]
theorem sim_inv (p : Problem) (nf : Bool) (plan : List Nat) (hs : 0 < p.shelfLife) : ∀ i, i ≤ plan.length → (dayAt p nf plan i).2 ++ simulateFrom p (seller nf) (plan.drop i) i (dayAt p nf plan i).1 = simulate p (seller nf) plan
  | 0, _ => rfl
  | i + 1, h => by
    have ih := sim_inv p nf plan hs i (by omega)
    have hl := (dayAt_length p nf plan hs i).1
    have hi : i < plan.length := by omega
    rw [← ih, List.drop_eq_getElem_cons hi]
    have em : (dayAt p nf plan i).1.set 0 ((dayAt p nf plan i).1.getD 0 0 + plan[i]) = morning plan (dayAt p nf plan i).1 i := by
      unfold morning
      simp [List.getD, List.getElem?_eq_getElem hi]
    have hm : (morning plan (dayAt p nf plan i).1 i).length = p.shelfLife := by
      unfold morning
      rw [List.length_set]
      exact hl
    have hsold := sold_is nf (morning plan (dayAt p nf plan i).1 i) (demandOn p i)
    rw [hm] at hsold
    have ee : evening p nf plan (dayAt p nf plan i).1 i = sold (morning plan (dayAt p nf plan i).1 i) (demandOn p i) (ages p.shelfLife nf) := rfl
    show ((dayAt p nf plan i).2 ++ [_]) ++ simulateFrom p (seller nf) (plan.drop (i + 1)) (i + 1) (0 :: (evening p nf plan (dayAt p nf plan i).1 i).1.take (p.shelfLife - 1)) = _
    rw [List.append_assoc]
    congr 1
    rw [simulateFrom]
    simp only [em, overnight]
    rw [← hsold.1, ← ee]
    have hel : (evening p nf plan (dayAt p nf plan i).1 i).1.length = p.shelfLife := by
      rw [ee, sold_length, hm]
    obtain ⟨n, hn⟩ : ∃ n, p.shelfLife = n + 1 := ⟨p.shelfLife - 1, by omega⟩
    have e2 : (0 :: (evening p nf plan (dayAt p nf plan i).1 i).1).take p.shelfLife = 0 :: (evening p nf plan (dayAt p nf plan i).1 i).1.take (p.shelfLife - 1) := by
      rw [hn]
      rfl
    rw [e2, hn, Nat.add_sub_cancel]
    rw [drop_last (hel.trans hn), sum_cons, sum_cons, sum_nil, Nat.add_zero, Nat.zero_add]
    have e3 : (evening p nf plan (dayAt p nf plan i).1 i).2 = demandOn p i - (SrCommon.sum (morning plan (dayAt p nf plan i).1 i) - SrCommon.sum (evening p nf plan (dayAt p nf plan i).1 i).1) := by
      rw [ee, hsold.1]
      exact hsold.2
    rw [e3]
    rfl
theorem sim_is (p : Problem) (nf : Bool) (plan : List Nat) (hs : 0 < p.shelfLife) : (dayAt p nf plan plan.length).2 = simulate p (seller nf) plan := by
  have h := sim_inv p nf plan hs plan.length (Nat.le_refl _)
  rw [List.drop_length] at h
  rw [← h]
  show _ = _ ++ []
  rw [List.append_nil]
end FL

namespace FL
open Sr101

/-! ### the calls: how the list is read -/
/-- a call as the program has it: its number, its whole numbers, its list -/
inductive Rec : Int → List Int → List Int → Sr101.Call → Prop
  | create (a b c d : Int) : Rec 0 [a, b, c, d] [] (.create a b c d)
  | setDemand (a b : Int) : Rec 1 [a, b] [] (.setDemand a b)
  | setDemands (r : List Int) (h : r.length ≤ 70) : Rec 2 [] r (.setDemands r)
  | setShelfLife (a : Int) : Rec 3 [a] [] (.setShelfLife a)
  | setSetupCost (a : Int) : Rec 4 [a] [] (.setSetupCost a)
  | setHoldingCost (a : Int) : Rec 5 [a] [] (.setHoldingCost a)
  | minCost : Rec 6 [] [] .minCost
  | bestPlan : Rec 7 [] [] .bestPlan
  | planCost (r : List Int) (h : r.length ≤ 70) : Rec 8 [] r (.planCost r)
  | simulate (r : List Int) (h : r.length ≤ 70) : Rec 9 [] r (.simulate r)
  | simulateNewest (r : List Int) (h : r.length ≤ 70) : Rec 10 [] r (.simulateNewestFirst r)
  | minCostIfDemand (a b : Int) : Rec 11 [a, b] [] (.minCostIfDemand a b)
  | minCostIfShelfLife (a : Int) : Rec 12 [a] [] (.minCostIfShelfLife a)
  | setupCount : Rec 13 [] [] .setupCount
  | totalDemand : Rec 14 [] [] .totalDemand
  | describe : Rec 15 [] [] .describe

/-- how many whole numbers, how many lists a call has -/
def counts : List (Nat × Nat) := [(4, 0), (2, 0), (0, 1), (1, 0), (1, 0), (1, 0), (0, 0), (0, 0), (0, 1), (0, 1), (0, 1), (2, 0), (1, 0), (0, 0), (0, 0), (0, 0)]
theorem shape_some {p : Int} {q : Nat × Nat} (h : PySr101.shape p = some q) : ∃ i : Nat, i < 16 ∧ p = (i : Int) ∧ counts[i]? = some q := by
  unfold PySr101.shape at h
  by_cases e0 : p = 0
  · subst e0
    exact ⟨0, by decide, rfl, h⟩
  rw [if_neg e0] at h
  by_cases e1 : p = 1
  · subst e1
    exact ⟨1, by decide, rfl, h⟩
  rw [if_neg e1] at h
  by_cases e2 : p = 2
  · subst e2
    exact ⟨2, by decide, rfl, h⟩
  rw [if_neg e2] at h
  by_cases e3 : p = 3
  · subst e3
    exact ⟨3, by decide, rfl, h⟩
  rw [if_neg e3] at h
  by_cases e4 : p = 4
  · subst e4
    exact ⟨4, by decide, rfl, h⟩
  rw [if_neg e4] at h
  by_cases e5 : p = 5
  · subst e5
    exact ⟨5, by decide, rfl, h⟩
  rw [if_neg e5] at h
  by_cases e6 : p = 6
  · subst e6
    exact ⟨6, by decide, rfl, h⟩
  rw [if_neg e6] at h
  by_cases e7 : p = 7
  · subst e7
    exact ⟨7, by decide, rfl, h⟩
  rw [if_neg e7] at h
  by_cases e8 : p = 8
  · subst e8
    exact ⟨8, by decide, rfl, h⟩
  rw [if_neg e8] at h
  by_cases e9 : p = 9
  · subst e9
    exact ⟨9, by decide, rfl, h⟩
  rw [if_neg e9] at h
  by_cases e10 : p = 10
  · subst e10
    exact ⟨10, by decide, rfl, h⟩
  rw [if_neg e10] at h
  by_cases e11 : p = 11
  · subst e11
    exact ⟨11, by decide, rfl, h⟩
  rw [if_neg e11] at h
  by_cases e12 : p = 12
  · subst e12
    exact ⟨12, by decide, rfl, h⟩
  rw [if_neg e12] at h
  by_cases e13 : p = 13
  · subst e13
    exact ⟨13, by decide, rfl, h⟩
  rw [if_neg e13] at h
  by_cases e14 : p = 14
  · subst e14
    exact ⟨14, by decide, rfl, h⟩
  rw [if_neg e14] at h
  by_cases e15 : p = 15
  · subst e15
    exact ⟨15, by decide, rfl, h⟩
  rw [if_neg e15] at h
  cases h
theorem counts_one {i : Nat} {q : Nat × Nat} (h : counts[i]? = some q) : q.2 = 0 ∨ q.2 = 1 := by
  have : ∀ q ∈ counts, q.2 = 0 ∨ q.2 = 1 := by decide
  exact this q (List.mem_of_getElem? h)

/-- one call read from the place a of the list l -/
structure ReadAt (l : List Int) (a : Nat) (i n : Nat) (list : Bool) (ns row : List Int) (a' : Nat) : Prop where
  number : l[a]? = some (i : Int)
  numbers : ns = (l.drop (a + 1)).take n
  room : a + 1 + n ≤ l.length
  row0 : list = false → row = [] ∧ a' = a + 1 + n
  row1 : list = true → ∃ m : Nat, l[a + 1 + n]? = some (m : Int) ∧ row = (l.drop (a + 1 + n + 1)).take m ∧ row.length = m ∧ a' = a + 1 + n + 1 + m ∧ a' ≤ l.length
theorem parse_call {l : List Int} {a f : Nat} {cs : List (List (List Int))} (ha : a < l.length) (h : PyFlat.calls PySr101.shape f (l.drop a) = some cs) :
    ∃ (i n : Nat) (q : Bool) (ns row : List Int) (a' f' : Nat) (rest : List (List (List Int))),
      i < 16 ∧ counts[i]? = some (n, if q then 1 else 0) ∧ ReadAt l a i n q ns row a' ∧ cs = (((i : Int) :: ns) :: (if q then [row] else [])) :: rest ∧ PyFlat.calls PySr101.shape f' (l.drop a') = some rest ∧ a < a' ∧ ns.length = n := by
  have hd : l.drop a = l[a] :: l.drop (a + 1) := List.drop_eq_getElem_cons ha
  rw [hd] at h
  cases f with
  | zero => cases h
  | succ f =>
    unfold PyFlat.calls at h
    split at h
    · cases h
    · rename_i c t hc
      split at h
      · cases h
      · rename_i cs' hcs
        have hcs2 := (Option.some.inj h).symm
        rw [PyFlat.call] at hc
        split at hc
        · cases hc
        · rename_i n k hsh
          obtain ⟨i, hi, ep, hct⟩ := shape_some hsh
          split at hc
          · cases hc
          · rename_i hlen
            have hroom : a + 1 + n ≤ l.length := by
              rw [List.length_drop] at hlen
              omega
            split at hc
            · cases hc
            · rename_i xs t' hrows
              have hc2 := Option.some.inj hc
              have ec : c = (l[a] :: (l.drop (a + 1)).take n) :: xs := (congrArg Prod.fst hc2).symm
              have et : t = t' := (congrArg Prod.snd hc2).symm
              have hdd : (l.drop (a + 1)).drop n = l.drop (a + 1 + n) := by rw [List.drop_drop]
              have hnum : l[a]? = some (i : Int) := by rw [List.getElem?_eq_getElem ha, ep]
              have hnl : ((l.drop (a + 1)).take n).length = n := by
                simp only [List.length_take, List.length_drop]
                omega
              rw [hdd] at hrows
              rcases counts_one hct with hk | hk
              · have hk' : k = 0 := hk
                subst hk'
                have hr := Option.some.inj hrows
                have ex : xs = [] := (congrArg Prod.fst hr).symm
                have et' : t' = l.drop (a + 1 + n) := (congrArg Prod.snd hr).symm
                refine ⟨i, n, false, (l.drop (a + 1)).take n, [], a + 1 + n, f, cs', hi, hct, ⟨hnum, rfl, hroom, fun _ => ⟨rfl, rfl⟩, fun z => nomatch z⟩, ?_, ?_, by omega, hnl⟩
                · rw [hcs2, ec, ex, ep]
                  rfl
                · rw [← et', ← et]
                  exact hcs
              · have hk' : k = 1 := hk
                subst hk'
                unfold PyFlat.rows at hrows
                split at hrows
                · cases hrows
                · rename_i x s hrow
                  have hr0 : PyFlat.rows 0 s = some ([], s) := rfl
                  rw [hr0] at hrows
                  have hr := Option.some.inj hrows
                  have ex : xs = [x] := (congrArg Prod.fst hr).symm
                  have et' : t' = s := (congrArg Prod.snd hr).symm
                  unfold PyFlat.row at hrow
                  split at hrow
                  · cases hrow
                  · rename_i m r hm
                    split at hrow
                    · rename_i hmr
                      have hx := Option.some.inj hrow
                      have exx : x = r.take m.toNat := (congrArg Prod.fst hx).symm
                      have ess : s = r.drop m.toNat := (congrArg Prod.snd hx).symm
                      have hlt : a + 1 + n < l.length := by
                        rcases Nat.lt_or_ge (a + 1 + n) l.length with h1 | h1
                        · exact h1
                        · rw [List.drop_eq_nil_of_le h1] at hm
                          cases hm
                      rw [List.drop_eq_getElem_cons hlt] at hm
                      have em : l[a + 1 + n] = m := (List.cons.inj hm).1
                      have er : l.drop (a + 1 + n + 1) = r := (List.cons.inj hm).2
                      have hml : m.toNat ≤ l.length - (a + 1 + n + 1) := by
                        have := hmr.2
                        rw [← er, List.length_drop] at this
                        exact this
                      have hxl : x.length = m.toNat := by
                        rw [exx, List.length_take, ← er, List.length_drop]
                        omega
                      refine ⟨i, n, true, (l.drop (a + 1)).take n, x, a + 1 + n + 1 + m.toNat, f, cs', hi, hct, ⟨hnum, rfl, hroom, (fun z => nomatch z), fun _ => ⟨m.toNat, ?_, ?_, hxl, rfl, by omega⟩⟩, ?_, ?_, by omega, hnl⟩
                      · rw [List.getElem?_eq_getElem hlt, em, Int.toNat_of_nonneg hmr.1]
                      · rw [exx, ← er]
                      · rw [hcs2, ec, ex, ep]
                        rfl
                      · have e3 : l.drop (a + 1 + n + 1 + m.toNat) = s := by
                          rw [ess, ← er, List.drop_drop]
                        rw [e3, ← et', ← et]
                        exact hcs
                    · cases hrow
theorem parse_end {l : List Int} {a f : Nat} {cs : List (List (List Int))} (ha : ¬ a < l.length) (h : PyFlat.calls PySr101.shape f (l.drop a) = some cs) : cs = [] := by
  rw [List.drop_eq_nil_of_le (by omega)] at h
  cases f <;> exact (Option.some.inj h).symm

/-- a call that is asked is one of the sixteen -/
theorem rec_of {i n : Nat} {q : Bool} {ns row : List Int} (hi : i < 16) (hc : counts[i]? = some (n, if q then 1 else 0)) (hn : ns.length = n)
    (h : Sr101Neutral.asked1 (PySr101.whole (((i : Int) :: ns) :: (if q then [row] else []))) = true) :
    ∃ c, Rec i ns (if q then row else []) c ∧ Sr101Neutral.parseCall (PySr101.whole (((i : Int) :: ns) :: (if q then [row] else []))) = some c := by
  have key : ∀ j : Nat, j < 16 → counts[j]? = some (n, if q then 1 else 0) → j = i → ∃ c, Rec i ns (if q then row else []) c ∧ Sr101Neutral.parseCall (PySr101.whole (((i : Int) :: ns) :: (if q then [row] else []))) = some c := by
    intro j hj hcj hji
    subst hji
    have lst : ∀ r : List Int, Sr101Neutral.isListArgument r = true → r.length ≤ 70 := fun r hr => of_decide_eq_true (Bool.and_eq_true_iff.mp hr).2
    match j, hj, hcj with
    | 0, _, hcj =>
      cases q <;> cases hcj
      match ns, hn with
      | [a, b, c, d], _ => exact ⟨_, .create a b c d, rfl⟩
    | 1, _, hcj =>
      cases q <;> cases hcj
      match ns, hn with
      | [a, b], _ => exact ⟨_, .setDemand a b, rfl⟩
    | 2, _, hcj =>
      cases q <;> cases hcj
      match ns, hn with
      | [], _ => exact ⟨_, .setDemands row (lst row h), rfl⟩
    | 3, _, hcj =>
      cases q <;> cases hcj
      match ns, hn with
      | [a], _ => exact ⟨_, .setShelfLife a, rfl⟩
    | 4, _, hcj =>
      cases q <;> cases hcj
      match ns, hn with
      | [a], _ => exact ⟨_, .setSetupCost a, rfl⟩
    | 5, _, hcj =>
      cases q <;> cases hcj
      match ns, hn with
      | [a], _ => exact ⟨_, .setHoldingCost a, rfl⟩
    | 6, _, hcj =>
      cases q <;> cases hcj
      match ns, hn with
      | [], _ => exact ⟨_, .minCost, rfl⟩
    | 7, _, hcj =>
      cases q <;> cases hcj
      match ns, hn with
      | [], _ => exact ⟨_, .bestPlan, rfl⟩
    | 8, _, hcj =>
      cases q <;> cases hcj
      match ns, hn with
      | [], _ => exact ⟨_, .planCost row (lst row h), rfl⟩
    | 9, _, hcj =>
      cases q <;> cases hcj
      match ns, hn with
      | [], _ => exact ⟨_, .simulate row (lst row h), rfl⟩
    | 10, _, hcj =>
      cases q <;> cases hcj
      match ns, hn with
      | [], _ => exact ⟨_, .simulateNewest row (lst row h), rfl⟩
    | 11, _, hcj =>
      cases q <;> cases hcj
      match ns, hn with
      | [a, b], _ => exact ⟨_, .minCostIfDemand a b, rfl⟩
    | 12, _, hcj =>
      cases q <;> cases hcj
      match ns, hn with
      | [a], _ => exact ⟨_, .minCostIfShelfLife a, rfl⟩
    | 13, _, hcj =>
      cases q <;> cases hcj
      match ns, hn with
      | [], _ => exact ⟨_, .setupCount, rfl⟩
    | 14, _, hcj =>
      cases q <;> cases hcj
      match ns, hn with
      | [], _ => exact ⟨_, .totalDemand, rfl⟩
    | 15, _, hcj =>
      cases q <;> cases hcj
      match ns, hn with
      | [], _ => exact ⟨_, .describe, rfl⟩
  exact key i hi hc rfl

/-! ### the answers -/
def stepC (s : State) (c : Sr101.Call) : State × List Int := ((Sr101.step s c).1, (Sr101.step s c).2.code :: (Sr101.step s c).2.values)
def out : State → List Sr101.Call → List Int
  | _, [] => []
  | s, c :: r => (((stepC s c).2.length : Int) :: (stepC s c).2) ++ out (stepC s c).1 r
theorem out_told : ∀ (raw : List (List (List Int))) (cl : List Sr101.Call) (s : State), (raw.map Sr101Neutral.parseCall) = cl.map some → PyFlat.told (PyFlat.played Sr101Neutral.step s raw) = out s cl
  | [], [], _, _ => rfl
  | [], _ :: _, _, h => nomatch h
  | _ :: _, [], _, h => nomatch h
  | c :: raw, d :: cl, s, h => by
    have h1 : Sr101Neutral.parseCall c = some d := (List.cons.inj h).1
    have e : Sr101Neutral.step s c = stepC s d := by
      unfold Sr101Neutral.step
      rw [h1]
      rfl
    have ih := out_told raw cl (stepC s d).1 (List.cons.inj h).2
    show PyFlat.told ((Sr101Neutral.step s c).2 :: PyFlat.played Sr101Neutral.step (Sr101Neutral.step s c).1 raw) = _
    rw [e]
    show (((stepC s d).2.length : Int) :: (stepC s d).2) ++ PyFlat.told (PyFlat.played Sr101Neutral.step (stepC s d).1 raw) = _
    rw [ih]
    rfl

/-! ### what holds of every instance -/
structure Good (p : Problem) : Prop where
  days : 1 ≤ p.demands.length ∧ p.demands.length ≤ 12
  shelf : 1 ≤ p.shelfLife ∧ p.shelfLife ≤ 12
  setup : p.setupCost ≤ 999
  holding : p.holdingCost ≤ 99
  each : ∀ d ∈ p.demands, d ≤ 99
def GoodS (s : State) : Prop := ∀ p, s = some p → Good p
theorem range_iff {x lo hi : Int} : SrCommon.inRange x lo hi = true ↔ lo ≤ x ∧ x ≤ hi := by
  unfold SrCommon.inRange
  rw [Bool.and_eq_true_iff, decide_eq_true_iff, decide_eq_true_iff]
theorem isDay_iff {p : Problem} {x : Int} : isDay p x = true ↔ 0 ≤ x ∧ x < (p.demands.length : Int) := by
  unfold isDay SrCommon.isIndex
  rw [Bool.and_eq_true_iff, decide_eq_true_iff, decide_eq_true_iff]
  exact Iff.rfl
theorem isDayCount_iff {x : Int} : isDayCount x = true ↔ 1 ≤ x ∧ x ≤ 12 := range_iff
theorem isAmount_iff {x : Int} : isAmount x = true ↔ 0 ≤ x ∧ x ≤ 99 := range_iff
theorem isSetup_iff {x : Int} : isSetupCost x = true ↔ 0 ≤ x ∧ x ≤ 999 := range_iff
theorem not_false_true {b : Bool} (h : ¬ b = false) : b = true := by cases b <;> simp_all
theorem good_demand {p : Problem} (g : Good p) {a b : Int} (_h1 : isDay p a = true) (h2 : isAmount b = true) : Good (withDemand p a.toNat b.toNat) := by
  have h3 := isAmount_iff.mp h2
  refine ⟨?_, g.shelf, g.setup, g.holding, fun d hd => ?_⟩
  · show 1 ≤ (p.demands.set a.toNat b.toNat).length ∧ (p.demands.set a.toNat b.toNat).length ≤ 12
    rw [List.length_set]
    exact g.days
  · have hd' : d ∈ p.demands.set a.toNat b.toNat := hd
    rcases List.mem_or_eq_of_mem_set hd' with h | h
    · exact g.each d h
    · rw [h]
      omega
theorem good_shelf {p : Problem} (g : Good p) {a : Int} (h : isDayCount a = true) : Good { p with shelfLife := a.toNat } := by
  have h3 := isDayCount_iff.mp h
  exact ⟨g.days, ⟨(by show 1 ≤ a.toNat; omega), (by show a.toNat ≤ 12; omega)⟩, g.setup, g.holding, g.each⟩
theorem perform_good {p : Problem} (g : Good p) (c : Sr101.Call) : ∀ q, (perform p c).1 = some q → Good q := by
  intro q hq
  cases c with
  | setDemand a b =>
    unfold perform at hq
    dsimp only at hq
    split at hq
    · cases hq
    · rename_i h1
      split at hq
      · cases hq
      · rename_i h2
        have e := Option.some.inj hq
        rw [← e]
        exact good_demand g (not_false_true h1) (not_false_true h2)
  | setDemands r =>
    unfold perform at hq
    dsimp only at hq
    split at hq
    · cases hq
    · rename_i h1
      have e := Option.some.inj hq
      rw [← e]
      have h2 : r.length = dayCount p := Decidable.byContradiction fun z => h1 (Or.inl z)
      have h3 : r.all isAmount = true := not_false_true fun z => h1 (Or.inr z)
      refine ⟨?_, g.shelf, g.setup, g.holding, fun d hd => ?_⟩
      · show 1 ≤ (SrCommon.intsToNats r).length ∧ (SrCommon.intsToNats r).length ≤ 12
        have e2 : (SrCommon.intsToNats r).length = p.demands.length := by
          unfold SrCommon.intsToNats
          rw [List.length_map, h2]
          rfl
        rw [e2]
        exact g.days
      · have hd' : d ∈ SrCommon.intsToNats r := hd
        unfold SrCommon.intsToNats at hd'
        obtain ⟨x, hx, rfl⟩ := List.mem_map.mp hd'
        have := isAmount_iff.mp (List.all_eq_true.mp h3 x hx)
        omega
  | setShelfLife a =>
    unfold perform at hq
    dsimp only at hq
    split at hq
    · cases hq
    · rename_i h1
      rw [← Option.some.inj hq]
      exact good_shelf g (not_false_true h1)
  | setSetupCost a =>
    unfold perform at hq
    dsimp only at hq
    split at hq
    · cases hq
    · rename_i h1
      rw [← Option.some.inj hq]
      have h3 := isSetup_iff.mp (not_false_true h1)
      exact ⟨g.days, g.shelf, (by show a.toNat ≤ 999; omega), g.holding, g.each⟩
  | setHoldingCost a =>
    unfold perform at hq
    dsimp only at hq
    split at hq
    · cases hq
    · rename_i h1
      rw [← Option.some.inj hq]
      have h3 := isAmount_iff.mp (not_false_true h1)
      exact ⟨g.days, g.shelf, g.setup, (by show a.toNat ≤ 99; omega), g.each⟩
  | _ => cases hq
theorem step_some (p : Problem) (c : Sr101.Call) (h : ∀ a b d e, c ≠ .create a b d e) : Sr101.step (some p) c = (some ((perform p c).1.getD p), (perform p c).2) := by
  have e : Sr101.step (some p) c = match perform p c with
      | (some changed, result) => (some changed, result)
      | (none, result) => (some p, result) := by
    cases c with
    | create a b d e => exact absurd rfl (h a b d e)
    | _ => rfl
  rw [e]
  rcases perform p c with ⟨o, r⟩
  cases o <;> rfl
theorem step_good {s : State} (g : GoodS s) (c : Sr101.Call) : GoodS (stepC s c).1 := by
  intro q hq
  have hq' : (Sr101.step s c).1 = some q := hq
  by_cases hc : ∃ a b d e, c = .create a b d e
  · obtain ⟨a, b, d, e, rfl⟩ := hc
    unfold Sr101.step at hq'
    dsimp only at hq'
    split at hq'
    · exact g q hq'
    · rename_i hn
      have h1 := isDayCount_iff.mp (not_false_true fun z => hn (Or.inl z))
      have h2 := isDayCount_iff.mp (not_false_true fun z => hn (Or.inr (Or.inl z)))
      have h3 := isSetup_iff.mp (not_false_true fun z => hn (Or.inr (Or.inr (Or.inl z))))
      have h4 := isAmount_iff.mp (not_false_true fun z => hn (Or.inr (Or.inr (Or.inr z))))
      rw [← Option.some.inj hq']
      refine ⟨?_, ⟨(by show 1 ≤ b.toNat; omega), (by show b.toNat ≤ 12; omega)⟩, (by show d.toNat ≤ 999; omega), (by show e.toNat ≤ 99; omega), fun x hx => ?_⟩
      · show 1 ≤ (List.replicate a.toNat 0).length ∧ (List.replicate a.toNat 0).length ≤ 12
        rw [List.length_replicate]
        omega
      · have hx' : x ∈ List.replicate a.toNat 0 := hx
        rw [(List.mem_replicate.mp hx').2]
        omega
  · have hc' : ∀ a b d e, c ≠ .create a b d e := fun a b d e z => hc ⟨a, b, d, e, z⟩
    cases s with
    | none =>
      have : Sr101.step none c = (none, .ofCode SrCommon.notCreated) := by
        cases c with
        | create a b d e => exact absurd rfl (hc' a b d e)
        | _ => rfl
      rw [this] at hq'
      cases hq'
    | some p =>
      rw [step_some p c hc'] at hq'
      have e := Option.some.inj hq'
      cases e2 : (perform p c).1 with
      | none =>
        rw [e2] at e
        have e3 : p = q := e
        rw [← e3]
        exact g p rfl
      | some r =>
        rw [e2] at e
        have e3 : r = q := e
        rw [← e3]
        exact perform_good (g p rfl) c r e2

/-! ### how long an answer is -/
theorem best_len (p : Problem) : (Sr101.bestPlan p).length = p.demands.length := by
  rw [best_look]
  simp [dayCount]
theorem simFrom_len (p : Problem) (sell : Stock → Nat → Stock) : ∀ (l : List Nat) (d : Nat) (st : Stock), (simulateFrom p sell l d st).length = l.length
  | [], _, _ => rfl
  | n :: l, d, st => by
    rw [simulateFrom]
    simp only [List.length_cons]
    rw [simFrom_len p sell l]
theorem sim_len (p : Problem) (sell : Stock → Nat → Stock) (l : List Nat) : (Sr101.simulate p sell l).length = l.length := simFrom_len p sell l 0 _
theorem flat3 : ∀ l : List DayReport, (l.flatMap fun d => [(d.short : Int), (d.discarded : Int), (d.kept : Int)]).length = 3 * l.length
  | [] => rfl
  | x :: l => by
    rw [List.flatMap_cons, List.length_append, flat3 l, List.length_cons]
    show 3 + 3 * l.length = 3 * (l.length + 1)
    omega
theorem plan_len {p : Problem} {l : List Int} (h : ¬ isPlan p l = false) : (SrCommon.intsToNats l).length = p.demands.length := by
  have h2 := (Bool.and_eq_true_iff.mp (not_false_true h)).1
  unfold SrCommon.intsToNats
  rw [List.length_map]
  exact of_decide_eq_true h2
theorem perform_len {p : Problem} (g : Good p) (c : Sr101.Call) : (perform p c).2.values.length ≤ 50 := by
  have hd := g.days
  cases c with
  | bestPlan =>
    show (SrCommon.natsToInts (Sr101.bestPlan p)).length ≤ 50
    rw [zs_length, best_len]
    omega
  | describe =>
    show ([_, _, _] ++ SrCommon.natsToInts p.demands).length ≤ 50
    rw [List.length_append, zs_length]
    show 3 + _ ≤ 50
    omega
  | simulate l =>
    show (if isPlan p l = false then SrCommon.Result.ofCode SrCommon.invalidArgument else reportsResult (Sr101.simulate p sellOldestFirst (SrCommon.intsToNats l))).values.length ≤ 50
    split
    · exact Nat.zero_le _
    · rename_i h
      show ([_, _, _] ++ _).length ≤ 50
      rw [List.length_append, flat3, sim_len, plan_len h]
      show 3 + _ ≤ 50
      omega
  | simulateNewestFirst l =>
    show (if isPlan p l = false then SrCommon.Result.ofCode SrCommon.invalidArgument else reportsResult (Sr101.simulate p sellNewestFirst (SrCommon.intsToNats l))).values.length ≤ 50
    split
    · exact Nat.zero_le _
    · rename_i h
      show ([_, _, _] ++ _).length ≤ 50
      rw [List.length_append, flat3, sim_len, plan_len h]
      show 3 + _ ≤ 50
      omega
  | planCost l =>
    show (if isPlan p l = false then SrCommon.Result.ofCode SrCommon.invalidArgument else ⟨_, [_]⟩).values.length ≤ 50
    split
    · exact Nat.zero_le _
    · show 1 ≤ 50
      decide
  | setDemand a b =>
    unfold perform
    dsimp only
    split
    · exact Nat.zero_le _
    · split <;> exact Nat.zero_le _
  | setDemands r =>
    unfold perform
    dsimp only
    split <;> exact Nat.zero_le _
  | setShelfLife a =>
    unfold perform
    dsimp only
    split <;> exact Nat.zero_le _
  | setSetupCost a =>
    unfold perform
    dsimp only
    split <;> exact Nat.zero_le _
  | setHoldingCost a =>
    unfold perform
    dsimp only
    split <;> exact Nat.zero_le _
  | minCostIfDemand a b =>
    unfold perform
    dsimp only
    split
    · exact Nat.zero_le _
    · split <;> exact Nat.zero_le _
  | minCostIfShelfLife a =>
    unfold perform
    dsimp only
    split <;> exact Nat.zero_le _
  | _ => exact Nat.zero_le _
end FL

namespace FL
open PySem PySem.Spec PyProof.Rows L2
open Sr101 (Problem DayReport demandOn segmentCost segmentDemand costTable)

/-! ### the text -/
def topS (i : Nat) : Stmt := PySem.Challenge.pw_freshlotsworks_s01_answers.main.body.getD i (.Pass ⟨0, 0, 0, 0⟩)

/-! ### the heap -/
abbrev Zs (l : List Nat) : List V := (zs l).map V.int
/-- an instance at b, as the problem p -/
def bkF (p : Problem) (da : Addr) : List (Str × V) := [("shelf_life", .int p.shelfLife), ("setup_cost", .int p.setupCost), ("holding_cost", .int p.holdingCost), ("demands", .ref da)]
def BakAt (C : Addr) (H : Hp) (b : Addr) (p : Problem) : Prop := ∃ dx da, H b = some (.ins C dx (bkF p da)) ∧ H da = some (.lst (Zs p.demands))
/-- the same, its demands at da -/
def BakD (C : Addr) (H : Hp) (b : Addr) (p : Problem) (da : Addr) : Prop := ∃ dx, H b = some (.ins C dx (bkF p da)) ∧ H da = some (.lst (Zs p.demands))
theorem BakD.at {C : Addr} {H : Hp} {b da : Addr} {p : Problem} (h : BakD C H b p da) : BakAt C H b p := by
  obtain ⟨dx, h1, h2⟩ := h
  exact ⟨dx, da, h1, h2⟩
theorem lk_here {k : Str} {v : V} {r : List (Str × V)} : List.lookup k ((k, v) :: r) = some v := by
  have e : (k == k) = true := beq_self_eq_true k
  simp only [List.lookup, e]
theorem lk_past {k g : Str} {v : V} {r : List (Str × V)} (h : (k == g) = false) : List.lookup k ((g, v) :: r) = List.lookup k r := by
  simp only [List.lookup, h]
theorem put_here {f : Str} {v x : V} {r : List (Str × V)} : putF f v ((f, x) :: r) = (f, v) :: r := if_pos rfl
theorem put_past {f g : Str} {v x : V} {r : List (Str × V)} (h : ¬ g = f) : putF f v ((g, x) :: r) = (g, x) :: putF f v r := if_neg h
theorem bk_shelf (p : Problem) (da : Addr) : (bkF p da).lookup ("shelf_life" : Str) = some (.int p.shelfLife) := lk_here
theorem bk_setup (p : Problem) (da : Addr) : (bkF p da).lookup ("setup_cost" : Str) = some (.int p.setupCost) := (lk_past (by decide +kernel)).trans lk_here
theorem bk_hold (p : Problem) (da : Addr) : (bkF p da).lookup ("holding_cost" : Str) = some (.int p.holdingCost) := (lk_past (by decide +kernel)).trans ((lk_past (by decide +kernel)).trans lk_here)
theorem bk_dem (p : Problem) (da : Addr) : (bkF p da).lookup ("demands" : Str) = some (.ref da) := (lk_past (by decide +kernel)).trans ((lk_past (by decide +kernel)).trans ((lk_past (by decide +kernel)).trans lk_here))
theorem bk_put_shelf (p : Problem) (da : Addr) (n : Nat) : putF "shelf_life" (.int n) (bkF p da) = bkF { p with shelfLife := n } da := put_here
theorem bk_put_setup (p : Problem) (da : Addr) (n : Nat) : putF "setup_cost" (.int n) (bkF p da) = bkF { p with setupCost := n } da := (put_past (by decide +kernel)).trans (congrArg _ put_here)
theorem bk_put_hold (p : Problem) (da : Addr) (n : Nat) : putF "holding_cost" (.int n) (bkF p da) = bkF { p with holdingCost := n } da := (put_past (by decide +kernel)).trans (congrArg _ ((put_past (by decide +kernel)).trans (congrArg _ put_here)))
theorem bk_put_dem (p : Problem) (da db : Addr) (l : List Nat) : putF "demands" (.ref db) (bkF p da) = bkF { p with demands := l } db :=
  (put_past (by decide +kernel)).trans (congrArg _ ((put_past (by decide +kernel)).trans (congrArg _ ((put_past (by decide +kernel)).trans (congrArg _ put_here)))))

theorem same_new {H : Hp} {p : Addr} {o : HO} (h : H p = none) : Same H (upd H p o) := fun b x e => by
  rw [upd_ne (ne_of_none e h)]
  exact e
/-- a tracked new object is written anew: what was tracked before it was made stands -/
theorem same_upd {H0 H : Hp} {p : Addr} {o : HO} (s : Same H0 H) (h : H0 p = none) : Same H0 (upd H p o) := fun b x e => by
  rw [upd_ne (ne_of_none e h)]
  exact s b x e
theorem Same.bak {C : Addr} {H H' : Hp} {b : Addr} {p : Problem} (s : Same H H') (h : BakAt C H b p) : BakAt C H' b p := by
  obtain ⟨dx, da, h1, h2⟩ := h
  exact ⟨dx, da, s _ _ h1, s _ _ h2⟩
theorem Same.bakD {C : Addr} {H H' : Hp} {b da : Addr} {p : Problem} (s : Same H H') (h : BakD C H b p da) : BakD C H' b p da := by
  obtain ⟨dx, h1, h2⟩ := h
  exact ⟨dx, s _ _ h1, s _ _ h2⟩
theorem Same.tup {K : PySem.W.Frag} {H H' : Hp} {a : Addr} {xs : List V} (s : Same H H') (h : SqT K H a xs) : SqT K H' a xs := by
  rcases h with (free | ⟨ob, locked⟩) | written
  · exact .inl (.inl (s _ _ free))
  · exact .inl (.inr ⟨ob, s _ _ locked⟩)
  · exact .inr written
theorem sqL {K : PySem.W.Frag} {H : Hp} {a : Addr} {xs : List V} (h : H a = some (.lst xs)) : SqL K H a xs := .inl (.inl h)
theorem sqT {K : PySem.W.Frag} {H : Hp} {a : Addr} {xs : List V} (h : H a = some (.tup xs)) : SqT K H a xs := .inl (.inl h)

/-! ### numbers in lists -/
theorem getD_some {l : List Nat} {i : Nat} (inside : i < l.length) : l[i]? = some (l.getD i 0) := by
  simp [List.getD, List.getElem?_eq_getElem inside]
theorem Zs_get {l : List Nat} {i : Nat} (h : i < l.length) : (Zs l)[i]? = some (.int (l.getD i 0 : Nat)) := by
  rw [List.getElem?_map, zs_get, getD_some h]
  rfl
theorem Zs_length (l : List Nat) : (Zs l).length = l.length := by rw [List.length_map, zs_length]
theorem Zs_set (l : List Nat) (i x : Nat) : (Zs l).set i (.int (x : Nat)) = Zs (l.set i x) := by
  show ((zs l).map V.int).set i (.int (x : Nat)) = (zs (l.set i x)).map V.int
  rw [zs_set, List.map_set]
theorem Zs_append (a b : List Nat) : Zs a ++ Zs b = Zs (a ++ b) := by
  show (zs a).map V.int ++ (zs b).map V.int = (zs (a ++ b)).map V.int
  rw [zs_append, List.map_append]
theorem Zs_drop (l : List Nat) (n : Nat) : (Zs l).drop n = Zs (l.drop n) := by rw [← List.map_drop, zs_drop]
theorem Zs_take (l : List Nat) (n : Nat) : (Zs l).take n = Zs (l.take n) := by rw [← List.map_take, zs_take]
theorem atZ {l : List Nat} {z : Int} {i : Nat} (e : z = (i : Int)) (h : i < l.length) : atI (Zs l) z = some (.int (l.getD i 0 : Nat)) := at_of e (Zs_get h)
theorem ix_nat {n i : Nat} {z : Int} (e : z = (i : Int)) (h : i < n) : ixN n z = some i := by
  subst e
  unfold ixN
  rw [if_pos (by omega), if_pos (by omega), Int.toNat_natCast]
theorem cut_nat {xs : List V} {i j : Int} {a b : Nat} (hi : i = (a : Int)) (hj : j = (b : Int)) (h : b ≤ xs.length) : cutV xs (some i) (some j) = (xs.drop a).take (b - a) := by
  subst hi
  subst hj
  unfold cutV
  rw [HT.sIx_nat, HT.sIx_nat, Nat.min_eq_left h]
  rcases Nat.lt_or_ge a xs.length with h1 | h1
  · rw [Nat.min_eq_left (by omega)]
  · rw [Nat.min_eq_right h1, List.drop_length, List.drop_eq_nil_of_le h1]
    simp
theorem cut_to {xs : List V} {j : Int} {b : Nat} (hj : j = (b : Int)) (h : b ≤ xs.length) : cutV xs none (some j) = xs.take b := by
  subst hj
  unfold cutV
  rw [HT.sIx_none, HT.sIx_nat, Nat.min_eq_left h, List.drop_zero, Nat.sub_zero]
theorem small {n m : Nat} (h : n ≤ m) (hm : m ≤ 16777216) : n ≤ sizeLine := by
  rw [sizeLine_eq]
  omega
theorem flat_rep (n : Nat) (x : V) : (List.replicate n [x]).flatten = List.replicate n x := by
  induction n with
  | zero => rfl
  | succ n ih => rw [List.replicate_succ, List.flatten_cons, ih, List.replicate_succ]; rfl
theorem Zs_rep (n x : Nat) : Zs (List.replicate n x) = List.replicate n (.int (x : Nat)) := by
  show (zs (List.replicate n x)).map V.int = _
  rw [zs_replicate, List.map_replicate]

/-- a module's whole number -/
theorem pe_gi {X : Cx} {x : Str} {pos : Pos} {n : Int} {t : Tok} (c : X.mg x = some (.int n t)) (hg : Gl X x := by rfl) (hd : (x == ("__debug__" : Str)) = false := by decide) : PE X (.Name x pos) (tC (.int n)) := pe_glob (v := .int n) hg c ⟨t, rfl⟩ hd

/-! ### is_within and what leans on it -/
abbrev sWithin : Stmt := topS 11
abbrev sShelf : Stmt := topS 12
abbrev sSetup : Stmt := topS 13
abbrev sHold : Stmt := topS 14
abbrev sDem : Stmt := topS 15
def spWithin : Sp := fun vs H Q _ => ∃ n lo hi : Int, vs = [.int n, .int lo, .int hi] ∧ Q (.bl (SrCommon.inRange n lo hi)) H
def spTest (g : Int → Bool) : Sp := fun vs H Q _ => ∃ n : Int, vs = [.int n] ∧ Q (.bl (g n)) H
section
variable {P : Program} {w : World} {K : PySem.W.Frag} {mg : Str → Option Value} {base : Heap}
theorem scWithin : FnScope ["number", "low", "high"] ["number", "low", "high"] (defScope sWithin) := ⟨rfl, rfl, rfl, by decide +kernel, rfl, by decide +kernel, by decide +kernel⟩
theorem ok_within {f : Addr} {fd : FuncData} (F : Fun K "is_within" "is_within" sWithin f fd) : FnOk P w K mg base CX0 1 f fd ["number", "low", "high"] spWithin := by
  refine F.ok scWithin (fun vs H Q E h => ?_) (fun cdv A outer s H vs Q E hr h => ?_)
  · obtain ⟨a, b, c, rfl, _⟩ := h
    rfl
  · obtain ⟨n, lo, hi, rfl, q⟩ := h
    refine ⟨_, pss_one (ps_ret (pe_chain op_le op_le (pv 1) (pv 0) (pv 2))), ?_⟩
    have eq : ∀ b, b = SrCommon.inRange n lo hi → Q (.bl b) H := fun b e => by rw [e]; exact q
    refine ⟨_, rfl, _, rfl, _, _, rfl, rfl, _, rfl, ite2 (fun e => ⟨_, rfl, _, _, rfl, rfl, eq _ ?_⟩) (fun e => eq _ ?_)⟩
    · unfold SrCommon.inRange
      rw [e, Bool.true_and]
    · unfold SrCommon.inRange
      rw [Bool.not_eq_true] at e
      rw [e, Bool.false_and]
theorem scShelf : FnScope ["number"] ["number"] (defScope sShelf) := ⟨rfl, rfl, rfl, by decide +kernel, rfl, by decide +kernel, by decide +kernel⟩
theorem scSetup : FnScope ["number"] ["number"] (defScope sSetup) := ⟨rfl, rfl, rfl, by decide +kernel, rfl, by decide +kernel, by decide +kernel⟩
theorem scHold : FnScope ["number"] ["number"] (defScope sHold) := ⟨rfl, rfl, rfl, by decide +kernel, rfl, by decide +kernel, by decide +kernel⟩
theorem scDem : FnScope ["number"] ["number"] (defScope sDem) := ⟨rfl, rfl, rfl, by decide +kernel, rfl, by decide +kernel, by decide +kernel⟩
/-- a def that stands at an address, as callers want it -/
structure At (P : Program) (w : World) (K : PySem.W.Frag) (mg : Str → Option Value) (base : Heap) (x : Str) (k : Nat) (ps : List Str) (sp : Sp) : Prop where
  ex : ∃ (f : Addr) (fd : FuncData), mg x = some (.ref f) ∧ FnOk P w K mg base CX0 k f fd ps sp ∧ PySem.W.keepIn K (.ref f) = true ∧ Binds K fd ps []
theorem ok_shelf {f : Addr} {fd : FuncData} (F : Fun K "is_shelf_life" "is_shelf_life" sShelf f fd) (W : At P w K mg base "is_within" 1 ["number", "low", "high"] spWithin) {t : Tok} (c : mg "MOST_SHELF_LIFE" = some (.int 12 t)) :
    FnOk P w K mg base CX0 2 f fd ["number"] (spTest Sr101.isDayCount) := by
  obtain ⟨fw, fdw, gw, G, kp, b⟩ := W.ex
  refine F.ok scShelf (fun vs H Q E h => ?_) (fun cdv A outer s H vs Q E hr h => ?_)
  · obtain ⟨a, rfl, _⟩ := h
    rfl
  · obtain ⟨n, rfl, q⟩ := h
    refine ⟨_, pss_one (ps_ret (pe_call G hr rfl gw kp b .nil pass0 (pa_cons (pv 0) (pa_cons pe_int (pa_cons (pe_gi c) pa_nil))))), ?_⟩
    exact ⟨_, rfl, _, _, _, rfl, q⟩
theorem ok_setup {f : Addr} {fd : FuncData} (F : Fun K "is_setup_cost" "is_setup_cost" sSetup f fd) (W : At P w K mg base "is_within" 1 ["number", "low", "high"] spWithin) {t : Tok} (c : mg "MOST_SETUP_COST" = some (.int 999 t)) :
    FnOk P w K mg base CX0 2 f fd ["number"] (spTest Sr101.isSetupCost) := by
  obtain ⟨fw, fdw, gw, G, kp, b⟩ := W.ex
  refine F.ok scSetup (fun vs H Q E h => ?_) (fun cdv A outer s H vs Q E hr h => ?_)
  · obtain ⟨a, rfl, _⟩ := h
    rfl
  · obtain ⟨n, rfl, q⟩ := h
    refine ⟨_, pss_one (ps_ret (pe_call G hr rfl gw kp b .nil pass0 (pa_cons (pv 0) (pa_cons pe_int (pa_cons (pe_gi c) pa_nil))))), ?_⟩
    exact ⟨_, rfl, _, _, _, rfl, q⟩
theorem ok_hold {f : Addr} {fd : FuncData} (F : Fun K "is_holding_cost" "is_holding_cost" sHold f fd) (W : At P w K mg base "is_within" 1 ["number", "low", "high"] spWithin) {t : Tok} (c : mg "MOST_HOLDING_COST" = some (.int 99 t)) :
    FnOk P w K mg base CX0 2 f fd ["number"] (spTest Sr101.isAmount) := by
  obtain ⟨fw, fdw, gw, G, kp, b⟩ := W.ex
  refine F.ok scHold (fun vs H Q E h => ?_) (fun cdv A outer s H vs Q E hr h => ?_)
  · obtain ⟨a, rfl, _⟩ := h
    rfl
  · obtain ⟨n, rfl, q⟩ := h
    refine ⟨_, pss_one (ps_ret (pe_call G hr rfl gw kp b .nil pass0 (pa_cons (pv 0) (pa_cons pe_int (pa_cons (pe_gi c) pa_nil))))), ?_⟩
    exact ⟨_, rfl, _, _, _, rfl, q⟩
theorem ok_dem {f : Addr} {fd : FuncData} (F : Fun K "is_demand" "is_demand" sDem f fd) (W : At P w K mg base "is_within" 1 ["number", "low", "high"] spWithin) {t : Tok} (c : mg "MOST_DEMAND" = some (.int 99 t)) :
    FnOk P w K mg base CX0 2 f fd ["number"] (spTest Sr101.isAmount) := by
  obtain ⟨fw, fdw, gw, G, kp, b⟩ := W.ex
  refine F.ok scDem (fun vs H Q E h => ?_) (fun cdv A outer s H vs Q E hr h => ?_)
  · obtain ⟨a, rfl, _⟩ := h
    rfl
  · obtain ⟨n, rfl, q⟩ := h
    refine ⟨_, pss_one (ps_ret (pe_call G hr rfl gw kp b .nil pass0 (pa_cons (pv 0) (pa_cons pe_int (pa_cons (pe_gi c) pa_nil))))), ?_⟩
    exact ⟨_, rfl, _, _, _, rfl, q⟩
end
end FL

namespace FL
open PySem PySem.Spec PyProof.Rows L2
open Sr101 (Problem DayReport demandOn segmentCost segmentDemand costTable)

theorem ite_not {b : Bool} {A B : Prop} (hF : b = false → A) (hT : b = true → B) : if (!b) = true then A else B := by
  cases b with
  | false => exact iteT (hF rfl)
  | true => exact iteF (hT rfl)
theorem ite_b {b : Bool} {A B : Prop} (hT : b = true → A) (hF : b = false → B) : if b = true then A else B := by
  cases b with
  | false => exact iteF (hF rfl)
  | true => exact iteT (hT rfl)

/-! ### Bakery.__init__ -/
abbrev sInit : Stmt := inClass (topS 10) 0
/-- what the top has written of the class -/
structure Txt (K : PySem.W.Frag) (mg : Str → Option Value) (C : Addr) : Prop where
  cl : Cls K C
  nS : NoAttr K C "shelf_life"
  nU : NoAttr K C "setup_cost"
  nH : NoAttr K C "holding_cost"
  nD : NoAttr K C "demands"
  gC : mg "Bakery" = some (.ref C)
def spInit (C : Addr) : Sp := fun vs H Q _ => ∃ (p dx : Addr) (d s c h : Nat), vs = [.ref p, .int d, .int s, .int c, .int h] ∧ d ≤ 12 ∧ H p = some (.ins C dx []) ∧
  ∀ (H' : Hp) (m : Addr), BakD C H' p ⟨List.replicate d 0, s, c, h⟩ m → H m = none → (∀ b o, H b = some o → b ≠ p → H' b = some o) → Q .non H'
def f1 (s : Nat) : List (Str × V) := [("shelf_life", V.int s)]
def f2 (s c : Nat) : List (Str × V) := [("shelf_life", V.int s), ("setup_cost", V.int c)]
def f3 (s c h : Nat) : List (Str × V) := [("shelf_life", V.int s), ("setup_cost", V.int c), ("holding_cost", V.int h)]
theorem bk_new (s c h : Nat) (q : Addr) (l : List Nat) : putF "demands" (.ref q) (putF "holding_cost" (.int h) (putF "setup_cost" (.int c) (putF "shelf_life" (.int s) []))) = bkF ⟨l, s, c, h⟩ q := by
  have e1 : putF "shelf_life" (.int s) [] = f1 s := rfl
  have e2 : putF "setup_cost" (.int c) (f1 s) = f2 s c := (put_past (by decide +kernel)).trans rfl
  have e3 : putF "holding_cost" (.int h) (f2 s c) = f3 s c h := (put_past (by decide +kernel)).trans (congrArg _ ((put_past (by decide +kernel)).trans rfl))
  have e4 : putF "demands" (.ref q) (f3 s c h) = bkF ⟨l, s, c, h⟩ q := (put_past (by decide +kernel)).trans (congrArg _ ((put_past (by decide +kernel)).trans (congrArg _ ((put_past (by decide +kernel)).trans rfl))))
  rw [e1, e2, e3, e4]
section
variable {P : Program} {w : World} {K : PySem.W.Frag} {mg : Str → Option Value} {base : Heap} {C : Addr}
theorem scInit : FnScope ["self", "day_count", "shelf_life", "setup_cost", "holding_cost"] ["self", "day_count", "shelf_life", "setup_cost", "holding_cost"] (defScope sInit) := ⟨rfl, rfl, rfl, by decide +kernel, rfl, by decide +kernel, by decide +kernel⟩
theorem ok_init {f : Addr} {fd : FuncData} (F : Fun K "__init__" "Bakery.__init__" sInit f fd) (T : Txt K mg C) : FnOk P w K mg base CX0 1 f fd ["self", "day_count", "shelf_life", "setup_cost", "holding_cost"] (spInit C) := by
  refine F.ok scInit (fun vs H Q E h => ?_) (fun cdv A outer s H vs Q E hr h => ?_)
  · obtain ⟨p, dx, d, s, c, h, rfl, _⟩ := h
    rfl
  · obtain ⟨p, dx, d, s, c, h, rfl, hd, hp, q⟩ := h
    refine ⟨_, pss_cons (ps_fld (pv 0) (pv 2) rfl) (pss_cons (ps_fld (pv 0) (pv 3) rfl) (pss_cons (ps_fld (pv 0) (pv 4) rfl)
      (pss_one (ps_fld (pv 0) (pe_op op_rep (pe_lst (pa_cons pe_int pa_nil)) (pv 1)) rfl)))), ?_⟩
    refine ⟨_, rfl, _, rfl, p, C, dx, [], rfl, hp, T.cl, T.nS, (by show 0 < 1000; decide), ?_⟩
    refine ⟨_, rfl, _, rfl, p, C, dx, _, rfl, upd_same, T.cl, T.nU, (by show 1 < 1000; decide), ?_⟩
    refine ⟨_, rfl, _, rfl, p, C, dx, _, rfl, upd_same, T.cl, T.nH, (by show 2 < 1000; decide), ?_⟩
    refine ⟨(by show 1 ≤ sizeLine; decide), fun l hl => ?_⟩
    refine ⟨_, rfl, l, d, _, rfl, rfl, upd_same, by omega, by omega, ?_, fun m hm => ?_⟩
    · rw [Int.toNat_natCast]
      exact small (m := 12) (by rw [List.length_cons, List.length_nil]; omega) (by decide)
    have pl : p ≠ l := fun e => by
      rw [← e, upd_same] at hl
      cases hl
    have lm : m ≠ l := fun e => by
      rw [e, upd_same] at hm
      cases hm
    have pm : p ≠ m := fun e => by
      rw [← e, upd_ne pl, upd_same] at hm
      cases hm
    refine ⟨_, rfl, p, C, dx, _, rfl, (by rw [upd_ne pm, upd_ne pl, upd_same]), T.cl, T.nD, (by show 3 < 1000; decide), ?_⟩
    have h0 : H l = none := by
      rw [upd_ne (Ne.symm pl), upd_ne (Ne.symm pl), upd_ne (Ne.symm pl)] at hl
      exact hl
    have h1 : H m = none := by
      rw [upd_ne lm, upd_ne (Ne.symm pm), upd_ne (Ne.symm pm), upd_ne (Ne.symm pm)] at hm
      exact hm
    refine q _ m ⟨dx, Eq.trans upd_same (congrArg (fun z => some (HO.ins C dx z)) (bk_new s c h m _)), ?_⟩ h1 fun b o e hb => ?_
    · rw [upd_ne (Ne.symm pm), upd_same, Int.toNat_natCast, flat_rep, Zs_rep]
      rfl
    · rw [upd_ne hb, upd_ne (ne_of_none e h1), upd_ne (ne_of_none e h0), upd_ne hb, upd_ne hb, upd_ne hb]
      exact e

/-! ### are_for_days -/
abbrev sForDays : Stmt := topS 16
def spForDays (K : PySem.W.Frag) (C : Addr) : Sp := fun vs H Q _ => ∃ (b r : Addr) (p : Problem) (ns : List Int) (most : Int), vs = [.ref b, .ref r, .int most] ∧ BakAt C H b p ∧ SqL K H r (ns.map V.int) ∧ ns.length ≤ 70 ∧
  ∀ H' : Hp, Same H H' → Q (.bl (decide (ns.length = p.demands.length) && ns.all fun n => SrCommon.inRange n 0 most)) H'
theorem scForDays : FnScope ["bakery", "row", "most", "number"] ["bakery", "row", "most"] (defScope sForDays) := ⟨rfl, rfl, rfl, by decide +kernel, rfl, by decide +kernel, by decide +kernel⟩
theorem take_map_bl (g : Int → Bool) {ns : List Int} {i : Nat} {z : Int} (h : ns[i]? = some z) : (((ns.take i).map g).map V.bl) ++ [V.bl (g z)] = ((ns.take (i + 1)).map g).map V.bl := by
  rw [List.take_add_one, h]
  simp
theorem int_item {ns : List Int} {i : Nat} {x : V} (h : (ns.map V.int)[i]? = some x) : ∃ z, ns[i]? = some z ∧ x = V.int z := by
  rw [List.getElem?_map] at h
  cases e : ns[i]? with
  | none =>
    rw [e] at h
    cases h
  | some z =>
    rw [e] at h
    exact ⟨z, rfl, (Option.some.inj h).symm⟩
theorem ok_fordays {f : Addr} {fd : FuncData} (F : Fun K "are_for_days" "are_for_days" sForDays f fd) (T : Txt K mg C) (W : At P w K mg base "is_within" 1 ["number", "low", "high"] spWithin) (mlen : mg "len" = none) (mall : mg "all" = none) :
    FnOk P w K mg base CX0 2 f fd ["bakery", "row", "most"] (spForDays K C) := by
  obtain ⟨fw, fdw, gw, G, kp, bw⟩ := W.ex
  refine F.ok scForDays (fun vs H Q E h => ?_) (fun cdv A outer s H vs Q E hr h => ?_)
  · obtain ⟨b, r, p, ns, most, rfl, _⟩ := h
    rfl
  · obtain ⟨b, r, p, ns, most, rfl, ⟨dx, da, hb, hda⟩, hS, hlen, q⟩ := h
    refine ⟨_, pss_one (ps_ret (pe_and (pe_cmpR op_eq (pe_callB call_len_seq (by rfl) mlen PySem.boot_len (pa_cons (pv 1) pa_nil)) (pe_callB call_len_seq (by rfl) mlen PySem.boot_len (pa_cons (pe_fld (pv 0) rfl) pa_nil)) (nomark _))
      (pe_one (pe_callB (cr_all rfl) (by rfl) mall (by decide +kernel) (pa_cons (pe_lc (own := [("number", 3)]) (g := gName 3) (tt := tYes) rfl scForDays.nd (pi_list (pv 1)) (blkOk_by (own := [("number", 3)]) (N := ["bakery", "row", "most", "number"]) (sc := defScope sForDays) (by decide +kernel))
        (fun _ _ _ _ _ => pg_name (i := 3) scForDays.nd rfl (Or.inl rfl)) (fun _ _ _ _ _ => pts_nil) (fun _ _ _ _ _ => pe_call G hr rfl gw kp bw .nil pass0 (pa_cons (pv 3) (pa_cons pe_int (pa_cons (pv 2) pa_nil))))) pa_nil))))), ?_⟩
    refine ⟨_, rfl, r, _, rfl, .inl hS, _, rfl, b, C, dx, _, _, rfl, hb, T.cl, T.nD, bk_dem p da, da, _, rfl, .inl (sqL hda), rfl, _, rfl, ite_b (fun e => ?_) (fun e => ?_)⟩
    · have e1 : ns.length = p.demands.length := by
        have e2 := V.int.inj (of_decide_eq_true e)
        rw [List.length_map, Zs_length] at e2
        omega
      refine ⟨_, rfl, r, rfl, ⟨_, hS⟩, fun D nD => lc_list (K := K) (a := r) (xs := ns.map V.int) (fun i H' => Same H H' ∧ H' D = some (.lst (((ns.take i).map fun n => SrCommon.inRange n 0 most).map V.bl)))
        ⟨same_new nD, upd_same⟩ (fun i H' _ h => h.1.seq hS) (fun i x H' hx h => ?_) (fun H' h => ?_)⟩
      · obtain ⟨z, hz, rfl⟩ := int_item hx
        refine ⟨rfl, ?_⟩
        refine ⟨_, rfl, _, rfl, z, 0, most, rfl, _, h.2, ?_, same_upd h.1 nD, ?_⟩
        · exact Nat.lt_of_le_of_lt (by rw [List.length_map, List.length_map, List.length_take]; omega) (small1000 (show 70 ≤ 1000 by decide))
        · rw [take_map_bl _ hz]
          exact upd_same
      · rw [List.length_map, List.take_length] at h
        refine ⟨D, _, rfl, sqL h.2, ?_⟩
        have hq := q H' h.1
        rw [decide_eq_true e1, Bool.true_and] at hq
        rw [List.all_map]
        exact hq
    · have e1 : ¬ ns.length = p.demands.length := fun z => by
        refine absurd ?_ (of_decide_eq_false e)
        rw [List.length_map, Zs_length, z]
      have hq := q H (Same.refl H)
      rw [decide_eq_false e1, Bool.false_and] at hq
      exact hq

/-! ### new_bakery -/
abbrev sNew : Stmt := topS 17
/-- whether a create is answered by 0 -/
def okNew (a b c d : Int) : Bool := (Sr101.isDayCount a && Sr101.isDayCount b) && (Sr101.isSetupCost c && Sr101.isAmount d)
def spNew (K : PySem.W.Frag) (C : Addr) : Sp := fun vs H Q _ => ∃ (r : Addr) (a b c d : Int), vs = [.ref r] ∧ SqL K H r ([a, b, c, d].map V.int) ∧ (okNew a b c d = false → Q .non H) ∧
  (okNew a b c d = true → ∀ (H' : Hp) (x da : Addr), Same H H' → H x = none → BakD C H' x ⟨List.replicate a.toNat 0, b.toNat, c.toNat, d.toNat⟩ da → H da = none → Q (.ref x) H')
theorem scNew : FnScope ["numbers", "day_count", "shelf_life", "setup_cost", "holding_cost"] ["numbers"] (defScope sNew) := ⟨rfl, rfl, rfl, by decide +kernel, rfl, by decide +kernel, by decide +kernel⟩
theorem ok_new {f fi : Addr} {fd fdi : FuncData} (F : Fun K "new_bakery" "new_bakery" sNew f fd) (T : Txt K mg C) (M : Mk K C fi) (GI : FnOk P w K mg base CX0 1 fi fdi ["self", "day_count", "shelf_life", "setup_cost", "holding_cost"] (spInit C))
    (bi : Binds K fdi ["self", "day_count", "shelf_life", "setup_cost", "holding_cost"] []) (W : At P w K mg base "is_within" 1 ["number", "low", "high"] spWithin) (W1 : At P w K mg base "is_shelf_life" 2 ["number"] (spTest Sr101.isDayCount))
    (W2 : At P w K mg base "is_setup_cost" 2 ["number"] (spTest Sr101.isSetupCost)) (W3 : At P w K mg base "is_holding_cost" 2 ["number"] (spTest Sr101.isAmount)) {t : Tok} (c12 : mg "MOST_DAYS" = some (.int 12 t)) :
    FnOk P w K mg base CX0 3 f fd ["numbers"] (spNew K C) := by
  obtain ⟨fw, fdw, gw, G, kp, bw⟩ := W.ex
  obtain ⟨f1, fd1, g1, G1, kp1, b1⟩ := W1.ex
  obtain ⟨f2, fd2, g2, G2, kp2, b2⟩ := W2.ex
  obtain ⟨f3, fd3, g3, G3, kp3, b3⟩ := W3.ex
  refine F.ok scNew (fun vs H Q E h => ?_) (fun cdv A outer s H vs Q E hr h => ?_)
  · obtain ⟨r, a, b, c, d, rfl, _⟩ := h
    rfl
  · obtain ⟨r, a, b, c, d, rfl, hS, qn, qs⟩ := h
    have nd := scNew.nd
    refine ⟨_, pss_cons (ps_asg (pv 0) (pg_unl rfl (pgs_cons (pg_name (i := 1) nd rfl (.inl rfl)) (pgs_cons (pg_name (i := 2) nd rfl (.inl rfl)) (pgs_cons (pg_name (i := 3) nd rfl (.inl rfl)) (pgs_cons (pg_name (i := 4) nd rfl (.inl rfl)) pgs_nil))))))
      (pss_cons (ps_if (PW.pt (pw_or (pt_not (pt_val (pe_call G (hr.mono (by decide)) rfl gw kp bw .nil pass0 (pa_cons (pv 1) (pa_cons pe_int (pa_cons (pe_gi c12) pa_nil)))))) (pw_or1 (pt_not (pt_val (pe_call G1 hr rfl g1 kp1 b1 .nil pass0 (pa_cons (pv 2) pa_nil)))))))
        (pss_one (ps_ret pe_non)) pss_nil)
      (pss_cons (ps_if (PW.pt (pw_or (pt_not (pt_val (pe_call G2 hr rfl g2 kp2 b2 .nil pass0 (pa_cons (pv 3) pa_nil)))) (pw_or1 (pt_not (pt_val (pe_call G3 hr rfl g3 kp3 b3 .nil pass0 (pa_cons (pv 4) pa_nil)))))))
        (pss_one (ps_ret pe_non)) pss_nil)
      (pss_one (ps_ret (pe_make M GI hr rfl T.gC bi .nil pass0 (pa_cons (pv 1) (pa_cons (pv 2) (pa_cons (pv 3) (pa_cons (pv 4) pa_nil))))))))), ?_⟩
    have no : (Sr101.isDayCount a = false ∨ Sr101.isDayCount b = false ∨ Sr101.isSetupCost c = false ∨ Sr101.isAmount d = false) → Q .non H := fun z => qn (by
      unfold okNew
      rcases z with z | z | z | z <;> simp [z])
    refine ⟨_, rfl, r, _, rfl, hS, rfl, _, _, rfl, _, _, rfl, _, _, rfl, _, _, rfl, rfl, ?_⟩
    refine ⟨_, rfl, a, 1, 12, rfl, _, rfl, ite_not (fun e => iteT (no (.inl e))) (fun e1 => ?_)⟩
    refine ⟨_, rfl, b, rfl, _, rfl, ite_not (fun e => no (.inr (.inl e))) (fun e2 => ?_)⟩
    refine ⟨_, rfl, c, rfl, _, rfl, ite_not (fun e => iteT (no (.inr (.inr (.inl e))))) (fun e3 => ?_)⟩
    refine ⟨_, rfl, d, rfl, _, rfl, ite_not (fun e => no (.inr (.inr (.inr e)))) (fun e4 => ?_)⟩
    have e1' : Sr101.isDayCount a = true := e1
    have h1 := isDayCount_iff.mp e1'
    have h2 := isDayCount_iff.mp e2
    have h3 := isSetup_iff.mp e3
    have h4 := isAmount_iff.mp e4
    refine ⟨_, rfl, _, rfl, _, rfl, _, rfl, ?_⟩
    intro x dx nx ndx ne
    refine ⟨x, dx, a.toNat, b.toNat, c.toNat, d.toNat, ?_, by omega, upd_same, fun H' m hB hm kp => ⟨rfl, ?_⟩⟩
    · rw [Int.toNat_of_nonneg (by omega), Int.toNat_of_nonneg (by omega), Int.toNat_of_nonneg (by omega), Int.toNat_of_nonneg (by omega)]
      rfl
    · have mx : m ≠ x := fun z => by
        rw [z, upd_same] at hm
        cases hm
      have mdx : m ≠ dx := fun z => by
        rw [upd_ne mx, z, upd_same] at hm
        cases hm
      rw [upd_ne mx, upd_ne mdx] at hm
      exact qs (by unfold okNew; rw [e1', e2, e3, e4]; rfl) H' x m (Same.made nx ndx kp) nx hB hm

/-! ### day_error, with_demand -/
abbrev sDayErr : Stmt := topS 18
abbrev sWithDem : Stmt := topS 19
def dayErr (p : Problem) (a b : Int) : Int := if Sr101.isDay p a = false then -2 else if Sr101.isAmount b = false then -22 else 0
def spDayErr (K : PySem.W.Frag) (C : Addr) : Sp := fun vs H Q _ => ∃ (b : Addr) (p : Problem) (day dem : Int), vs = [.ref b, .int day, .int dem] ∧ BakAt C H b p ∧ Q (.int (dayErr p day dem)) H
theorem scDayErr : FnScope ["bakery", "day", "demand"] ["bakery", "day", "demand"] (defScope sDayErr) := ⟨rfl, rfl, rfl, by decide +kernel, rfl, by decide +kernel, by decide +kernel⟩
theorem isDay_range (p : Problem) (a : Int) : SrCommon.inRange a 0 ((p.demands.length : Int) - 1) = Sr101.isDay p a := by
  have h : (SrCommon.inRange a 0 ((p.demands.length : Int) - 1) = true) ↔ (Sr101.isDay p a = true) := by
    rw [range_iff, isDay_iff]
    omega
  cases h1 : Sr101.isDay p a
  · cases h2 : SrCommon.inRange a 0 ((p.demands.length : Int) - 1)
    · rfl
    · rw [h.mp h2] at h1
      cases h1
  · exact h.mpr h1
theorem ok_dayerr {f : Addr} {fd : FuncData} (F : Fun K "day_error" "day_error" sDayErr f fd) (T : Txt K mg C) (W : At P w K mg base "is_within" 1 ["number", "low", "high"] spWithin) (W1 : At P w K mg base "is_demand" 2 ["number"] (spTest Sr101.isAmount)) (mlen : mg "len" = none)
    {t t' : Tok} (c2 : mg "MISSING" = some (.int (-2) t)) (c22 : mg "OUTSIDE" = some (.int (-22) t')) : FnOk P w K mg base CX0 3 f fd ["bakery", "day", "demand"] (spDayErr K C) := by
  obtain ⟨fw, fdw, gw, G, kp, bw⟩ := W.ex
  obtain ⟨f1, fd1, g1, G1, kp1, b1⟩ := W1.ex
  refine F.ok scDayErr (fun vs H Q E h => ?_) (fun cdv A outer s H vs Q E hr h => ?_)
  · obtain ⟨b, p, day, dem, rfl, _⟩ := h
    rfl
  · obtain ⟨b, p, day, dem, rfl, ⟨dx, da, hb, hda⟩, q⟩ := h
    refine ⟨_, pss_cons (ps_if (pt_not (pt_val (pe_call G (hr.mono (by decide)) rfl gw kp bw .nil pass0 (pa_cons (pv 1) (pa_cons pe_int (pa_cons (pe_op op_sub (pe_callB call_len_seq (by rfl) mlen PySem.boot_len (pa_cons (pe_fld (pv 0) rfl) pa_nil)) pe_int) pa_nil))))))
        (pss_one (ps_ret (pe_gi c2))) pss_nil)
      (pss_one (ps_ret (pe_ifExp (pt_val (pe_call G1 hr rfl g1 kp1 b1 .nil pass0 (pa_cons (pv 2) pa_nil))) pe_int (pe_gi c22)))), ?_⟩
    refine ⟨_, rfl, _, rfl, b, C, dx, _, _, rfl, hb, T.cl, T.nD, bk_dem p da, da, _, rfl, .inl (sqL hda), _, _, rfl, rfl, day, 0, _, rfl, _, rfl, ite_not (fun e => ?_) (fun e => ?_)⟩
    · rw [Zs_length, isDay_range] at e
      have : dayErr p day dem = -2 := if_pos e
      rw [this] at q
      exact q
    · rw [Zs_length, isDay_range] at e
      have h0 : ¬ Sr101.isDay p day = false := by rw [e]; decide
      refine ⟨_, rfl, dem, rfl, _, rfl, ite_b (fun e2 => ?_) (fun e2 => ?_)⟩
      · have : dayErr p day dem = 0 := by
          unfold dayErr
          rw [if_neg h0, if_neg (by rw [e2]; decide)]
        rw [this] at q
        exact q
      · have : dayErr p day dem = -22 := by
          unfold dayErr
          rw [if_neg h0, if_pos e2]
        rw [this] at q
        exact q
def spWithDem (K : PySem.W.Frag) (C : Addr) : Sp := fun vs H Q _ => ∃ (b : Addr) (p : Problem) (day dem : Int), vs = [.ref b, .int day, .int dem] ∧ BakAt C H b p ∧ Sr101.isDay p day = true ∧ Sr101.isAmount dem = true ∧
  ∀ (H' : Hp) (x : Addr), Same H H' → H x = none → H' x = some (.lst (Zs (p.demands.set day.toNat dem.toNat))) → Q (.ref x) H'
theorem scWithDem : FnScope ["bakery", "day", "demand", "demands"] ["bakery", "day", "demand"] (defScope sWithDem) := ⟨rfl, rfl, rfl, by decide +kernel, rfl, by decide +kernel, by decide +kernel⟩
theorem ok_withdem {f : Addr} {fd : FuncData} (F : Fun K "with_demand" "with_demand" sWithDem f fd) (T : Txt K mg C) (mlist : mg "list" = none) : FnOk P w K mg base CX0 1 f fd ["bakery", "day", "demand"] (spWithDem K C) := by
  refine F.ok scWithDem (fun vs H Q E h => ?_) (fun cdv A outer s H vs Q E hr h => ?_)
  · obtain ⟨b, p, day, dem, rfl, _⟩ := h
    rfl
  · obtain ⟨b, p, day, dem, rfl, ⟨dx, da, hb, hda⟩, hday, hdem, q⟩ := h
    refine ⟨_, pss_cons (ps_set (i := 3) scWithDem.nd rfl (Or.inl rfl) (pe_callTy call_list_of (by rfl) mlist (by decide +kernel) (pa_cons (pe_fld (pv 0) rfl) pa_nil)))
      (pss_cons (ps_asg (pv 2) (pg_sub (pv 3) (pv 1) set_list)) (pss_one (ps_ret (pv 3)))), ?_⟩
    refine ⟨_, rfl, b, C, dx, _, _, rfl, hb, T.cl, T.nD, bk_dem p da, da, _, rfl, .inl (sqL hda), fun l hl => ?_⟩
    have h1 := isDay_iff.mp hday
    have h2 := isAmount_iff.mp hdem
    refine ⟨_, rfl, _, rfl, _, rfl, l, _, day, day.toNat, rfl, rfl, upd_same, ix_nat (by omega) (by rw [Zs_length]; omega), ?_⟩
    refine ⟨_, rfl, ?_⟩
    refine q _ l (same_upd (same_new hl) hl) hl ?_
    rw [upd_same]
    have e : (V.int dem) = V.int ((dem.toNat : Nat) : Int) := by rw [Int.toNat_of_nonneg (by omega)]
    rw [e, Zs_set]
end
end FL

namespace FL
open PySem PySem.Spec PyProof.Rows L2
open Sr101 (Problem DayReport demandOn segmentCost segmentDemand costTable)

/-! ### segment_cost -/
abbrev sSeg : Stmt := topS 21
def spSeg (K : PySem.W.Frag) : Sp := fun vs H Q _ => ∃ (d : Addr) (p : Problem) (i k : Nat), vs = [.ref d, .int p.setupCost, .int p.holdingCost, .int i, .int (i + k : Nat)] ∧ Good p ∧ SqL K H d (Zs p.demands) ∧ i + k < p.demands.length ∧
  ∀ H' : Hp, Same H H' → Q (.int (segmentCost p i (i + k + 1) : Nat)) H'
theorem scSeg : FnScope ["demands", "setup_cost", "holding_cost", "first", "last", "nights", "day"] ["demands", "setup_cost", "holding_cost", "first", "last"] (defScope sSeg) := ⟨rfl, rfl, rfl, by decide +kernel, rfl, by decide +kernel, by decide +kernel⟩
theorem nights_succ (p : Problem) (i j : Nat) : nights p i (j + 1) = nights p i j ++ [j * demandOn p (i + j)] := by
  unfold nights
  rw [List.range_succ, List.map_append]
  rfl
theorem nights_length (p : Problem) (i j : Nat) : (nights p i j).length = j := by unfold nights; simp
theorem Zs_one (l : List Nat) (x : Nat) {z : Int} (e : z = (x : Int)) : Zs l ++ [V.int z] = Zs (l ++ [x]) := by
  rw [e]
  exact Zs_append l [x]
section
variable {P : Program} {w : World} {K : PySem.W.Frag} {mg : Str → Option Value} {base : Heap} {C : Addr}
theorem ok_seg {f : Addr} {fd : FuncData} (F : Fun K "segment_cost" "segment_cost" sSeg f fd) (msum : mg "sum" = none) (mrange : mg "range" = none) : FnOk P w K mg base CX0 1 f fd ["demands", "setup_cost", "holding_cost", "first", "last"] (spSeg K) := by
  refine F.ok scSeg (fun vs H Q E h => ?_) (fun cdv A outer s H vs Q E hr h => ?_)
  · obtain ⟨d, p, i, k, rfl, _⟩ := h
    rfl
  · obtain ⟨d, p, i, k, rfl, g, hS, hik, q⟩ := h
    have nd := scSeg.nd
    have hN := g.days
    refine ⟨_, pss_cons (ps_if (pt_cmpR op_eq (pe_callB (cr_sum rfl) (by rfl) msum (by decide +kernel) (pa_cons (pe_slice sl_list (pv 0) (po_some (pv 3)) (po_some (pe_op op_add (pv 4) pe_int))) pa_nil)) pe_int (nomark _)) (pss_one (ps_ret pe_int)) pss_nil)
      (pss_cons (ps_set (i := 5) nd rfl (Or.inl rfl) (pe_callB (cr_sum rfl) (by rfl) msum (by decide +kernel) (pa_cons (pe_lc (own := [("day", 6)]) (g := gName 6) (tt := tYes) rfl nd (pi_range2 (by rfl) mrange (pa_cons (pv 3) (pa_cons (pe_op op_add (pv 4) pe_int) pa_nil)))
          (blkOk_by (own := [("day", 6)]) (N := ["demands", "setup_cost", "holding_cost", "first", "last", "nights", "day"]) (sc := defScope sSeg) (by decide +kernel))
          (fun _ _ _ _ _ => pg_name (i := 6) nd rfl (Or.inl rfl)) (fun _ _ _ _ _ => pts_nil) (fun _ _ _ _ _ => pe_op op_mul (pe_op op_sub (pv 6) (pv 3)) (pe_ix (r := rIxL K) ix_list (pv 0) (pv 6) (fun _ _ => rfl)))) pa_nil)))
      (pss_one (ps_ret (pe_op op_add (pv 1) (pe_op op_mul (pv 2) (pv 5)))))), ?_⟩
    have ecut : cutV (Zs p.demands) (some (i : Int)) (some (((i + k : Nat) : Int) + 1)) = Zs ((p.demands.drop i).take (k + 1)) := by
      rw [cut_nat (a := i) (b := i + k + 1) rfl (by omega) (by rw [Zs_length]; omega), Zs_drop, Zs_take, show i + k + 1 - i = k + 1 by omega]
    have edem : segmentDemand p i (i + (k + 1)) = SrCommon.sum ((p.demands.drop i).take (k + 1)) := seg_demand p i (k + 1) (by omega)
    have ecost := seg_cost p i (k + 1)
    refine ⟨_, rfl, _, rfl, _, rfl, _, rfl, _, _, rfl, rfl, _, rfl, d, _, rfl, hS, fun c nc => ?_⟩
    refine ⟨c, zs ((p.demands.drop i).take (k + 1)), rfl, sqL (by rw [upd_same, ecut]), rfl, _, rfl, ite_b (fun e => ?_) (fun e => ?_)⟩
    · have e1 := V.int.inj (of_decide_eq_true e)
      rw [zs_sum] at e1
      have e2 : segmentDemand p i (i + (k + 1)) = 0 := by rw [edem]; omega
      rw [if_pos e2] at ecost
      have hq : ∀ H' : Hp, Same H H' → Q (.int ((0 : Nat) : Int)) H' := by
        rw [← ecost]
        exact q
      exact hq _ (same_new nc)
    · have e2 : ¬ segmentDemand p i (i + (k + 1)) = 0 := fun z => by
        refine absurd ?_ (of_decide_eq_false e)
        rw [zs_sum, ← edem, z]
        rfl
      rw [if_neg e2] at ecost
      have s1 := same_new (o := .lst (cutV (Zs p.demands) (some (i : Int)) (some (((i + k : Nat) : Int) + 1)))) nc
      have en : ((((i + k : Nat) : Int) + 1) - (i : Int)).toNat = k + 1 := by omega
      refine ⟨_, rfl, _, rfl, _, _, rfl, rfl, _, _, rfl, ⟨by omega, by omega, by omega, by omega⟩, fun D nD => lc_range (fun j H' => Same H H' ∧ H' D = some (.lst (Zs (nights p i j)))) ⟨same_upd s1 (s1.free nD), upd_same⟩ (fun j H' hj h => ?_) (fun H' h => ?_)⟩
      · have hj' : j < k + 1 := by rw [← en]; exact hj
        have hij : i + j < p.demands.length := by omega
        refine ⟨rfl, ?_⟩
        refine ⟨_, rfl, _, rfl, _, _, rfl, rfl, _, rfl, _, rfl, d, _, _, _, rfl, rfl, h.1.seq hS, atZ (i := i + j) (by omega) hij, _, _, rfl, rfl, .inl ⟨by omega, by omega⟩, _, h.2, ?_, same_upd h.1 (s1.free nD), ?_⟩
        · rw [Zs_length, nights_length]
          exact small1000 (by omega)
        · rw [upd_same, nights_succ, Zs_one]
          show ((i : Int) + (j : Nat) - (i : Int)) * ((p.demands.getD (i + j) 0 : Nat) : Int) = ((j * demandOn p (i + j) : Nat) : Int)
          rw [show (i : Int) + (j : Nat) - (i : Int) = (j : Int) by omega]
          exact (Int.natCast_mul j (p.demands.getD (i + j) 0)).symm
      · have h' : Same H H' ∧ H' D = some (.lst (Zs (nights p i (k + 1)))) := by rw [← en]; exact h
        refine ⟨D, zs (nights p i (k + 1)), rfl, sqL h'.2, ?_⟩
        have hh := g.holding
        refine ⟨_, rfl, _, rfl, _, rfl, _, _, rfl, rfl, .inl ⟨by omega, by omega⟩, _, _, rfl, rfl, ?_⟩
        have hq := q H' h'.1
        rw [show i + k + 1 = i + (k + 1) from rfl, ecost] at hq
        rw [zs_sum]
        have e3 : ((p.setupCost + p.holdingCost * SrCommon.sum (nights p i (k + 1)) : Nat) : Int) = (p.setupCost : Int) + (p.holdingCost : Int) * ((SrCommon.sum (nights p i (k + 1)) : Nat) : Int) := by
          rw [Int.natCast_add, Int.natCast_mul]
        rw [e3] at hq
        exact hq

/-! ### best_last -/
abbrev sBestLast : Stmt := topS 22
def BestAt (H0 H : Hp) (bv : V) : Option (Nat × Nat) → Prop
  | none => bv = .non
  | some q => ∃ t, bv = .ref t ∧ H0 t = none ∧ H t = some (.tup [.int (q.1 : Nat), .int (q.2 : Nat)])
def spBestLast (K : PySem.W.Frag) : Sp := fun vs H Q _ => ∃ (d bh : Addr) (p : Problem) (beh : List Nat) (i : Nat), vs = [.ref d, .int p.shelfLife, .int p.setupCost, .int p.holdingCost, .int i, .ref bh] ∧ Good p ∧ SqL K H d (Zs p.demands) ∧ SqL K H bh (Zs beh) ∧
  beh.length = p.demands.length + 1 ∧ i < p.demands.length ∧ ∀ (H' : Hp) (t : Addr), Same H H' → H t = none → H' t = some (.tup [.int ((found p beh i).1 : Nat), .int ((found p beh i).2 : Nat)]) → Q (.ref t) H'
theorem scBestLast : FnScope ["demands", "shelf_life", "setup_cost", "holding_cost", "first", "behind", "best", "last", "cost"] ["demands", "shelf_life", "setup_cost", "holding_cost", "first", "behind"] (defScope sBestLast) := ⟨rfl, rfl, rfl, by decide +kernel, rfl, by decide +kernel, by decide +kernel⟩
abbrev psSeg : List Str := ["demands", "setup_cost", "holding_cost", "first", "last"]
theorem ok_bestlast {f : Addr} {fd : FuncData} (F : Fun K "best_last" "best_last" sBestLast f fd) (S : At P w K mg base "segment_cost" 1 psSeg (spSeg K)) (mrange : mg "range" = none) (mmin : mg "min" = none) (mlen : mg "len" = none) :
    FnOk P w K mg base CX0 2 f fd ["demands", "shelf_life", "setup_cost", "holding_cost", "first", "behind"] (spBestLast K) := by
  obtain ⟨fs, fds, gs, G, kp, bs⟩ := S.ex
  refine F.ok scBestLast (fun vs H Q E h => ?_) (fun cdv A outer s H vs Q E hr h => ?_)
  · obtain ⟨d, bh, p, beh, i, rfl, _⟩ := h
    rfl
  · obtain ⟨d, bh, p, beh, i, rfl, g, hS, hB, hbl, hi, q⟩ := h
    have nd := scBestLast.nd
    have hN := g.days
    have hsl := g.shelf
    refine ⟨_, pss_cons (ps_set (i := 6) nd rfl (Or.inl rfl) pe_non)
      (pss_cons (ps_for PassesOwn.never rfl (pi_range2 (by rfl) mrange (pa_cons (pv 4) (pa_cons (pe_callB (call_min2 rfl) (by rfl) mmin (by decide +kernel) (pa_cons (pe_op op_add (pv 4) (pv 1)) (pa_cons (pe_callB call_len_seq (by rfl) mlen PySem.boot_len (pa_cons (pv 0) pa_nil)) pa_nil))) pa_nil))) (pg_name (i := 7) nd rfl (Or.inl rfl))
        (pss_cons (ps_set (i := 8) nd rfl (Or.inl rfl) (pe_op op_add (pe_call G hr rfl gs kp bs .nil pass0 (pa_cons (pv 0) (pa_cons (pv 2) (pa_cons (pv 3) (pa_cons (pv 4) (pa_cons (pv 7) pa_nil)))))) (pe_ix ix_list (pv 5) (pe_op op_add (pv 7) pe_int) (fun _ _ => rfl))))
        (pss_one (ps_if (PW.pt (pw_or (pt_cmp (pc_isN (pv 6)) rfl) (pw_or1 (pt_cmpR op_lt (pv 8) (pe_ix ix_tup (pv 6) pe_int (fun _ _ => rfl)) (nomark _)))))
          (pss_one (ps_set (i := 6) nd rfl (Or.inl rfl) (pe_tup (pa_cons (pv 8) (pa_cons (pv 7) pa_nil))))) pss_nil))))
      (pss_one (ps_ret (pv 6)))), ?_⟩
    have en : (((if ((Zs p.demands).length : Int) < (i : Int) + (p.shelfLife : Int) then ((Zs p.demands).length : Int) else (i : Int) + (p.shelfLife : Int))) - (i : Int)).toNat = span p i := by
      rw [Zs_length]
      unfold span
      split <;> omega
    refine ⟨_, rfl, _, rfl, _, rfl, _, _, rfl, rfl, _, rfl, d, _, rfl, .inl hS, _, _, rfl, _, _, rfl, ⟨by omega, by omega, ?_, ?_⟩, for_range (fun j σ H' => ∃ bv lv cv, σ = [some (.ref d), some (.int p.shelfLife), some (.int p.setupCost), some (.int p.holdingCost), some (.int i), some (.ref bh), some bv, lv, cv] ∧ Same H H' ∧ BestAt H H' bv (scan p beh i j))
      ⟨.non, none, none, rfl, Same.refl H, rfl⟩ (fun j σ H' hj h => ?_) (fun σ H' h => ?_)⟩
    · rw [Zs_length]
      split <;> omega
    · rw [Zs_length]
      split <;> omega
    · obtain ⟨bv, lv, cv, rfl, sm, hbest⟩ := h
      have hj' : j < span p i := by rw [← en]; exact hj
      have hj2 : i + j < p.demands.length := by unfold span at hj'; omega
      -- cost
      refine ⟨_, rfl, _, rfl, _, rfl, _, rfl, _, rfl, d, p, i, j, rfl, g, sm.seq hS, hj2, fun H2 s2 => ?_⟩
      have sm2 := sm.trans s2
      refine ⟨_, rfl, _, rfl, _, _, rfl, rfl, bh, _, _, _, rfl, rfl, sm2.seq hB, atZ (i := i + j + 1) (by omega) (by omega), _, _, rfl, rfl, ?_⟩
      have ec : ((segmentCost p i (i + j + 1) : Nat) : Int) + ((beh.getD (i + j + 1) 0 : Nat) : Int) = ((offer p beh i j : Nat) : Int) := by
        unfold offer
        rw [Int.natCast_add]
      have etup : (HO.tup [.int (((segmentCost p i (i + j + 1) : Nat) : Int) + ((beh.getD (i + j + 1) 0 : Nat) : Int)), .int ((i : Int) + (j : Nat))]) = HO.tup [.int (offer p beh i j : Nat), .int (i + j : Nat)] := by
        rw [ec]
        rfl
      cases hsc : scan p beh i j with
      | none =>
        rw [hsc] at hbest
        have e1 : bv = .non := hbest
        subst e1
        refine ⟨_, rfl, true, rfl, ?_⟩
        refine ⟨_, rfl, _, rfl, (by show 2 ≤ sizeLine; decide), fun t nt => ?_⟩
        refine ⟨.ref t, _, _, rfl, same_upd sm2 (sm2.free nt), ?_⟩
        rw [scan_succ, hsc]
        exact ⟨t, rfl, sm2.free nt, Eq.trans upd_same (congrArg some etup)⟩
      | some qq =>
        rw [hsc] at hbest
        obtain ⟨t0, rfl, nt0, ht0⟩ := hbest
        refine ⟨_, rfl, false, rfl, ?_⟩
        refine ⟨_, rfl, _, rfl, t0, _, _, _, rfl, rfl, sqT (s2 _ _ ht0), atI_nat (j := 0) rfl, _, _, rfl, rfl, _, rfl, ite_b (fun e => ?_) (fun e => ?_)⟩
        · have e2 : offer p beh i j < qq.1 := by
            have h3 := of_decide_eq_true e
            rw [ec] at h3
            omega
          refine ⟨_, rfl, _, rfl, (by show 2 ≤ sizeLine; decide), fun t nt => ?_⟩
          refine ⟨.ref t, _, _, rfl, same_upd sm2 (sm2.free nt), ?_⟩
          rw [scan_succ, hsc]
          show BestAt H _ _ (if offer p beh i j < qq.1 then some (offer p beh i j, i + j) else some qq)
          rw [if_pos e2]
          exact ⟨t, rfl, sm2.free nt, Eq.trans upd_same (congrArg some etup)⟩
        · have e2 : ¬ offer p beh i j < qq.1 := by
            have h3 := of_decide_eq_false e
            rw [ec] at h3
            omega
          refine ⟨.ref t0, _, _, rfl, sm2, ?_⟩
          rw [scan_succ, hsc]
          show BestAt H _ _ (if offer p beh i j < qq.1 then some (offer p beh i j, i + j) else some qq)
          rw [if_neg e2]
          exact ⟨t0, rfl, nt0, s2 _ _ ht0⟩
    · obtain ⟨bv, lv, cv, rfl, sm, hbest⟩ := h
      have hbest' : BestAt H H' bv (scan p beh i (span p i)) := by rw [← en]; exact hbest
      obtain ⟨qq, hq⟩ := scan_some p beh i (span p i) (by unfold span; omega)
      rw [hq] at hbest'
      obtain ⟨t, rfl, nt, ht⟩ := hbest'
      refine ⟨_, rfl, q H' t sm nt ?_⟩
      rw [ht]
      unfold found
      rw [hq]
      rfl

/-! ### best_rows, lowest_cost -/
abbrev sBestRows : Stmt := topS 23
abbrev psBL : List Str := ["demands", "shelf_life", "setup_cost", "holding_cost", "first", "behind"]
abbrev psP : List Str := ["demands", "shelf_life", "setup_cost", "holding_cost"]
def spBestRows (K : PySem.W.Frag) : Sp := fun vs H Q _ => ∃ (d : Addr) (p : Problem), vs = [.ref d, .int p.shelfLife, .int p.setupCost, .int p.holdingCost] ∧ Good p ∧ SqL K H d (Zs p.demands) ∧
  ∀ (H' : Hp) (t b l : Addr), Same H H' → H t = none → H' t = some (.tup [.ref b, .ref l]) → H' b = some (.lst (Zs (costTable p))) → H' l = some (.lst (Zs (lasts p))) → Q (.ref t) H'
theorem scBestRows : FnScope ["demands", "shelf_life", "setup_cost", "holding_cost", "count", "behind", "lasts", "turn", "first", "cost", "last"] ["demands", "shelf_life", "setup_cost", "holding_cost"] (defScope sBestRows) := ⟨rfl, rfl, rfl, by decide +kernel, rfl, by decide +kernel, by decide +kernel⟩
theorem rep_Zs {n m : Nat} {z : Int} (e : z = (n : Int)) (x : Nat) (h : n = m) : (List.replicate z.toNat [V.int (x : Nat)]).flatten = Zs (List.replicate m x) := by
  rw [e, Int.toNat_natCast, flat_rep, Zs_rep, h]
theorem ok_bestrows {f : Addr} {fd : FuncData} (F : Fun K "best_rows" "best_rows" sBestRows f fd) (S : At P w K mg base "best_last" 2 psBL (spBestLast K)) (mrange : mg "range" = none) (mlen : mg "len" = none) :
    FnOk P w K mg base CX0 3 f fd ["demands", "shelf_life", "setup_cost", "holding_cost"] (spBestRows K) := by
  obtain ⟨fs, fds, gs, G, kp, bs⟩ := S.ex
  refine F.ok scBestRows (fun vs H Q E h => ?_) (fun cdv A outer s H vs Q E hr h => ?_)
  · obtain ⟨d, p, rfl, _⟩ := h
    rfl
  · obtain ⟨d, p, rfl, g, hS, q⟩ := h
    have nd := scBestRows.nd
    have hN := g.days
    refine ⟨_, pss_cons (ps_set (i := 4) nd rfl (Or.inl rfl) (pe_callB call_len_seq (by rfl) mlen PySem.boot_len (pa_cons (pv 0) pa_nil)))
      (pss_cons (ps_par (i := 5) (j := 6) rfl nd rfl rfl (by decide) rfl rfl (pa_cons (pe_op op_rep (pe_lst (pa_cons pe_int pa_nil)) (pe_op op_add (pv 4) pe_int)) (pa_cons (pe_op op_rep (pe_lst (pa_cons pe_int pa_nil)) (pv 4)) pa_nil)) (by rfl))
      (pss_cons (ps_for PassesOwn.never rfl (pi_range1 rfl mrange (pa_cons (pv 4) pa_nil)) (pg_name (i := 7) nd rfl (Or.inl rfl))
        (pss_cons (ps_set (i := 8) nd rfl (Or.inl rfl) (pe_op op_sub (pe_op op_sub (pv 4) pe_int) (pv 7)))
        (pss_cons (ps_asg (pe_call G hr rfl gs kp bs .nil pass0 (pa_cons (pv 0) (pa_cons (pv 1) (pa_cons (pv 2) (pa_cons (pv 3) (pa_cons (pv 8) (pa_cons (pv 5) pa_nil))))))) (pg_tup (by rfl) (pgs_cons (pg_name (i := 9) nd rfl (Or.inl rfl)) (pgs_cons (pg_name (i := 10) nd rfl (Or.inl rfl)) pgs_nil))))
        (pss_cons (ps_asg (pv 9) (pg_sub (pv 5) (pv 8) set_list))
        (pss_one (ps_asg (pv 10) (pg_sub (pv 6) (pv 8) set_list)))))))
      (pss_one (ps_ret (pe_tup (pa_cons (pv 5) (pa_cons (pv 6) pa_nil))))))), ?_⟩
    refine ⟨_, rfl, d, _, rfl, .inl hS, ?_⟩
    -- behind
    refine ⟨(by show 1 ≤ sizeLine; decide), fun l1 n1 => ?_⟩
    refine ⟨_, rfl, _, _, rfl, rfl, l1, _, _, rfl, rfl, upd_same, by rw [Zs_length]; omega, by rw [Zs_length]; omega, small (m := 100) (by rw [Zs_length]; simp only [List.length_cons, List.length_nil]; omega) (by decide), fun bh nb => ?_⟩
    have s1 : Same H (upd (upd H l1 (.lst [.int 0])) bh (.lst (List.replicate (((Zs p.demands).length : Int) + 1).toNat [.int 0]).flatten)) := (same_new n1).trans (same_new nb)
    have nbH : H bh = none := (same_new n1).free nb
    refine ⟨(by show 1 ≤ sizeLine; decide), fun l2 n2 => ?_⟩
    refine ⟨_, rfl, l2, _, _, rfl, rfl, upd_same, by rw [Zs_length]; omega, by rw [Zs_length]; omega, small (m := 100) (by rw [Zs_length]; simp only [List.length_cons, List.length_nil]; omega) (by decide), fun ls nl => ?_⟩
    have bl2 : bh ≠ l2 := fun e => by
      rw [← e, upd_same] at n2
      cases n2
    have bls : bh ≠ ls := fun e => by
      rw [← e, upd_ne bl2, upd_same] at nl
      cases nl
    have nlH : H ls = none := s1.free ((same_new n2).free nl)
    have s2 := (s1.trans (same_new n2)).trans (same_new (o := .lst (List.replicate ((Zs p.demands).length : Int).toNat [.int 0]).flatten) nl)
    have e0 : ((p.demands.length : Nat) : Int).toNat = p.demands.length := Int.toNat_natCast _
    refine ⟨_, _, rfl, _, rfl, (p.demands.length : Int), (by rw [Zs_length]), by omega, by omega, for_range (fun i σ H' => ∃ tv fv cv lv, σ = [some (.ref d), some (.int p.shelfLife), some (.int p.setupCost), some (.int p.holdingCost), some (.int p.demands.length), some (.ref bh), some (.ref ls), tv, fv, cv, lv] ∧
        Same H H' ∧ H' bh = some (.lst (Zs (rowsAt p i).1)) ∧ H' ls = some (.lst (Zs (rowsAt p i).2))) ⟨none, none, none, none, ?_, s2, ?_, ?_⟩ (fun i σ H' hi h => ?_) (fun σ H' h => ?_)⟩
    · rw [Zs_length]
      rfl
    · rw [upd_ne bls, upd_ne bl2, upd_same]
      exact congrArg (fun z => some (HO.lst z)) (rep_Zs (n := p.demands.length + 1) (by rw [Zs_length]; omega) 0 rfl)
    · rw [upd_same]
      exact congrArg (fun z => some (HO.lst z)) (rep_Zs (n := p.demands.length) (by rw [Zs_length]) 0 rfl)
    · obtain ⟨tv, fv, cv, lv, rfl, sm, hb, hl⟩ := h
      have hi' : i < p.demands.length := by rw [← e0]; exact hi
      have hlen := rowsAt_length p i
      refine ⟨_, rfl, _, _, rfl, rfl, _, rfl, _, _, rfl, rfl, ?_⟩
      refine ⟨_, rfl, _, rfl, _, rfl, _, rfl, _, rfl, _, rfl, d, bh, p, (rowsAt p i).1, p.demands.length - 1 - i, ?_, g, sm.seq hS, sqL hb, hlen.1, by omega, fun H2 t st nt ht => ?_⟩
      · rw [show (((p.demands.length - 1 - i : Nat)) : Int) = (p.demands.length : Int) - 1 - (0 + (i : Nat)) by omega]
        rfl
      · have hb2 := st _ _ hb
        have hl2 := st _ _ hl
        have sm2 := sm.trans st
        refine ⟨t, _, rfl, sqT ht, rfl, _, _, rfl, _, _, rfl, rfl, ?_⟩
        refine ⟨_, rfl, _, rfl, _, rfl, bh, _, _, p.demands.length - 1 - i, rfl, rfl, hb2, ix_nat (by omega) (by rw [Zs_length]; omega), ?_⟩
        refine ⟨_, rfl, _, rfl, _, rfl, ls, _, _, p.demands.length - 1 - i, rfl, rfl, (by rw [upd_ne (Ne.symm bls)]; exact hl2), ix_nat (by omega) (by rw [Zs_length]; omega), ?_⟩
        refine ⟨_, _, _, _, rfl, same_upd (same_upd sm2 nbH) nlH, ?_, ?_⟩
        · rw [upd_ne bls, upd_same, Zs_set]
          rfl
        · rw [upd_same, Zs_set]
          rfl
    · obtain ⟨tv, fv, cv, lv, rfl, sm, hb, hl⟩ := h
      rw [e0] at hb hl
      refine ⟨_, rfl, _, rfl, (by show 2 ≤ sizeLine; decide), fun t nt => ?_⟩
      refine q _ t bh ls (same_upd sm (sm.free nt)) (sm.free nt) upd_same ?_ ?_
      · rw [upd_ne (ne_of_none hb nt), hb, rows_cost]
      · rw [upd_ne (ne_of_none hl nt)]
        exact hl
abbrev sLowest : Stmt := topS 24
def spLowest (K : PySem.W.Frag) : Sp := fun vs H Q _ => ∃ (d : Addr) (p : Problem), vs = [.ref d, .int p.shelfLife, .int p.setupCost, .int p.holdingCost] ∧ Good p ∧ SqL K H d (Zs p.demands) ∧ ∀ H' : Hp, Same H H' → Q (.int (Sr101.minCost p : Nat)) H'
theorem scLowest : FnScope ["demands", "shelf_life", "setup_cost", "holding_cost", "behind", "lasts"] ["demands", "shelf_life", "setup_cost", "holding_cost"] (defScope sLowest) := ⟨rfl, rfl, rfl, by decide +kernel, rfl, by decide +kernel, by decide +kernel⟩
theorem cost_length (p : Problem) : (costTable p).length = p.demands.length + 1 := by
  rw [← rows_cost]
  exact (rowsAt_length p _).1
theorem ok_lowest {f : Addr} {fd : FuncData} (F : Fun K "lowest_cost" "lowest_cost" sLowest f fd) (S : At P w K mg base "best_rows" 3 psP (spBestRows K)) :
    FnOk P w K mg base CX0 4 f fd ["demands", "shelf_life", "setup_cost", "holding_cost"] (spLowest K) := by
  obtain ⟨fs, fds, gs, G, kp, bs⟩ := S.ex
  refine F.ok scLowest (fun vs H Q E h => ?_) (fun cdv A outer s H vs Q E hr h => ?_)
  · obtain ⟨d, p, rfl, _⟩ := h
    rfl
  · obtain ⟨d, p, rfl, g, hS, q⟩ := h
    have nd := scLowest.nd
    refine ⟨_, pss_cons (ps_asg (pe_call G hr rfl gs kp bs .nil pass0 (pa_cons (pv 0) (pa_cons (pv 1) (pa_cons (pv 2) (pa_cons (pv 3) pa_nil))))) (pg_tup (by rfl) (pgs_cons (pg_name (i := 4) nd rfl (Or.inl rfl)) (pgs_cons (pg_name (i := 5) nd rfl (Or.inl rfl)) pgs_nil))))
      (pss_one (ps_ret (pe_ix ix_list (pv 4) pe_int (fun _ _ => rfl)))), ?_⟩
    refine ⟨_, rfl, _, rfl, _, rfl, _, rfl, d, p, rfl, g, hS, fun H' t b l sm nt ht hb hl => ?_⟩
    refine ⟨t, _, rfl, sqT ht, rfl, _, _, rfl, _, _, rfl, rfl, ?_⟩
    exact ⟨_, rfl, b, _, _, _, rfl, rfl, sqL hb, atZ (i := 0) rfl (by rw [cost_length]; omega), q H' sm⟩

/-! ### best_plan, baking_days -/
abbrev sBestPlan : Stmt := topS 25
def spBestPlan (K : PySem.W.Frag) : Sp := fun vs H Q _ => ∃ (d : Addr) (p : Problem), vs = [.ref d, .int p.shelfLife, .int p.setupCost, .int p.holdingCost] ∧ Good p ∧ SqL K H d (Zs p.demands) ∧ ∀ (H' : Hp) (x : Addr), Same H H' → H x = none → H' x = some (.lst (Zs (Sr101.bestPlan p))) → Q (.ref x) H'
theorem scBestPlan : FnScope ["demands", "shelf_life", "setup_cost", "holding_cost", "behind", "lasts", "plan", "first", "day"] ["demands", "shelf_life", "setup_cost", "holding_cost"] (defScope sBestPlan) := ⟨rfl, rfl, rfl, by decide +kernel, rfl, by decide +kernel, by decide +kernel⟩
theorem lasts_length (p : Problem) : (lasts p).length = p.demands.length := (rowsAt_length p _).2
theorem ok_bestplan {f : Addr} {fd : FuncData} (F : Fun K "best_plan" "best_plan" sBestPlan f fd) (S : At P w K mg base "best_rows" 3 psP (spBestRows K)) (mlen : mg "len" = none) (mrange : mg "range" = none) (msum : mg "sum" = none) :
    FnOk P w K mg base CX0 4 f fd ["demands", "shelf_life", "setup_cost", "holding_cost"] (spBestPlan K) := by
  obtain ⟨fs, fds, gs, G, kp, bs⟩ := S.ex
  refine F.ok scBestPlan (fun vs H Q E h => ?_) (fun cdv A outer s H vs Q E hr h => ?_)
  · obtain ⟨d, p, rfl, _⟩ := h
    rfl
  · obtain ⟨d, p, rfl, g, hS, q⟩ := h
    have nd := scBestPlan.nd
    have hN := g.days
    have hsl := g.shelf
    refine ⟨_, pss_cons (ps_asg (pe_call G hr rfl gs kp bs .nil pass0 (pa_cons (pv 0) (pa_cons (pv 1) (pa_cons (pv 2) (pa_cons (pv 3) pa_nil))))) (pg_tup (by rfl) (pgs_cons (pg_name (i := 4) nd rfl (Or.inl rfl)) (pgs_cons (pg_name (i := 5) nd rfl (Or.inl rfl)) pgs_nil))))
      (pss_cons (ps_par (i := 6) (j := 7) rfl nd rfl rfl (by decide) rfl rfl (pa_cons (pe_op op_rep (pe_lst (pa_cons pe_int pa_nil)) (pe_callB call_len_seq (by rfl) mlen PySem.boot_len (pa_cons (pv 0) pa_nil))) (pa_cons pe_int pa_nil)) (by rfl))
      (pss_cons (ps_for PassesOwn.never rfl (pi_range1 rfl mrange (pa_cons (pe_callB call_len_seq (by rfl) mlen PySem.boot_len (pa_cons (pv 0) pa_nil)) pa_nil)) (pg_name (i := 8) nd rfl (Or.inl rfl))
        (pss_one (ps_if (pt_cmpR op_eq (pv 8) (pv 7) (nomark _))
          (pss_cons (ps_asg (pe_callB (cr_sum rfl) (by rfl) msum (by decide +kernel) (pa_cons (pe_slice sl_list (pv 0) (po_some (pv 8)) (po_some (pe_op op_add (pe_ix ix_list (pv 5) (pv 8) (fun _ _ => rfl)) pe_int))) pa_nil)) (pg_sub (pv 6) (pv 8) set_list))
          (pss_one (ps_set (i := 7) nd rfl (Or.inl rfl) (pe_op op_add (pe_ix ix_list (pv 5) (pv 8) (fun _ _ => rfl)) pe_int)))) pss_nil)))
      (pss_one (ps_ret (pv 6))))), ?_⟩
    refine ⟨_, rfl, _, rfl, _, rfl, _, rfl, d, p, rfl, g, hS, fun H1 t b l s1 nt ht hb hl => ?_⟩
    refine ⟨t, _, rfl, sqT ht, rfl, _, _, rfl, _, _, rfl, rfl, ?_⟩
    refine ⟨(by show 1 ≤ sizeLine; decide), fun l1 n1 => ?_⟩
    have s2 := s1.trans (same_new (o := .lst [.int 0]) n1)
    refine ⟨_, rfl, d, _, rfl, .inl (s2.seq hS), l1, _, _, rfl, rfl, upd_same, by rw [Zs_length]; omega, by rw [Zs_length]; omega, small (m := 100) (by rw [Zs_length]; simp only [List.length_cons, List.length_nil]; omega) (by decide), fun pl np => ?_⟩
    have npH : H pl = none := s2.free np
    have s3 := same_upd (o := .lst (List.replicate ((Zs p.demands).length : Int).toNat [.int 0]).flatten) s2 npH
    have lpl : l ≠ pl := fun e => by
      rw [← e, upd_ne (ne_of_none hl n1), hl] at np
      cases np
    have hl3 : upd (upd H1 l1 (.lst [.int 0])) pl (.lst (List.replicate ((Zs p.demands).length : Int).toNat [.int 0]).flatten) l = some (.lst (Zs (lasts p))) := by
      rw [upd_ne lpl, upd_ne (ne_of_none hl n1), hl]
    have e0 : ((p.demands.length : Nat) : Int).toNat = p.demands.length := Int.toNat_natCast _
    have inv := fun i h => plan_inv p hsl.1 i h
    refine ⟨_, _, rfl, _, rfl, d, _, rfl, .inl (s3.seq hS), (p.demands.length : Int), (by rw [Zs_length]), by omega, by omega, for_range (fun i σ H' => ∃ dv, σ = [some (.ref d), some (.int p.shelfLife), some (.int p.setupCost), some (.int p.holdingCost), some (.ref b), some (.ref l), some (.ref pl), some (.int ((planAt p (lasts p) i).2 : Nat)), dv] ∧
        Same H H' ∧ H' l = some (.lst (Zs (lasts p))) ∧ H' pl = some (.lst (Zs (planAt p (lasts p) i).1))) ⟨none, rfl, s3, hl3, ?_⟩ (fun i σ H' hi h => ?_) (fun σ H' h => ?_)⟩
    · rw [upd_same]
      exact congrArg (fun z => some (HO.lst z)) (rep_Zs (n := p.demands.length) (by rw [Zs_length]) 0 rfl)
    · obtain ⟨dv, rfl, sm, hl', hp'⟩ := h
      have hi' : i < p.demands.length := by rw [← e0]; exact hi
      have hll := lasts_length p
      have hpl := planAt_length p (lasts p) i
      refine ⟨_, rfl, _, rfl, rfl, _, rfl, ite_b (fun e => ?_) (fun e => ?_)⟩
      · have e1 : i = (planAt p (lasts p) i).2 := by
          have := V.int.inj (of_decide_eq_true e)
          omega
        have hla := lasts_get p i hi' hsl.1
        have hsp : span p i ≤ p.demands.length - i := Nat.min_le_right _ _
        have ep : planAt p (lasts p) (i + 1) = ((planAt p (lasts p) i).1.set i (SrCommon.sum ((p.demands.drop i).take ((lasts p).getD i 0 + 1 - i))), (lasts p).getD i 0 + 1) := by
          rw [planAt, if_pos e1]
        refine ⟨_, rfl, _, rfl, _, rfl, _, rfl, _, rfl, l, _, _, _, rfl, rfl, sqL hl', atZ (i := i) (by omega) (by omega), _, _, rfl, rfl, _, rfl, d, _, rfl, sm.seq hS, fun c nc => ?_⟩
        refine ⟨c, zs ((p.demands.drop i).take ((lasts p).getD i 0 + 1 - i)), rfl, sqL ?_, ?_⟩
        · rw [upd_same, cut_nat (a := i) (b := (lasts p).getD i 0 + 1) (by omega) (by omega) (by rw [Zs_length]; omega), Zs_drop, Zs_take]
        have plc : pl ≠ c := ne_of_none hp' nc
        have lc : l ≠ c := ne_of_none hl' nc
        refine ⟨_, rfl, _, rfl, pl, _, _, i, rfl, rfl, (by rw [upd_ne plc]; exact hp'), ix_nat (by omega) (by rw [Zs_length]; omega), ?_⟩
        refine ⟨_, rfl, _, rfl, l, _, _, _, rfl, rfl, sqL (by rw [upd_ne lpl, upd_ne lc]; exact hl'), atZ (i := i) (by omega) (by omega), _, _, rfl, rfl, ?_⟩
        refine ⟨some (.int (0 + (i : Nat))), ?_, same_upd (same_upd sm (sm.free nc)) npH, (by rw [upd_ne lpl, upd_ne lc]; exact hl'), ?_⟩
        · rw [ep]
          rfl
        · rw [upd_same, ep, zs_sum, Zs_set]
      · have e1 : ¬ i = (planAt p (lasts p) i).2 := fun z => by
          refine absurd ?_ (of_decide_eq_false e)
          rw [← z, Int.zero_add]
        have ep : planAt p (lasts p) (i + 1) = planAt p (lasts p) i := by
          rw [planAt, if_neg e1]
        rw [← ep] at hp'
        refine ⟨some (.int (0 + (i : Nat))), ?_, sm, hl', hp'⟩
        rw [ep]
        rfl
    · obtain ⟨dv, rfl, sm, hl', hp'⟩ := h
      rw [e0] at hp'
      rw [plan_best p hsl.1] at hp'
      exact ⟨_, rfl, q H' pl sm npH hp'⟩
abbrev sBakDays : Stmt := topS 26
def spBakDays (K : PySem.W.Frag) : Sp := fun vs H Q _ => ∃ (d : Addr) (l : List Nat), vs = [.ref d] ∧ SqL K H d (Zs l) ∧ l.length ≤ 1000 ∧ ∀ H' : Hp, Same H H' → Q (.int (l.filter fun n => 0 < n).length) H'
theorem scBakDays : FnScope ["plan", "loaves"] ["plan"] (defScope sBakDays) := ⟨rfl, rfl, rfl, by decide +kernel, rfl, by decide +kernel, by decide +kernel⟩
theorem Zs_item {l : List Nat} {i : Nat} {x : V} (h : (Zs l)[i]? = some x) : i < l.length ∧ x = .int (l.getD i 0 : Nat) := by
  have h1 : i < l.length := by
    have := (List.getElem?_eq_some_iff.mp h).1
    rw [Zs_length] at this
    exact this
  rw [Zs_get h1] at h
  exact ⟨h1, (Option.some.inj h).symm⟩
theorem filter_take {l : List Nat} {i : Nat} (h : i < l.length) (g : Nat → Bool) : (l.take (i + 1)).filter g = (l.take i).filter g ++ (if g (l.getD i 0) = true then [l.getD i 0] else []) := by
  rw [List.take_add_one, getD_some h, List.filter_append]
  congr 1
  show List.filter g [l.getD i 0] = _
  rw [List.filter_cons]
  rfl
theorem ok_bakdays {f : Addr} {fd : FuncData} (F : Fun K "baking_days" "baking_days" sBakDays f fd) (mlen : mg "len" = none) : FnOk P w K mg base CX0 1 f fd ["plan"] (spBakDays K) := by
  refine F.ok scBakDays (fun vs H Q E h => ?_) (fun cdv A outer s H vs Q E hr h => ?_)
  · obtain ⟨d, l, rfl, _⟩ := h
    rfl
  · obtain ⟨d, l, rfl, hS, hlen, q⟩ := h
    have nd := scBakDays.nd
    refine ⟨_, pss_one (ps_ret (pe_callB call_len_seq (by rfl) mlen PySem.boot_len (pa_cons (pe_lc (own := [("loaves", 1)]) (g := gName 1) (tt := tTest (tOp (rI0 fun i j => .bl (decide (j < i))) (tVar 1) (tC (.int 0)))) rfl nd (pi_list (pv 0))
        (blkOk_by (own := [("loaves", 1)]) (N := ["plan", "loaves"]) (sc := defScope sBakDays) (by decide +kernel)) (fun _ _ _ _ _ => pg_name (i := 1) nd rfl (Or.inl rfl)) (fun _ _ _ _ _ => pts_one (pt_cmpR op_gt (pv 1) pe_int (nomark _))) (fun _ _ _ _ _ => pv 1)) pa_nil))), ?_⟩
    refine ⟨_, rfl, d, rfl, ⟨_, hS⟩, fun D nD => lc_list (K := K) (a := d) (xs := Zs l) (fun i H' => Same H H' ∧ H' D = some (.lst (Zs ((l.take i).filter fun n => 0 < n)))) ⟨same_new nD, upd_same⟩ (fun i H' _ h => h.1.seq hS) (fun i x H' hx h => ?_) (fun H' h => ?_)⟩
    · obtain ⟨hi, rfl⟩ := Zs_item hx
      have hf := filter_take hi fun n => decide (0 < n)
      refine ⟨rfl, ?_⟩
      refine ⟨_, rfl, _, _, rfl, rfl, _, rfl, ite_b (fun e => ?_) (fun e => ?_)⟩
      · have e1 : 0 < l.getD i 0 := by
          have := of_decide_eq_true e
          omega
        rw [if_pos (decide_eq_true e1)] at hf
        refine ⟨_, rfl, _, h.2, ?_, same_upd h.1 nD, ?_⟩
        · rw [Zs_length]
          have : ((l.take i).filter fun n => decide (0 < n)).length ≤ (l.take i).length := List.length_filter_le _ _
          exact Nat.lt_of_le_of_lt (by rw [List.length_take] at this; omega) (small1000 (Nat.le_refl 1000))
        · rw [upd_same, hf, Zs_one _ _ rfl]
      · have e1 : ¬ 0 < l.getD i 0 := by
          have := of_decide_eq_false e
          omega
        rw [if_neg (by simpa using e1), List.append_nil] at hf
        refine ⟨h.1, ?_⟩
        rw [hf]
        exact h.2
    · rw [Zs_length, List.take_length] at h
      refine ⟨D, _, rfl, .inl (sqL h.2), ?_⟩
      rw [Zs_length]
      exact q H' h.1
end
end FL

/-! list(reversed(xs)), xs a list: a rule that the layer lacks. The new list is drawn from the iterator that reversed(xs) is. -/
namespace FL
open PySem PySem.Spec PyProof.Rows L2

/-- the new list at n is filled from the iterator at r, which goes down the list at l -/
theorem fill_down {prog : Program} {w : World} {A : Around} {s : Shared} {R : Result → Shared → Prop} {r l n : Addr} {items : Array Value} {c0 : Nat} {res : Value} (calm : A.handled = none) (goes : s.heap.IsRevIter r l ((items.size : Int) - 1)) (list : s.heap.IsList l items)
    (lr : l ≠ r) (nr : n ≠ r) (nl : n ≠ l) (fits : items.size ≤ sizeLine) (new : s.heap.get? n = some { cls := .type "list", data := .seq #[] c0 })
    (out : ∀ (g : Heap) (tk : Nat) (got : Array Value) (c : Nat), (∀ b o, b ≠ r → b ≠ n → s.heap.get? b = some o → g.get? b = some o) → g.get? n = some { cls := .type "list", dict := none, data := .seq got c, slots := #[] } →
      ItemsOf (fun i v => items[items.size - 1 - i]? = some v) got items.size → R (.ok (.ret res)) { s with heap := g, toks := tk }) :
    wpAny (model prog w) A.in1 (Builtin.List.listExtendWith (.ref n) (.ref r) res) (fun fin s2 => match fin with
      | .done f => R (.ok f) s2
      | .again c => c.quiet = true ∧ codeAny (model prog w) A c R s2) (fun e s2 => R (.error e) s2) s := by
  have turns := (Walks.listRev (prog := prog) (w := w) (A := A.in1) calm r l lr items).toS
  have apart : n ∉ [r, l] := fun z => by
    rcases List.mem_cons.mp z with z | z
    · exact nr z
    · exact nl (List.mem_singleton.mp z)
  have kind : s.TypeIs (.ref r) "list_reverseiterator" := Heap.IsRevIter.typeIs goes
  have other : Builtin.List.listSameRef (.ref n) (.ref r) = false := by simp [Builtin.List.listSameRef, nr]
  unfold Builtin.List.listExtendWith; refine wpAny_bind (wpAny_typeOf kind ?_)
  rw [if_neg (by rw [other]; decide)]
  refine wpAny_bind (wpAny_pyIter_revIter goes (wpAny_bind (wpAny_holding ?_)))
  -- how long it may be
  unfold Builtin.List.listLengthHint; refine wpAny_bind (wpAny_specialOf kind RT.nolen_lri ?_)
  show wpAny (model prog w) A.in1 (specialOf (Value.ref r) (Str.ofString "__length_hint__") >>= _) _ _ s
  refine wpAny_bind (wpAny_specialOf kind RT.hint_lri ?_)
  generalize named : ("list_reverseiterator.__length_hint__" : String) = word
  wp_delta
  have parts : splitId word = some ("list_reverseiterator", "__length_hint__") := by
    subst named
    decide +kernel
  rw [parts]; subst named
  refine wpAny_bind (wpAny_isInstance (b := true) kind (by rw [isSubtype_type]; kernel_rfl) (wpAny_pure ?_))
  rw [if_neg (by decide)]
  -- the turns
  have top : ((items.size : Nat) : Int) - 1 - ((0 : Nat) : Int) = (items.size : Int) - 1 := by omega
  refine wpAny_pure ⟨plainId_quiet F.plain_extend_loop _, codeAny_extend_loopS turns fits n apart res items.size 0 _ #[] c0 rfl (Nat.zero_le _) ⟨Nat.zero_le _, (by rw [top]; exact goes), list⟩ new (ItemsOf.nil _) fun s2 got c moved there held => ?_⟩
  rw [Moved.eq_with moved]
  refine out s2.heap s2.toks got c (fun b o br bn e => moved.heap b o (fun z => ?_) e) there held
  rcases List.mem_cons.mp z with z | z
  · exact bn z
  · exact br (List.mem_singleton.mp z)
/-- list(it), it an iterator down a list -/
theorem call_list_down {prog : Program} {w : World} {A : Around} {E : Value → Shared → Prop} {s : Shared} {r l : Addr} {items : Array Value} {Q : Value → Shared → Prop} (calm : A.handled = none) (goes : s.heap.IsRevIter r l ((items.size : Int) - 1)) (list : s.heap.IsList l items)
    (lr : l ≠ r) (fits : items.size ≤ sizeLine)
    (out : ∀ (g : Heap) (tk : Nat) (got : Array Value) (c : Nat), (∀ b o, b ≠ r → s.heap.get? b = some o → g.get? b = some o) → g.get? s.heap.objs.size = some { cls := .type "list", dict := none, data := .seq got c, slots := #[] } →
      ItemsOf (fun i v => items[items.size - 1 - i]? = some v) got items.size → Q (.ref s.heap.objs.size) { s with heap := g, toks := tk }) : wpAny (model prog w) A (call (.type "list") [.ref r]) Q E s := by
  -- the new list is made, empty; then it is filled
  have made : (s.heap.push { cls := .type "list", data := .seq #[] }).get? s.heap.objs.size = some { cls := .type "list", data := .seq #[] } := Heap.get?_push_size _ rfl
  obtain ⟨o1, at1, _⟩ := id goes
  obtain ⟨o2, at2, _⟩ := id list
  have nr : s.heap.objs.size ≠ r := Nat.ne_of_gt (Heap.lt_size at1)
  have nl : s.heap.objs.size ≠ l := Nat.ne_of_gt (Heap.lt_size at2)
  have stays : ∀ b o, b ≠ s.heap.objs.size → s.heap.get? b = some o → ((s.heap.push { cls := .type "list", data := .seq #[] }).update s.heap.objs.size (Obj.mapSeq (fun _ => (#[] : Array Value)))).get? b = some o :=
    fun b o hb e => (Heap.get?_update_other _ _ (Ne.symm hb)).trans (Heap.get?_push_of_some _ e)
  refine callType_codes (Q₁ := fun v s2 => v = .ref s.heap.objs.size ∧ s2 = { s with heap := s.heap.push { cls := .type "list", data := .seq #[] } }) F.called_list (F.typeCall_list_1 _) F.entry_list_init (code_list_new _ ⟨rfl, rfl⟩) fun v s2 both => ?_
  obtain ⟨rfl, rfl⟩ := both
  refine ⟨⟨_, made, rfl⟩, F.args_list_init_2 _ _, ?_⟩
  show wpAny (model prog w) A.in1.in1 (do
    let old ← Builtin.List.listItems (.ref s.heap.objs.size)
    Builtin.List.listUpdate (.ref s.heap.objs.size) (fun _ => #[])
    letGo old.toList.reverse
    Builtin.List.listExtendWith (.ref s.heap.objs.size) (.ref r) .none) _ _ _
  refine wpAny_bind ?_
  unfold Builtin.List.listItems; refine wpAny_bind (wpAny_seqItems made rfl (wpAny_pure ?_))
  show wpAny (model prog w) A.in1.in1 (updateSeq s.heap.objs.size (fun _ => #[]) >>= fun _ => letGo (#[] : Array Value).toList.reverse >>= fun _ => Builtin.List.listExtendWith (.ref s.heap.objs.size) (.ref r) .none) _ _ _
  refine wpAny_bind (wpAny_updateSeq made rfl (wpAny_bind (wpAny_letGo ?_)))
  refine fill_down (A := A.in1) calm (goes.at fun o e => stays r o (Ne.symm nr) e) (list.at fun o e => stays l o (Ne.symm nl) e) lr nr nl fits (Heap.get?_update_self (Obj.mapSeq (fun _ => (#[] : Array Value))) made rfl) fun g tk got c kept there held => ?_
  exact ⟨rfl, out g tk got c (fun b o hb e => kept b o hb (Nat.ne_of_lt (Heap.lt_size e)) (stays b o (Nat.ne_of_lt (Heap.lt_size e)) e)) there held⟩
/-- the reading: what xs asks; then its address, the list, and a new list -/
def tLstRev (K : PySem.W.Frag) (te : TE) : TE := fun σ H Q => te σ H fun v H1 => ∃ (a : Addr) (xs : List V), v = .ref a ∧ SqL K H1 a xs ∧ ∀ n, H1 n = none → Q (.ref n) (upd H1 n (.lst xs.reverse))
theorem pe_lstRev {X : Cx} {e : Expr} {te : TE} {p p2 pos pos2 : Pos} (quiet : X.calm = true) (gl : Gl X "list") (ml : X.mg "list" = none) (gr : Gl X "reversed") (mr : X.mg "reversed" = none) (arg : PE X e te)
    (inner : starEach [e] X.env = (false, eval e X.env) :: starEach [] X.env := by rfl)
    (outer : starEach [.Call (.Name "reversed" p2) [e] [] pos2] X.env = (false, eval (.Call (.Name "reversed" p2) [e] [] pos2) X.env) :: starEach [] X.env := by rfl) :
    PE X (.Call (.Name "list" p) [.Call (.Name "reversed" p2) [e] [] pos2] [] pos) (tLstRev X.K te) := by
  refine ⟨fun pins s σ H Q I want => ?_⟩
  refine Call_ (ld_blt I gl ml boot_list (callWith_type1 (args_cons (Call_ (ld_blt I gr mr boot_reversed (callWith_type1 (args_cons (thn (arg.run pins s σ H _ I want) fun u s1 ⟨v, H1, I1, rv, wish⟩ => args_nil ?_) inner) inner rfl))) outer) outer rfl))
  obtain ⟨a, xs, isRef, isList, wish⟩ := wish
  subst isRef
  have isAt : u = Value.ref a := rv
  subst isAt
  obtain ⟨its, vals, stands, line⟩ := I1.list isList
  have list := stands.isList
  obtain ⟨o, ho, _⟩ := id list
  have size : its.toArray.size ≤ sizeLine := by
    rw [List.size_toArray, ← vals.length]
    exact line
  refine call_reversed_list list (args_nil ?_)
  refine call_list_down (s := { s1 with heap := s1.heap.push (revObj a ((its.toArray.size : Int) - 1)) }) (I1.ok.hd quiet) ⟨_, Heap.get?_push_size _ rfl, rfl, rfl⟩ (list.push _) (Nat.ne_of_lt (Heap.lt_size ho)) size fun g tk got c kept there held => ?_
  have whole : ∀ b o, s1.heap.get? b = some o → g.get? b = some o := fun b o e => kept b o (Nat.ne_of_lt (Heap.lt_size e)) (Heap.get?_push_of_some _ e)
  have above : s1.heap.objs.size ≤ (s1.heap.push (revObj a ((its.toArray.size : Int) - 1))).objs.size := by
    unfold Heap.push
    simp
  have obj : ObjOk X.prog X.w (upd H1 (s1.heap.push (revObj a ((its.toArray.size : Int) - 1))).objs.size (.lst xs.reverse)) g (s1.heap.push (revObj a ((its.toArray.size : Int) - 1))).objs.size (.lst xs.reverse) := by
    refine ⟨(by rw [List.length_reverse]; exact line), got.toList, c, RT.vals_rev vals held, ?_⟩
    rw [Array.toArray_toList]
    exact there
  exact ⟨.ref (s1.heap.push (revObj a ((its.toArray.size : Int) - 1))).objs.size, _, I1.laid (t' := tk) whole above obj, rfl, wish _ (I1.hok.fresh above)⟩
end FL

namespace FL
open PySem PySem.Spec PyProof.Rows L2
open Sr101 (Problem DayReport demandOn segmentCost segmentDemand costTable)

/-! ### sold_stock -/
abbrev sSold : Stmt := topS 28
def spSold (K : PySem.W.Frag) : Sp := fun vs H Q _ => ∃ (sa aa : Addr) (st ag : List Nat) (m : Nat), vs = [.ref sa, .int m, .ref aa] ∧ SqL K H sa (Zs st) ∧ SqL K H aa (Zs ag) ∧ (∀ a ∈ ag, a < st.length) ∧ st.length ≤ 12 ∧
  ∀ (H' : Hp) (t l : Addr), Same H H' → H t = none → H l = none → H' t = some (.tup [.ref l, .int ((sold st m ag).2 : Nat)]) → H' l = some (.lst (Zs (sold st m ag).1)) → Q (.ref t) H'
theorem scSold : FnScope ["stock", "wanted", "ages", "left", "missing", "age", "sold"] ["stock", "wanted", "ages"] (defScope sSold) := ⟨rfl, rfl, rfl, by decide +kernel, rfl, by decide +kernel, by decide +kernel⟩
theorem sold_more {st ag : List Nat} {m i : Nat} (h : i < ag.length) : sold st m (ag.take (i + 1)) = soldStep (sold st m (ag.take i)) (ag.getD i 0) := by
  unfold sold
  rw [List.take_add_one, getD_some h, List.foldl_append]
  rfl
section
variable {P : Program} {w : World} {K : PySem.W.Frag} {mg : Str → Option Value} {base : Heap} {C : Addr}
theorem ok_sold {f : Addr} {fd : FuncData} (F : Fun K "sold_stock" "sold_stock" sSold f fd) (mlist : mg "list" = none) (mmin : mg "min" = none) : FnOk P w K mg base CX0 1 f fd ["stock", "wanted", "ages"] (spSold K) := by
  refine F.ok scSold (fun vs H Q E h => ?_) (fun cdv A outer s H vs Q E hr h => ?_)
  · obtain ⟨sa, aa, st, ag, m, rfl, _⟩ := h
    rfl
  · obtain ⟨sa, aa, st, ag, m, rfl, hS, hA, hlt, h12, q⟩ := h
    have nd := scSold.nd
    refine ⟨_, pss_cons (ps_par (i := 3) (j := 4) rfl nd rfl rfl (by decide) rfl rfl (pa_cons (pe_callTy call_list_of (by rfl) mlist (by decide +kernel) (pa_cons (pv 0) pa_nil)) (pa_cons (pv 1) pa_nil)) (by rfl))
      (pss_cons (ps_for PassesOwn.never rfl (pi_list (pv 2)) (pg_name (i := 5) nd rfl (Or.inl rfl))
        (pss_cons (ps_set (i := 6) nd rfl (Or.inl rfl) (pe_callB (call_min2 rfl) (by rfl) mmin (by decide +kernel) (pa_cons (pe_ix ix_list (pv 3) (pv 5) (fun _ _ => rfl)) (pa_cons (pv 4) pa_nil))))
        (pss_cons (ps_asg (pe_op op_sub (pe_ix ix_list (pv 3) (pv 5) (fun _ _ => rfl)) (pv 6)) (pg_sub (pv 3) (pv 5) set_list))
        (pss_one (ps_set (i := 4) nd rfl (Or.inl rfl) (pe_op op_sub (pv 4) (pv 6)))))))
      (pss_one (ps_ret (pe_tup (pa_cons (pv 3) (pa_cons (pv 4) pa_nil)))))), ?_⟩
    refine ⟨_, rfl, sa, _, rfl, .inl hS, fun lf nl => ?_⟩
    refine ⟨_, rfl, _, _, rfl, ?_⟩
    have s1 := same_new (o := .lst (Zs st)) nl
    refine ⟨_, rfl, aa, rfl, ⟨_, s1.seq hA⟩, for_list (K := K) (a := aa) (xs := Zs ag) (fun i σ H' => ∃ av sv, σ = [some (.ref sa), some (.int m), some (.ref aa), some (.ref lf), some (.int ((sold st m (ag.take i)).2 : Nat)), av, sv] ∧ Same H H' ∧ H' lf = some (.lst (Zs (sold st m (ag.take i)).1)))
      ⟨none, none, rfl, s1, upd_same⟩ (fun i σ H' _ ⟨_, _, _, sm, _⟩ => sm.seq hA) (fun i x σ H' hx h => ?_) (fun σ H' h => ?_)⟩
    · obtain ⟨hi, rfl⟩ := Zs_item hx
      obtain ⟨av, sv, rfl, sm, hl⟩ := h
      have hlen := sold_length (ag.take i) st m
      have ha : ag.getD i 0 < st.length := hlt _ (by
        have := getD_some hi
        exact List.mem_of_getElem? this)
      have step := sold_more (st := st) (m := m) hi
      generalize sold st m (ag.take i) = z at hl hlen step
      have emin : (if ((z.2 : Nat) : Int) < ((z.1.getD (ag.getD i 0) 0 : Nat) : Int) then ((z.2 : Nat) : Int) else ((z.1.getD (ag.getD i 0) 0 : Nat) : Int)) = ((min (z.1.getD (ag.getD i 0) 0) z.2 : Nat) : Int) := by
        split <;> omega
      refine ⟨_, rfl, _, rfl, lf, _, _, _, rfl, rfl, sqL hl, atZ (i := ag.getD i 0) rfl (by omega), _, rfl, _, _, rfl, ?_⟩
      refine ⟨_, rfl, _, rfl, lf, _, _, _, rfl, rfl, sqL hl, atZ (i := ag.getD i 0) rfl (by omega), _, rfl, _, _, rfl, rfl, ?_⟩
      refine ⟨_, rfl, _, rfl, lf, _, _, ag.getD i 0, rfl, rfl, hl, ix_nat rfl (by rw [Zs_length]; omega), ?_⟩
      refine ⟨_, rfl, _, rfl, _, _, rfl, rfl, ?_⟩
      refine ⟨some (.int (ag.getD i 0 : Nat)), some (.int (if ((z.2 : Nat) : Int) < ((z.1.getD (ag.getD i 0) 0 : Nat) : Int) then ((z.2 : Nat) : Int) else ((z.1.getD (ag.getD i 0) 0 : Nat) : Int))), ?_, same_upd sm nl, ?_⟩
      · have e2 : (((sold st m (ag.take (i + 1))).2 : Nat) : Int) = ((z.2 : Nat) : Int) - (if ((z.2 : Nat) : Int) < ((z.1.getD (ag.getD i 0) 0 : Nat) : Int) then ((z.2 : Nat) : Int) else ((z.1.getD (ag.getD i 0) 0 : Nat) : Int)) := by
          rw [step, emin]
          show ((z.2 - min (z.1.getD (ag.getD i 0) 0) z.2 : Nat) : Int) = _
          omega
        rw [e2]
        rfl
      · rw [upd_same, step]
        refine congrArg (fun z => some (HO.lst z)) ?_
        show (Zs z.1).set (ag.getD i 0) (.int (((z.1.getD (ag.getD i 0) 0 : Nat) : Int) - (if ((z.2 : Nat) : Int) < ((z.1.getD (ag.getD i 0) 0 : Nat) : Int) then ((z.2 : Nat) : Int) else ((z.1.getD (ag.getD i 0) 0 : Nat) : Int)))) = Zs (z.1.set (ag.getD i 0) (z.1.getD (ag.getD i 0) 0 - min (z.1.getD (ag.getD i 0) 0) z.2))
        have e3 : ((z.1.getD (ag.getD i 0) 0 : Nat) : Int) - (if ((z.2 : Nat) : Int) < ((z.1.getD (ag.getD i 0) 0 : Nat) : Int) then ((z.2 : Nat) : Int) else ((z.1.getD (ag.getD i 0) 0 : Nat) : Int)) = ((z.1.getD (ag.getD i 0) 0 - min (z.1.getD (ag.getD i 0) 0) z.2 : Nat) : Int) := by
          rw [emin]
          omega
        rw [e3, Zs_set]
    · obtain ⟨av, sv, rfl, sm, hl⟩ := h
      rw [Zs_length, List.take_length] at hl ⊢
      refine ⟨_, rfl, _, rfl, (by show 2 ≤ sizeLine; decide), fun t nt => ?_⟩
      refine q _ t lf (same_upd sm (sm.free nt)) (sm.free nt) nl upd_same ?_
      rw [upd_ne (ne_of_none hl nt)]
      exact hl

/-! ### ages_in_order -/
abbrev sAges : Stmt := topS 29
def spAges : Sp := fun vs H Q _ => ∃ (n : Nat) (nf : Bool), vs = [.int n, .bl nf] ∧ n ≤ 12 ∧ ∀ (H' : Hp) (l : Addr), Same H H' → H l = none → H' l = some (.lst (Zs (ages n nf))) → Q (.ref l) H'
theorem scAges : FnScope ["shelf_life", "is_newest_first", "ages"] ["shelf_life", "is_newest_first"] (defScope sAges) := ⟨rfl, rfl, rfl, by decide +kernel, rfl, by decide +kernel, by decide +kernel⟩
theorem rg_Zs (n : Nat) : rgV 0 (n : Int) = Zs (List.range n) := by
  unfold rgV
  rw [show ((n : Int) - 0).toNat = n by omega]
  apply List.ext_getElem?
  intro i
  by_cases h : i < n
  · rw [Zs_get (by rw [List.length_range]; exact h), List.getElem?_map, List.getElem?_range h]
    simp [List.getD, List.getElem?_range h]
  · rw [List.getElem?_eq_none (by simp; omega), List.getElem?_eq_none (by rw [Zs_length, List.length_range]; omega)]
theorem Zs_reverse (l : List Nat) : (Zs l).reverse = Zs l.reverse := by
  show ((zs l).map V.int).reverse = (zs l.reverse).map V.int
  rw [← List.map_reverse]
  congr 1
  simp [SrCommon.natsToInts]
theorem ok_ages {f : Addr} {fd : FuncData} (F : Fun K "ages_in_order" "ages_in_order" sAges f fd) (mlist : mg "list" = none) (mrange : mg "range" = none) (mrev : mg "reversed" = none) : FnOk P w K mg base CX0 1 f fd ["shelf_life", "is_newest_first"] spAges := by
  refine F.ok scAges (fun vs H Q E h => ?_) (fun cdv A outer s H vs Q E hr h => ?_)
  · obtain ⟨n, nf, rfl, _⟩ := h
    rfl
  · obtain ⟨n, nf, rfl, h12, q⟩ := h
    have nd := scAges.nd
    refine ⟨_, pss_cons (ps_set (i := 2) nd rfl (Or.inl rfl) (pe_listRg rfl (by rfl) mlist (prg_1 (by rfl) mrange (pv 0))))
      (pss_one (ps_ret (pe_ifExp (pt_val (pv 1)) (pv 2) (pe_lstRev rfl (by rfl) mlist (by rfl) mrev (pv 2))))), ?_⟩
    refine ⟨_, rfl, n, rfl, RgOk.of_le (by omega) (by omega) (by omega) (by omega), fun l nl => ?_⟩
    rw [rg_Zs]
    cases nf with
    | true => exact ⟨_, rfl, true, rfl, _, rfl, q _ l (same_new nl) nl upd_same⟩
    | false =>
      refine ⟨_, rfl, false, rfl, _, rfl, l, _, rfl, sqL upd_same, fun r nr => ?_⟩
      refine q _ r ((same_new nl).trans (same_new nr)) ((same_new nl).free nr) ?_
      rw [upd_same, Zs_reverse]
      rfl

/-! ### day_rows -/
abbrev sDayRows : Stmt := topS 30
def rowV (r : DayReport) : List V := [.int (r.short : Nat), .int (r.discarded : Nat), .int (r.kept : Nat)]
/-- the rows at some addresses -/
def RowsAt (H : Hp) (xs : List V) (rs : List DayReport) : Prop := xs.length = rs.length ∧ ∀ (i : Nat) (r : DayReport), rs[i]? = some r → ∃ t : Addr, xs[i]? = some (V.ref t) ∧ H t = some (.tup (rowV r))
theorem RowsAt.same {H H' : Hp} {xs : List V} {rs : List DayReport} (s : Same H H') (h : RowsAt H xs rs) : RowsAt H' xs rs := ⟨h.1, fun i r hr => by
  obtain ⟨t, h1, h2⟩ := h.2 i r hr
  exact ⟨t, h1, s _ _ h2⟩⟩
theorem RowsAt.put {H : Hp} {xs ys zs' : List V} {rs : List DayReport} {l : Addr} (h : RowsAt H xs rs) (hl : H l = some (.lst ys)) : RowsAt (upd H l (.lst zs')) xs rs := ⟨h.1, fun i r hr => by
  obtain ⟨t, h1, h2⟩ := h.2 i r hr
  exact ⟨t, h1, by rw [upd_ne (ne_of h2 hl (fun z => nomatch z))]; exact h2⟩⟩
theorem RowsAt.snoc {H : Hp} {xs : List V} {rs : List DayReport} {t : Addr} {r : DayReport} (h : RowsAt H xs rs) (ht : H t = some (.tup (rowV r))) : RowsAt H (xs ++ [V.ref t]) (rs ++ [r]) := by
  refine ⟨by rw [List.length_append, List.length_append, h.1]; rfl, fun i q hq => ?_⟩
  by_cases hi : i < rs.length
  · rw [List.getElem?_append_left hi] at hq
    obtain ⟨t', h1, h2⟩ := h.2 i q hq
    exact ⟨t', by rw [List.getElem?_append_left (by rw [h.1]; exact hi)]; exact h1, h2⟩
  · have hi2 : i = rs.length := by
      have := (List.getElem?_eq_some_iff.mp hq).1
      rw [List.length_append] at this
      simp only [List.length_cons, List.length_nil] at this
      omega
    subst hi2
    rw [List.getElem?_append_right (Nat.le_refl _), Nat.sub_self] at hq
    have e : r = q := Option.some.inj hq
    subst e
    refine ⟨t, ?_, ht⟩
    rw [List.getElem?_append_right (by rw [h.1]; exact Nat.le_refl _), h.1, Nat.sub_self]
    rfl
def spDayRows (K : PySem.W.Frag) : Sp := fun vs H Q _ => ∃ (d pl : Addr) (p : Problem) (plan : List Nat) (nf : Bool), vs = [.ref d, .int p.shelfLife, .ref pl, .bl nf] ∧ Good p ∧ SqL K H d (Zs p.demands) ∧ SqL K H pl (Zs plan) ∧ plan.length = p.demands.length ∧
  ∀ (H' : Hp) (fl : Addr) (xs : List V), Same H H' → H fl = none → H' fl = some (.lst xs) → RowsAt H' xs (Sr101.simulate p (seller nf) plan) → Q (.ref fl) H'
theorem scDayRows : FnScope ["demands", "shelf_life", "plan", "is_newest_first", "ages", "stock", "found", "day", "missing", "discarded", "kept"] ["demands", "shelf_life", "plan", "is_newest_first"] (defScope sDayRows) := ⟨rfl, rfl, rfl, by decide +kernel, rfl, by decide +kernel, by decide +kernel⟩
abbrev psSold : List Str := ["stock", "wanted", "ages"]
abbrev psAges : List Str := ["shelf_life", "is_newest_first"]
theorem ok_dayrows {f : Addr} {fd : FuncData} (F : Fun K "day_rows" "day_rows" sDayRows f fd) (S1 : At P w K mg base "ages_in_order" 1 psAges spAges) (S2 : At P w K mg base "sold_stock" 1 psSold (spSold K)) (mrange : mg "range" = none) (mlen : mg "len" = none) (msum : mg "sum" = none) :
    FnOk P w K mg base CX0 2 f fd ["demands", "shelf_life", "plan", "is_newest_first"] (spDayRows K) := by
  obtain ⟨fa, fda, ga, GA, kpa, ba⟩ := S1.ex
  obtain ⟨fs, fds, gs, GS, kps, bs⟩ := S2.ex
  refine F.ok scDayRows (fun vs H Q E h => ?_) (fun cdv A outer s H vs Q E hr h => ?_)
  · obtain ⟨d, pl, p, plan, nf, rfl, _⟩ := h
    rfl
  · obtain ⟨d, pl, p, plan, nf, rfl, g, hS, hP, hpl, q⟩ := h
    have nd := scDayRows.nd
    have hN := g.days
    have hsl := g.shelf
    refine ⟨_, pss_cons (ps_par3 (i := 4) (j := 5) (l := 6) rfl nd rfl rfl rfl (by decide) (by decide) (by decide) rfl rfl rfl
        (pa_cons (pe_call GA hr rfl ga kpa ba .nil pass0 (pa_cons (pv 1) (pa_cons (pv 3) pa_nil))) (pa_cons (pe_op op_rep (pe_lst (pa_cons pe_int pa_nil)) (pv 1)) (pa_cons (pe_lst pa_nil) pa_nil))) (by rfl))
      (pss_cons (ps_for PassesOwn.never rfl (pi_range1 rfl mrange (pa_cons (pe_callB call_len_seq (by rfl) mlen PySem.boot_len (pa_cons (pv 0) pa_nil)) pa_nil)) (pg_name (i := 7) nd rfl (Or.inl rfl))
        (pss_cons (ps_asg (pe_op op_add (pe_ix ix_list (pv 5) pe_int (fun _ _ => rfl)) (pe_ix ix_list (pv 2) (pv 7) (fun _ _ => rfl))) (pg_sub (pv 5) pe_int set_list))
        (pss_cons (ps_asg (pe_call GS hr rfl gs kps bs .nil pass0 (pa_cons (pv 5) (pa_cons (pe_ix ix_list (pv 0) (pv 7) (fun _ _ => rfl)) (pa_cons (pv 4) pa_nil)))) (pg_tup (by rfl) (pgs_cons (pg_name (i := 5) nd rfl (Or.inl rfl)) (pgs_cons (pg_name (i := 8) nd rfl (Or.inl rfl)) pgs_nil))))
        (pss_cons (ps_par (i := 9) (j := 10) rfl nd rfl rfl (by decide) rfl rfl (pa_cons (pe_ix ix_list (pv 5) (pe_op op_sub (pv 1) pe_int) (fun _ _ => rfl)) (pa_cons (pe_callB (cr_sum rfl) (by rfl) msum (by decide +kernel) (pa_cons (pe_slice sl_list (pv 5) po_none (po_some (pe_op op_sub (pv 1) pe_int))) pa_nil)) pa_nil)) (by rfl))
        (pss_cons (ps_expr (pe_bm PySem.F.plainAttrs_list PySem.F.slot_list_append PySem.F.type_list_append mt_append (pv 6) (pa_cons (pe_tup (pa_cons (pv 8) (pa_cons (pv 9) (pa_cons (pv 10) pa_nil)))) pa_nil)))
        (pss_one (ps_set (i := 5) nd rfl (Or.inl rfl) (pe_op op_cat (pe_lst (pa_cons pe_int pa_nil)) (pe_slice sl_list (pv 5) po_none (po_some (pe_op op_sub (pv 1) pe_int)))))))))))
      (pss_one (ps_ret (pv 6)))), ?_⟩
    -- ages, stock, found
    refine ⟨_, rfl, _, rfl, p.shelfLife, nf, rfl, by omega, fun H1 aa s1 na ha => ?_⟩
    refine ⟨(by show 1 ≤ sizeLine; decide), fun l1 n1 => ?_⟩
    refine ⟨_, rfl, l1, _, _, rfl, rfl, upd_same, by omega, by omega, small (m := 100) (by rw [Int.toNat_natCast]; simp only [List.length_cons, List.length_nil]; omega) (by decide), fun sk nsk => ?_⟩
    refine ⟨Nat.zero_le _, fun fl nfl => ?_⟩
    have s2 := s1.trans (same_new (o := .lst [.int 0]) n1)
    have nskH := s2.free nsk
    have s3 := same_upd (o := .lst (List.replicate (p.shelfLife : Int).toNat [.int 0]).flatten) s2 nskH
    have nflH := s3.free nfl
    have aal1 : aa ≠ l1 := ne_of_none ha n1
    have aask : aa ≠ sk := ne_of_none (by rw [upd_ne aal1]; exact ha) nsk
    have aafl : aa ≠ fl := ne_of_none (by rw [upd_ne aask, upd_ne aal1]; exact ha) nfl
    have skfl : sk ≠ fl := ne_of_none upd_same nfl
    refine ⟨_, _, _, rfl, ?_⟩
    have e0 : ((p.demands.length : Nat) : Int).toNat = p.demands.length := Int.toNat_natCast _
    have hal := ages_length p.shelfLife nf
    have halt := ages_lt p.shelfLife nf
    have s4 := same_upd (o := .lst []) s3 nflH
    refine ⟨_, rfl, d, _, rfl, .inl (s4.seq hS), (p.demands.length : Int), (by rw [Zs_length]), by omega, by omega, for_range (fun i σ H' => ∃ (sk : Addr) (xs : List V) (dv mv cv kv : Option V), σ = [some (.ref d), some (.int p.shelfLife), some (.ref pl), some (.bl nf), some (.ref aa), some (.ref sk), some (.ref fl), dv, mv, cv, kv] ∧
        Same H H' ∧ H sk = none ∧ sk ≠ aa ∧ sk ≠ fl ∧ H' aa = some (.lst (Zs (ages p.shelfLife nf))) ∧ H' sk = some (.lst (Zs (dayAt p nf plan i).1)) ∧ H' fl = some (.lst xs) ∧ RowsAt H' xs (dayAt p nf plan i).2)
      ⟨sk, [], none, none, none, none, rfl, s4, nskH, Ne.symm aask, skfl, ?_, ?_, upd_same, ⟨rfl, fun i r hr => by cases hr⟩⟩ (fun i σ H' hi h => ?_) (fun σ H' h => ?_)⟩
    · rw [upd_ne aafl, upd_ne aask, upd_ne aal1]
      exact ha
    · rw [upd_ne skfl, upd_same]
      exact congrArg (fun z => some (HO.lst z)) (rep_Zs (n := p.shelfLife) rfl 0 rfl)
    · obtain ⟨sk, xs, dv, mv, cv, kv, rfl, sm, nsk, skaa, skfl, haa, hsk, hfl, hrows⟩ := h
      have hi' : i < p.demands.length := by rw [← e0]; exact hi
      have hdl := dayAt_length p nf plan hsl.1 i
      have hml : (morning plan (dayAt p nf plan i).1 i).length = p.shelfLife := by
        unfold morning
        rw [List.length_set]
        exact hdl.1
      have hev : evening p nf plan (dayAt p nf plan i).1 i = sold (morning plan (dayAt p nf plan i).1 i) (demandOn p i) (ages p.shelfLife nf) := rfl
      have hel : (evening p nf plan (dayAt p nf plan i).1 i).1.length = p.shelfLife := by
        rw [hev, sold_length, hml]
      have hnext : dayAt p nf plan (i + 1) = (0 :: (evening p nf plan (dayAt p nf plan i).1 i).1.take (p.shelfLife - 1),
        (dayAt p nf plan i).2 ++ [⟨(evening p nf plan (dayAt p nf plan i).1 i).2, (evening p nf plan (dayAt p nf plan i).1 i).1.getD (p.shelfLife - 1) 0, SrCommon.sum ((evening p nf plan (dayAt p nf plan i).1 i).1.take (p.shelfLife - 1))⟩]) := rfl
      -- stock[0] = stock[0] + plan[day]
      refine ⟨_, rfl, sk, _, _, _, rfl, rfl, sqL hsk, atZ (i := 0) rfl (by omega), _, rfl, _, rfl, pl, _, _, _, rfl, rfl, sm.seq hP, atZ (i := i) (by omega) (by omega), _, _, rfl, rfl, ?_⟩
      refine ⟨_, rfl, sk, _, _, 0, rfl, rfl, hsk, ix_nat rfl (by rw [Zs_length]; omega), ?_⟩
      have em : (Zs (dayAt p nf plan i).1).set 0 (.int ((((dayAt p nf plan i).1.getD 0 0 : Nat) : Int) + ((plan.getD i 0 : Nat) : Int))) = Zs (morning plan (dayAt p nf plan i).1 i) := by
        unfold morning
        rw [← Zs_set, Int.natCast_add]
      have sm1 := same_upd (o := .lst ((Zs (dayAt p nf plan i).1).set 0 (.int ((((dayAt p nf plan i).1.getD 0 0 : Nat) : Int) + ((plan.getD i 0 : Nat) : Int))))) sm nsk
      -- stock, missing = sold_stock(..)
      refine ⟨_, rfl, _, rfl, _, rfl, d, _, _, _, rfl, rfl, sm1.seq hS, atZ (i := i) (by omega) hi', _, rfl, ?_⟩
      refine ⟨sk, aa, morning plan (dayAt p nf plan i).1 i, ages p.shelfLife nf, demandOn p i, rfl, sqL (by rw [upd_same, em]), sqL (by rw [upd_ne (Ne.symm skaa)]; exact haa), (by rw [hml]; exact halt), by omega, fun H2 t l st nt nl ht hl => ?_⟩
      rw [← hev] at ht hl
      have hrows1 := hrows.put (zs' := (Zs (dayAt p nf plan i).1).set 0 (.int ((((dayAt p nf plan i).1.getD 0 0 : Nat) : Int) + ((plan.getD i 0 : Nat) : Int)))) hsk
      have hfl1 : H2 fl = some (.lst xs) := st _ _ (by rw [upd_ne (Ne.symm skfl)]; exact hfl)
      have haa1 : H2 aa = some (.lst (Zs (ages p.shelfLife nf))) := st _ _ (by rw [upd_ne (Ne.symm skaa)]; exact haa)
      have hrows2 := hrows1.same st
      have sm2 := sm1.trans st
      have nlH := sm1.free nl
      have lfl : l ≠ fl := fun e => by
        rw [e, upd_ne (Ne.symm skfl), hfl] at nl
        cases nl
      have laa : l ≠ aa := fun e => by
        rw [e, upd_ne (Ne.symm skaa), haa] at nl
        cases nl
      refine ⟨t, _, rfl, sqT ht, rfl, _, _, rfl, _, _, rfl, rfl, ?_⟩
      -- discarded, kept
      have e1 : ((p.shelfLife : Nat) : Int) - 1 = ((p.shelfLife - 1 : Nat) : Int) := by omega
      refine ⟨_, rfl, _, rfl, _, _, rfl, rfl, l, _, _, _, rfl, rfl, sqL hl, atZ (i := p.shelfLife - 1) e1 (by omega), ?_⟩
      refine ⟨_, rfl, _, rfl, _, _, rfl, rfl, _, rfl, l, _, rfl, sqL hl, fun c nc => ?_⟩
      refine ⟨c, zs ((evening p nf plan (dayAt p nf plan i).1 i).1.take (p.shelfLife - 1)), rfl, sqL (by rw [upd_same, cut_to (b := p.shelfLife - 1) e1 (by rw [Zs_length]; omega), Zs_take]), _, _, rfl, ?_⟩
      rw [zs_sum]
      have sm3 := same_upd (o := .lst (cutV (Zs (evening p nf plan (dayAt p nf plan i).1 i).1) none (some ((p.shelfLife : Int) - 1)))) sm2 (sm2.free nc)
      have st3 := same_new (o := .lst (cutV (Zs (evening p nf plan (dayAt p nf plan i).1 i).1) none (some ((p.shelfLife : Int) - 1)))) nc
      -- found.append
      have hfl3 := st3 _ _ hfl1
      refine ⟨_, rfl, .inl ⟨rfl, _, sqL hfl3⟩, _, rfl, _, rfl, _, rfl, (by show 3 ≤ sizeLine; decide), fun u nu => ?_⟩
      have st4 := same_new (o := .tup [.int ((evening p nf plan (dayAt p nf plan i).1 i).2 : Nat), .int ((evening p nf plan (dayAt p nf plan i).1 i).1.getD (p.shelfLife - 1) 0 : Nat), .int (SrCommon.sum ((evening p nf plan (dayAt p nf plan i).1 i).1.take (p.shelfLife - 1)) : Nat)]) nu
      have hfl4 := st4 _ _ hfl3
      have sm4 := same_upd (o := .tup [.int ((evening p nf plan (dayAt p nf plan i).1 i).2 : Nat), .int ((evening p nf plan (dayAt p nf plan i).1 i).1.getD (p.shelfLife - 1) 0 : Nat), .int (SrCommon.sum ((evening p nf plan (dayAt p nf plan i).1 i).1.take (p.shelfLife - 1)) : Nat)]) sm3 (sm3.free nu)
      have hxl : xs.length = i := by rw [hrows.1]; exact hdl.2
      refine ⟨fl, xs, _, rfl, rfl, hfl4, Nat.lt_of_le_of_lt (show xs.length ≤ 12 by omega) (small1000 (by decide)), ?_⟩
      have hrows4 := ((hrows2.same st3).same st4).snoc (t := u) (r := ⟨(evening p nf plan (dayAt p nf plan i).1 i).2, (evening p nf plan (dayAt p nf plan i).1 i).1.getD (p.shelfLife - 1) 0, SrCommon.sum ((evening p nf plan (dayAt p nf plan i).1 i).1.take (p.shelfLife - 1))⟩) upd_same
      have hrows5 := hrows4.put (zs' := xs ++ [.ref u]) hfl4
      have sm5 := same_upd (o := .lst (xs ++ [.ref u])) sm4 nflH
      -- stock = [0] + stock[:shelf_life - 1]
      refine ⟨(by show 1 ≤ sizeLine; decide), fun z1 nz1 => ?_⟩
      have hl4 := st4 _ _ (st3 _ _ hl)
      have lfl' : upd (upd (upd H2 c (.lst (cutV (Zs (evening p nf plan (dayAt p nf plan i).1 i).1) none (some ((p.shelfLife : Int) - 1))))) u (.tup [.int ((evening p nf plan (dayAt p nf plan i).1 i).2 : Nat), .int ((evening p nf plan (dayAt p nf plan i).1 i).1.getD (p.shelfLife - 1) 0 : Nat), .int (SrCommon.sum ((evening p nf plan (dayAt p nf plan i).1 i).1.take (p.shelfLife - 1)) : Nat)])) fl (.lst (xs ++ [.ref u])) l = some (.lst (Zs (evening p nf plan (dayAt p nf plan i).1 i).1)) := by
        rw [upd_ne lfl]
        exact hl4
      have aafl' : upd (upd (upd H2 c (.lst (cutV (Zs (evening p nf plan (dayAt p nf plan i).1 i).1) none (some ((p.shelfLife : Int) - 1))))) u (.tup [.int ((evening p nf plan (dayAt p nf plan i).1 i).2 : Nat), .int ((evening p nf plan (dayAt p nf plan i).1 i).1.getD (p.shelfLife - 1) 0 : Nat), .int (SrCommon.sum ((evening p nf plan (dayAt p nf plan i).1 i).1.take (p.shelfLife - 1)) : Nat)])) fl (.lst (xs ++ [.ref u])) aa = some (.lst (Zs (ages p.shelfLife nf))) := by
        rw [upd_ne aafl]
        exact st4 _ _ (st3 _ _ haa1)
      have hfl5 : (upd (upd (upd H2 c (.lst (cutV (Zs (evening p nf plan (dayAt p nf plan i).1 i).1) none (some ((p.shelfLife : Int) - 1))))) u (.tup [.int ((evening p nf plan (dayAt p nf plan i).1 i).2 : Nat), .int ((evening p nf plan (dayAt p nf plan i).1 i).1.getD (p.shelfLife - 1) 0 : Nat), .int (SrCommon.sum ((evening p nf plan (dayAt p nf plan i).1 i).1.take (p.shelfLife - 1)) : Nat)])) fl (.lst (xs ++ [.ref u]))) fl = some (.lst (xs ++ [.ref u])) := upd_same
      generalize upd (upd (upd H2 c (.lst (cutV (Zs (evening p nf plan (dayAt p nf plan i).1 i).1) none (some ((p.shelfLife : Int) - 1))))) u (.tup [.int ((evening p nf plan (dayAt p nf plan i).1 i).2 : Nat), .int ((evening p nf plan (dayAt p nf plan i).1 i).1.getD (p.shelfLife - 1) 0 : Nat), .int (SrCommon.sum ((evening p nf plan (dayAt p nf plan i).1 i).1.take (p.shelfLife - 1)) : Nat)])) fl (.lst (xs ++ [.ref u])) = H5 at *
      have lz1 : l ≠ z1 := ne_of_none lfl' nz1
      have aaz1 : aa ≠ z1 := ne_of_none aafl' nz1
      have flz1 : fl ≠ z1 := ne_of_none hfl5 nz1
      have s6 := same_new (o := .lst [.int 0]) nz1
      refine ⟨_, rfl, _, rfl, _, _, rfl, rfl, _, rfl, l, _, rfl, sqL (s6 _ _ lfl'), fun c2 nc2 => ?_⟩
      have s7 := s6.trans (same_new (o := .lst (cutV (Zs (evening p nf plan (dayAt p nf plan i).1 i).1) none (some ((p.shelfLife : Int) - 1)))) nc2)
      have z1c2 : z1 ≠ c2 := ne_of_none upd_same nc2
      have ecut : cutV (Zs (evening p nf plan (dayAt p nf plan i).1 i).1) none (some ((p.shelfLife : Int) - 1)) = Zs ((evening p nf plan (dayAt p nf plan i).1 i).1.take (p.shelfLife - 1)) := by
        rw [cut_to (b := p.shelfLife - 1) e1 (by rw [Zs_length]; omega), Zs_take]
      refine ⟨z1, c2, _, _, rfl, rfl, (by rw [upd_ne z1c2, upd_same]), upd_same, small (m := 100) ?_ (by decide), fun n nn => ?_⟩
      · rw [ecut, Zs_length, List.length_take]
        simp only [List.length_cons, List.length_nil]
        omega
      have s8 := s7.trans (same_new (o := .lst ([.int 0] ++ cutV (Zs (evening p nf plan (dayAt p nf plan i).1 i).1) none (some ((p.shelfLife : Int) - 1)))) nn)
      have n5 := s7.free nn
      refine ⟨n, xs ++ [.ref u], _, _, _, _, rfl, sm5.trans s8, sm5.free n5, Ne.symm (ne_of_none aafl' n5), Ne.symm (ne_of_none hfl5 n5), s8 _ _ aafl', ?_, s8 _ _ hfl5, ?_⟩
      · rw [upd_same, ecut, hnext]
        rfl
      · rw [hnext]
        exact hrows5.same s8
    · obtain ⟨sk, xs, dv, mv, cv, kv, rfl, sm, nsk, skaa, skfl, haa, hsk, hfl, hrows⟩ := h
      rw [e0, ← hpl, sim_is p nf plan hsl.1] at hrows
      exact ⟨_, rfl, q H' fl xs sm nflH hfl hrows⟩

/-! ### column_sum, simulated, plan_cost -/
abbrev sColSum : Stmt := topS 31
def col : Nat → DayReport → Nat
  | 0, r => r.short
  | 1, r => r.discarded
  | _, r => r.kept
theorem col_row (c : Nat) (h : c < 3) (r : DayReport) : (rowV r)[c]? = some (.int (col c r : Nat)) := by
  match c, h with
  | 0, _ => rfl
  | 1, _ => rfl
  | 2, _ => rfl
def spColSum (K : PySem.W.Frag) : Sp := fun vs H Q _ => ∃ (ra : Addr) (xs : List V) (rs : List DayReport) (c : Nat), vs = [.ref ra, .int c] ∧ SqL K H ra xs ∧ RowsAt H xs rs ∧ c < 3 ∧ rs.length ≤ 12 ∧ ∀ H' : Hp, Same H H' → Q (.int (SrCommon.sum (rs.map (col c)) : Nat)) H'
theorem scColSum : FnScope ["rows", "column", "row"] ["rows", "column"] (defScope sColSum) := ⟨rfl, rfl, rfl, by decide +kernel, rfl, by decide +kernel, by decide +kernel⟩
theorem RowsAt.item {H : Hp} {xs : List V} {rs : List DayReport} (h : RowsAt H xs rs) {i : Nat} {x : V} (hx : xs[i]? = some x) : ∃ r t, rs[i]? = some r ∧ x = .ref t ∧ H t = some (.tup (rowV r)) := by
  have hi : i < rs.length := by
    rw [← h.1]
    exact (List.getElem?_eq_some_iff.mp hx).1
  obtain ⟨t, h1, h2⟩ := h.2 i rs[i] (List.getElem?_eq_getElem hi)
  rw [hx] at h1
  exact ⟨rs[i], t, List.getElem?_eq_getElem hi, Option.some.inj h1, h2⟩
theorem ok_colsum {f : Addr} {fd : FuncData} (F : Fun K "column_sum" "column_sum" sColSum f fd) (msum : mg "sum" = none) : FnOk P w K mg base CX0 1 f fd ["rows", "column"] (spColSum K) := by
  refine F.ok scColSum (fun vs H Q E h => ?_) (fun cdv A outer s H vs Q E hr h => ?_)
  · obtain ⟨ra, xs, rs, c, rfl, _⟩ := h
    rfl
  · obtain ⟨ra, xs, rs, c, rfl, hS, hR, hc, h12, q⟩ := h
    have nd := scColSum.nd
    refine ⟨_, pss_one (ps_ret (pe_callB (cr_sum rfl) (by rfl) msum (by decide +kernel) (pa_cons (pe_lc (own := [("row", 2)]) (g := gName 2) (tt := tYes) rfl nd (pi_list (pv 0)) (blkOk_by (own := [("row", 2)]) (N := ["rows", "column", "row"]) (sc := defScope sColSum) (by decide +kernel))
        (fun _ _ _ _ _ => pg_name (i := 2) nd rfl (Or.inl rfl)) (fun _ _ _ _ _ => pts_nil) (fun _ _ _ _ _ => pe_ix (r := rIxT K) ix_tup (pv 2) (pv 1) (fun _ _ => rfl))) pa_nil))), ?_⟩
    refine ⟨_, rfl, ra, rfl, ⟨_, hS⟩, fun D nD => lc_list (K := K) (a := ra) (xs := xs) (fun i H' => Same H H' ∧ H' D = some (.lst (Zs ((rs.take i).map (col c))))) ⟨same_new nD, upd_same⟩ (fun i H' _ h => h.1.seq hS) (fun i x H' hx h => ?_) (fun H' h => ?_)⟩
    · obtain ⟨r, t, hr', rfl, ht⟩ := hR.item hx
      refine ⟨rfl, ?_⟩
      refine ⟨_, rfl, _, rfl, t, _, _, _, rfl, rfl, sqT (h.1 _ _ ht), atI_nat (col_row c hc r), _, h.2, ?_, same_upd h.1 nD, ?_⟩
      · rw [Zs_length, List.length_map, List.length_take]
        exact small1000 (by omega)
      · rw [upd_same, List.take_add_one, hr', List.map_append, Zs_one _ _ rfl]
        rfl
    · rw [hR.1, List.take_length] at h
      refine ⟨D, zs (rs.map (col c)), rfl, sqL h.2, ?_⟩
      rw [zs_sum]
      exact q H' h.1
abbrev sSim : Stmt := topS 32
abbrev psDR : List Str := ["demands", "shelf_life", "plan", "is_newest_first"]
abbrev psCS : List Str := ["rows", "column"]
def simNats (rs : List DayReport) : List Nat := [rs.length, SrCommon.sum (rs.map (col 0)), SrCommon.sum (rs.map (col 1)), SrCommon.sum (rs.map (col 2))] ++ rs.flatMap fun r => [r.short, r.discarded, r.kept]
def spSim (K : PySem.W.Frag) : Sp := fun vs H Q _ => ∃ (d pl : Addr) (p : Problem) (plan : List Nat) (nf : Bool), vs = [.ref d, .int p.shelfLife, .ref pl, .bl nf] ∧ Good p ∧ SqL K H d (Zs p.demands) ∧ SqL K H pl (Zs plan) ∧ plan.length = p.demands.length ∧
  ∀ (H' : Hp) (x : Addr), Same H H' → H x = none → H' x = some (.lst (Zs (simNats (Sr101.simulate p (seller nf) plan)))) → Q (.ref x) H'
theorem scSim : FnScope ["demands", "shelf_life", "plan", "is_newest_first", "rows", "found", "row", "column"] ["demands", "shelf_life", "plan", "is_newest_first"] (defScope sSim) := ⟨rfl, rfl, rfl, by decide +kernel, rfl, by decide +kernel, by decide +kernel⟩
theorem flat_len (rs : List DayReport) : (rs.flatMap fun r => [r.short, r.discarded, r.kept]).length = 3 * rs.length := by
  induction rs with
  | nil => rfl
  | cons r rs ih =>
    rw [List.flatMap_cons, List.length_append, ih, List.length_cons]
    show 3 + 3 * rs.length = 3 * (rs.length + 1)
    omega
theorem ok_sim {f : Addr} {fd : FuncData} (F : Fun K "simulated" "simulated" sSim f fd) (S1 : At P w K mg base "day_rows" 2 psDR (spDayRows K)) (S2 : At P w K mg base "column_sum" 1 psCS (spColSum K)) (mlen : mg "len" = none) (mrange : mg "range" = none) (mlist : mg "list" = none) :
    FnOk P w K mg base CX0 3 f fd ["demands", "shelf_life", "plan", "is_newest_first"] (spSim K) := by
  obtain ⟨f1, fd1, g1, G1, kp1, b1⟩ := S1.ex
  obtain ⟨f2, fd2, g2, G2, kp2, b2⟩ := S2.ex
  refine F.ok scSim (fun vs H Q E h => ?_) (fun cdv A outer s H vs Q E hr h => ?_)
  · obtain ⟨d, pl, p, plan, nf, rfl, _⟩ := h
    rfl
  · obtain ⟨d, pl, p, plan, nf, rfl, g, hS, hP, hpl, q⟩ := h
    have nd := scSim.nd
    have hN := g.days
    have hrl : (Sr101.simulate p (seller nf) plan).length ≤ 12 := by
      rw [sim_len]
      omega
    obtain ⟨rs, ers⟩ : ∃ rs, rs = Sr101.simulate p (seller nf) plan := ⟨_, rfl⟩
    rw [← ers] at hrl q
    refine ⟨_, pss_cons (ps_set (i := 4) nd rfl (Or.inr rfl) (pe_call G1 hr rfl g1 kp1 b1 .nil pass0 (pa_cons (pv 0) (pa_cons (pv 1) (pa_cons (pv 2) (pa_cons (pv 3) pa_nil))))))
      (pss_cons (ps_set (i := 5) nd rfl (Or.inl rfl) (pe_op op_cat (pe_lst (pa_cons (pe_callB call_len_seq (by rfl) mlen PySem.boot_len (pa_cons (pv 4) pa_nil)) pa_nil))
        (pe_lc (own := [("column", 7)]) (g := gName 7) (tt := tYes) rfl nd (pi_range1 rfl mrange (pa_cons pe_int pa_nil)) (blkOk_by (own := [("column", 7)]) (N := ["demands", "shelf_life", "plan", "is_newest_first", "rows", "found", "row", "column"]) (sc := defScope sSim) (by decide +kernel))
          (fun _ _ _ _ _ => pg_name (i := 7) nd rfl (Or.inl rfl)) (fun _ _ _ _ _ => pts_nil) (fun _ _ _ _ _ => pe_call G2 (hr.mono (by decide)) rfl g2 kp2 b2 .nil pass0 (pa_cons (pv 4) (pa_cons (pv 7) pa_nil))))))
      (pss_cons (ps_for PassesOwn.never rfl (pi_list (pv 4)) (pg_name (i := 6) nd rfl (Or.inl rfl))
        (pss_one (ps_expr (pe_bm PySem.F.plainAttrs_list PySem.F.slot_list_extend PySem.F.type_list_extend mt_extend (pv 5) (pa_cons (pe_callTy call_list_of (by rfl) mlist (by decide +kernel) (pa_cons (pv 6) pa_nil)) pa_nil)))))
      (pss_one (ps_ret (pv 5))))), ?_⟩
    refine ⟨_, rfl, _, rfl, _, rfl, _, rfl, d, pl, p, plan, nf, rfl, g, hS, hP, hpl, fun H1 fl xs s1 nfl hfl hrows => ?_⟩
    rw [← ers] at hrows
    -- [len(rows)]
    refine ⟨_, rfl, fl, _, rfl, .inl (sqL hfl), (by show 1 ≤ sizeLine; decide), fun l1 n1 => ?_⟩
    have s2 := same_new (o := .lst [.int (xs.length : Nat)]) n1
    -- the sums
    refine ⟨3, rfl, by decide, by decide, fun D nD => lc_range (lo := 0) (n := 3) (fun i H' => Same (upd H1 l1 (.lst [.int (xs.length : Nat)])) H' ∧ H' D = some (.lst (Zs ((List.range i).map fun c => SrCommon.sum (rs.map (col c)))))) ⟨same_new nD, upd_same⟩ (fun i H' hi h => ?_) (fun H' h => ?_)⟩
    · refine ⟨rfl, ?_⟩
      refine ⟨_, rfl, _, rfl, fl, xs, rs, i, (by rw [Int.zero_add]; rfl), sqL (h.1 _ _ (s2 _ _ hfl)), (hrows.same s2).same h.1, hi, hrl, fun H2 st => ?_⟩
      refine ⟨_, st _ _ h.2, ?_, same_upd (h.1.trans st) nD, ?_⟩
      · rw [Zs_length, List.length_map, List.length_range]
        exact small1000 (by omega)
      · rw [upd_same, List.range_succ, List.map_append, Zs_one _ _ rfl]
        rfl
    · have hl1 : H' l1 = some (.lst [.int (xs.length : Nat)]) := h.1 _ _ upd_same
      refine ⟨l1, D, _, _, rfl, rfl, hl1, h.2, small (m := 100) (by rw [Zs_length]; simp) (by decide), fun fo nfo => ?_⟩
      have s3 := h.1.trans (same_new (o := .lst ([.int (xs.length : Nat)] ++ Zs ((List.range 3).map fun c => SrCommon.sum (rs.map (col c))))) nfo)
      have s4 := (s1.trans s2).trans s3
      have nfoH : H fo = none := ((s1.trans s2).trans h.1).free nfo
      have hfl3 := s3 _ _ (s2 _ _ hfl)
      have hr3 := (hrows.same s2).same s3
      have e3 : ([.int (xs.length : Nat)] ++ Zs ((List.range 3).map fun c => SrCommon.sum (rs.map (col c))) : List V) = Zs ([rs.length, SrCommon.sum (rs.map (col 0)), SrCommon.sum (rs.map (col 1)), SrCommon.sum (rs.map (col 2))] ++ (rs.take 0).flatMap fun r => [r.short, r.discarded, r.kept]) := by
        rw [hrows.1]
        rfl
      refine ⟨_, rfl, fl, rfl, ⟨_, sqL hfl3⟩, for_list (K := K) (a := fl) (xs := xs) (fun i σ H' => ∃ rv, σ = [some (.ref d), some (.int p.shelfLife), some (.ref pl), some (.bl nf), some (.ref fl), some (.ref fo), rv, none] ∧ Same H H' ∧ H' fl = some (.lst xs) ∧ RowsAt H' xs rs ∧
          H' fo = some (.lst (Zs ([rs.length, SrCommon.sum (rs.map (col 0)), SrCommon.sum (rs.map (col 1)), SrCommon.sum (rs.map (col 2))] ++ (rs.take i).flatMap fun r => [r.short, r.discarded, r.kept]))))
        ⟨none, rfl, s4, hfl3, hr3, ?_⟩ (fun i σ H' _ ⟨_, _, _, hq, _⟩ => sqL hq) (fun i x σ H' hx h => ?_) (fun σ H' h => ?_)⟩
      · rw [upd_same, e3]
      · obtain ⟨rv, rfl, sm, hfl', hr', hfo⟩ := h
        obtain ⟨r, t, hri, rfl, ht⟩ := hr'.item hx
        refine ⟨_, rfl, .inl ⟨rfl, _, sqL hfo⟩, _, rfl, t, _, rfl, .inr (sqT ht), fun l nl => ?_⟩
        have fol : fo ≠ l := ne_of_none hfo nl
        have flfo : fl ≠ fo := fun e => by
          rw [← e] at nfo
          rw [h.1 _ _ (s2 _ _ hfl)] at nfo
          cases nfo
        have s5 := same_new (o := .lst (rowV r)) nl
        refine ⟨fo, l, _, _, rfl, rfl, s5 _ _ hfo, upd_same, small (m := 100) ?_ (by decide), ?_⟩
        · rw [Zs_length, List.length_append, flat_len, List.length_take]
          show 4 + 3 * min i rs.length + 3 ≤ 100
          omega
        · refine ⟨_, rfl, same_upd (same_upd sm (sm.free nl)) nfoH, (by rw [upd_ne flfo]; exact s5 _ _ hfl'), (hr'.same s5).put (s5 _ _ hfo), ?_⟩
          rw [upd_same, List.take_add_one, hri, List.flatMap_append, ← List.append_assoc]
          exact congrArg (fun z => some (HO.lst z)) (Zs_append _ [r.short, r.discarded, r.kept])
      · obtain ⟨rv, rfl, sm, hfl', hr', hfo⟩ := h
        rw [hr'.1, List.take_length] at hfo
        exact ⟨_, rfl, q H' fo sm nfoH hfo⟩
abbrev sPlanCost : Stmt := topS 33
abbrev psSim : List Str := ["demands", "shelf_life", "plan", "is_newest_first"]
def spPlanCost (K : PySem.W.Frag) : Sp := fun vs H Q _ => ∃ (d pl : Addr) (p : Problem) (plan : List Nat), vs = [.ref d, .int p.shelfLife, .int p.setupCost, .int p.holdingCost, .ref pl] ∧ Good p ∧ SqL K H d (Zs p.demands) ∧ SqL K H pl (Zs plan) ∧ plan.length = p.demands.length ∧
  ∀ (H' : Hp) (x : Addr), Same H H' → H x = none → H' x = some (.lst [.int (Sr101.planCost p plan : Nat), .int (SrCommon.boolToInt (Sr101.isExact p plan))]) → Q (.ref x) H'
theorem scPlanCost : FnScope ["demands", "shelf_life", "setup_cost", "holding_cost", "plan", "rows", "nights", "is_exact"] ["demands", "shelf_life", "setup_cost", "holding_cost", "plan"] (defScope sPlanCost) := ⟨rfl, rfl, rfl, by decide +kernel, rfl, by decide +kernel, by decide +kernel⟩
theorem ok_plancost {f : Addr} {fd : FuncData} (F : Fun K "plan_cost" "plan_cost" sPlanCost f fd) (S1 : At P w K mg base "day_rows" 2 psDR (spDayRows K)) (S2 : At P w K mg base "column_sum" 1 psCS (spColSum K)) (S3 : At P w K mg base "baking_days" 1 ["plan"] (spBakDays K)) (msum : mg "sum" = none) (mint : mg "int" = none) :
    FnOk P w K mg base CX0 3 f fd ["demands", "shelf_life", "setup_cost", "holding_cost", "plan"] (spPlanCost K) := by
  obtain ⟨f1, fd1, g1, G1, kp1, b1⟩ := S1.ex
  obtain ⟨f2, fd2, g2, G2, kp2, b2⟩ := S2.ex
  obtain ⟨f3, fd3, g3, G3, kp3, b3⟩ := S3.ex
  refine F.ok scPlanCost (fun vs H Q E h => ?_) (fun cdv A outer s H vs Q E hr h => ?_)
  · obtain ⟨d, pl, p, plan, rfl, _⟩ := h
    rfl
  · obtain ⟨d, pl, p, plan, rfl, g, hS, hP, hpl, q⟩ := h
    have nd := scPlanCost.nd
    have hN := g.days
    have hsetup := g.setup
    have hhold := g.holding
    have hrl : (Sr101.simulate p (seller false) plan).length ≤ 12 := by
      rw [sim_len]
      omega
    have ecost : Sr101.planCost p plan = p.setupCost * (plan.filter fun n => 0 < n).length + p.holdingCost * (SrCommon.sum ((Sr101.simulate p (seller false) plan).map (col 1)) + SrCommon.sum ((Sr101.simulate p (seller false) plan).map (col 2))) := by
      show p.setupCost * (plan.filter fun n => 0 < n).length + p.holdingCost * (SrCommon.sum ((Sr101.simulate p (seller false) plan).map (col 2)) + SrCommon.sum ((Sr101.simulate p (seller false) plan).map (col 1))) = _
      rw [Nat.add_comm (SrCommon.sum ((Sr101.simulate p (seller false) plan).map (col 2)))]
    have eexact : Sr101.isExact p plan = (decide (SrCommon.sum ((Sr101.simulate p (seller false) plan).map (col 0)) = 0) && decide (SrCommon.sum plan = SrCommon.sum p.demands)) := by
      show (decide (plan.length = p.demands.length) && ((SrCommon.sum ((Sr101.simulate p (seller false) plan).map (col 0)) == 0) && (SrCommon.sum plan == SrCommon.sum p.demands))) = _
      rw [decide_eq_true hpl, Bool.true_and]
      rfl
    obtain ⟨rs, ers⟩ : ∃ rs, rs = Sr101.simulate p (seller false) plan := ⟨_, rfl⟩
    rw [← ers] at hrl ecost eexact
    refine ⟨_, pss_cons (ps_set (i := 5) nd rfl (Or.inl rfl) (pe_call G1 hr rfl g1 kp1 b1 .nil pass0 (pa_cons (pv 0) (pa_cons (pv 1) (pa_cons (pv 4) (pa_cons pe_bl pa_nil))))))
      (pss_cons (ps_set (i := 6) nd rfl (Or.inl rfl) (pe_op op_add (pe_call G2 (hr.mono (by decide)) rfl g2 kp2 b2 .nil pass0 (pa_cons (pv 5) (pa_cons pe_int pa_nil))) (pe_call G2 (hr.mono (by decide)) rfl g2 kp2 b2 .nil pass0 (pa_cons (pv 5) (pa_cons pe_int pa_nil)))))
      (pss_cons (ps_set (i := 7) nd rfl (Or.inl rfl) (pe_and (pe_cmpR op_eq (pe_call G2 (hr.mono (by decide)) rfl g2 kp2 b2 .nil pass0 (pa_cons (pv 5) (pa_cons pe_int pa_nil))) pe_int (nomark _))
        (pe_one (pe_cmpR op_eq (pe_callB (cr_sum rfl) (by rfl) msum (by decide +kernel) (pa_cons (pv 4) pa_nil)) (pe_callB (cr_sum rfl) (by rfl) msum (by decide +kernel) (pa_cons (pv 0) pa_nil)) (nomark _)))))
      (pss_one (ps_ret (pe_lst (pa_cons (pe_op op_add (pe_op op_mul (pv 2) (pe_call G3 (hr.mono (by decide)) rfl g3 kp3 b3 .nil pass0 (pa_cons (pv 4) pa_nil))) (pe_op op_mul (pv 3) (pv 6))) (pa_cons (pe_callTy call_int1 (by rfl) mint (by decide +kernel) (pa_cons (pv 7) pa_nil)) pa_nil))))))), ?_⟩
    refine ⟨_, rfl, _, rfl, _, rfl, d, pl, p, plan, false, rfl, g, hS, hP, hpl, fun H1 fl xs s1 nfl hfl hrows => ?_⟩
    rw [← ers] at hrows
    refine ⟨_, rfl, fl, xs, rs, 1, rfl, sqL hfl, hrows, by decide, hrl, fun H2 s2 => ?_⟩
    have hfl2 := s2 _ _ hfl
    have hr2 := hrows.same s2
    refine ⟨_, rfl, fl, xs, rs, 2, rfl, sqL hfl2, hr2, by decide, hrl, fun H3 s3 => ?_⟩
    have hfl3 := s3 _ _ hfl2
    have hr3 := hr2.same s3
    refine ⟨_, _, rfl, rfl, ?_⟩
    refine ⟨_, rfl, fl, xs, rs, 0, rfl, sqL hfl3, hr3, by decide, hrl, fun H4 s4 => ?_⟩
    have sm := ((s1.trans s2).trans s3).trans s4
    -- what is handed back, whatever is_exact is
    have last : ∀ b : Bool, b = Sr101.isExact p plan → tRet (tLst (tCons (tOp (rI0 fun i j => .int (i + j)) (tOp (rI CMul fun i j => .int (i * j)) (tVar 2) (tCall (spBakDays K) [] E0 (tCons (tVar 4) tNil))) (tOp (rI CMul fun i j => .int (i * j)) (tVar 3) (tVar 6)))
        (tCons (tCB (fun xs H Q => (∃ i, xs = [.int i] ∧ Q (.int i) H) ∨ ∃ k, xs = [.bl k] ∧ Q (.int (if k then 1 else 0)) H) (tCons (tVar 7) tNil)) tNil))) { nx := fun _ H' => Q .non H', rt := Q }
        [some (.ref d), some (.int p.shelfLife), some (.int p.setupCost), some (.int p.holdingCost), some (.ref pl), some (.ref fl), some (.int (((SrCommon.sum (rs.map (col 1)) : Nat) : Int) + ((SrCommon.sum (rs.map (col 2)) : Nat) : Int))), some (.bl b)] H4 := by
      intro b hb
      refine ⟨_, rfl, _, rfl, pl, plan, rfl, sm.seq hP, by omega, fun H5 s5 => ?_⟩
      refine ⟨_, _, rfl, rfl, .inl ⟨by omega, by omega⟩, _, rfl, _, rfl, _, _, rfl, rfl, .inl ⟨by omega, by omega⟩, _, _, rfl, rfl, _, rfl, .inr ⟨b, rfl, ?_⟩⟩
      refine ⟨(by show 2 ≤ sizeLine; decide), fun x nx => ?_⟩
      refine q _ x (same_upd (sm.trans s5) ((sm.trans s5).free nx)) ((sm.trans s5).free nx) ?_
      rw [upd_same, hb, ecost]
      have e1 : ((p.setupCost * (plan.filter fun n => 0 < n).length + p.holdingCost * (SrCommon.sum (rs.map (col 1)) + SrCommon.sum (rs.map (col 2))) : Nat) : Int) = (p.setupCost : Int) * (((plan.filter fun n => 0 < n).length : Nat) : Int) + (p.holdingCost : Int) * (((SrCommon.sum (rs.map (col 1)) : Nat) : Int) + ((SrCommon.sum (rs.map (col 2)) : Nat) : Int)) := by
        rw [Int.natCast_add, Int.natCast_mul, Int.natCast_mul, Int.natCast_add]
      rw [e1]
      rfl
    refine ⟨rfl, _, rfl, ite_b (fun e => ?_) (fun e => ?_)⟩
    · have e0 : SrCommon.sum (rs.map (col 0)) = 0 := by
        have := V.int.inj (of_decide_eq_true e)
        omega
      refine ⟨_, rfl, pl, zs plan, rfl, sm.seq hP, _, rfl, d, zs p.demands, rfl, sm.seq hS, rfl, ?_⟩
      refine last _ ?_
      rw [eexact, decide_eq_true e0, Bool.true_and, zs_sum, zs_sum]
      refine decide_eq_decide.mpr ⟨fun z => ?_, fun z => by rw [z]⟩
      have := V.int.inj z
      omega
    · have e0 : ¬ SrCommon.sum (rs.map (col 0)) = 0 := fun z => by
        refine absurd ?_ (of_decide_eq_false e)
        rw [z]
        rfl
      refine last _ ?_
      rw [eexact, decide_eq_false e0, Bool.false_and]
end
end FL

namespace FL
open PySem PySem.Spec PyProof.Rows L2
open Sr101 (Problem DayReport demandOn segmentCost segmentDemand costTable perform)

/-! ### what a deed promises -/
def told (p : Problem) (c : Sr101.Call) : List Int := (perform p c).2.code :: (perform p c).2.values
def next (p : Problem) (c : Sr101.Call) : Problem := (perform p c).1.getD p
def Done (C : Addr) (H : Hp) (b : Addr) (p : Problem) (da : Addr) (c : Sr101.Call) (Q : VK) : Prop :=
  ∀ (H' : Hp) (x da' : Addr), H x = none → H' x = some (.lst ((told p c).map V.int)) → BakD C H' b (next p c) da' → (da' = da ∨ H da' = none) → (∀ a o, H a = some o → a ≠ b → H' a = some o) → Q (.ref x) H'
def spD (K : PySem.W.Frag) (C : Addr) (i : Int) : Sp := fun vs H Q _ => ∃ (b na ra da : Addr) (p : Problem) (ns row : List Int) (c : Sr101.Call), vs = [.ref b, .ref na, .ref ra] ∧ BakD C H b p da ∧ Good p ∧ SqL K H na (ns.map V.int) ∧ SqL K H ra (row.map V.int) ∧ Rec i ns row c ∧ Done C H b p da c Q
theorem done_same {C : Addr} {H : Hp} {b da : Addr} {p : Problem} {c : Sr101.Call} {Q : VK} (q : Done C H b p da c Q) (hB : BakD C H b p da) {r : SrCommon.Result} (e : perform p c = (none, r)) {l : List V} (hl : (r.code :: r.values).map V.int = l) :
    ∀ (H' : Hp) (x : Addr), Same H H' → H x = none → H' x = some (.lst l) → Q (.ref x) H' := by
  intro H' x s nx hx
  refine q H' x da nx ?_ ?_ (.inl rfl) (fun a o ha _ => s a o ha)
  · unfold told
    rw [e, hx, ← hl]
  · unfold next
    rw [e]
    exact Same.bakD s hB
theorem done_put {C : Addr} {H : Hp} {b da : Addr} {p p' : Problem} {c : Sr101.Call} {Q : VK} (q : Done C H b p da c Q) {r : SrCommon.Result} (e : perform p c = (some p', r)) {l : List V} (hl : (r.code :: r.values).map V.int = l) {H1 : Hp} (s1 : Same H H1)
    {dx x y : Addr} {o : HO} (ho : H b = some o) (hB : H1 b = some o) {fs : List (Str × V)} (hfs : fs = bkF p' x) (hx : H1 x = some (.lst (Zs p'.demands))) (hxn : x = da ∨ H x = none) (hxb : x ≠ b) (hy : upd H1 b (.ins C dx fs) y = none) : Q (.ref y) (upd (upd H1 b (.ins C dx fs)) y (.lst l)) := by
  have yb : y ≠ b := fun z => by
    rw [z, upd_same] at hy
    cases hy
  have hy1 : H1 y = none := by
    rw [upd_ne yb] at hy
    exact hy
  refine q _ y x (s1.free hy1) ?_ ⟨dx, ?_, ?_⟩ hxn fun a o' ha hab => ?_
  · unfold told
    rw [e, upd_same, ← hl]
  · rw [upd_ne (Ne.symm yb), upd_same, hfs]
    unfold next
    rw [e]
    rfl
  · unfold next
    rw [e, upd_ne (ne_of_none hx hy1), upd_ne hxb, hx]
    rfl
  · rw [upd_ne (ne_of_none (s1 _ _ ha) hy1), upd_ne hab]
    exact s1 _ _ ha
theorem SqL.put {K : PySem.W.Frag} {H : Hp} {a b C dx : Addr} {xs : List V} {fs : List (Str × V)} {o' : HO} (h : SqL K H a xs) (hb : H b = some (.ins C dx fs)) : SqL K (upd H b o') a xs := by
  rcases h with (free | ⟨ob, locked⟩) | written
  · refine .inl (.inl ?_)
    rw [upd_ne (ne_of free hb (fun z => nomatch z))]
    exact free
  · refine .inl (.inr ⟨ob, ?_⟩)
    rw [upd_ne (ne_of locked hb (fun z => nomatch z))]
    exact locked
  · exact .inr written

/-! ### the sixteen forms, one by one -/
theorem rec1 {i : Int} {ns row : List Int} {c : Sr101.Call} (h : Rec i ns row c) (hi : i = 1) : ∃ a b, ns = [a, b] ∧ row = [] ∧ c = .setDemand a b := by
  cases h <;> first | exact ⟨_, _, rfl, rfl, rfl⟩ | exact absurd hi (by decide)
theorem rec2 {i : Int} {ns row : List Int} {c : Sr101.Call} (h : Rec i ns row c) (hi : i = 2) : ns = [] ∧ row.length ≤ 70 ∧ c = .setDemands row := by
  cases h <;> first | exact ⟨rfl, by assumption, rfl⟩ | exact absurd hi (by decide)
theorem rec3 {i : Int} {ns row : List Int} {c : Sr101.Call} (h : Rec i ns row c) (hi : i = 3) : ∃ a, ns = [a] ∧ row = [] ∧ c = .setShelfLife a := by
  cases h <;> first | exact ⟨_, rfl, rfl, rfl⟩ | exact absurd hi (by decide)
theorem rec4 {i : Int} {ns row : List Int} {c : Sr101.Call} (h : Rec i ns row c) (hi : i = 4) : ∃ a, ns = [a] ∧ row = [] ∧ c = .setSetupCost a := by
  cases h <;> first | exact ⟨_, rfl, rfl, rfl⟩ | exact absurd hi (by decide)
theorem rec5 {i : Int} {ns row : List Int} {c : Sr101.Call} (h : Rec i ns row c) (hi : i = 5) : ∃ a, ns = [a] ∧ row = [] ∧ c = .setHoldingCost a := by
  cases h <;> first | exact ⟨_, rfl, rfl, rfl⟩ | exact absurd hi (by decide)
theorem rec6 {i : Int} {ns row : List Int} {c : Sr101.Call} (h : Rec i ns row c) (hi : i = 6) : c = .minCost := by
  cases h <;> first | rfl | exact absurd hi (by decide)
theorem rec7 {i : Int} {ns row : List Int} {c : Sr101.Call} (h : Rec i ns row c) (hi : i = 7) : c = .bestPlan := by
  cases h <;> first | rfl | exact absurd hi (by decide)
theorem rec8 {i : Int} {ns row : List Int} {c : Sr101.Call} (h : Rec i ns row c) (hi : i = 8) : row.length ≤ 70 ∧ c = .planCost row := by
  cases h <;> first | exact ⟨by assumption, rfl⟩ | exact absurd hi (by decide)
theorem rec9 {i : Int} {ns row : List Int} {c : Sr101.Call} (h : Rec i ns row c) (hi : i = 9) : row.length ≤ 70 ∧ c = .simulate row := by
  cases h <;> first | exact ⟨by assumption, rfl⟩ | exact absurd hi (by decide)
theorem rec10 {i : Int} {ns row : List Int} {c : Sr101.Call} (h : Rec i ns row c) (hi : i = 10) : row.length ≤ 70 ∧ c = .simulateNewestFirst row := by
  cases h <;> first | exact ⟨by assumption, rfl⟩ | exact absurd hi (by decide)
theorem rec11 {i : Int} {ns row : List Int} {c : Sr101.Call} (h : Rec i ns row c) (hi : i = 11) : ∃ a b, ns = [a, b] ∧ c = .minCostIfDemand a b := by
  cases h <;> first | exact ⟨_, _, rfl, rfl⟩ | exact absurd hi (by decide)
theorem rec12 {i : Int} {ns row : List Int} {c : Sr101.Call} (h : Rec i ns row c) (hi : i = 12) : ∃ a, ns = [a] ∧ c = .minCostIfShelfLife a := by
  cases h <;> first | exact ⟨_, rfl, rfl⟩ | exact absurd hi (by decide)
theorem rec13 {i : Int} {ns row : List Int} {c : Sr101.Call} (h : Rec i ns row c) (hi : i = 13) : c = .setupCount := by
  cases h <;> first | rfl | exact absurd hi (by decide)
theorem rec14 {i : Int} {ns row : List Int} {c : Sr101.Call} (h : Rec i ns row c) (hi : i = 14) : c = .totalDemand := by
  cases h <;> first | rfl | exact absurd hi (by decide)
theorem rec15 {i : Int} {ns row : List Int} {c : Sr101.Call} (h : Rec i ns row c) (hi : i = 15) : c = .describe := by
  cases h <;> first | rfl | exact absurd hi (by decide)
theorem dayErr_some {p : Problem} {a b : Int} (h : dayErr p a b = 0) : Sr101.isDay p a = true ∧ Sr101.isAmount b = true := by
  unfold dayErr at h
  split at h
  · cases h
  · rename_i h1
    split at h
    · cases h
    · rename_i h2
      exact ⟨not_false_true h1, not_false_true h2⟩
theorem perf1_err {p : Problem} {a b : Int} (h : ¬ dayErr p a b = 0) : perform p (.setDemand a b) = (none, .ofCode (dayErr p a b)) := by
  unfold perform dayErr at *
  dsimp only
  split
  · rfl
  · rename_i h1
    rw [if_neg h1] at h
    split
    · rfl
    · rename_i h2
      rw [if_neg h2] at h
      exact absurd rfl h
theorem perf1_ok {p : Problem} {a b : Int} (h1 : Sr101.isDay p a = true) (h2 : Sr101.isAmount b = true) : perform p (.setDemand a b) = (some (Sr101.withDemand p a.toNat b.toNat), Sr101.countResult (demandOn p a.toNat)) := by
  unfold perform
  dsimp only
  rw [if_neg (by rw [h1]; decide), if_neg (by rw [h2]; decide)]
theorem perf11_err {p : Problem} {a b : Int} (h : ¬ dayErr p a b = 0) : perform p (.minCostIfDemand a b) = (none, .ofCode (dayErr p a b)) := by
  unfold perform dayErr at *
  dsimp only
  congr 1
  split
  · rfl
  · rename_i h1
    rw [if_neg h1] at h
    split
    · rfl
    · rename_i h2
      rw [if_neg h2] at h
      exact absurd rfl h
theorem perf11_ok {p : Problem} {a b : Int} (h1 : Sr101.isDay p a = true) (h2 : Sr101.isAmount b = true) : perform p (.minCostIfDemand a b) = (none, Sr101.countResult (Sr101.minCost (Sr101.withDemand p a.toNat b.toNat))) := by
  unfold perform
  dsimp only
  rw [if_neg (by rw [h1]; decide), if_neg (by rw [h2]; decide)]

abbrev psD : List Str := ["bakery", "numbers", "row"]
abbrev psDay : List Str := ["bakery", "day", "demand"]
section
variable {P : Program} {w : World} {K : PySem.W.Frag} {mg : Str → Option Value} {base : Heap} {C : Addr}

/-! ### set_demand -/
abbrev sD1 : Stmt := topS 35
theorem scD1 : FnScope ["bakery", "numbers", "row", "day", "demand", "error", "before"] ["bakery", "numbers", "row"] (defScope sD1) := ⟨rfl, rfl, rfl, by decide +kernel, rfl, by decide +kernel, by decide +kernel⟩
theorem ok_d1 {f : Addr} {fd : FuncData} (F : Fun K "set_demand" "set_demand" sD1 f fd) (T : Txt K mg C) (S1 : At P w K mg base "day_error" 3 psDay (spDayErr K C)) (S2 : At P w K mg base "with_demand" 1 psDay (spWithDem K C)) :
    FnOk P w K mg base CX0 4 f fd ["bakery", "numbers", "row"] (spD K C 1) := by
  obtain ⟨f1, fd1, g1, G1, kp1, b1⟩ := S1.ex
  obtain ⟨f2, fd2, g2, G2, kp2, b2⟩ := S2.ex
  refine F.ok scD1 (fun vs H Q E h => ?_) (fun cdv A outer s H vs Q E hr h => ?_)
  · obtain ⟨b, na, ra, da, p, ns, row, c, rfl, _⟩ := h
    rfl
  · obtain ⟨b, na, ra, da, p, ns, row, c, rfl, hD, g, hn, hrow, hrec, q⟩ := h
    have hB := hD.at
    obtain ⟨day, dem, rfl, rfl, rfl⟩ := rec1 hrec rfl
    have hB' := hD
    obtain ⟨dx, hb, hda⟩ := hB'
    have nd := scD1.nd
    refine ⟨_, pss_cons (ps_asg (pv 1) (pg_unl rfl (pgs_cons (pg_name (i := 3) nd rfl (.inl rfl)) (pgs_cons (pg_name (i := 4) nd rfl (.inl rfl)) pgs_nil))))
      (pss_cons (ps_set (i := 5) nd rfl (Or.inl rfl) (pe_call G1 hr rfl g1 kp1 b1 .nil pass0 (pa_cons (pv 0) (pa_cons (pv 3) (pa_cons (pv 4) pa_nil)))))
      (pss_cons (ps_if (pt_cmpR op_ne (pv 5) pe_int (nomark _)) (pss_one (ps_ret (pe_lst (pa_cons (pv 5) pa_nil)))) pss_nil)
      (pss_cons (ps_set (i := 6) nd rfl (Or.inl rfl) (pe_ix ix_list (pe_fld (pv 0) rfl) (pv 3) (fun _ _ => rfl)))
      (pss_cons (ps_fld (pv 0) (pe_call G2 (hr.mono (by decide)) rfl g2 kp2 b2 .nil pass0 (pa_cons (pv 0) (pa_cons (pv 3) (pa_cons (pv 4) pa_nil)))) rfl)
      (pss_one (ps_ret (pe_lst (pa_cons (pv 6) pa_nil)))))))), ?_⟩
    refine ⟨_, rfl, na, _, rfl, hn, rfl, _, _, rfl, _, _, rfl, rfl, ?_⟩
    refine ⟨_, rfl, _, rfl, _, rfl, b, p, day, dem, rfl, hB, ?_⟩
    refine ⟨_, rfl, rfl, _, rfl, ite_not (fun e => ?_) (fun e => ?_)⟩
    · have e1 : ¬ dayErr p day dem = 0 := fun z => of_decide_eq_false e (congrArg V.int z)
      refine ⟨_, rfl, (by show 1 ≤ sizeLine; decide), fun x nx => ?_⟩
      exact done_same q hD (perf1_err e1) rfl _ x (same_new nx) nx upd_same
    · have e1 : dayErr p day dem = 0 := V.int.inj (of_decide_eq_true e)
      obtain ⟨h1, h2⟩ := dayErr_some e1
      have h3 := isDay_iff.mp h1
      refine ⟨_, rfl, b, C, dx, _, _, rfl, hb, T.cl, T.nD, bk_dem p da, _, rfl, da, _, _, _, rfl, rfl, sqL hda, atZ (i := day.toNat) (by omega) (by omega), ?_⟩
      refine ⟨_, rfl, _, rfl, _, rfl, b, p, day, dem, rfl, hB, h1, h2, fun H1 x s1 nx hx => ?_⟩
      refine ⟨_, rfl, b, C, dx, _, rfl, s1 _ _ hb, T.cl, T.nD, (by show 4 < 1000; decide), ?_⟩
      refine ⟨_, rfl, (by show 1 ≤ sizeLine; decide), fun y ny => ?_⟩
      exact done_put q (perf1_ok h1 h2) rfl s1 hb (s1 _ _ hb) (bk_put_dem p da x _) hx (.inr nx) (Ne.symm (ne_of_none hb nx)) ny

/-! ### set_demands -/
abbrev sD2 : Stmt := topS 36
theorem scD2 : FnScope ["bakery", "numbers", "row"] ["bakery", "numbers", "row"] (defScope sD2) := ⟨rfl, rfl, rfl, by decide +kernel, rfl, by decide +kernel, by decide +kernel⟩
abbrev psFD : List Str := ["bakery", "row", "most"]
theorem nonneg_of {l : List Int} {m : Int} (h : (l.all fun n => SrCommon.inRange n 0 m) = true) : ∀ x ∈ l, 0 ≤ x := fun x hx => (range_iff.mp (List.all_eq_true.mp h x hx)).1
theorem Zs_ints {l : List Int} {m : Int} (h : (l.all fun n => SrCommon.inRange n 0 m) = true) : l.map V.int = Zs (SrCommon.intsToNats l) := by
  show l.map V.int = (zs (SrCommon.intsToNats l)).map V.int
  rw [zs_toNats (nonneg_of h)]
theorem ok_d2 {f : Addr} {fd : FuncData} (F : Fun K "set_demands" "set_demands" sD2 f fd) (T : Txt K mg C) (S1 : At P w K mg base "are_for_days" 2 psFD (spForDays K C)) (mlist : mg "list" = none) (msum : mg "sum" = none) {t t' : Tok} (c99 : mg "MOST_DEMAND" = some (.int 99 t)) (c22 : mg "OUTSIDE" = some (.int (-22) t')) :
    FnOk P w K mg base CX0 3 f fd ["bakery", "numbers", "row"] (spD K C 2) := by
  obtain ⟨f1, fd1, g1, G1, kp1, b1⟩ := S1.ex
  refine F.ok scD2 (fun vs H Q E h => ?_) (fun cdv A outer s H vs Q E hr h => ?_)
  · obtain ⟨b, na, ra, da, p, ns, row, c, rfl, _⟩ := h
    rfl
  · obtain ⟨b, na, ra, da, p, ns, row, c, rfl, hD, g, hn, hrow, hrec, q⟩ := h
    have hB := hD.at
    obtain ⟨rfl, h70, rfl⟩ := rec2 hrec rfl
    have hB' := hD
    obtain ⟨dx, hb, hda⟩ := hB'
    refine ⟨_, pss_cons (ps_if (pt_not (pt_val (pe_call G1 hr rfl g1 kp1 b1 .nil pass0 (pa_cons (pv 0) (pa_cons (pv 2) (pa_cons (pe_gi c99) pa_nil)))))) (pss_one (ps_ret (pe_lst (pa_cons (pe_gi c22) pa_nil)))) pss_nil)
      (pss_cons (ps_fld (pv 0) (pe_callTy call_list_of (by rfl) mlist (by decide +kernel) (pa_cons (pv 2) pa_nil)) rfl)
      (pss_one (ps_ret (pe_lst (pa_cons (pe_callB (cr_sum rfl) (by rfl) msum (by decide +kernel) (pa_cons (pv 2) pa_nil)) pa_nil))))), ?_⟩
    refine ⟨_, rfl, _, rfl, b, ra, p, row, 99, rfl, hB, hrow, h70, fun H1 s1 => ?_⟩
    refine ⟨_, rfl, ite_not (fun e => ?_) (fun e => ?_)⟩
    · refine ⟨(by show 1 ≤ sizeLine; decide), fun x nx => ?_⟩
      have ep : perform p (.setDemands row) = (none, .ofCode SrCommon.invalidArgument) := by
        unfold perform
        dsimp only
        rw [if_pos ?_]
        · rfl
        · by_cases h1 : row.length = p.demands.length
          · rw [decide_eq_true h1, Bool.true_and] at e
            exact Or.inr e
          · exact Or.inl h1
      exact done_same q hD ep rfl _ x (same_upd s1 (s1.free nx)) (s1.free nx) upd_same
    · have h1 : row.length = p.demands.length := of_decide_eq_true (Bool.and_eq_true_iff.mp e).1
      have h2 : (row.all fun n => SrCommon.inRange n 0 99) = true := (Bool.and_eq_true_iff.mp e).2
      have ep : perform p (.setDemands row) = (some { p with demands := SrCommon.intsToNats row }, Sr101.countResult (SrCommon.sum (SrCommon.intsToNats row))) := by
        unfold perform
        dsimp only
        rw [if_neg ?_]
        rintro (z | z)
        · exact z h1
        · have h2' : row.all Sr101.isAmount = true := h2
          rw [h2'] at z
          cases z
      refine ⟨_, rfl, ra, _, rfl, .inl (s1.seq hrow), fun l nl => ?_⟩
      have s2 := s1.trans (same_new (o := .lst (row.map V.int)) nl)
      refine ⟨_, rfl, b, C, dx, _, rfl, s2 _ _ hb, T.cl, T.nD, (by show 4 < 1000; decide), ?_⟩
      have s3 := SqL.put (s2.seq hrow) (o' := .ins C dx (putF "demands" (.ref l) (bkF p da))) (s2 _ _ hb)
      refine ⟨_, rfl, ra, row, rfl, s3, (by show 1 ≤ sizeLine; decide), fun y ny => ?_⟩
      have hx : upd H1 l (.lst (row.map V.int)) l = some (.lst (Zs (SrCommon.intsToNats row))) := by
        rw [upd_same, Zs_ints h2]
      refine done_put q ep ?_ s2 hb (s2 _ _ hb) (bk_put_dem p da l _) hx (.inr (s1.free nl)) (Ne.symm (ne_of_none (s1 _ _ hb) nl)) ny
      show [V.int ((SrCommon.sum (SrCommon.intsToNats row) : Nat) : Int)] = [V.int row.sum]
      rw [← zs_sum, zs_toNats (nonneg_of h2)]

/-! ### set_shelf_life, set_setup_cost, set_holding_cost -/
abbrev sD3 : Stmt := topS 37
abbrev sD4 : Stmt := topS 38
abbrev sD5 : Stmt := topS 39
theorem scD3 : FnScope ["bakery", "numbers", "row", "before"] ["bakery", "numbers", "row"] (defScope sD3) := ⟨rfl, rfl, rfl, by decide +kernel, rfl, by decide +kernel, by decide +kernel⟩
theorem scD4 : FnScope ["bakery", "numbers", "row", "before"] ["bakery", "numbers", "row"] (defScope sD4) := ⟨rfl, rfl, rfl, by decide +kernel, rfl, by decide +kernel, by decide +kernel⟩
theorem scD5 : FnScope ["bakery", "numbers", "row", "before"] ["bakery", "numbers", "row"] (defScope sD5) := ⟨rfl, rfl, rfl, by decide +kernel, rfl, by decide +kernel, by decide +kernel⟩
theorem done_num {C : Addr} {H : Hp} {b da : Addr} {p p' : Problem} {c : Sr101.Call} {Q : VK} (q : Done C H b p da c Q) {r : SrCommon.Result} (e : perform p c = (some p', r)) {l : List V} (hl : (r.code :: r.values).map V.int = l)
    {dx y : Addr} {fs0 : List (Str × V)} (ho : H b = some (.ins C dx fs0)) {fs : List (Str × V)} (hfs : fs = bkF p' da) (hx : H da = some (.lst (Zs p'.demands))) (hy : upd H b (.ins C dx fs) y = none) : Q (.ref y) (upd (upd H b (.ins C dx fs)) y (.lst l)) :=
  done_put q e hl (Same.refl H) ho ho hfs hx (.inl rfl) (ne_of hx ho (fun z => nomatch z)) hy
theorem ok_d3 {f : Addr} {fd : FuncData} (F : Fun K "set_shelf_life" "set_shelf_life" sD3 f fd) (T : Txt K mg C) (S1 : At P w K mg base "is_shelf_life" 2 ["number"] (spTest Sr101.isDayCount)) {t : Tok} (c22 : mg "OUTSIDE" = some (.int (-22) t)) :
    FnOk P w K mg base CX0 3 f fd ["bakery", "numbers", "row"] (spD K C 3) := by
  obtain ⟨f1, fd1, g1, G1, kp1, b1⟩ := S1.ex
  refine F.ok scD3 (fun vs H Q E h => ?_) (fun cdv A outer s H vs Q E hr h => ?_)
  · obtain ⟨b, na, ra, da, p, ns, row, c, rfl, _⟩ := h
    rfl
  · obtain ⟨b, na, ra, da, p, ns, row, c, rfl, hD, g, hn, hrow, hrec, q⟩ := h
    have hB := hD.at
    obtain ⟨a, rfl, rfl, rfl⟩ := rec3 hrec rfl
    have hB' := hD
    obtain ⟨dx, hb, hda⟩ := hB'
    refine ⟨_, pss_cons (ps_set (i := 3) scD3.nd rfl (Or.inl rfl) (pe_fld (pv 0) rfl))
      (pss_cons (ps_if (pt_not (pt_val (pe_call G1 hr rfl g1 kp1 b1 .nil pass0 (pa_cons (pe_ix ix_list (pv 1) pe_int (fun _ _ => rfl)) pa_nil)))) (pss_one (ps_ret (pe_lst (pa_cons (pe_gi c22) pa_nil)))) pss_nil)
      (pss_cons (ps_fld (pv 0) (pe_ix ix_list (pv 1) pe_int (fun _ _ => rfl)) rfl)
      (pss_one (ps_ret (pe_lst (pa_cons (pv 3) pa_nil)))))), ?_⟩
    refine ⟨_, rfl, b, C, dx, _, _, rfl, hb, T.cl, T.nS, bk_shelf p da, ?_⟩
    refine ⟨_, rfl, na, _, _, _, rfl, rfl, hn, atI_nat (j := 0) rfl, a, rfl, _, rfl, ite_not (fun e => ?_) (fun e => ?_)⟩
    · refine ⟨(by show 1 ≤ sizeLine; decide), fun x nx => ?_⟩
      have ep : perform p (.setShelfLife a) = (none, .ofCode SrCommon.invalidArgument) := by
        unfold perform
        dsimp only
        rw [if_pos e]
        rfl
      exact done_same q hD ep rfl _ x (same_new nx) nx upd_same
    · have ep : perform p (.setShelfLife a) = (some { p with shelfLife := a.toNat }, Sr101.countResult p.shelfLife) := by
        unfold perform
        dsimp only
        rw [if_neg (by rw [e]; decide)]
      have h3 := isDayCount_iff.mp e
      refine ⟨_, rfl, na, _, _, _, rfl, rfl, hn, atI_nat (j := 0) rfl, _, rfl, b, C, dx, _, rfl, hb, T.cl, T.nS, (by show 4 < 1000; decide), ?_⟩
      refine ⟨_, rfl, (by show 1 ≤ sizeLine; decide), fun y ny => ?_⟩
      refine done_num q ep rfl hb ?_ hda ny
      have e2 : V.int a = V.int ((a.toNat : Nat) : Int) := by rw [Int.toNat_of_nonneg (by omega)]
      rw [e2]
      exact bk_put_shelf p da _
theorem ok_d4 {f : Addr} {fd : FuncData} (F : Fun K "set_setup_cost" "set_setup_cost" sD4 f fd) (T : Txt K mg C) (S1 : At P w K mg base "is_setup_cost" 2 ["number"] (spTest Sr101.isSetupCost)) {t : Tok} (c22 : mg "OUTSIDE" = some (.int (-22) t)) :
    FnOk P w K mg base CX0 3 f fd ["bakery", "numbers", "row"] (spD K C 4) := by
  obtain ⟨f1, fd1, g1, G1, kp1, b1⟩ := S1.ex
  refine F.ok scD4 (fun vs H Q E h => ?_) (fun cdv A outer s H vs Q E hr h => ?_)
  · obtain ⟨b, na, ra, da, p, ns, row, c, rfl, _⟩ := h
    rfl
  · obtain ⟨b, na, ra, da, p, ns, row, c, rfl, hD, g, hn, hrow, hrec, q⟩ := h
    have hB := hD.at
    obtain ⟨a, rfl, rfl, rfl⟩ := rec4 hrec rfl
    have hB' := hD
    obtain ⟨dx, hb, hda⟩ := hB'
    refine ⟨_, pss_cons (ps_set (i := 3) scD4.nd rfl (Or.inl rfl) (pe_fld (pv 0) rfl))
      (pss_cons (ps_if (pt_not (pt_val (pe_call G1 hr rfl g1 kp1 b1 .nil pass0 (pa_cons (pe_ix ix_list (pv 1) pe_int (fun _ _ => rfl)) pa_nil)))) (pss_one (ps_ret (pe_lst (pa_cons (pe_gi c22) pa_nil)))) pss_nil)
      (pss_cons (ps_fld (pv 0) (pe_ix ix_list (pv 1) pe_int (fun _ _ => rfl)) rfl)
      (pss_one (ps_ret (pe_lst (pa_cons (pv 3) pa_nil)))))), ?_⟩
    refine ⟨_, rfl, b, C, dx, _, _, rfl, hb, T.cl, T.nU, bk_setup p da, ?_⟩
    refine ⟨_, rfl, na, _, _, _, rfl, rfl, hn, atI_nat (j := 0) rfl, a, rfl, _, rfl, ite_not (fun e => ?_) (fun e => ?_)⟩
    · refine ⟨(by show 1 ≤ sizeLine; decide), fun x nx => ?_⟩
      have ep : perform p (.setSetupCost a) = (none, .ofCode SrCommon.invalidArgument) := by
        unfold perform
        dsimp only
        rw [if_pos e]
        rfl
      exact done_same q hD ep rfl _ x (same_new nx) nx upd_same
    · have ep : perform p (.setSetupCost a) = (some { p with setupCost := a.toNat }, Sr101.countResult p.setupCost) := by
        unfold perform
        dsimp only
        rw [if_neg (by rw [e]; decide)]
      have h3 := isSetup_iff.mp e
      refine ⟨_, rfl, na, _, _, _, rfl, rfl, hn, atI_nat (j := 0) rfl, _, rfl, b, C, dx, _, rfl, hb, T.cl, T.nU, (by show 4 < 1000; decide), ?_⟩
      refine ⟨_, rfl, (by show 1 ≤ sizeLine; decide), fun y ny => ?_⟩
      refine done_num q ep rfl hb ?_ hda ny
      have e2 : V.int a = V.int ((a.toNat : Nat) : Int) := by rw [Int.toNat_of_nonneg (by omega)]
      rw [e2]
      exact bk_put_setup p da _
theorem ok_d5 {f : Addr} {fd : FuncData} (F : Fun K "set_holding_cost" "set_holding_cost" sD5 f fd) (T : Txt K mg C) (S1 : At P w K mg base "is_holding_cost" 2 ["number"] (spTest Sr101.isAmount)) {t : Tok} (c22 : mg "OUTSIDE" = some (.int (-22) t)) :
    FnOk P w K mg base CX0 3 f fd ["bakery", "numbers", "row"] (spD K C 5) := by
  obtain ⟨f1, fd1, g1, G1, kp1, b1⟩ := S1.ex
  refine F.ok scD5 (fun vs H Q E h => ?_) (fun cdv A outer s H vs Q E hr h => ?_)
  · obtain ⟨b, na, ra, da, p, ns, row, c, rfl, _⟩ := h
    rfl
  · obtain ⟨b, na, ra, da, p, ns, row, c, rfl, hD, g, hn, hrow, hrec, q⟩ := h
    have hB := hD.at
    obtain ⟨a, rfl, rfl, rfl⟩ := rec5 hrec rfl
    have hB' := hD
    obtain ⟨dx, hb, hda⟩ := hB'
    refine ⟨_, pss_cons (ps_set (i := 3) scD5.nd rfl (Or.inl rfl) (pe_fld (pv 0) rfl))
      (pss_cons (ps_if (pt_not (pt_val (pe_call G1 hr rfl g1 kp1 b1 .nil pass0 (pa_cons (pe_ix ix_list (pv 1) pe_int (fun _ _ => rfl)) pa_nil)))) (pss_one (ps_ret (pe_lst (pa_cons (pe_gi c22) pa_nil)))) pss_nil)
      (pss_cons (ps_fld (pv 0) (pe_ix ix_list (pv 1) pe_int (fun _ _ => rfl)) rfl)
      (pss_one (ps_ret (pe_lst (pa_cons (pv 3) pa_nil)))))), ?_⟩
    refine ⟨_, rfl, b, C, dx, _, _, rfl, hb, T.cl, T.nH, bk_hold p da, ?_⟩
    refine ⟨_, rfl, na, _, _, _, rfl, rfl, hn, atI_nat (j := 0) rfl, a, rfl, _, rfl, ite_not (fun e => ?_) (fun e => ?_)⟩
    · refine ⟨(by show 1 ≤ sizeLine; decide), fun x nx => ?_⟩
      have ep : perform p (.setHoldingCost a) = (none, .ofCode SrCommon.invalidArgument) := by
        unfold perform
        dsimp only
        rw [if_pos e]
        rfl
      exact done_same q hD ep rfl _ x (same_new nx) nx upd_same
    · have ep : perform p (.setHoldingCost a) = (some { p with holdingCost := a.toNat }, Sr101.countResult p.holdingCost) := by
        unfold perform
        dsimp only
        rw [if_neg (by rw [e]; decide)]
      have h3 := isAmount_iff.mp e
      refine ⟨_, rfl, na, _, _, _, rfl, rfl, hn, atI_nat (j := 0) rfl, _, rfl, b, C, dx, _, rfl, hb, T.cl, T.nH, (by show 4 < 1000; decide), ?_⟩
      refine ⟨_, rfl, (by show 1 ≤ sizeLine; decide), fun y ny => ?_⟩
      refine done_num q ep rfl hb ?_ hda ny
      have e2 : V.int a = V.int ((a.toNat : Nat) : Int) := by rw [Int.toNat_of_nonneg (by omega)]
      rw [e2]
      exact bk_put_hold p da _

/-! ### own_lowest_cost, own_best_plan -/
abbrev sOwnLow : Stmt := topS 40
abbrev sOwnBest : Stmt := topS 41
def spOwnLow (K : PySem.W.Frag) (C : Addr) : Sp := fun vs H Q _ => ∃ (b d : Addr) (p0 p : Problem), vs = [.ref b, .ref d, .int p.shelfLife] ∧ BakAt C H b p0 ∧ p.setupCost = p0.setupCost ∧ p.holdingCost = p0.holdingCost ∧ Good p ∧ SqL K H d (Zs p.demands) ∧ ∀ H' : Hp, Same H H' → Q (.int (Sr101.minCost p : Nat)) H'
theorem scOwnLow : FnScope ["bakery", "demands", "shelf_life"] ["bakery", "demands", "shelf_life"] (defScope sOwnLow) := ⟨rfl, rfl, rfl, by decide +kernel, rfl, by decide +kernel, by decide +kernel⟩
theorem ok_ownlow {f : Addr} {fd : FuncData} (F : Fun K "own_lowest_cost" "own_lowest_cost" sOwnLow f fd) (T : Txt K mg C) (S1 : At P w K mg base "lowest_cost" 4 psP (spLowest K)) : FnOk P w K mg base CX0 5 f fd ["bakery", "demands", "shelf_life"] (spOwnLow K C) := by
  obtain ⟨f1, fd1, g1, G1, kp1, b1⟩ := S1.ex
  refine F.ok scOwnLow (fun vs H Q E h => ?_) (fun cdv A outer s H vs Q E hr h => ?_)
  · obtain ⟨b, d, p0, p, rfl, _⟩ := h
    rfl
  · obtain ⟨b, d, p0, p, rfl, ⟨dx, da, hb, hda⟩, e1, e2, g, hS, q⟩ := h
    refine ⟨_, pss_one (ps_ret (pe_call G1 hr rfl g1 kp1 b1 .nil pass0 (pa_cons (pv 1) (pa_cons (pv 2) (pa_cons (pe_fld (pv 0) rfl) (pa_cons (pe_fld (pv 0) rfl) pa_nil)))))), ?_⟩
    refine ⟨_, rfl, _, rfl, _, rfl, b, C, dx, _, _, rfl, hb, T.cl, T.nU, bk_setup p0 da, _, rfl, b, C, dx, _, _, rfl, hb, T.cl, T.nH, bk_hold p0 da, d, p, ?_, g, hS, q⟩
    rw [e1, e2]
    rfl
def spOwnBest (K : PySem.W.Frag) (C : Addr) : Sp := fun vs H Q _ => ∃ (b : Addr) (p : Problem), vs = [.ref b] ∧ BakAt C H b p ∧ Good p ∧ ∀ (H' : Hp) (x : Addr), Same H H' → H x = none → H' x = some (.lst (Zs (Sr101.bestPlan p))) → Q (.ref x) H'
theorem scOwnBest : FnScope ["bakery"] ["bakery"] (defScope sOwnBest) := ⟨rfl, rfl, rfl, by decide +kernel, rfl, by decide +kernel, by decide +kernel⟩
theorem ok_ownbest {f : Addr} {fd : FuncData} (F : Fun K "own_best_plan" "own_best_plan" sOwnBest f fd) (T : Txt K mg C) (S1 : At P w K mg base "best_plan" 4 psP (spBestPlan K)) : FnOk P w K mg base CX0 5 f fd ["bakery"] (spOwnBest K C) := by
  obtain ⟨f1, fd1, g1, G1, kp1, b1⟩ := S1.ex
  refine F.ok scOwnBest (fun vs H Q E h => ?_) (fun cdv A outer s H vs Q E hr h => ?_)
  · obtain ⟨b, p, rfl, _⟩ := h
    rfl
  · obtain ⟨b, p, rfl, ⟨dx, da, hb, hda⟩, g, q⟩ := h
    refine ⟨_, pss_one (ps_ret (pe_call G1 hr rfl g1 kp1 b1 .nil pass0 (pa_cons (pe_fld (pv 0) rfl) (pa_cons (pe_fld (pv 0) rfl) (pa_cons (pe_fld (pv 0) rfl) (pa_cons (pe_fld (pv 0) rfl) pa_nil)))))), ?_⟩
    exact ⟨_, rfl, b, C, dx, _, _, rfl, hb, T.cl, T.nD, bk_dem p da, _, rfl, b, C, dx, _, _, rfl, hb, T.cl, T.nS, bk_shelf p da, _, rfl, b, C, dx, _, _, rfl, hb, T.cl, T.nU, bk_setup p da, _, rfl, b, C, dx, _, _, rfl, hb, T.cl, T.nH, bk_hold p da, da, p, rfl, g, sqL hda, q⟩

/-! ### the queries -/
abbrev psOL : List Str := ["bakery", "demands", "shelf_life"]
abbrev sD6 : Stmt := topS 42
abbrev sD7 : Stmt := topS 43
theorem scD6 : FnScope ["bakery", "numbers", "row"] ["bakery", "numbers", "row"] (defScope sD6) := ⟨rfl, rfl, rfl, by decide +kernel, rfl, by decide +kernel, by decide +kernel⟩
theorem scD7 : FnScope ["bakery", "numbers", "row"] ["bakery", "numbers", "row"] (defScope sD7) := ⟨rfl, rfl, rfl, by decide +kernel, rfl, by decide +kernel, by decide +kernel⟩
theorem ok_d6 {f : Addr} {fd : FuncData} (F : Fun K "tell_min_cost" "tell_min_cost" sD6 f fd) (T : Txt K mg C) (S1 : At P w K mg base "own_lowest_cost" 5 psOL (spOwnLow K C)) : FnOk P w K mg base CX0 6 f fd ["bakery", "numbers", "row"] (spD K C 6) := by
  obtain ⟨f1, fd1, g1, G1, kp1, b1⟩ := S1.ex
  refine F.ok scD6 (fun vs H Q E h => ?_) (fun cdv A outer s H vs Q E hr h => ?_)
  · obtain ⟨b, na, ra, da, p, ns, row, c, rfl, _⟩ := h
    rfl
  · obtain ⟨b, na, ra, da, p, ns, row, c, rfl, hD, g, hn, hrow, hrec, q⟩ := h
    have hB := hD.at
    obtain rfl := rec6 hrec rfl
    have hB' := hD
    obtain ⟨dx, hb, hda⟩ := hB'
    refine ⟨_, pss_one (ps_ret (pe_lst (pa_cons (pe_call G1 hr rfl g1 kp1 b1 .nil pass0 (pa_cons (pv 0) (pa_cons (pe_fld (pv 0) rfl) (pa_cons (pe_fld (pv 0) rfl) pa_nil)))) pa_nil))), ?_⟩
    refine ⟨_, rfl, _, rfl, b, C, dx, _, _, rfl, hb, T.cl, T.nD, bk_dem p da, _, rfl, b, C, dx, _, _, rfl, hb, T.cl, T.nS, bk_shelf p da, b, da, p, p, rfl, hB, rfl, rfl, g, sqL hda, fun H1 s1 => ?_⟩
    refine ⟨(by show 1 ≤ sizeLine; decide), fun x nx => ?_⟩
    exact done_same q hD (r := Sr101.countResult (Sr101.minCost p)) rfl rfl _ x (same_upd s1 (s1.free nx)) (s1.free nx) upd_same
theorem ok_d7 {f : Addr} {fd : FuncData} (F : Fun K "tell_best_plan" "tell_best_plan" sD7 f fd) (T : Txt K mg C) (S1 : At P w K mg base "own_lowest_cost" 5 psOL (spOwnLow K C)) (S2 : At P w K mg base "own_best_plan" 5 ["bakery"] (spOwnBest K C)) : FnOk P w K mg base CX0 6 f fd ["bakery", "numbers", "row"] (spD K C 7) := by
  obtain ⟨f1, fd1, g1, G1, kp1, b1⟩ := S1.ex
  obtain ⟨f2, fd2, g2, G2, kp2, b2⟩ := S2.ex
  refine F.ok scD7 (fun vs H Q E h => ?_) (fun cdv A outer s H vs Q E hr h => ?_)
  · obtain ⟨b, na, ra, da, p, ns, row, c, rfl, _⟩ := h
    rfl
  · obtain ⟨b, na, ra, da, p, ns, row, c, rfl, hD, g, hn, hrow, hrec, q⟩ := h
    have hB := hD.at
    obtain rfl := rec7 hrec rfl
    have hB' := hD
    obtain ⟨dx, hb, hda⟩ := hB'
    have hN := g.days
    refine ⟨_, pss_one (ps_ret (pe_op op_cat (pe_lst (pa_cons (pe_call G1 hr rfl g1 kp1 b1 .nil pass0 (pa_cons (pv 0) (pa_cons (pe_fld (pv 0) rfl) (pa_cons (pe_fld (pv 0) rfl) pa_nil)))) pa_nil)) (pe_call G2 hr rfl g2 kp2 b2 .nil pass0 (pa_cons (pv 0) pa_nil)))), ?_⟩
    refine ⟨_, rfl, _, rfl, b, C, dx, _, _, rfl, hb, T.cl, T.nD, bk_dem p da, _, rfl, b, C, dx, _, _, rfl, hb, T.cl, T.nS, bk_shelf p da, b, da, p, p, rfl, hB, rfl, rfl, g, sqL hda, fun H1 s1 => ?_⟩
    refine ⟨(by show 1 ≤ sizeLine; decide), fun l1 n1 => ?_⟩
    have s2 := s1.trans (same_new (o := .lst [.int (Sr101.minCost p : Nat)]) n1)
    refine ⟨_, rfl, b, p, rfl, Same.bak s2 hB, g, fun H2 x s3 nx hx => ?_⟩
    refine ⟨l1, x, _, _, rfl, rfl, s3 _ _ upd_same, hx, small (m := 100) (by rw [Zs_length, best_len]; simp only [List.length_cons, List.length_nil]; omega) (by decide), fun y ny => ?_⟩
    have s4 := s2.trans s3
    exact done_same q hD (r := ⟨(Sr101.minCost p : Nat), SrCommon.natsToInts (Sr101.bestPlan p)⟩) rfl rfl _ y (same_upd s4 (s4.free ny)) (s4.free ny) upd_same
theorem plan_perf {p : Problem} {row : List Int} (h : (decide (row.length = p.demands.length) && row.all fun n => SrCommon.inRange n 0 999) = false) : Sr101.isPlan p row = false := h
abbrev sD8 : Stmt := topS 44
abbrev sD9 : Stmt := topS 45
abbrev sD10 : Stmt := topS 46
theorem scD8 : FnScope ["bakery", "numbers", "row"] ["bakery", "numbers", "row"] (defScope sD8) := ⟨rfl, rfl, rfl, by decide +kernel, rfl, by decide +kernel, by decide +kernel⟩
theorem scD9 : FnScope ["bakery", "numbers", "row"] ["bakery", "numbers", "row"] (defScope sD9) := ⟨rfl, rfl, rfl, by decide +kernel, rfl, by decide +kernel, by decide +kernel⟩
theorem scD10 : FnScope ["bakery", "numbers", "row"] ["bakery", "numbers", "row"] (defScope sD10) := ⟨rfl, rfl, rfl, by decide +kernel, rfl, by decide +kernel, by decide +kernel⟩
abbrev psPC : List Str := ["demands", "shelf_life", "setup_cost", "holding_cost", "plan"]
theorem ok_d8 {f : Addr} {fd : FuncData} (F : Fun K "tell_plan_cost" "tell_plan_cost" sD8 f fd) (T : Txt K mg C) (S1 : At P w K mg base "are_for_days" 2 psFD (spForDays K C)) (S2 : At P w K mg base "plan_cost" 3 psPC (spPlanCost K)) {t t' : Tok} (c999 : mg "MOST_LOAVES" = some (.int 999 t)) (c22 : mg "OUTSIDE" = some (.int (-22) t')) :
    FnOk P w K mg base CX0 4 f fd ["bakery", "numbers", "row"] (spD K C 8) := by
  obtain ⟨f1, fd1, g1, G1, kp1, b1⟩ := S1.ex
  obtain ⟨f2, fd2, g2, G2, kp2, b2⟩ := S2.ex
  refine F.ok scD8 (fun vs H Q E h => ?_) (fun cdv A outer s H vs Q E hr h => ?_)
  · obtain ⟨b, na, ra, da, p, ns, row, c, rfl, _⟩ := h
    rfl
  · obtain ⟨b, na, ra, da, p, ns, row, c, rfl, hD, g, hn, hrow, hrec, q⟩ := h
    have hB := hD.at
    obtain ⟨h70, rfl⟩ := rec8 hrec rfl
    have hB' := hD
    obtain ⟨dx, hb, hda⟩ := hB'
    refine ⟨_, pss_cons (ps_if (pt_not (pt_val (pe_call G1 (hr.mono (by decide)) rfl g1 kp1 b1 .nil pass0 (pa_cons (pv 0) (pa_cons (pv 2) (pa_cons (pe_gi c999) pa_nil)))))) (pss_one (ps_ret (pe_lst (pa_cons (pe_gi c22) pa_nil)))) pss_nil)
      (pss_one (ps_ret (pe_call G2 hr rfl g2 kp2 b2 .nil pass0 (pa_cons (pe_fld (pv 0) rfl) (pa_cons (pe_fld (pv 0) rfl) (pa_cons (pe_fld (pv 0) rfl) (pa_cons (pe_fld (pv 0) rfl) (pa_cons (pv 2) pa_nil)))))))), ?_⟩
    refine ⟨_, rfl, _, rfl, b, ra, p, row, 999, rfl, hB, hrow, h70, fun H1 s1 => ?_⟩
    refine ⟨_, rfl, ite_not (fun e => ?_) (fun e => ?_)⟩
    · refine ⟨(by show 1 ≤ sizeLine; decide), fun x nx => ?_⟩
      have ep : perform p (.planCost row) = (none, .ofCode SrCommon.invalidArgument) := by
        unfold perform
        dsimp only
        rw [if_pos (plan_perf e)]
      exact done_same q hD ep rfl _ x (same_upd s1 (s1.free nx)) (s1.free nx) upd_same
    · have h1 : row.length = p.demands.length := of_decide_eq_true (Bool.and_eq_true_iff.mp e).1
      have h2 : (row.all fun n => SrCommon.inRange n 0 999) = true := (Bool.and_eq_true_iff.mp e).2
      have ep : perform p (.planCost row) = (none, ⟨(Sr101.planCost p (SrCommon.intsToNats row) : Nat), [SrCommon.boolToInt (Sr101.isExact p (SrCommon.intsToNats row))]⟩) := by
        unfold perform
        dsimp only
        rw [if_neg (fun z => by
          have z' : (decide (row.length = p.demands.length) && row.all fun n => SrCommon.inRange n 0 999) = false := z
          rw [e] at z'
          cases z')]
      have hrow' : SqL K H1 ra (Zs (SrCommon.intsToNats row)) := by
        rw [← Zs_ints h2]
        exact s1.seq hrow
      have hb1 := s1 _ _ hb
      have hl : (SrCommon.intsToNats row).length = p.demands.length := by
        unfold SrCommon.intsToNats
        rw [List.length_map, h1]
      refine ⟨_, rfl, b, C, dx, _, _, rfl, hb1, T.cl, T.nD, bk_dem p da, _, rfl, b, C, dx, _, _, rfl, hb1, T.cl, T.nS, bk_shelf p da, _, rfl, b, C, dx, _, _, rfl, hb1, T.cl, T.nU, bk_setup p da, _, rfl, b, C, dx, _, _, rfl, hb1, T.cl, T.nH, bk_hold p da, _, rfl,
        da, ra, p, SrCommon.intsToNats row, rfl, g, sqL (s1 _ _ hda), hrow', hl, fun H' x s2 nx hx => ?_⟩
      exact done_same q hD ep rfl H' x (s1.trans s2) (s1.free nx) hx
theorem sim_ints (rs : List DayReport) : ((Sr101.reportsResult rs).code :: (Sr101.reportsResult rs).values).map V.int = Zs (simNats rs) := by
  have e : ∀ l : List DayReport, (l.flatMap fun d => [(d.short : Int), (d.discarded : Int), (d.kept : Int)]) = zs (l.flatMap fun r => [r.short, r.discarded, r.kept]) := by
    intro l
    induction l with
    | nil => rfl
    | cons r l ih => rw [List.flatMap_cons, List.flatMap_cons, zs_append, ih]; rfl
  show ((rs.length : Int) :: ([(Sr101.totalShort rs : Int), (Sr101.totalDiscarded rs : Int), (Sr101.totalKept rs : Int)] ++ rs.flatMap fun d => [(d.short : Int), (d.discarded : Int), (d.kept : Int)])).map V.int = (zs (simNats rs)).map V.int
  unfold simNats
  rw [e, zs_append]
  rfl
theorem ok_d9 {f : Addr} {fd : FuncData} (F : Fun K "tell_simulated" "tell_simulated" sD9 f fd) (T : Txt K mg C) (S1 : At P w K mg base "are_for_days" 2 psFD (spForDays K C)) (S2 : At P w K mg base "simulated" 3 psSim (spSim K)) {t t' : Tok} (c999 : mg "MOST_LOAVES" = some (.int 999 t)) (c22 : mg "OUTSIDE" = some (.int (-22) t')) :
    FnOk P w K mg base CX0 4 f fd ["bakery", "numbers", "row"] (spD K C 9) := by
  obtain ⟨f1, fd1, g1, G1, kp1, b1⟩ := S1.ex
  obtain ⟨f2, fd2, g2, G2, kp2, b2⟩ := S2.ex
  refine F.ok scD9 (fun vs H Q E h => ?_) (fun cdv A outer s H vs Q E hr h => ?_)
  · obtain ⟨b, na, ra, da, p, ns, row, c, rfl, _⟩ := h
    rfl
  · obtain ⟨b, na, ra, da, p, ns, row, c, rfl, hD, g, hn, hrow, hrec, q⟩ := h
    have hB := hD.at
    obtain ⟨h70, rfl⟩ := rec9 hrec rfl
    have hB' := hD
    obtain ⟨dx, hb, hda⟩ := hB'
    refine ⟨_, pss_cons (ps_if (pt_not (pt_val (pe_call G1 (hr.mono (by decide)) rfl g1 kp1 b1 .nil pass0 (pa_cons (pv 0) (pa_cons (pv 2) (pa_cons (pe_gi c999) pa_nil)))))) (pss_one (ps_ret (pe_lst (pa_cons (pe_gi c22) pa_nil)))) pss_nil)
      (pss_one (ps_ret (pe_call G2 hr rfl g2 kp2 b2 .nil pass0 (pa_cons (pe_fld (pv 0) rfl) (pa_cons (pe_fld (pv 0) rfl) (pa_cons (pv 2) (pa_cons pe_bl pa_nil))))))), ?_⟩
    refine ⟨_, rfl, _, rfl, b, ra, p, row, 999, rfl, hB, hrow, h70, fun H1 s1 => ?_⟩
    refine ⟨_, rfl, ite_not (fun e => ?_) (fun e => ?_)⟩
    · refine ⟨(by show 1 ≤ sizeLine; decide), fun x nx => ?_⟩
      have ep : perform p (.simulate row) = (none, .ofCode SrCommon.invalidArgument) := by
        unfold perform
        dsimp only
        rw [if_pos (plan_perf e)]
      exact done_same q hD ep rfl _ x (same_upd s1 (s1.free nx)) (s1.free nx) upd_same
    · have h1 : row.length = p.demands.length := of_decide_eq_true (Bool.and_eq_true_iff.mp e).1
      have h2 : (row.all fun n => SrCommon.inRange n 0 999) = true := (Bool.and_eq_true_iff.mp e).2
      have ep : perform p (.simulate row) = (none, Sr101.reportsResult (Sr101.simulate p (seller false) (SrCommon.intsToNats row))) := by
        unfold perform
        dsimp only
        rw [if_neg (fun z => by
          have z' : (decide (row.length = p.demands.length) && row.all fun n => SrCommon.inRange n 0 999) = false := z
          rw [e] at z'
          cases z')]
        rfl
      have hrow' : SqL K H1 ra (Zs (SrCommon.intsToNats row)) := by
        rw [← Zs_ints h2]
        exact s1.seq hrow
      have hb1 := s1 _ _ hb
      have hl : (SrCommon.intsToNats row).length = p.demands.length := by
        unfold SrCommon.intsToNats
        rw [List.length_map, h1]
      refine ⟨_, rfl, b, C, dx, _, _, rfl, hb1, T.cl, T.nD, bk_dem p da, _, rfl, b, C, dx, _, _, rfl, hb1, T.cl, T.nS, bk_shelf p da, _, rfl, da, ra, p, SrCommon.intsToNats row, false, rfl, g, sqL (s1 _ _ hda), hrow', hl, fun H' x s2 nx hx => ?_⟩
      exact done_same q hD ep (sim_ints _) H' x (s1.trans s2) (s1.free nx) hx
theorem ok_d10 {f : Addr} {fd : FuncData} (F : Fun K "tell_newest_first" "tell_newest_first" sD10 f fd) (T : Txt K mg C) (S1 : At P w K mg base "are_for_days" 2 psFD (spForDays K C)) (S2 : At P w K mg base "simulated" 3 psSim (spSim K)) {t t' : Tok} (c999 : mg "MOST_LOAVES" = some (.int 999 t)) (c22 : mg "OUTSIDE" = some (.int (-22) t')) :
    FnOk P w K mg base CX0 4 f fd ["bakery", "numbers", "row"] (spD K C 10) := by
  obtain ⟨f1, fd1, g1, G1, kp1, b1⟩ := S1.ex
  obtain ⟨f2, fd2, g2, G2, kp2, b2⟩ := S2.ex
  refine F.ok scD10 (fun vs H Q E h => ?_) (fun cdv A outer s H vs Q E hr h => ?_)
  · obtain ⟨b, na, ra, da, p, ns, row, c, rfl, _⟩ := h
    rfl
  · obtain ⟨b, na, ra, da, p, ns, row, c, rfl, hD, g, hn, hrow, hrec, q⟩ := h
    have hB := hD.at
    obtain ⟨h70, rfl⟩ := rec10 hrec rfl
    have hB' := hD
    obtain ⟨dx, hb, hda⟩ := hB'
    refine ⟨_, pss_cons (ps_if (pt_not (pt_val (pe_call G1 (hr.mono (by decide)) rfl g1 kp1 b1 .nil pass0 (pa_cons (pv 0) (pa_cons (pv 2) (pa_cons (pe_gi c999) pa_nil)))))) (pss_one (ps_ret (pe_lst (pa_cons (pe_gi c22) pa_nil)))) pss_nil)
      (pss_one (ps_ret (pe_call G2 hr rfl g2 kp2 b2 .nil pass0 (pa_cons (pe_fld (pv 0) rfl) (pa_cons (pe_fld (pv 0) rfl) (pa_cons (pv 2) (pa_cons pe_bl pa_nil))))))), ?_⟩
    refine ⟨_, rfl, _, rfl, b, ra, p, row, 999, rfl, hB, hrow, h70, fun H1 s1 => ?_⟩
    refine ⟨_, rfl, ite_not (fun e => ?_) (fun e => ?_)⟩
    · refine ⟨(by show 1 ≤ sizeLine; decide), fun x nx => ?_⟩
      have ep : perform p (.simulateNewestFirst row) = (none, .ofCode SrCommon.invalidArgument) := by
        unfold perform
        dsimp only
        rw [if_pos (plan_perf e)]
      exact done_same q hD ep rfl _ x (same_upd s1 (s1.free nx)) (s1.free nx) upd_same
    · have h1 : row.length = p.demands.length := of_decide_eq_true (Bool.and_eq_true_iff.mp e).1
      have h2 : (row.all fun n => SrCommon.inRange n 0 999) = true := (Bool.and_eq_true_iff.mp e).2
      have ep : perform p (.simulateNewestFirst row) = (none, Sr101.reportsResult (Sr101.simulate p (seller true) (SrCommon.intsToNats row))) := by
        unfold perform
        dsimp only
        rw [if_neg (fun z => by
          have z' : (decide (row.length = p.demands.length) && row.all fun n => SrCommon.inRange n 0 999) = false := z
          rw [e] at z'
          cases z')]
        rfl
      have hrow' : SqL K H1 ra (Zs (SrCommon.intsToNats row)) := by
        rw [← Zs_ints h2]
        exact s1.seq hrow
      have hb1 := s1 _ _ hb
      have hl : (SrCommon.intsToNats row).length = p.demands.length := by
        unfold SrCommon.intsToNats
        rw [List.length_map, h1]
      refine ⟨_, rfl, b, C, dx, _, _, rfl, hb1, T.cl, T.nD, bk_dem p da, _, rfl, b, C, dx, _, _, rfl, hb1, T.cl, T.nS, bk_shelf p da, _, rfl, da, ra, p, SrCommon.intsToNats row, true, rfl, g, sqL (s1 _ _ hda), hrow', hl, fun H' x s2 nx hx => ?_⟩
      exact done_same q hD ep (sim_ints _) H' x (s1.trans s2) (s1.free nx) hx
abbrev sD11 : Stmt := topS 47
abbrev sD12 : Stmt := topS 48
theorem scD11 : FnScope ["bakery", "numbers", "row", "day", "demand", "error"] ["bakery", "numbers", "row"] (defScope sD11) := ⟨rfl, rfl, rfl, by decide +kernel, rfl, by decide +kernel, by decide +kernel⟩
theorem scD12 : FnScope ["bakery", "numbers", "row"] ["bakery", "numbers", "row"] (defScope sD12) := ⟨rfl, rfl, rfl, by decide +kernel, rfl, by decide +kernel, by decide +kernel⟩
theorem ok_d11 {f : Addr} {fd : FuncData} (F : Fun K "tell_if_demand" "tell_if_demand" sD11 f fd) (T : Txt K mg C) (S1 : At P w K mg base "day_error" 3 psDay (spDayErr K C)) (S2 : At P w K mg base "with_demand" 1 psDay (spWithDem K C)) (S3 : At P w K mg base "own_lowest_cost" 5 psOL (spOwnLow K C)) :
    FnOk P w K mg base CX0 6 f fd ["bakery", "numbers", "row"] (spD K C 11) := by
  obtain ⟨f1, fd1, g1, G1, kp1, b1⟩ := S1.ex
  obtain ⟨f2, fd2, g2, G2, kp2, b2⟩ := S2.ex
  obtain ⟨f3, fd3, g3, G3, kp3, b3⟩ := S3.ex
  refine F.ok scD11 (fun vs H Q E h => ?_) (fun cdv A outer s H vs Q E hr h => ?_)
  · obtain ⟨b, na, ra, da, p, ns, row, c, rfl, _⟩ := h
    rfl
  · obtain ⟨b, na, ra, da, p, ns, row, c, rfl, hD, g, hn, hrow, hrec, q⟩ := h
    have hB := hD.at
    obtain ⟨day, dem, rfl, rfl⟩ := rec11 hrec rfl
    have hB' := hD
    obtain ⟨dx, hb, hda⟩ := hB'
    have nd := scD11.nd
    refine ⟨_, pss_cons (ps_asg (pv 1) (pg_unl rfl (pgs_cons (pg_name (i := 3) nd rfl (.inl rfl)) (pgs_cons (pg_name (i := 4) nd rfl (.inl rfl)) pgs_nil))))
      (pss_cons (ps_set (i := 5) nd rfl (Or.inl rfl) (pe_call G1 (hr.mono (by decide)) rfl g1 kp1 b1 .nil pass0 (pa_cons (pv 0) (pa_cons (pv 3) (pa_cons (pv 4) pa_nil)))))
      (pss_cons (ps_if (pt_cmpR op_ne (pv 5) pe_int (nomark _)) (pss_one (ps_ret (pe_lst (pa_cons (pv 5) pa_nil)))) pss_nil)
      (pss_one (ps_ret (pe_lst (pa_cons (pe_call G3 hr rfl g3 kp3 b3 .nil pass0 (pa_cons (pv 0) (pa_cons (pe_call G2 (hr.mono (by decide)) rfl g2 kp2 b2 .nil pass0 (pa_cons (pv 0) (pa_cons (pv 3) (pa_cons (pv 4) pa_nil)))) (pa_cons (pe_fld (pv 0) rfl) pa_nil)))) pa_nil)))))), ?_⟩
    refine ⟨_, rfl, na, _, rfl, hn, rfl, _, _, rfl, _, _, rfl, rfl, ?_⟩
    refine ⟨_, rfl, _, rfl, _, rfl, b, p, day, dem, rfl, hB, ?_⟩
    refine ⟨_, rfl, rfl, _, rfl, ite_not (fun e => ?_) (fun e => ?_)⟩
    · have e1 : ¬ dayErr p day dem = 0 := fun z => of_decide_eq_false e (congrArg V.int z)
      refine ⟨_, rfl, (by show 1 ≤ sizeLine; decide), fun x nx => ?_⟩
      exact done_same q hD (perf11_err e1) rfl _ x (same_new nx) nx upd_same
    · have e1 : dayErr p day dem = 0 := V.int.inj (of_decide_eq_true e)
      obtain ⟨h1, h2⟩ := dayErr_some e1
      refine ⟨_, rfl, _, rfl, _, rfl, _, rfl, b, p, day, dem, rfl, hB, h1, h2, fun H1 x s1 nx hx => ?_⟩
      refine ⟨_, rfl, b, C, dx, _, _, rfl, s1 _ _ hb, T.cl, T.nS, bk_shelf p da, b, x, p, Sr101.withDemand p day.toNat dem.toNat, rfl, Same.bak s1 hB, rfl, rfl, good_demand g h1 h2, sqL hx, fun H2 s2 => ?_⟩
      refine ⟨(by show 1 ≤ sizeLine; decide), fun y ny => ?_⟩
      have s3 := s1.trans s2
      exact done_same q hD (perf11_ok h1 h2) rfl _ y (same_upd s3 (s3.free ny)) (s3.free ny) upd_same
theorem ok_d12 {f : Addr} {fd : FuncData} (F : Fun K "tell_if_shelf_life" "tell_if_shelf_life" sD12 f fd) (T : Txt K mg C) (S1 : At P w K mg base "is_shelf_life" 2 ["number"] (spTest Sr101.isDayCount)) (S3 : At P w K mg base "own_lowest_cost" 5 psOL (spOwnLow K C)) {t : Tok} (c22 : mg "OUTSIDE" = some (.int (-22) t)) :
    FnOk P w K mg base CX0 6 f fd ["bakery", "numbers", "row"] (spD K C 12) := by
  obtain ⟨f1, fd1, g1, G1, kp1, b1⟩ := S1.ex
  obtain ⟨f3, fd3, g3, G3, kp3, b3⟩ := S3.ex
  refine F.ok scD12 (fun vs H Q E h => ?_) (fun cdv A outer s H vs Q E hr h => ?_)
  · obtain ⟨b, na, ra, da, p, ns, row, c, rfl, _⟩ := h
    rfl
  · obtain ⟨b, na, ra, da, p, ns, row, c, rfl, hD, g, hn, hrow, hrec, q⟩ := h
    have hB := hD.at
    obtain ⟨a, rfl, rfl⟩ := rec12 hrec rfl
    have hB' := hD
    obtain ⟨dx, hb, hda⟩ := hB'
    refine ⟨_, pss_cons (ps_if (pt_not (pt_val (pe_call G1 (hr.mono (by decide)) rfl g1 kp1 b1 .nil pass0 (pa_cons (pe_ix ix_list (pv 1) pe_int (fun _ _ => rfl)) pa_nil)))) (pss_one (ps_ret (pe_lst (pa_cons (pe_gi c22) pa_nil)))) pss_nil)
      (pss_one (ps_ret (pe_lst (pa_cons (pe_call G3 hr rfl g3 kp3 b3 .nil pass0 (pa_cons (pv 0) (pa_cons (pe_fld (pv 0) rfl) (pa_cons (pe_ix ix_list (pv 1) pe_int (fun _ _ => rfl)) pa_nil)))) pa_nil)))), ?_⟩
    refine ⟨_, rfl, na, _, _, _, rfl, rfl, hn, atI_nat (j := 0) rfl, a, rfl, _, rfl, ite_not (fun e => ?_) (fun e => ?_)⟩
    · refine ⟨(by show 1 ≤ sizeLine; decide), fun x nx => ?_⟩
      have ep : perform p (.minCostIfShelfLife a) = (none, .ofCode SrCommon.invalidArgument) := by
        unfold perform
        dsimp only
        rw [if_pos e]
      exact done_same q hD ep rfl _ x (same_new nx) nx upd_same
    · have ep : perform p (.minCostIfShelfLife a) = (none, Sr101.countResult (Sr101.minCost { p with shelfLife := a.toNat })) := by
        unfold perform
        dsimp only
        rw [if_neg (by rw [e]; decide)]
      have h3 := isDayCount_iff.mp e
      refine ⟨_, rfl, _, rfl, b, C, dx, _, _, rfl, hb, T.cl, T.nD, bk_dem p da, _, rfl, na, _, _, _, rfl, rfl, hn, atI_nat (j := 0) rfl, b, da, p, { p with shelfLife := a.toNat }, ?_, hB, rfl, rfl, good_shelf g e, sqL hda, fun H2 s2 => ?_⟩
      · show [V.ref b, V.ref da, V.int a] = [V.ref b, V.ref da, V.int ((a.toNat : Nat) : Int)]
        rw [Int.toNat_of_nonneg (by omega)]
      · refine ⟨(by show 1 ≤ sizeLine; decide), fun y ny => ?_⟩
        exact done_same q hD ep rfl _ y (same_upd s2 (s2.free ny)) (s2.free ny) upd_same
abbrev sD13 : Stmt := topS 49
abbrev sD14 : Stmt := topS 50
abbrev sD15 : Stmt := topS 51
theorem scD13 : FnScope ["bakery", "numbers", "row"] ["bakery", "numbers", "row"] (defScope sD13) := ⟨rfl, rfl, rfl, by decide +kernel, rfl, by decide +kernel, by decide +kernel⟩
theorem scD14 : FnScope ["bakery", "numbers", "row"] ["bakery", "numbers", "row"] (defScope sD14) := ⟨rfl, rfl, rfl, by decide +kernel, rfl, by decide +kernel, by decide +kernel⟩
theorem scD15 : FnScope ["bakery", "numbers", "row", "begun"] ["bakery", "numbers", "row"] (defScope sD15) := ⟨rfl, rfl, rfl, by decide +kernel, rfl, by decide +kernel, by decide +kernel⟩
theorem ok_d13 {f : Addr} {fd : FuncData} (F : Fun K "tell_setup_count" "tell_setup_count" sD13 f fd) (T : Txt K mg C) (S1 : At P w K mg base "baking_days" 1 ["plan"] (spBakDays K)) (S2 : At P w K mg base "own_best_plan" 5 ["bakery"] (spOwnBest K C)) : FnOk P w K mg base CX0 6 f fd ["bakery", "numbers", "row"] (spD K C 13) := by
  obtain ⟨f1, fd1, g1, G1, kp1, b1⟩ := S1.ex
  obtain ⟨f2, fd2, g2, G2, kp2, b2⟩ := S2.ex
  refine F.ok scD13 (fun vs H Q E h => ?_) (fun cdv A outer s H vs Q E hr h => ?_)
  · obtain ⟨b, na, ra, da, p, ns, row, c, rfl, _⟩ := h
    rfl
  · obtain ⟨b, na, ra, da, p, ns, row, c, rfl, hD, g, hn, hrow, hrec, q⟩ := h
    have hB := hD.at
    obtain rfl := rec13 hrec rfl
    have hN := g.days
    refine ⟨_, pss_one (ps_ret (pe_lst (pa_cons (pe_call G1 (hr.mono (by decide)) rfl g1 kp1 b1 .nil pass0 (pa_cons (pe_call G2 hr rfl g2 kp2 b2 .nil pass0 (pa_cons (pv 0) pa_nil)) pa_nil)) pa_nil))), ?_⟩
    refine ⟨_, rfl, b, p, rfl, hB, g, fun H1 x s1 nx hx => ?_⟩
    refine ⟨x, Sr101.bestPlan p, rfl, sqL hx, (by rw [best_len]; omega), fun H2 s2 => ?_⟩
    refine ⟨(by show 1 ≤ sizeLine; decide), fun y ny => ?_⟩
    have s3 := s1.trans s2
    exact done_same q hD (r := Sr101.countResult ((Sr101.bestPlan p).filter fun n => 0 < n).length) rfl rfl _ y (same_upd s3 (s3.free ny)) (s3.free ny) upd_same
theorem ok_d14 {f : Addr} {fd : FuncData} (F : Fun K "tell_total" "tell_total" sD14 f fd) (T : Txt K mg C) (msum : mg "sum" = none) : FnOk P w K mg base CX0 1 f fd ["bakery", "numbers", "row"] (spD K C 14) := by
  refine F.ok scD14 (fun vs H Q E h => ?_) (fun cdv A outer s H vs Q E hr h => ?_)
  · obtain ⟨b, na, ra, da, p, ns, row, c, rfl, _⟩ := h
    rfl
  · obtain ⟨b, na, ra, da, p, ns, row, c, rfl, hD, g, hn, hrow, hrec, q⟩ := h
    have hB := hD.at
    obtain rfl := rec14 hrec rfl
    have hB' := hD
    obtain ⟨dx, hb, hda⟩ := hB'
    refine ⟨_, pss_one (ps_ret (pe_lst (pa_cons (pe_callB (cr_sum rfl) (by rfl) msum (by decide +kernel) (pa_cons (pe_fld (pv 0) rfl) pa_nil)) pa_nil))), ?_⟩
    refine ⟨_, rfl, b, C, dx, _, _, rfl, hb, T.cl, T.nD, bk_dem p da, da, zs p.demands, rfl, sqL hda, (by show 1 ≤ sizeLine; decide), fun y ny => ?_⟩
    refine done_same q hD (r := Sr101.countResult (SrCommon.sum p.demands)) rfl ?_ _ y (same_new ny) ny upd_same
    rw [zs_sum]
    rfl
theorem ok_d15 {f : Addr} {fd : FuncData} (F : Fun K "describe" "describe" sD15 f fd) (T : Txt K mg C) (mlen : mg "len" = none) : FnOk P w K mg base CX0 1 f fd ["bakery", "numbers", "row"] (spD K C 15) := by
  refine F.ok scD15 (fun vs H Q E h => ?_) (fun cdv A outer s H vs Q E hr h => ?_)
  · obtain ⟨b, na, ra, da, p, ns, row, c, rfl, _⟩ := h
    rfl
  · obtain ⟨b, na, ra, da, p, ns, row, c, rfl, hD, g, hn, hrow, hrec, q⟩ := h
    have hB := hD.at
    obtain rfl := rec15 hrec rfl
    have hB' := hD
    obtain ⟨dx, hb, hda⟩ := hB'
    have hN := g.days
    refine ⟨_, pss_cons (ps_set (i := 3) scD15.nd rfl (Or.inl rfl) (pe_lst (pa_cons (pe_callB call_len_seq (by rfl) mlen PySem.boot_len (pa_cons (pe_fld (pv 0) rfl) pa_nil)) (pa_cons (pe_fld (pv 0) rfl) (pa_cons (pe_fld (pv 0) rfl) (pa_cons (pe_fld (pv 0) rfl) pa_nil))))))
      (pss_one (ps_ret (pe_op op_cat (pv 3) (pe_fld (pv 0) rfl)))), ?_⟩
    refine ⟨_, rfl, b, C, dx, _, _, rfl, hb, T.cl, T.nD, bk_dem p da, da, _, rfl, .inl (sqL hda), _, rfl, b, C, dx, _, _, rfl, hb, T.cl, T.nS, bk_shelf p da, _, rfl, b, C, dx, _, _, rfl, hb, T.cl, T.nU, bk_setup p da, _, rfl, b, C, dx, _, _, rfl, hb, T.cl, T.nH, bk_hold p da, (by show 4 ≤ sizeLine; decide), fun l nl => ?_⟩
    have s1 := same_new (o := .lst [.int ((Zs p.demands).length : Nat), .int (p.shelfLife : Nat), .int (p.setupCost : Nat), .int (p.holdingCost : Nat)]) nl
    refine ⟨_, rfl, _, rfl, b, C, dx, _, _, rfl, s1 _ _ hb, T.cl, T.nD, bk_dem p da, l, da, _, _, rfl, rfl, upd_same, s1 _ _ hda, small (m := 100) (by rw [Zs_length]; simp only [List.length_cons, List.length_nil]; omega) (by decide), fun y ny => ?_⟩
    refine done_same q hD (r := ⟨(p.demands.length : Int), [(p.shelfLife : Int), (p.setupCost : Int), (p.holdingCost : Int)] ++ SrCommon.natsToInts p.demands⟩) rfl ?_ _ y (s1.trans (same_new ny)) (s1.free ny) upd_same
    rw [Zs_length]
    rfl
end
end FL

namespace FL
open PySem PySem.Spec PyProof.Rows L2
open Sr101 (Problem DayReport demandOn segmentCost segmentDemand costTable perform)

/-! ### a dict of the module with whole numbers as keys -/
def IDct (K : PySem.W.Frag) (a : Addr) (k : Int) (v : V) : Prop :=
  ∃ (es : Array DictEntry) (n : Nat) (u : Value), K.lookup a = some ⟨.type "dict", none, .dict es n, #[]⟩ ∧ (∀ e ∈ es.toList, ∃ (i : Int) (t : Tok), e.key = .int i t ∧ e.hash = hashInt i) ∧ findBy Value.isInt es k = some u ∧ RelV v u
def rIxI (K : PySem.W.Frag) : R2 := fun x y H Q => ∃ p k v, x = .ref p ∧ y = .int k ∧ IDct K p k v ∧ Q v H
theorem ix_idict {X : Cx} : IxR X (rIxI X.K) := by
  intro ev es' pins s σ H x y v u Q I rx ry want shape
  obtain ⟨p, k, r, rfl, rfl, ⟨es, n, u0, look, keys, found, ru⟩, q⟩ := want
  have same : v = Value.ref p := rx
  subst same
  obtain ⟨t, rfl⟩ := ry
  have hm : s.heap.MapOf (intKind X.prog X.w) p (fun k => findBy Value.isInt es k) :=
    ⟨_, es, n, I.kIn _ _ look, ⟨rfl, rfl, rfl⟩, rfl, fun e he => by
      obtain ⟨i, t, e1, e2⟩ := keys e (Array.mem_toList_iff.mpr he)
      exact ⟨i, by rw [e1]; exact intKind_is X.prog X.w i t, e2⟩, fun _ => rfl⟩
  exact tail_any hm.typeIs slot_dict_getitem.lookup (wpAny_getItem_of (intKind_is X.prog X.w k t) hm found ⟨r, H, I.tok _, ru, q⟩) shape

/-! ### a call of one of several defs that a slot may hold -/
def tCallR (i : Nat) (R : Addr → Sp → Prop) (t : TA) : TE := fun σ H Q => ∃ f sp, σ[i]? = some (some (.ref f)) ∧ R f sp ∧ t σ H fun vs H1 => sp vs H1 Q E0
theorem pe_callR {X : Cx} {k i : Nat} {x : Str} {p pos : Pos} {e : Expr} {es : List Expr} {t : TA} (hr : Room k X.A) (hN : X.N[i]? = some x) (hv : Vis X.env.scope x) (ha : PA X (e :: es) t)
    (nodebug : (x == ("__debug__" : Str)) = false := by decide) (nodict : (x == ("__classdict__" : Str)) = false := by decide)
    (first : starEach (e :: es) X.env = (false, eval e X.env) :: starEach es X.env := by rfl) (plain : (backTo pos (starEach es X.env)).any (·.1) = false := by rfl) :
    PE X (.Call (.Name x p) (e :: es) [] pos) (tCallR i (Held X.prog X.w X.K X.mg X.base k) t) := by
  refine ⟨fun pins s σ H Q I want => ?_⟩
  obtain ⟨f, sp, hs, held, ht⟩ := want
  obtain ⟨fd, ps, F, kp, hb⟩ := held.ex
  refine (pe_callL (i := i) (f := f) (sp := sp) (dvs := []) (E := E0) F hr hN hv kp hb .nil pass0 ha nodebug nodict first plain).run pins s σ H Q I ⟨hs, ?_⟩
  have e0 : (fun (vs : List V) (H1 : Hp) => sp (vs ++ []) H1 Q E0) = fun vs H1 => sp vs H1 Q E0 := by
    funext vs H1
    rw [List.append_nil]
  show t σ H (fun vs H1 => sp (vs ++ []) H1 Q E0)
  rw [e0]
  exact ht

/-! ### answer_deed -/
abbrev sAnsDeed : Stmt := topS 53
def spAD (K : PySem.W.Frag) (C : Addr) : Sp := fun vs H Q _ => ∃ (b na ra da : Addr) (p : Problem) (i : Int) (ns row : List Int) (c : Sr101.Call), vs = [.ref b, .int i, .ref na, .ref ra] ∧ BakD C H b p da ∧ Good p ∧ SqL K H na (ns.map V.int) ∧ SqL K H ra (row.map V.int) ∧ Rec i ns row c ∧ i ≠ 0 ∧ Done C H b p da c Q
section
variable {P : Program} {w : World} {K : PySem.W.Frag} {mg : Str → Option Value} {base : Heap} {C : Addr}
theorem scAnsDeed : FnScope ["bakery", "number", "numbers", "row", "deed"] ["bakery", "number", "numbers", "row"] (defScope sAnsDeed) := ⟨rfl, rfl, rfl, by decide +kernel, rfl, by decide +kernel, by decide +kernel⟩
theorem ok_ansdeed {f : Addr} {fd : FuncData} (F : Fun K "answer_deed" "answer_deed" sAnsDeed f fd) {dd : Addr} (gD : mg "DEEDS" = some (.ref dd))
    (D : ∀ (i : Int) (ns row : List Int) (c : Sr101.Call), Rec i ns row c → i ≠ 0 → ∃ f, IDct K dd i (.ref f) ∧ Held P w K mg base 6 f (spD K C i)) : FnOk P w K mg base CX0 7 f fd ["bakery", "number", "numbers", "row"] (spAD K C) := by
  refine F.ok scAnsDeed (fun vs H Q E h => ?_) (fun cdv A outer s H vs Q E hr h => ?_)
  · obtain ⟨b, na, ra, da, p, i, ns, row, c, rfl, _⟩ := h
    rfl
  · obtain ⟨b, na, ra, da, p, i, ns, row, c, rfl, hD, g, hn, hrow, hrec, hi, q⟩ := h
    obtain ⟨fi, hdct, held⟩ := D i ns row c hrec hi
    refine ⟨_, pss_cons (ps_set (i := 4) scAnsDeed.nd rfl (Or.inl rfl) (pe_ix ix_idict (pe_glob (v := .ref dd) rfl gD rfl) (pv 1) (fun _ _ => rfl)))
      (pss_one (ps_ret (pe_callR (i := 4) hr rfl (Or.inl rfl) (pa_cons (pv 0) (pa_cons (pv 2) (pa_cons (pv 3) pa_nil)))))), ?_⟩
    refine ⟨_, rfl, dd, i, .ref fi, rfl, rfl, hdct, ?_⟩
    exact ⟨fi, spD K C i, rfl, held, _, rfl, _, rfl, _, rfl, b, na, ra, da, p, ns, row, c, rfl, hD, g, hn, hrow, hrec, q⟩

/-! ### read_calls -/
abbrev sRead : Stmt := topS 58
inductive Al {α β : Type} (R : α → β → Prop) : List α → List β → Prop
  | nil : Al R [] []
  | cons {a : α} {b : β} {l : List α} {m : List β} (h : R a b) (t : Al R l m) : Al R (a :: l) (b :: m)
theorem Al.snoc {α β : Type} {R : α → β → Prop} {a : α} {b : β} (h : R a b) : ∀ {l : List α} {m : List β}, Al R l m → Al R (l ++ [a]) (m ++ [b])
  | _, _, .nil => .cons h .nil
  | _, _, .cons x t => .cons x (Al.snoc h t)
theorem Al.length {α β : Type} {R : α → β → Prop} : ∀ {l : List α} {m : List β}, Al R l m → l.length = m.length
  | _, _, .nil => rfl
  | _, _, .cons _ t => congrArg (· + 1) t.length
abbrev R3 := Nat × List Int × List Int
/-- a call as PyFlat reads it, and as the program holds it -/
def RawRec (c : List (List Int)) (r : R3) : Prop := ∃ (n : Nat) (q : Bool), r.1 < 16 ∧ counts[r.1]? = some (n, if q then 1 else 0) ∧ r.2.1.length = n ∧ c = ((r.1 : Int) :: r.2.1) :: (if q then [r.2.2] else []) ∧ (q = false → r.2.2 = [])
def RecAt (H0 H : Hp) (v : V) (r : R3) : Prop := ∃ t na ra : Addr, v = .ref t ∧ H t = some (.tup [.int r.1, .ref na, .ref ra]) ∧ H0 na = none ∧ H0 ra = none ∧ H na = some (.lst (r.2.1.map V.int)) ∧ H ra = some (.lst (r.2.2.map V.int))
theorem RecAt.same {H0 H H' : Hp} {v : V} {r : R3} (s : Same H H') (h : RecAt H0 H v r) : RecAt H0 H' v r := by
  obtain ⟨t, na, ra, e, h1, n1, n2, h2, h3⟩ := h
  exact ⟨t, na, ra, e, s _ _ h1, n1, n2, s _ _ h2, s _ _ h3⟩
theorem Al.imp {α β : Type} {R R' : α → β → Prop} (f : ∀ a b, R a b → R' a b) : ∀ {l : List α} {m : List β}, Al R l m → Al R' l m
  | _, _, .nil => .nil
  | _, _, .cons x t => .cons (f _ _ x) (Al.imp f t)
theorem Al.get {α β : Type} {R : α → β → Prop} : ∀ {l : List α} {m : List β} {i : Nat} {a : α}, Al R l m → l[i]? = some a → ∃ b, m[i]? = some b ∧ R a b
  | _, _, i, a, .nil, h => by simp at h
  | _, _, 0, a, .cons x t, h => by
    have e := Option.some.inj h
    subst e
    exact ⟨_, rfl, x⟩
  | _, _, i + 1, a, .cons x t, h => Al.get (i := i) t h
def numsV : List V := counts.map fun q => V.int (q.1 : Nat)
def withV : List V := [.int 2, .int 8, .int 9, .int 10]
theorem nums_get {i n : Nat} {b : Nat} (h : counts[i]? = some (n, b)) : numsV[i]? = some (.int (n : Nat)) := by
  unfold numsV
  rw [List.getElem?_map, h]
  rfl
theorem with_in : ∀ i, i < 16 → ∀ n (q : Bool), counts[i]? = some (n, if q then 1 else 0) → inV (.int (i : Nat)) withV = q := by
  intro i hi n q h
  match i, hi, h with
  | 0, _, h => cases q <;> first | rfl | cases h
  | 1, _, h => cases q <;> first | rfl | cases h
  | 2, _, h => cases q <;> first | rfl | cases h
  | 3, _, h => cases q <;> first | rfl | cases h
  | 4, _, h => cases q <;> first | rfl | cases h
  | 5, _, h => cases q <;> first | rfl | cases h
  | 6, _, h => cases q <;> first | rfl | cases h
  | 7, _, h => cases q <;> first | rfl | cases h
  | 8, _, h => cases q <;> first | rfl | cases h
  | 9, _, h => cases q <;> first | rfl | cases h
  | 10, _, h => cases q <;> first | rfl | cases h
  | 11, _, h => cases q <;> first | rfl | cases h
  | 12, _, h => cases q <;> first | rfl | cases h
  | 13, _, h => cases q <;> first | rfl | cases h
  | 14, _, h => cases q <;> first | rfl | cases h
  | 15, _, h => cases q <;> first | rfl | cases h
/-- behind some turns: at is where the next call begins; H1 is the heap with the new list found at fl -/
def ReadInv (H H1 : Hp) (a fl : Addr) (l : List Int) (raw : List (List (List Int))) (m : Nat) (σ : L2.St) (H' : Hp) : Prop :=
  ∃ (at_ f : Nat) (xs : List V) (rs : List R3) (dn rest : List (List (List Int))) (nv bv nmv rv : Option V), m = l.length - at_ ∧ σ = [some (.ref a), some (.ref fl), some (.int at_), nv, bv, nmv, rv] ∧ at_ ≤ l.length ∧ Same H H' ∧ H' fl = some (.lst xs) ∧
    Al (RecAt H1 H') xs rs ∧ Al RawRec dn rs ∧ dn ++ rest = raw ∧ PyFlat.calls PySr101.shape f (l.drop at_) = some rest
theorem RecAt.put {H0 H : Hp} {v : V} {r : R3} {fl : Addr} {o : HO} {xs ys : List V} (h : RecAt H0 H v r) (h0 : H0 fl = some o) (hf : H fl = some (.lst xs)) : RecAt H0 (upd H fl (.lst ys)) v r := by
  obtain ⟨t, na, ra, e, h1, n1, n2, h2, h3⟩ := h
  exact ⟨t, na, ra, e, (by rw [upd_ne (ne_of h1 hf (fun z => nomatch z))]; exact h1), n1, n2, (by rw [upd_ne (Ne.symm (ne_of_none h0 n1))]; exact h2), (by rw [upd_ne (Ne.symm (ne_of_none h0 n2))]; exact h3)⟩
def spRead (K : PySem.W.Frag) : Sp := fun vs H Q _ => ∃ (a : Addr) (l : List Int) (raw : List (List (List Int))), vs = [.ref a] ∧ SqL K H a (l.map V.int) ∧ l.length ≤ 4320 ∧ PyFlat.calls PySr101.shape l.length l = some raw ∧ raw.length ≤ 60 ∧
  ∀ (H' : Hp) (fl : Addr) (xs : List V) (rs : List R3), Same H H' → H fl = none → H' fl = some (.lst xs) → Al (RecAt H H') xs rs → Al RawRec raw rs → Q (.ref fl) H'
theorem scRead : FnScope ["calls", "found", "at", "number", "begin", "numbers", "row"] ["calls"] (defScope sRead) := ⟨rfl, rfl, rfl, by decide +kernel, rfl, by decide +kernel, by decide +kernel⟩
theorem cut_ints {l : List Int} {i j : Int} {a b : Nat} (hi : i = (a : Int)) (hj : j = (b : Int)) (h : b ≤ l.length) : cutV (l.map V.int) (some i) (some j) = ((l.drop a).take (b - a)).map V.int := by
  rw [cut_nat hi hj (by rw [List.length_map]; exact h), List.map_take, List.map_drop]
theorem at_ints {l : List Int} {z x : Int} {i : Nat} (e : z = (i : Int)) (h : l[i]? = some x) : atI (l.map V.int) z = some (.int x) := at_of e (by rw [List.getElem?_map, h]; rfl)
theorem ok_read {f : Addr} {fd : FuncData} (F : Fun K "read_calls" "read_calls" sRead f fd) (mlen : mg "len" = none) {aN aW : Addr} (gN : mg "NUMBERS" = some (.ref aN)) (gW : mg "WITH_LIST" = some (.ref aW)) (hN : ∀ H : Hp, SqT K H aN numsV) (hW : ∀ H : Hp, SqT K H aW withV) :
    FnOk P w K mg base CX0 1 f fd ["calls"] (spRead K) := by
  refine F.ok scRead (fun vs H Q E h => ?_) (fun cdv A outer s H vs Q E hr h => ?_)
  · obtain ⟨a, l, raw, rfl, _⟩ := h
    rfl
  · obtain ⟨a, l, raw, rfl, hS, hlen, hparse, h60, q⟩ := h
    have nd := scRead.nd
    refine ⟨_, pss_cons (ps_par (i := 1) (j := 2) rfl nd rfl rfl (by decide) rfl rfl (pa_cons (pe_lst pa_nil) (pa_cons pe_int pa_nil)) (by rfl))
      (pss_cons (ps_while PassesOwn.never (pt_cmpR op_lt (pv 2) (pe_callB call_len_seq (by rfl) mlen PySem.boot_len (pa_cons (pv 0) pa_nil)) (nomark _))
        (pss_cons (ps_set (i := 3) nd rfl (Or.inl rfl) (pe_ix ix_list (pv 0) (pv 2) (fun _ _ => rfl)))
        (pss_cons (ps_set (i := 4) nd rfl (Or.inl rfl) (pe_op op_add (pe_op op_add (pv 2) pe_int) (pe_ix ix_tup (pe_glob (v := .ref aN) rfl gN rfl) (pv 3) (fun _ _ => rfl))))
        (pss_cons (ps_par (i := 5) (j := 6) rfl nd rfl rfl (by decide) rfl rfl (pa_cons (pe_slice sl_list (pv 0) (po_some (pe_op op_add (pv 2) pe_int)) (po_some (pv 4))) (pa_cons (pe_lst pa_nil) pa_nil)) (by rfl))
        (pss_cons (ps_if (pt_cmpR op_in_seq (pv 3) (pe_glob (v := .ref aW) rfl gW rfl) (by rfl))
          (pss_cons (ps_set (i := 6) nd rfl (Or.inl rfl) (pe_slice sl_list (pv 0) (po_some (pe_op op_add (pv 4) pe_int)) (po_some (pe_op op_add (pe_op op_add (pv 4) pe_int) (pe_ix ix_list (pv 0) (pv 4) (fun _ _ => rfl))))))
          (pss_one (ps_set (i := 4) nd rfl (Or.inl rfl) (pe_op op_add (pe_op op_add (pv 4) pe_int) (pe_callB call_len_seq (by rfl) mlen PySem.boot_len (pa_cons (pv 6) pa_nil)))))) pss_nil)
        (pss_cons (ps_expr (pe_bm PySem.F.plainAttrs_list PySem.F.slot_list_append PySem.F.type_list_append mt_append (pv 1) (pa_cons (pe_tup (pa_cons (pv 3) (pa_cons (pv 5) (pa_cons (pv 6) pa_nil)))) pa_nil)))
        (pss_one (ps_set (i := 2) nd rfl (Or.inl rfl) (pv 4)))))))))
      (pss_one (ps_ret (pv 1)))), ?_⟩
    refine ⟨Nat.zero_le _, fun fl nfl => ?_⟩
    refine ⟨_, _, rfl, ?_⟩
    have h1fl : upd H fl (.lst []) fl = some (.lst []) := upd_same
    refine ⟨ReadInv H (upd H fl (.lst [])) a fl l raw, ⟨l.length - 0, 0, l.length, [], [], [], raw, none, none, none, none, rfl, rfl, Nat.zero_le _, same_new nfl, upd_same, .nil, .nil, rfl, hparse⟩, fun m σ H' inv => ?_⟩
    obtain ⟨at_, f0, xs, rs, dn, rest, nv, bv, nmv, rv, rfl, rfl, hat, sm, hfl, hrec, hraw, hcat, hpar⟩ := inv
    have fresh : ∀ {H2 : Hp} {b : Addr}, Same H H2 → (∃ ys, H2 fl = some (.lst ys)) → H2 b = none → upd H fl (.lst []) b = none := fun {H2 b} s2 hf nb => by
      obtain ⟨ys, hf⟩ := hf
      rw [upd_ne (Ne.symm (ne_of_none hf nb))]
      exact s2.free nb
    refine ⟨_, rfl, _, rfl, a, _, rfl, .inl (sm.seq hS), _, _, rfl, rfl, _, rfl, ite_b (fun e => ?_) (fun e => ?_)⟩
    · have hlt : at_ < l.length := by
        have := of_decide_eq_true e
        rw [List.length_map] at this
        omega
      obtain ⟨i, n, qq, ns, row, a', f', rest', hi, hct, hread, hcs, hpar', haa, hnl⟩ := parse_call hlt hpar
      have hdn : (dn ++ [((i : Int) :: ns) :: (if qq then [row] else [])]) ++ rest' = raw := by
        rw [List.append_assoc, List.singleton_append, ← hcs]
        exact hcat
      have hdl : dn.length + 1 ≤ 60 := by
        rw [← hdn, List.length_append, List.length_append] at h60
        simp only [List.length_cons, List.length_nil] at h60
        omega
      have hxl : xs.length = dn.length := hrec.length.trans hraw.length.symm
      refine ⟨fun σ' H' => ∃ m', m' < l.length - at_ ∧ ReadInv H (upd H fl (.lst [])) a fl l raw m' σ' H', fun _ _ h => h, ?_⟩
      -- number, begin
      refine ⟨_, rfl, _, rfl, a, _, _, _, rfl, rfl, sm.seq hS, at_ints rfl hread.number, ?_⟩
      refine ⟨_, rfl, _, _, rfl, rfl, _, rfl, aN, _, _, _, rfl, rfl, hN _, atI_nat (nums_get hct), _, _, rfl, rfl, ?_⟩
      -- numbers, row
      refine ⟨_, rfl, _, rfl, _, _, rfl, rfl, _, rfl, _, rfl, _, rfl, a, _, rfl, sm.seq hS, fun na nna => ?_⟩
      have ecut : cutV (l.map V.int) (some ((at_ : Int) + 1)) (some ((at_ : Int) + 1 + (n : Nat))) = ns.map V.int := by
        rw [cut_ints (a := at_ + 1) (b := at_ + 1 + n) (by omega) (by omega) hread.room, show at_ + 1 + n - (at_ + 1) = n by omega, ← hread.numbers]
      have s1 := same_new (o := .lst (cutV (l.map V.int) (some ((at_ : Int) + 1)) (some ((at_ : Int) + 1 + (n : Nat))))) nna
      have sm1 := sm.trans s1
      have nnaH := fresh sm ⟨_, hfl⟩ nna
      refine ⟨Nat.zero_le _, fun r0 nr0 => ?_⟩
      have s2 := same_new (o := .lst []) nr0
      have sm2 := sm1.trans s2
      have nr0H := fresh sm1 ⟨_, s1 _ _ hfl⟩ nr0
      have hna : upd (upd H' na (.lst (cutV (l.map V.int) (some ((at_ : Int) + 1)) (some ((at_ : Int) + 1 + (n : Nat)))))) r0 (.lst []) na = some (.lst (ns.map V.int)) := by
        rw [s2 _ _ upd_same, ecut]
      have hr0 : upd (upd H' na (.lst (cutV (l.map V.int) (some ((at_ : Int) + 1)) (some ((at_ : Int) + 1 + (n : Nat)))))) r0 (.lst []) r0 = some (.lst []) := upd_same
      have hfl2 := (s1.trans s2) _ _ hfl
      have hrec2 := hrec.imp fun v r h => h.same (s1.trans s2)
      generalize upd (upd H' na (.lst (cutV (l.map V.int) (some ((at_ : Int) + 1)) (some ((at_ : Int) + 1 + (n : Nat)))))) r0 (.lst []) = H2 at *
      refine ⟨_, _, rfl, ?_⟩
      -- the end of a turn, whatever the row is
      have fin : ∀ (H3 : Hp) (ra : Addr) (t : Addr), Same H2 H3 → upd H fl (.lst []) ra = none → H3 ra = some (.lst (row.map V.int)) → H3 t = none → ∀ (nv bv nmv rv : Option V) (z : Int), z = (a' : Int) →
          (∃ m', m' < l.length - at_ ∧ ReadInv H (upd H fl (.lst [])) a fl l raw m' [some (.ref a), some (.ref fl), some (.int z), nv, bv, nmv, rv] (upd (upd H3 t (.tup [.int (i : Nat), .ref na, .ref ra])) fl (.lst (xs ++ [.ref t])))) := by
        intro H3 ra t s3 nra hra nt nv bv nmv rv z ez
        have hal : a' ≤ l.length := by
          cases qq with
          | false =>
            rw [(hread.row0 rfl).2]
            exact hread.room
          | true =>
            obtain ⟨mm, _, _, _, _, h⟩ := hread.row1 rfl
            exact h
        have s4 := same_new (o := .tup [.int (i : Nat), .ref na, .ref ra]) nt
        have nflH : H fl = none := nfl
        have tfl : fl ≠ t := ne_of_none (s3 _ _ hfl2) nt
        refine ⟨l.length - a', by omega, a', f', xs ++ [.ref t], rs ++ [(i, ns, row)], dn ++ [((i : Int) :: ns) :: (if qq then [row] else [])], rest', nv, bv, nmv, rv, rfl, (by rw [ez]), hal, same_upd ((sm2.trans s3).trans s4) nflH, upd_same, ?_, ?_, hdn, hpar'⟩
        · refine Al.snoc ?_ (hrec2.imp fun v r h => ((h.same s3).same s4).put h1fl ((s3.trans s4) _ _ hfl2))
          refine RecAt.put (H := upd H3 t (.tup [.int (i : Nat), .ref na, .ref ra])) ?_ h1fl ((s3.trans s4) _ _ hfl2)
          exact ⟨t, na, ra, rfl, upd_same, nnaH, nra, (s3.trans s4) _ _ hna, s4 _ _ hra⟩
        · refine Al.snoc ⟨n, qq, hi, hct, hnl, rfl, fun z => (hread.row0 z).1⟩ hraw
      have hin : inV (.int (i : Nat)) withV = qq := with_in i hi n qq hct
      refine ⟨_, rfl, aW, withV, rfl, .inr (hW _), rfl, rfl, _, rfl, ite_b (fun e2 => ?_) (fun e2 => ?_)⟩
      · have eq1 : qq = true := hin.symm.trans e2
        obtain ⟨mm, hm1, hm2, hm3, hm4, hm5⟩ := hread.row1 eq1
        -- row
        refine ⟨_, rfl, _, rfl, _, _, rfl, rfl, _, rfl, _, rfl, _, _, rfl, rfl, _, rfl, _, rfl, a, _, _, _, rfl, rfl, sm2.seq hS, at_ints (by omega) hm1, _, _, rfl, rfl, _, rfl, a, _, rfl, sm2.seq hS, fun ra nra => ?_⟩
        have ecut2 : cutV (l.map V.int) (some ((at_ : Int) + 1 + (n : Nat) + 1)) (some ((at_ : Int) + 1 + (n : Nat) + 1 + (mm : Nat))) = row.map V.int := by
          rw [cut_ints (a := at_ + 1 + n + 1) (b := at_ + 1 + n + 1 + mm) (by omega) (by omega) (by omega), show at_ + 1 + n + 1 + mm - (at_ + 1 + n + 1) = mm by omega, ← hm2]
        have s3 := same_new (o := .lst (cutV (l.map V.int) (some ((at_ : Int) + 1 + (n : Nat) + 1)) (some ((at_ : Int) + 1 + (n : Nat) + 1 + (mm : Nat))))) nra
        have nraH := fresh sm2 ⟨_, hfl2⟩ nra
        -- begin
        refine ⟨_, rfl, _, _, rfl, rfl, _, rfl, ra, _, rfl, .inl (sqL upd_same), _, _, rfl, rfl, ?_⟩
        -- found.append
        refine ⟨_, rfl, .inl ⟨rfl, _, sqL (s3 _ _ hfl2)⟩, _, rfl, _, rfl, _, rfl, (by show 3 ≤ sizeLine; decide), fun t nt => ?_⟩
        have s4 := same_new (o := .tup [.int (i : Nat), .ref na, .ref ra]) nt
        refine ⟨fl, xs, _, rfl, rfl, s4 _ _ (s3 _ _ hfl2), Nat.lt_of_le_of_lt (show xs.length ≤ 60 by omega) (small1000 (by decide)), ?_⟩
        refine ⟨_, rfl, ?_⟩
        refine fin _ ra t s3 nraH (by rw [upd_same, ecut2]) nt _ _ _ _ _ ?_
        rw [ecut2, List.length_map]
        omega
      · have eq1 : qq = false := hin.symm.trans e2
        obtain ⟨hr1, hr2⟩ := hread.row0 eq1
        refine ⟨_, rfl, .inl ⟨rfl, _, sqL hfl2⟩, _, rfl, _, rfl, _, rfl, (by show 3 ≤ sizeLine; decide), fun t nt => ?_⟩
        have s4 := same_new (o := .tup [.int (i : Nat), .ref na, .ref r0]) nt
        refine ⟨fl, xs, _, rfl, rfl, s4 _ _ hfl2, Nat.lt_of_le_of_lt (show xs.length ≤ 60 by omega) (small1000 (by decide)), ?_⟩
        refine ⟨_, rfl, ?_⟩
        refine fin _ r0 t (Same.refl _) nr0H (by rw [hr0, hr1]; rfl) nt _ _ _ _ _ ?_
        omega
    · have hge : ¬ at_ < l.length := fun z => by
        have := of_decide_eq_false e
        rw [List.length_map] at this
        omega
      have hnil := parse_end hge hpar
      rw [hnil, List.append_nil] at hcat
      rw [hcat] at hraw
      refine ⟨_, rfl, q H' fl xs rs sm nfl hfl (hrec.imp fun v r h => ?_) hraw⟩
      obtain ⟨t, na, ra, e, h1, n1, n2, h2, h3⟩ := h
      exact ⟨t, na, ra, e, h1, (same_new nfl).free n1, (same_new nfl).free n2, h2, h3⟩
end
end FL

namespace FL
open PySem PySem.Spec PyProof.Rows L2
open Sr101 (Problem DayReport demandOn segmentCost segmentDemand costTable perform)

/-! ### what is asked, what is due -/
theorem asked_raw {l : List Int} (h : PySr101.answers_asked l = true) : ∃ raw, PyFlat.calls PySr101.shape l.length l = some raw ∧ raw.length ≤ 60 ∧ (∀ c ∈ raw, Sr101Neutral.asked1 (PySr101.whole c) = true) ∧
    PySr101.answers l = PyFlat.told (PyFlat.played Sr101Neutral.step Sr101Neutral.start (raw.map PySr101.whole)) := by
  unfold PySr101.answers_asked at h
  cases e : PyFlat.calls PySr101.shape l.length l with
  | none =>
    rw [e] at h
    cases h
  | some raw =>
    rw [e] at h
    dsimp only at h
    rw [Bool.and_eq_true, Bool.and_eq_true, Bool.and_eq_true, Bool.and_eq_true] at h
    obtain ⟨⟨⟨⟨_, h2⟩, _⟩, h4⟩, _⟩ := h
    refine ⟨raw, rfl, of_decide_eq_true h2, fun c hc => ?_, ?_⟩
    · unfold Sr101Neutral.asked at h4
      rw [Bool.and_eq_true, Bool.and_eq_true] at h4
      exact List.all_eq_true.mp h4.2.2 _ (List.mem_map_of_mem hc)
    · unfold PySr101.answers PySr101.calls
      rw [e]
theorem calls_of : ∀ {raw : List (List (List Int))} {rs : List R3}, Al RawRec raw rs → (∀ c ∈ raw, Sr101Neutral.asked1 (PySr101.whole c) = true) →
    ∃ cl : List Sr101.Call, Al (fun (r : R3) c => Rec r.1 r.2.1 r.2.2 c) rs cl ∧ (raw.map PySr101.whole).map Sr101Neutral.parseCall = cl.map some
  | _, _, .nil, _ => ⟨[], .nil, rfl⟩
  | _, _, .cons (a := c) (b := r) x t, h => by
    obtain ⟨cl, h1, h2⟩ := calls_of t fun d hd => h d (List.mem_cons_of_mem _ hd)
    obtain ⟨n, q, hi, hc, hn, e, hq⟩ := x
    have ha := h c List.mem_cons_self
    rw [e] at ha
    obtain ⟨d, hr, hp⟩ := rec_of hi hc hn ha
    have er : (if q then r.2.2 else []) = r.2.2 := by
      cases q with
      | false => exact (hq rfl).symm
      | true => rfl
    rw [er] at hr
    refine ⟨d :: cl, .cons hr h1, ?_⟩
    rw [List.map_cons, List.map_cons, List.map_cons, h2, e, hp]
theorem due {l : List Int} {raw : List (List (List Int))} {cl : List Sr101.Call} (h1 : PySr101.answers l = PyFlat.told (PyFlat.played Sr101Neutral.step Sr101Neutral.start (raw.map PySr101.whole)))
    (h2 : (raw.map PySr101.whole).map Sr101Neutral.parseCall = cl.map some) : PySr101.answers l = out none cl := by
  rw [h1]
  exact out_told _ _ _ h2
theorem create_of {i : Int} {ns row : List Int} {c : Sr101.Call} (h : Rec i ns row c) (hi : i = 0) : ∃ a b d e, ns = [a, b, d, e] ∧ c = .create a b d e := by
  cases h <;> first | exact ⟨_, _, _, _, rfl, rfl⟩ | exact absurd hi (by decide)
theorem other_of {i : Int} {ns row : List Int} {c : Sr101.Call} (h : Rec i ns row c) (hi : i ≠ 0) : ∀ a b d e, c ≠ .create a b d e := by
  intro a b d e z
  cases h <;> first | exact absurd rfl hi | cases z
theorem step_create (s : Sr101.State) (a b c d : Int) : stepC s (.create a b c d) = if okNew a b c d = true then (some ⟨List.replicate a.toNat 0, b.toNat, c.toNat, d.toNat⟩, [0]) else (s, [-22]) := by
  unfold stepC Sr101.step
  dsimp only
  by_cases h : okNew a b c d = true
  · rw [if_pos h]
    unfold okNew at h
    rw [Bool.and_eq_true, Bool.and_eq_true, Bool.and_eq_true] at h
    obtain ⟨⟨h1, h2⟩, h3, h4⟩ := h
    rw [if_neg (by rw [h1, h2, h3, h4]; decide)]
    rfl
  · rw [if_neg h]
    have hb : Sr101.isDayCount a = false ∨ Sr101.isDayCount b = false ∨ Sr101.isSetupCost c = false ∨ Sr101.isAmount d = false := by
      unfold okNew at h
      cases h1 : Sr101.isDayCount a
      · exact .inl rfl
      · cases h2 : Sr101.isDayCount b
        · exact .inr (.inl rfl)
        · cases h3 : Sr101.isSetupCost c
          · exact .inr (.inr (.inl rfl))
          · cases h4 : Sr101.isAmount d
            · exact .inr (.inr (.inr rfl))
            · rw [h1, h2, h3, h4] at h
              exact absurd rfl h
    rw [if_pos hb]
    rfl
theorem step_none {c : Sr101.Call} (h : ∀ a b d e, c ≠ .create a b d e) : stepC none c = (none, [-11]) := by
  cases c with
  | create a b d e => exact absurd rfl (h a b d e)
  | _ => rfl
theorem step_told {p : Problem} {c : Sr101.Call} (h : ∀ a b d e, c ≠ .create a b d e) : stepC (some p) c = (some (next p c), told p c) := by
  unfold stepC
  rw [step_some p c h]
  rfl
theorem told_len {s : Sr101.State} (g : GoodS s) {i : Int} {ns row : List Int} {c : Sr101.Call} (h : Rec i ns row c) : (stepC s c).2.length ≤ 51 := by
  by_cases hi : i = 0
  · obtain ⟨a, b, d, e, _, rfl⟩ := create_of h hi
    rw [step_create]
    split <;> (show 1 ≤ 51; decide)
  · have ho := other_of h hi
    cases s with
    | none =>
      rw [step_none ho]
      show 1 ≤ 51
      decide
    | some p =>
      rw [step_told ho]
      show (perform p c).2.values.length + 1 ≤ 51
      have := perform_len (g p rfl) c
      omega
theorem out_more {s : Sr101.State} {cl : List Sr101.Call} {i : Nat} {c : Sr101.Call} (h : cl[i]? = some c) : out s (cl.drop i) = (((stepC s c).2.length : Int) :: (stepC s c).2) ++ out (stepC s c).1 (cl.drop (i + 1)) := by
  have hi := (List.getElem?_eq_some_iff.mp h).1
  rw [List.drop_eq_getElem_cons hi, (List.getElem?_eq_some_iff.mp h).2]
  rfl

/-! ### answers -/
abbrev sAns : Stmt := topS 59
/-- the slot bakery, as the state has it; H1: the heap before the calls were read -/
def StateAt (C : Addr) (H1 H : Hp) (bv : V) : Sr101.State → Prop
  | none => bv = .non
  | some p => ∃ b da, bv = .ref b ∧ BakD C H b p da ∧ H1 da = none
theorem StateAt.same {C : Addr} {H1 H H' : Hp} {bv : V} {s : Sr101.State} (k : Same H H') (h : StateAt C H1 H bv s) : StateAt C H1 H' bv s := by
  cases s with
  | none => exact h
  | some p =>
    obtain ⟨b, da, e, hd, n⟩ := h
    exact ⟨b, da, e, Same.bakD k hd, n⟩
theorem StateAt.put {C : Addr} {H1 H : Hp} {bv : V} {s : Sr101.State} {fo : Addr} {o : HO} {xs ys : List V} (h : StateAt C H1 H bv s) (h1 : H1 fo = some o) (hf : H fo = some (.lst xs)) : StateAt C H1 (upd H fo (.lst ys)) bv s := by
  cases s with
  | none => exact h
  | some p =>
    obtain ⟨b, da, e, ⟨dx, hb, hda⟩, n⟩ := h
    exact ⟨b, da, e, ⟨dx, (by rw [upd_ne (ne_of hb hf (fun z => nomatch z))]; exact hb), (by rw [upd_ne (Ne.symm (ne_of_none h1 n))]; exact hda)⟩, n⟩
/-- between two turns -/
def AnsInv (C : Addr) (H1 : Hp) (a fo fl : Addr) (xs : List V) (rs : List R3) (cl : List Sr101.Call) (i : Nat) (σ : L2.St) (H : Hp) : Prop :=
  ∃ (bv : V) (x3 x4 x5 x6 x7 : Option V) (s : Sr101.State) (dn : List Int), σ = [some (.ref a), some bv, some (.ref fo), x3, x4, x5, x6, x7] ∧ H fl = some (.lst xs) ∧ Al (RecAt H1 H) xs rs ∧ StateAt C H1 H bv s ∧ GoodS s ∧
    H fo = some (.lst (dn.map V.int)) ∧ dn ++ out s (cl.drop i) = out none cl ∧ dn.length ≤ 52 * i ∧ ∀ z, H z = none → H1 z = none
/-- behind the if of a turn -/
def MidInv (C : Addr) (H1 : Hp) (a fo fl : Addr) (xs : List V) (rs : List R3) (s : Sr101.State) (c : Sr101.Call) (dn : List Int) (σ : L2.St) (H : Hp) : Prop :=
  ∃ (bv : V) (x3 x4 x5 x6 : Option V) (tl : Addr), σ = [some (.ref a), some bv, some (.ref fo), x3, x4, x5, x6, some (.ref tl)] ∧ H fl = some (.lst xs) ∧ Al (RecAt H1 H) xs rs ∧ StateAt C H1 H bv (stepC s c).1 ∧
    H fo = some (.lst (dn.map V.int)) ∧ H tl = some (.lst ((stepC s c).2.map V.int)) ∧ tl ≠ fo ∧ ∀ z, H z = none → H1 z = none
def spAns (K : PySem.W.Frag) : Sp := fun vs H Q _ => ∃ (a : Addr) (ns : List Int), vs = [.ref a] ∧ SqL K H a (ns.map V.int) ∧ ns.length ≤ 4320 ∧ PySr101.answers_asked ns = true ∧
  ∀ (H' : Hp) (x : Addr), H' x = some (.lst ((PySr101.answers ns).map V.int)) → Q (.ref x) H'
section
variable {P : Program} {w : World} {K : PySem.W.Frag} {mg : Str → Option Value} {base : Heap} {C : Addr}
theorem scAns : FnScope ["calls", "bakery", "found", "number", "numbers", "row", "made", "told"] ["calls"] (defScope sAns) := ⟨rfl, rfl, rfl, by decide +kernel, rfl, by decide +kernel, by decide +kernel⟩
abbrev psAD : List Str := ["bakery", "number", "numbers", "row"]
theorem ok_answers {f : Addr} {fd : FuncData} (F : Fun K "answers" "answers" sAns f fd) (S1 : At P w K mg base "read_calls" 1 ["calls"] (spRead K)) (S2 : At P w K mg base "new_bakery" 3 ["numbers"] (spNew K C)) (S3 : At P w K mg base "answer_deed" 7 psAD (spAD K C)) (mlen : mg "len" = none)
    {t t' t'' : Tok} (c0 : mg "CREATE" = some (.int 0 t)) (c22 : mg "OUTSIDE" = some (.int (-22) t')) (c11 : mg "NO_INSTANCE" = some (.int (-11) t'')) : FnOk P w K mg base CX0 8 f fd ["calls"] (spAns K) := by
  obtain ⟨f1, fd1, g1, G1, kp1, b1⟩ := S1.ex
  obtain ⟨f2, fd2, g2, G2, kp2, b2⟩ := S2.ex
  obtain ⟨f3, fd3, g3, G3, kp3, b3⟩ := S3.ex
  refine F.ok scAns (fun vs H Q E h => ?_) (fun cdv A outer s H vs Q E hr h => ?_)
  · obtain ⟨a, ns, rfl, _⟩ := h
    rfl
  · obtain ⟨a, ns, rfl, hS, hlen, hask, q⟩ := h
    have nd := scAns.nd
    obtain ⟨raw, hparse, h60, hall, hdue⟩ := asked_raw hask
    refine ⟨_, pss_cons (ps_par (i := 1) (j := 2) rfl nd rfl rfl (by decide) rfl rfl (pa_cons pe_non (pa_cons (pe_lst pa_nil) pa_nil)) (by rfl))
      (pss_cons (ps_for PassesOwn.never rfl (pi_list (pe_call G1 (hr.mono (by decide)) rfl g1 kp1 b1 .nil pass0 (pa_cons (pv 0) pa_nil))) (pg_tup (by rfl) (pgs_cons (pg_name (i := 3) nd rfl (Or.inl rfl)) (pgs_cons (pg_name (i := 4) nd rfl (Or.inl rfl)) (pgs_cons (pg_name (i := 5) nd rfl (Or.inl rfl)) pgs_nil))))
        (C8.pss_cut (ps_if (pt_cmpR op_eq (pv 3) (pe_gi c0) (nomark _))
            (pss_cons (ps_set (i := 6) nd rfl (Or.inl rfl) (pe_call G2 (hr.mono (by decide)) rfl g2 kp2 b2 .nil pass0 (pa_cons (pv 4) pa_nil)))
            (pss_cons (ps_set (i := 7) nd rfl (Or.inl rfl) (pe_ifExp (pt_cmp (pc_notN (pv 6)) rfl) (pe_lst (pa_cons pe_int pa_nil)) (pe_lst (pa_cons (pe_gi c22) pa_nil))))
            (pss_one (ps_set (i := 1) nd rfl (Or.inl rfl) (pe_ifExp (pt_cmp (pc_notN (pv 6)) rfl) (pv 6) (pv 1))))))
            (pss_one (ps_if (pt_cmp (pc_isN (pv 1)) rfl)
              (pss_one (ps_set (i := 7) nd rfl (Or.inl rfl) (pe_lst (pa_cons (pe_gi c11) pa_nil))))
              (pss_one (ps_set (i := 7) nd rfl (Or.inl rfl) (pe_call G3 hr rfl g3 kp3 b3 .nil pass0 (pa_cons (pv 1) (pa_cons (pv 3) (pa_cons (pv 4) (pa_cons (pv 5) pa_nil))))))))))
        (pss_cons (ps_expr (pe_bm PySem.F.plainAttrs_list PySem.F.slot_list_append PySem.F.type_list_append mt_append (pv 2) (pa_cons (pe_callB call_len_seq (by rfl) mlen PySem.boot_len (pa_cons (pv 7) pa_nil)) pa_nil)))
        (pss_one (ps_expr (pe_bm PySem.F.plainAttrs_list PySem.F.slot_list_extend PySem.F.type_list_extend mt_extend (pv 2) (pa_cons (pv 7) pa_nil)))))))
      (pss_one (ps_ret (pv 2)))), ?_⟩
    refine ⟨Nat.zero_le _, fun fo nfo => ?_⟩
    refine ⟨_, _, rfl, ?_⟩
    have h1fo : upd H fo (.lst []) fo = some (.lst []) := upd_same
    have s1 := same_new (o := .lst []) nfo
    refine ⟨_, rfl, a, ns, raw, rfl, s1.seq hS, hlen, hparse, h60, fun H2 fl xs rs s2 nfl hfl hrec hraw => ?_⟩
    have h2fo := s2 _ _ h1fo
    generalize upd H fo (.lst []) = H1 at *
    have flfo : fl ≠ fo := Ne.symm (ne_of_none h1fo nfl)
    obtain ⟨cl, hcl, hpc⟩ := calls_of hraw hall
    have hdue' := due hdue hpc
    have hxl : xs.length = rs.length := hrec.length
    have hrl : rs.length ≤ 60 := by
      rw [← hraw.length]
      exact h60
    refine ⟨fl, rfl, ⟨_, sqL hfl⟩, for_list (K := K) (a := fl) (xs := xs) (AnsInv C H1 a fo fl xs rs cl)
      ⟨.non, none, none, none, none, none, none, [], rfl, hfl, hrec, rfl, (fun p z => nomatch z), h2fo, rfl, Nat.zero_le _, fun z hz => s2.free hz⟩ (fun i σ H' _ h => ?_) (fun i x σ H' hx h => ?_) (fun σ H' h => ?_)⟩
    · obtain ⟨_, _, _, _, _, _, _, _, _, hf, _⟩ := h
      exact sqL hf
    · obtain ⟨bv, x3, x4, x5, x6, x7, s, dn, rfl, hf, hr', hst, hg, hfo, hout, hdl, hmono⟩ := h
      obtain ⟨r, hri, ⟨t, na, ra, rfl, ht, nna, nra, hna, hra⟩⟩ := hr'.get hx
      obtain ⟨c, hci, hrc⟩ := hcl.get hri
      have hi60 : i < 60 := by
        have := (List.getElem?_eq_some_iff.mp hri).1
        omega
      have hmore := out_more (s := s) hci
      rw [hmore, ← List.append_assoc] at hout
      have htl := told_len hg hrc
      have hgood := step_good hg c
      refine ⟨t, _, rfl, sqT ht, rfl, _, _, rfl, _, _, rfl, _, _, rfl, rfl, ?_⟩
      refine ⟨MidInv C H1 a fo fl xs rs s c dn, ?_, fun σ' H'' mid => ?_⟩
      · -- the if
        refine ⟨_, rfl, rfl, _, rfl, ite_b (fun e => ?_) (fun e => ?_)⟩
        · have e0 : ((r.1 : Nat) : Int) = 0 := V.int.inj (of_decide_eq_true e)
          obtain ⟨ca, cb, cc, cd, hns, rfl⟩ := create_of hrc e0
          have hstep := step_create s ca cb cc cd
          rw [hns] at hna
          refine ⟨_, rfl, na, ca, cb, cc, cd, rfl, sqL hna, fun hbad => ?_, fun hok H3 x da s3 nx hB nda => ?_⟩
          · rw [if_neg (by rw [hbad]; exact Bool.false_ne_true)] at hstep
            refine ⟨_, rfl, false, rfl, ?_⟩
            refine ⟨(by show 1 ≤ sizeLine; decide), fun tl ntl => ?_⟩
            refine ⟨_, rfl, false, rfl, ?_⟩
            refine ⟨_, rfl, ?_⟩
            have s4 := same_new (o := .lst [.int (-22)]) ntl
            refine ⟨bv, _, _, _, _, tl, rfl, s4 _ _ hf, hr'.imp fun v r h => h.same s4, ?_, s4 _ _ hfo, ?_, Ne.symm (ne_of_none hfo ntl), fun z hz => hmono z (s4.free hz)⟩
            · rw [hstep]
              exact hst.same s4
            · rw [upd_same, hstep]
              rfl
          · rw [if_pos hok] at hstep
            refine ⟨_, rfl, true, rfl, ?_⟩
            refine ⟨(by show 1 ≤ sizeLine; decide), fun tl ntl => ?_⟩
            refine ⟨_, rfl, true, rfl, ?_⟩
            refine ⟨_, rfl, ?_⟩
            have s4 := same_new (o := .lst [.int 0]) ntl
            have s5 := s3.trans s4
            have nda1 : H1 da = none := hmono da nda
            refine ⟨.ref x, _, _, _, _, tl, rfl, s5 _ _ hf, hr'.imp fun v r h => h.same s5, ?_, s5 _ _ hfo, ?_, Ne.symm (ne_of_none (s3 _ _ hfo) ntl), fun z hz => hmono z (s5.free hz)⟩
            · rw [hstep]
              exact ⟨x, da, rfl, Same.bakD s4 hB, nda1⟩
            · rw [upd_same, hstep]
              rfl
        · have e0 : ((r.1 : Nat) : Int) ≠ 0 := fun z => of_decide_eq_false e (congrArg V.int z)
          have ho := other_of hrc e0
          cases s with
          | none =>
            have e1 : bv = .non := hst
            subst e1
            have hstep := step_none ho
            refine ⟨_, rfl, true, rfl, ?_⟩
            refine ⟨(by show 1 ≤ sizeLine; decide), fun tl ntl => ?_⟩
            have s4 := same_new (o := .lst [.int (-11)]) ntl
            refine ⟨.non, _, _, _, _, tl, rfl, s4 _ _ hf, hr'.imp fun v r h => h.same s4, ?_, s4 _ _ hfo, ?_, Ne.symm (ne_of_none hfo ntl), fun z hz => hmono z (s4.free hz)⟩
            · rw [hstep]
              rfl
            · rw [upd_same, hstep]
              rfl
          | some p =>
            obtain ⟨b, da, rfl, hB, nda⟩ := hst
            have hstep := step_told (p := p) ho
            have hB' := hB
            obtain ⟨dx, hb, hda⟩ := hB'
            refine ⟨_, rfl, false, rfl, ?_⟩
            refine ⟨_, rfl, _, rfl, _, rfl, _, rfl, b, na, ra, da, p, r.1, r.2.1, r.2.2, c, rfl, hB, hg p rfl, sqL hna, sqL hra, hrc, e0, fun H3 tl da' ntl htl' hB3 hda' keep => ?_⟩
            have keepL : ∀ z ys, H' z = some (.lst ys) → H3 z = some (.lst ys) := fun z ys hz => keep _ _ hz (ne_of hz hb (fun z => nomatch z))
            have keepT : ∀ z ys, H' z = some (.tup ys) → H3 z = some (.tup ys) := fun z ys hz => keep _ _ hz (ne_of hz hb (fun z => nomatch z))
            refine ⟨.ref b, _, _, _, _, tl, rfl, keepL _ _ hf, hr'.imp fun v r h => ?_, ?_, keepL _ _ hfo, ?_, Ne.symm (ne_of_none hfo ntl), fun z hz => hmono z ?_⟩
            · obtain ⟨t, na, ra, e, h1, n1, n2, h2, h3⟩ := h
              exact ⟨t, na, ra, e, keepT _ _ h1, n1, n2, keepL _ _ h2, keepL _ _ h3⟩
            · rw [hstep]
              refine ⟨b, da', rfl, hB3, ?_⟩
              rcases hda' with z | z
              · rw [z]
                exact nda
              · exact hmono _ z
            · rw [htl', hstep]
            · cases e1 : H' z with
              | none => rfl
              | some o =>
                obtain ⟨dx3, hb3, _⟩ := hB3
                have zb : z ≠ b := fun e2 => by
                  rw [e2, hb3] at hz
                  cases hz
                rw [keep z o e1 zb] at hz
                cases hz
      · obtain ⟨bv', y3, y4, y5, y6, tl, rfl, hf', hr2, hst', hfo', htl', tlfo, hmono'⟩ := mid
        -- found.append(len(told)); found.extend(told)
        refine ⟨_, rfl, .inl ⟨rfl, _, sqL hfo'⟩, _, rfl, tl, _, rfl, .inl (sqL htl'), fo, _, _, rfl, rfl, hfo', ?_, ?_⟩
        · exact Nat.lt_of_le_of_lt (show (dn.map V.int).length ≤ 4000 by rw [List.length_map]; omega) (by rw [sizeLine_eq]; decide)
        refine ⟨_, rfl, .inl ⟨rfl, _, sqL upd_same⟩, _, rfl, fo, tl, _, _, rfl, rfl, upd_same, (by rw [upd_ne tlfo]; exact htl'), ?_, ?_⟩
        · refine small (m := 4000) ?_ (by decide)
          simp only [List.length_append, List.length_map, List.length_cons, List.length_nil]
          omega
        · rw [upd_upd]
          have el : dn.map V.int ++ [V.int (((stepC s c).2.map V.int).length : Nat)] ++ (stepC s c).2.map V.int = (dn ++ (((stepC s c).2.length : Int) :: (stepC s c).2)).map V.int := by
            rw [List.map_append, List.length_map, List.append_assoc]
            rfl
          refine ⟨bv', y3, y4, y5, y6, some (.ref tl), (stepC s c).1, dn ++ (((stepC s c).2.length : Int) :: (stepC s c).2), rfl, (by rw [upd_ne flfo]; exact hf'), hr2.imp (fun v r h => h.put h1fo hfo'), hst'.put h1fo hfo', hgood, ?_, hout, ?_, fun z hz => hmono' z ?_⟩
          · rw [upd_same, el]
          · rw [List.length_append, List.length_cons]
            omega
          · by_cases e1 : z = fo
            · rw [e1, upd_same] at hz
              cases hz
            · rw [upd_ne e1] at hz
              exact hz
    · obtain ⟨bv, x3, x4, x5, x6, x7, s, dn, rfl, hf, hr', hst, hg, hfo, hout, hdl, hmono⟩ := h
      have hend : cl.drop xs.length = [] := by
        refine List.drop_eq_nil_of_le ?_
        rw [hxl, hcl.length]
        exact Nat.le_refl _
      rw [hend] at hout
      have hout' : dn = out none cl := by
        rw [← hout]
        show dn = dn ++ []
        rw [List.append_nil]
      refine ⟨_, rfl, q H' fo ?_⟩
      rw [hfo, hdue', hout']
end
end FL

namespace FL
open PySem PySem.Spec PyProof.Rows L2
/-! ### the end: what the top has written -/
theorem fun_at {K : PySem.W.Frag} {x qual : Str} {st : Stmt} {f : Addr} {oc : Value} {od an : Option Addr} {osl : Array (Option Value)} {kV doc pm cdv ct : Value}
    (l : K.lookup f = some ⟨oc, od, .func (PySem.W.fnOf x qual (defArgs st) (defBody st) (defScope st) .none kV doc pm an cdv ct), osl⟩) (c : PySem.W.codeIn K cdv qual = true) (k : PySem.W.keepIn K (.ref f) = true) : ∃ fd, Fun K x qual st f fd := ⟨_, fun_mk l c k⟩
theorem at_mk {P : Program} {w : World} {K : PySem.W.Frag} {mg : Str → Option Value} {base h : Heap} {x : Str} {st : Stmt} {f : Addr} {fd : FuncData} {k : Nat} {ps : List Str} {sp : Sp} (X : K.In h) (G : h.Ns mainGlobals mg)
    (a : PySem.W.nsIn K mainGlobals x = some (some (.ref f))) (F : Fun K x x st f fd) (ok : FnOk P w K mg base CX0 k f fd ps sp) (b : Binds K fd ps []) : At P w K mg base x k ps sp := ⟨f, fd, PySem.W.mg_of X G a, ok, F.kp, b⟩
theorem held_mk {P : Program} {w : World} {K : PySem.W.Frag} {mg : Str → Option Value} {base : Heap} {x : Str} {st : Stmt} {f : Addr} {fd : FuncData} {j k : Nat} {ps : List Str} {sp : Sp} (F : Fun K x x st f fd) (ok : FnOk P w K mg base CX0 j f fd ps sp) (b : Binds K fd ps []) (h : j ≤ k) :
    Held P w K mg base k f sp := ⟨fd, ps, ok.mono h, F.kp, b⟩
def intKey (e : DictEntry) : Bool := match e.key with
  | .int i _ => e.hash == hashInt i
  | _ => false
theorem keys_ok {es : Array DictEntry} (h : es.toList.all intKey = true) : ∀ e ∈ es.toList, ∃ (i : Int) (t : Tok), e.key = .int i t ∧ e.hash = hashInt i := by
  intro e he
  have h1 := List.all_eq_true.mp h e he
  unfold intKey at h1
  split at h1
  · rename_i i t hk
    exact ⟨i, t, hk, eq_of_beq h1⟩
  · cases h1
theorem tup_at {K : PySem.W.Frag} {a : Addr} {xs : List V} {d : Option Addr} {its : List Value} {n : Nat} {sl : Array (Option Value)} (l : K.lookup a = some ⟨.type "tuple", d, .seq its.toArray n, sl⟩) (hs : its.length ≤ 100) (v : Vals xs its) : ∀ H : Hp, SqT K H a xs := fun H =>
  .inr ⟨_, its.toArray, n, l, rfl, rfl, (by rw [List.size_toArray]; exact small hs (by decide)), v⟩

theorem all_mk {P : Program} {w : World} {K : PySem.W.Frag} {h : Heap} {mg : Str → Option Value} {fa C dd aN aW : Addr} (X : K.In h) (G : h.Ns mainGlobals mg) (hfa : mg "answers" = some (.ref fa))
    {f_w f_ws f_wu f_wh f_wd f_fd f_nb f_de f_wi f_sg f_bl f_br f_lc f_bp f_bd f_so f_ag f_dr f_cs f_si f_pc f_ol f_ob f_d1 f_d2 f_d3 f_d4 f_d5 f_d6 f_d7 f_d8 f_d9 f_d10 f_d11 f_d12 f_d13 f_d14 f_d15 f_ad f_rd f_an f_in : Addr} {t_MISSING t_NO_INSTANCE t_OUTSIDE t_MOST_DAYS t_MOST_SHELF_LIFE t_MOST_SETUP_COST t_MOST_HOLDING_COST t_MOST_DEMAND t_MOST_LOAVES t_CREATE : Tok} {es : Array DictEntry} {n0 n1 n2 : Nat} {i1 i2 : List Value} {e1 e2 : Option Addr} {sl1 sl2 : Array (Option Value)}
    (a_w : PySem.W.nsIn K mainGlobals "is_within" = some (some (.ref f_w))) (x_w : ∃ fd, Fun K "is_within" "is_within" sWithin f_w fd)
    (a_ws : PySem.W.nsIn K mainGlobals "is_shelf_life" = some (some (.ref f_ws))) (x_ws : ∃ fd, Fun K "is_shelf_life" "is_shelf_life" sShelf f_ws fd)
    (a_wu : PySem.W.nsIn K mainGlobals "is_setup_cost" = some (some (.ref f_wu))) (x_wu : ∃ fd, Fun K "is_setup_cost" "is_setup_cost" sSetup f_wu fd)
    (a_wh : PySem.W.nsIn K mainGlobals "is_holding_cost" = some (some (.ref f_wh))) (x_wh : ∃ fd, Fun K "is_holding_cost" "is_holding_cost" sHold f_wh fd)
    (a_wd : PySem.W.nsIn K mainGlobals "is_demand" = some (some (.ref f_wd))) (x_wd : ∃ fd, Fun K "is_demand" "is_demand" sDem f_wd fd)
    (a_fd : PySem.W.nsIn K mainGlobals "are_for_days" = some (some (.ref f_fd))) (x_fd : ∃ fd, Fun K "are_for_days" "are_for_days" sForDays f_fd fd)
    (a_nb : PySem.W.nsIn K mainGlobals "new_bakery" = some (some (.ref f_nb))) (x_nb : ∃ fd, Fun K "new_bakery" "new_bakery" sNew f_nb fd)
    (a_de : PySem.W.nsIn K mainGlobals "day_error" = some (some (.ref f_de))) (x_de : ∃ fd, Fun K "day_error" "day_error" sDayErr f_de fd)
    (a_wi : PySem.W.nsIn K mainGlobals "with_demand" = some (some (.ref f_wi))) (x_wi : ∃ fd, Fun K "with_demand" "with_demand" sWithDem f_wi fd)
    (a_sg : PySem.W.nsIn K mainGlobals "segment_cost" = some (some (.ref f_sg))) (x_sg : ∃ fd, Fun K "segment_cost" "segment_cost" sSeg f_sg fd)
    (a_bl : PySem.W.nsIn K mainGlobals "best_last" = some (some (.ref f_bl))) (x_bl : ∃ fd, Fun K "best_last" "best_last" sBestLast f_bl fd)
    (a_br : PySem.W.nsIn K mainGlobals "best_rows" = some (some (.ref f_br))) (x_br : ∃ fd, Fun K "best_rows" "best_rows" sBestRows f_br fd)
    (a_lc : PySem.W.nsIn K mainGlobals "lowest_cost" = some (some (.ref f_lc))) (x_lc : ∃ fd, Fun K "lowest_cost" "lowest_cost" sLowest f_lc fd)
    (a_bp : PySem.W.nsIn K mainGlobals "best_plan" = some (some (.ref f_bp))) (x_bp : ∃ fd, Fun K "best_plan" "best_plan" sBestPlan f_bp fd)
    (a_bd : PySem.W.nsIn K mainGlobals "baking_days" = some (some (.ref f_bd))) (x_bd : ∃ fd, Fun K "baking_days" "baking_days" sBakDays f_bd fd)
    (a_so : PySem.W.nsIn K mainGlobals "sold_stock" = some (some (.ref f_so))) (x_so : ∃ fd, Fun K "sold_stock" "sold_stock" sSold f_so fd)
    (a_ag : PySem.W.nsIn K mainGlobals "ages_in_order" = some (some (.ref f_ag))) (x_ag : ∃ fd, Fun K "ages_in_order" "ages_in_order" sAges f_ag fd)
    (a_dr : PySem.W.nsIn K mainGlobals "day_rows" = some (some (.ref f_dr))) (x_dr : ∃ fd, Fun K "day_rows" "day_rows" sDayRows f_dr fd)
    (a_cs : PySem.W.nsIn K mainGlobals "column_sum" = some (some (.ref f_cs))) (x_cs : ∃ fd, Fun K "column_sum" "column_sum" sColSum f_cs fd)
    (a_si : PySem.W.nsIn K mainGlobals "simulated" = some (some (.ref f_si))) (x_si : ∃ fd, Fun K "simulated" "simulated" sSim f_si fd)
    (a_pc : PySem.W.nsIn K mainGlobals "plan_cost" = some (some (.ref f_pc))) (x_pc : ∃ fd, Fun K "plan_cost" "plan_cost" sPlanCost f_pc fd)
    (a_ol : PySem.W.nsIn K mainGlobals "own_lowest_cost" = some (some (.ref f_ol))) (x_ol : ∃ fd, Fun K "own_lowest_cost" "own_lowest_cost" sOwnLow f_ol fd)
    (a_ob : PySem.W.nsIn K mainGlobals "own_best_plan" = some (some (.ref f_ob))) (x_ob : ∃ fd, Fun K "own_best_plan" "own_best_plan" sOwnBest f_ob fd)
    (a_d1 : PySem.W.nsIn K mainGlobals "set_demand" = some (some (.ref f_d1))) (x_d1 : ∃ fd, Fun K "set_demand" "set_demand" sD1 f_d1 fd)
    (a_d2 : PySem.W.nsIn K mainGlobals "set_demands" = some (some (.ref f_d2))) (x_d2 : ∃ fd, Fun K "set_demands" "set_demands" sD2 f_d2 fd)
    (a_d3 : PySem.W.nsIn K mainGlobals "set_shelf_life" = some (some (.ref f_d3))) (x_d3 : ∃ fd, Fun K "set_shelf_life" "set_shelf_life" sD3 f_d3 fd)
    (a_d4 : PySem.W.nsIn K mainGlobals "set_setup_cost" = some (some (.ref f_d4))) (x_d4 : ∃ fd, Fun K "set_setup_cost" "set_setup_cost" sD4 f_d4 fd)
    (a_d5 : PySem.W.nsIn K mainGlobals "set_holding_cost" = some (some (.ref f_d5))) (x_d5 : ∃ fd, Fun K "set_holding_cost" "set_holding_cost" sD5 f_d5 fd)
    (a_d6 : PySem.W.nsIn K mainGlobals "tell_min_cost" = some (some (.ref f_d6))) (x_d6 : ∃ fd, Fun K "tell_min_cost" "tell_min_cost" sD6 f_d6 fd)
    (a_d7 : PySem.W.nsIn K mainGlobals "tell_best_plan" = some (some (.ref f_d7))) (x_d7 : ∃ fd, Fun K "tell_best_plan" "tell_best_plan" sD7 f_d7 fd)
    (a_d8 : PySem.W.nsIn K mainGlobals "tell_plan_cost" = some (some (.ref f_d8))) (x_d8 : ∃ fd, Fun K "tell_plan_cost" "tell_plan_cost" sD8 f_d8 fd)
    (a_d9 : PySem.W.nsIn K mainGlobals "tell_simulated" = some (some (.ref f_d9))) (x_d9 : ∃ fd, Fun K "tell_simulated" "tell_simulated" sD9 f_d9 fd)
    (a_d10 : PySem.W.nsIn K mainGlobals "tell_newest_first" = some (some (.ref f_d10))) (x_d10 : ∃ fd, Fun K "tell_newest_first" "tell_newest_first" sD10 f_d10 fd)
    (a_d11 : PySem.W.nsIn K mainGlobals "tell_if_demand" = some (some (.ref f_d11))) (x_d11 : ∃ fd, Fun K "tell_if_demand" "tell_if_demand" sD11 f_d11 fd)
    (a_d12 : PySem.W.nsIn K mainGlobals "tell_if_shelf_life" = some (some (.ref f_d12))) (x_d12 : ∃ fd, Fun K "tell_if_shelf_life" "tell_if_shelf_life" sD12 f_d12 fd)
    (a_d13 : PySem.W.nsIn K mainGlobals "tell_setup_count" = some (some (.ref f_d13))) (x_d13 : ∃ fd, Fun K "tell_setup_count" "tell_setup_count" sD13 f_d13 fd)
    (a_d14 : PySem.W.nsIn K mainGlobals "tell_total" = some (some (.ref f_d14))) (x_d14 : ∃ fd, Fun K "tell_total" "tell_total" sD14 f_d14 fd)
    (a_d15 : PySem.W.nsIn K mainGlobals "describe" = some (some (.ref f_d15))) (x_d15 : ∃ fd, Fun K "describe" "describe" sD15 f_d15 fd)
    (a_ad : PySem.W.nsIn K mainGlobals "answer_deed" = some (some (.ref f_ad))) (x_ad : ∃ fd, Fun K "answer_deed" "answer_deed" sAnsDeed f_ad fd)
    (a_rd : PySem.W.nsIn K mainGlobals "read_calls" = some (some (.ref f_rd))) (x_rd : ∃ fd, Fun K "read_calls" "read_calls" sRead f_rd fd)
    (a_an : PySem.W.nsIn K mainGlobals "answers" = some (some (.ref f_an))) (x_an : ∃ fd, Fun K "answers" "answers" sAns f_an fd)
    (aC : PySem.W.nsIn K mainGlobals "Bakery" = some (some (.ref C))) (a_in : PySem.W.findIn K (.ref C) "__init__" = some (some (.ref f_in))) (i_in : PySem.W.isFn K (.ref f_in) = true) (x_in : ∃ fd, Fun K "__init__" "Bakery.__init__" sInit f_in fd)
    (pg : PySem.W.plainGet K C Str.empty = true) (hd : PySem.W.hasDictIn K C = true) (po : PySem.W.plainOver K C = true) (sa : PySem.W.findIn K (.ref C) "__setattr__" = some (some (.builtin "object.__setattr__"))) (mk : PySem.W.makesIn K C = true) (kc : PySem.W.keepIn K (.ref C) = true)
    (nS : PySem.W.findIn K (.ref C) "shelf_life" = some none) (nU : PySem.W.findIn K (.ref C) "setup_cost" = some none) (nH : PySem.W.findIn K (.ref C) "holding_cost" = some none) (nD : PySem.W.findIn K (.ref C) "demands" = some none)
    (k_MISSING : PySem.W.nsIn K mainGlobals "MISSING" = some (some (.int (-2) t_MISSING)))
    (k_NO_INSTANCE : PySem.W.nsIn K mainGlobals "NO_INSTANCE" = some (some (.int (-11) t_NO_INSTANCE)))
    (k_OUTSIDE : PySem.W.nsIn K mainGlobals "OUTSIDE" = some (some (.int (-22) t_OUTSIDE)))
    (k_MOST_DAYS : PySem.W.nsIn K mainGlobals "MOST_DAYS" = some (some (.int 12 t_MOST_DAYS)))
    (k_MOST_SHELF_LIFE : PySem.W.nsIn K mainGlobals "MOST_SHELF_LIFE" = some (some (.int 12 t_MOST_SHELF_LIFE)))
    (k_MOST_SETUP_COST : PySem.W.nsIn K mainGlobals "MOST_SETUP_COST" = some (some (.int 999 t_MOST_SETUP_COST)))
    (k_MOST_HOLDING_COST : PySem.W.nsIn K mainGlobals "MOST_HOLDING_COST" = some (some (.int 99 t_MOST_HOLDING_COST)))
    (k_MOST_DEMAND : PySem.W.nsIn K mainGlobals "MOST_DEMAND" = some (some (.int 99 t_MOST_DEMAND)))
    (k_MOST_LOAVES : PySem.W.nsIn K mainGlobals "MOST_LOAVES" = some (some (.int 999 t_MOST_LOAVES)))
    (k_CREATE : PySem.W.nsIn K mainGlobals "CREATE" = some (some (.int 0 t_CREATE)))
    (b_len : PySem.W.nsIn K mainGlobals "len" = some none)
    (b_all : PySem.W.nsIn K mainGlobals "all" = some none)
    (b_list : PySem.W.nsIn K mainGlobals "list" = some none)
    (b_sum : PySem.W.nsIn K mainGlobals "sum" = some none)
    (b_range : PySem.W.nsIn K mainGlobals "range" = some none)
    (b_min : PySem.W.nsIn K mainGlobals "min" = some none)
    (b_reversed : PySem.W.nsIn K mainGlobals "reversed" = some none)
    (b_int : PySem.W.nsIn K mainGlobals "int" = some none)
    (aD : PySem.W.nsIn K mainGlobals "DEEDS" = some (some (.ref dd))) (lD : K.lookup dd = some ⟨.type "dict", none, .dict es n0, #[]⟩)
    (aNu : PySem.W.nsIn K mainGlobals "NUMBERS" = some (some (.ref aN))) (lN : K.lookup aN = some ⟨.type "tuple", e1, .seq i1.toArray n1, sl1⟩)
    (aWi : PySem.W.nsIn K mainGlobals "WITH_LIST" = some (some (.ref aW))) (lW : K.lookup aW = some ⟨.type "tuple", e2, .seq i2.toArray n2, sl2⟩)
    (keys : es.toList.all intKey = true) (sN : i1.length ≤ 100) (sW : i2.length ≤ 100) (vN : Vals numsV i1) (vW : Vals withV i2)
    (g_1 : findBy Value.isInt es 1 = some (.ref f_d1))
    (g_2 : findBy Value.isInt es 2 = some (.ref f_d2))
    (g_3 : findBy Value.isInt es 3 = some (.ref f_d3))
    (g_4 : findBy Value.isInt es 4 = some (.ref f_d4))
    (g_5 : findBy Value.isInt es 5 = some (.ref f_d5))
    (g_6 : findBy Value.isInt es 6 = some (.ref f_d6))
    (g_7 : findBy Value.isInt es 7 = some (.ref f_d7))
    (g_8 : findBy Value.isInt es 8 = some (.ref f_d8))
    (g_9 : findBy Value.isInt es 9 = some (.ref f_d9))
    (g_10 : findBy Value.isInt es 10 = some (.ref f_d10))
    (g_11 : findBy Value.isInt es 11 = some (.ref f_d11))
    (g_12 : findBy Value.isInt es 12 = some (.ref f_d12))
    (g_13 : findBy Value.isInt es 13 = some (.ref f_d13))
    (g_14 : findBy Value.isInt es 14 = some (.ref f_d14))
    (g_15 : findBy Value.isInt es 15 = some (.ref f_d15))
    : ∃ fd : FuncData, (∀ (s : Shared) (us : List Value), us.length = (["calls"] : List Str).length → BindsTo s fd ⟨us, []⟩ ((["calls"] : List Str).zip us)) ∧ ∀ base : Heap, K.In base → base.Ns mainGlobals mg → FnOk P w K mg base CX0 8 fa fd ["calls"] (spAns K) := by
  have e0 := hfa.symm.trans (PySem.W.mg_of X G a_an)
  cases e0
  have T : Txt K mg C := ⟨⟨pg, hd, po, sa⟩, nS, nU, nH, nD, PySem.W.mg_of X G aC⟩
  have c_MISSING := PySem.W.mg_of X G k_MISSING
  have c_NO_INSTANCE := PySem.W.mg_of X G k_NO_INSTANCE
  have c_OUTSIDE := PySem.W.mg_of X G k_OUTSIDE
  have c_MOST_DAYS := PySem.W.mg_of X G k_MOST_DAYS
  have c_MOST_SHELF_LIFE := PySem.W.mg_of X G k_MOST_SHELF_LIFE
  have c_MOST_SETUP_COST := PySem.W.mg_of X G k_MOST_SETUP_COST
  have c_MOST_HOLDING_COST := PySem.W.mg_of X G k_MOST_HOLDING_COST
  have c_MOST_DEMAND := PySem.W.mg_of X G k_MOST_DEMAND
  have c_MOST_LOAVES := PySem.W.mg_of X G k_MOST_LOAVES
  have c_CREATE := PySem.W.mg_of X G k_CREATE
  have m_len := PySem.W.mg_none_of X G b_len
  have m_all := PySem.W.mg_none_of X G b_all
  have m_list := PySem.W.mg_none_of X G b_list
  have m_sum := PySem.W.mg_none_of X G b_sum
  have m_range := PySem.W.mg_none_of X G b_range
  have m_min := PySem.W.mg_none_of X G b_min
  have m_reversed := PySem.W.mg_none_of X G b_reversed
  have m_int := PySem.W.mg_none_of X G b_int
  have g_NUMBERS := PySem.W.mg_of X G aNu
  have g_WITH_LIST := PySem.W.mg_of X G aWi
  have g_DEEDS := PySem.W.mg_of X G aD
  have hN := tup_at (xs := numsV) lN sN vN
  have hW := tup_at (xs := withV) lW sW vW
  have kD := keys_ok keys
  obtain ⟨fd_in, F_in⟩ := x_in
  have bI : Binds K fd_in ["self", "day_count", "shelf_life", "setup_cost", "holding_cost"] [] := F_in.binds fun _ _ _ _ _ _ us hl => match us, hl with | [_, _, _, _, _], _ => rfl
  have M : Mk K C f_in := ⟨mk, a_in, i_in, kc⟩
  obtain ⟨fd_w, F_w⟩ := x_w
  have b_w : Binds K fd_w ["number", "low", "high"] [] := F_w.binds fun _ _ _ _ _ _ us hl => match us, hl with | [_, _, _], _ => rfl
  obtain ⟨fd_ws, F_ws⟩ := x_ws
  have b_ws : Binds K fd_ws ["number"] [] := F_ws.binds fun _ _ _ _ _ _ us hl => match us, hl with | [_], _ => rfl
  obtain ⟨fd_wu, F_wu⟩ := x_wu
  have b_wu : Binds K fd_wu ["number"] [] := F_wu.binds fun _ _ _ _ _ _ us hl => match us, hl with | [_], _ => rfl
  obtain ⟨fd_wh, F_wh⟩ := x_wh
  have b_wh : Binds K fd_wh ["number"] [] := F_wh.binds fun _ _ _ _ _ _ us hl => match us, hl with | [_], _ => rfl
  obtain ⟨fd_wd, F_wd⟩ := x_wd
  have b_wd : Binds K fd_wd ["number"] [] := F_wd.binds fun _ _ _ _ _ _ us hl => match us, hl with | [_], _ => rfl
  obtain ⟨fd_fd, F_fd⟩ := x_fd
  have b_fd : Binds K fd_fd ["bakery", "row", "most"] [] := F_fd.binds fun _ _ _ _ _ _ us hl => match us, hl with | [_, _, _], _ => rfl
  obtain ⟨fd_nb, F_nb⟩ := x_nb
  have b_nb : Binds K fd_nb ["numbers"] [] := F_nb.binds fun _ _ _ _ _ _ us hl => match us, hl with | [_], _ => rfl
  obtain ⟨fd_de, F_de⟩ := x_de
  have b_de : Binds K fd_de ["bakery", "day", "demand"] [] := F_de.binds fun _ _ _ _ _ _ us hl => match us, hl with | [_, _, _], _ => rfl
  obtain ⟨fd_wi, F_wi⟩ := x_wi
  have b_wi : Binds K fd_wi ["bakery", "day", "demand"] [] := F_wi.binds fun _ _ _ _ _ _ us hl => match us, hl with | [_, _, _], _ => rfl
  obtain ⟨fd_sg, F_sg⟩ := x_sg
  have b_sg : Binds K fd_sg ["demands", "setup_cost", "holding_cost", "first", "last"] [] := F_sg.binds fun _ _ _ _ _ _ us hl => match us, hl with | [_, _, _, _, _], _ => rfl
  obtain ⟨fd_bl, F_bl⟩ := x_bl
  have b_bl : Binds K fd_bl ["demands", "shelf_life", "setup_cost", "holding_cost", "first", "behind"] [] := F_bl.binds fun _ _ _ _ _ _ us hl => match us, hl with | [_, _, _, _, _, _], _ => rfl
  obtain ⟨fd_br, F_br⟩ := x_br
  have b_br : Binds K fd_br ["demands", "shelf_life", "setup_cost", "holding_cost"] [] := F_br.binds fun _ _ _ _ _ _ us hl => match us, hl with | [_, _, _, _], _ => rfl
  obtain ⟨fd_lc, F_lc⟩ := x_lc
  have b_lc : Binds K fd_lc ["demands", "shelf_life", "setup_cost", "holding_cost"] [] := F_lc.binds fun _ _ _ _ _ _ us hl => match us, hl with | [_, _, _, _], _ => rfl
  obtain ⟨fd_bp, F_bp⟩ := x_bp
  have b_bp : Binds K fd_bp ["demands", "shelf_life", "setup_cost", "holding_cost"] [] := F_bp.binds fun _ _ _ _ _ _ us hl => match us, hl with | [_, _, _, _], _ => rfl
  obtain ⟨fd_bd, F_bd⟩ := x_bd
  have b_bd : Binds K fd_bd ["plan"] [] := F_bd.binds fun _ _ _ _ _ _ us hl => match us, hl with | [_], _ => rfl
  obtain ⟨fd_so, F_so⟩ := x_so
  have b_so : Binds K fd_so ["stock", "wanted", "ages"] [] := F_so.binds fun _ _ _ _ _ _ us hl => match us, hl with | [_, _, _], _ => rfl
  obtain ⟨fd_ag, F_ag⟩ := x_ag
  have b_ag : Binds K fd_ag ["shelf_life", "is_newest_first"] [] := F_ag.binds fun _ _ _ _ _ _ us hl => match us, hl with | [_, _], _ => rfl
  obtain ⟨fd_dr, F_dr⟩ := x_dr
  have b_dr : Binds K fd_dr ["demands", "shelf_life", "plan", "is_newest_first"] [] := F_dr.binds fun _ _ _ _ _ _ us hl => match us, hl with | [_, _, _, _], _ => rfl
  obtain ⟨fd_cs, F_cs⟩ := x_cs
  have b_cs : Binds K fd_cs ["rows", "column"] [] := F_cs.binds fun _ _ _ _ _ _ us hl => match us, hl with | [_, _], _ => rfl
  obtain ⟨fd_si, F_si⟩ := x_si
  have b_si : Binds K fd_si ["demands", "shelf_life", "plan", "is_newest_first"] [] := F_si.binds fun _ _ _ _ _ _ us hl => match us, hl with | [_, _, _, _], _ => rfl
  obtain ⟨fd_pc, F_pc⟩ := x_pc
  have b_pc : Binds K fd_pc ["demands", "shelf_life", "setup_cost", "holding_cost", "plan"] [] := F_pc.binds fun _ _ _ _ _ _ us hl => match us, hl with | [_, _, _, _, _], _ => rfl
  obtain ⟨fd_ol, F_ol⟩ := x_ol
  have b_ol : Binds K fd_ol ["bakery", "demands", "shelf_life"] [] := F_ol.binds fun _ _ _ _ _ _ us hl => match us, hl with | [_, _, _], _ => rfl
  obtain ⟨fd_ob, F_ob⟩ := x_ob
  have b_ob : Binds K fd_ob ["bakery"] [] := F_ob.binds fun _ _ _ _ _ _ us hl => match us, hl with | [_], _ => rfl
  obtain ⟨fd_d1, F_d1⟩ := x_d1
  have b_d1 : Binds K fd_d1 ["bakery", "numbers", "row"] [] := F_d1.binds fun _ _ _ _ _ _ us hl => match us, hl with | [_, _, _], _ => rfl
  obtain ⟨fd_d2, F_d2⟩ := x_d2
  have b_d2 : Binds K fd_d2 ["bakery", "numbers", "row"] [] := F_d2.binds fun _ _ _ _ _ _ us hl => match us, hl with | [_, _, _], _ => rfl
  obtain ⟨fd_d3, F_d3⟩ := x_d3
  have b_d3 : Binds K fd_d3 ["bakery", "numbers", "row"] [] := F_d3.binds fun _ _ _ _ _ _ us hl => match us, hl with | [_, _, _], _ => rfl
  obtain ⟨fd_d4, F_d4⟩ := x_d4
  have b_d4 : Binds K fd_d4 ["bakery", "numbers", "row"] [] := F_d4.binds fun _ _ _ _ _ _ us hl => match us, hl with | [_, _, _], _ => rfl
  obtain ⟨fd_d5, F_d5⟩ := x_d5
  have b_d5 : Binds K fd_d5 ["bakery", "numbers", "row"] [] := F_d5.binds fun _ _ _ _ _ _ us hl => match us, hl with | [_, _, _], _ => rfl
  obtain ⟨fd_d6, F_d6⟩ := x_d6
  have b_d6 : Binds K fd_d6 ["bakery", "numbers", "row"] [] := F_d6.binds fun _ _ _ _ _ _ us hl => match us, hl with | [_, _, _], _ => rfl
  obtain ⟨fd_d7, F_d7⟩ := x_d7
  have b_d7 : Binds K fd_d7 ["bakery", "numbers", "row"] [] := F_d7.binds fun _ _ _ _ _ _ us hl => match us, hl with | [_, _, _], _ => rfl
  obtain ⟨fd_d8, F_d8⟩ := x_d8
  have b_d8 : Binds K fd_d8 ["bakery", "numbers", "row"] [] := F_d8.binds fun _ _ _ _ _ _ us hl => match us, hl with | [_, _, _], _ => rfl
  obtain ⟨fd_d9, F_d9⟩ := x_d9
  have b_d9 : Binds K fd_d9 ["bakery", "numbers", "row"] [] := F_d9.binds fun _ _ _ _ _ _ us hl => match us, hl with | [_, _, _], _ => rfl
  obtain ⟨fd_d10, F_d10⟩ := x_d10
  have b_d10 : Binds K fd_d10 ["bakery", "numbers", "row"] [] := F_d10.binds fun _ _ _ _ _ _ us hl => match us, hl with | [_, _, _], _ => rfl
  obtain ⟨fd_d11, F_d11⟩ := x_d11
  have b_d11 : Binds K fd_d11 ["bakery", "numbers", "row"] [] := F_d11.binds fun _ _ _ _ _ _ us hl => match us, hl with | [_, _, _], _ => rfl
  obtain ⟨fd_d12, F_d12⟩ := x_d12
  have b_d12 : Binds K fd_d12 ["bakery", "numbers", "row"] [] := F_d12.binds fun _ _ _ _ _ _ us hl => match us, hl with | [_, _, _], _ => rfl
  obtain ⟨fd_d13, F_d13⟩ := x_d13
  have b_d13 : Binds K fd_d13 ["bakery", "numbers", "row"] [] := F_d13.binds fun _ _ _ _ _ _ us hl => match us, hl with | [_, _, _], _ => rfl
  obtain ⟨fd_d14, F_d14⟩ := x_d14
  have b_d14 : Binds K fd_d14 ["bakery", "numbers", "row"] [] := F_d14.binds fun _ _ _ _ _ _ us hl => match us, hl with | [_, _, _], _ => rfl
  obtain ⟨fd_d15, F_d15⟩ := x_d15
  have b_d15 : Binds K fd_d15 ["bakery", "numbers", "row"] [] := F_d15.binds fun _ _ _ _ _ _ us hl => match us, hl with | [_, _, _], _ => rfl
  obtain ⟨fd_ad, F_ad⟩ := x_ad
  have b_ad : Binds K fd_ad ["bakery", "number", "numbers", "row"] [] := F_ad.binds fun _ _ _ _ _ _ us hl => match us, hl with | [_, _, _, _], _ => rfl
  obtain ⟨fd_rd, F_rd⟩ := x_rd
  have b_rd : Binds K fd_rd ["calls"] [] := F_rd.binds fun _ _ _ _ _ _ us hl => match us, hl with | [_], _ => rfl
  obtain ⟨fd_an, F_an⟩ := x_an
  have b_an : Binds K fd_an ["calls"] [] := F_an.binds fun _ _ _ _ _ _ us hl => match us, hl with | [_], _ => rfl
  refine ⟨fd_an, fun s us hu => ?_, fun base _ _ => ?_⟩
  · obtain ⟨oc, od, kV, doc, pm, an, cdv, ct, osl, hfd, lk, hcd⟩ := F_an.ex
    rw [hfd]
    exact (match us, hu with | [_], _ => .of_eq rfl)
  · have GI : FnOk P w K mg base CX0 1 f_in fd_in ["self", "day_count", "shelf_life", "setup_cost", "holding_cost"] (spInit C) := ok_init F_in T
    have G_w : FnOk P w K mg base CX0 1 f_w fd_w ["number", "low", "high"] (spWithin) := ok_within F_w
    have A_w : At P w K mg base "is_within" 1 ["number", "low", "high"] (spWithin) := at_mk X G a_w F_w G_w b_w
    have G_ws : FnOk P w K mg base CX0 2 f_ws fd_ws ["number"] (spTest Sr101.isDayCount) := ok_shelf F_ws A_w c_MOST_SHELF_LIFE
    have A_ws : At P w K mg base "is_shelf_life" 2 ["number"] (spTest Sr101.isDayCount) := at_mk X G a_ws F_ws G_ws b_ws
    have G_wu : FnOk P w K mg base CX0 2 f_wu fd_wu ["number"] (spTest Sr101.isSetupCost) := ok_setup F_wu A_w c_MOST_SETUP_COST
    have A_wu : At P w K mg base "is_setup_cost" 2 ["number"] (spTest Sr101.isSetupCost) := at_mk X G a_wu F_wu G_wu b_wu
    have G_wh : FnOk P w K mg base CX0 2 f_wh fd_wh ["number"] (spTest Sr101.isAmount) := ok_hold F_wh A_w c_MOST_HOLDING_COST
    have A_wh : At P w K mg base "is_holding_cost" 2 ["number"] (spTest Sr101.isAmount) := at_mk X G a_wh F_wh G_wh b_wh
    have G_wd : FnOk P w K mg base CX0 2 f_wd fd_wd ["number"] (spTest Sr101.isAmount) := ok_dem F_wd A_w c_MOST_DEMAND
    have A_wd : At P w K mg base "is_demand" 2 ["number"] (spTest Sr101.isAmount) := at_mk X G a_wd F_wd G_wd b_wd
    have G_fd : FnOk P w K mg base CX0 2 f_fd fd_fd ["bakery", "row", "most"] (spForDays K C) := ok_fordays F_fd T A_w m_len m_all
    have A_fd : At P w K mg base "are_for_days" 2 ["bakery", "row", "most"] (spForDays K C) := at_mk X G a_fd F_fd G_fd b_fd
    have G_nb : FnOk P w K mg base CX0 3 f_nb fd_nb ["numbers"] (spNew K C) := ok_new F_nb T M GI bI A_w A_ws A_wu A_wh c_MOST_DAYS
    have A_nb : At P w K mg base "new_bakery" 3 ["numbers"] (spNew K C) := at_mk X G a_nb F_nb G_nb b_nb
    have G_de : FnOk P w K mg base CX0 3 f_de fd_de ["bakery", "day", "demand"] (spDayErr K C) := ok_dayerr F_de T A_w A_wd m_len c_MISSING c_OUTSIDE
    have A_de : At P w K mg base "day_error" 3 ["bakery", "day", "demand"] (spDayErr K C) := at_mk X G a_de F_de G_de b_de
    have G_wi : FnOk P w K mg base CX0 1 f_wi fd_wi ["bakery", "day", "demand"] (spWithDem K C) := ok_withdem F_wi T m_list
    have A_wi : At P w K mg base "with_demand" 1 ["bakery", "day", "demand"] (spWithDem K C) := at_mk X G a_wi F_wi G_wi b_wi
    have G_sg : FnOk P w K mg base CX0 1 f_sg fd_sg ["demands", "setup_cost", "holding_cost", "first", "last"] (spSeg K) := ok_seg F_sg m_sum m_range
    have A_sg : At P w K mg base "segment_cost" 1 ["demands", "setup_cost", "holding_cost", "first", "last"] (spSeg K) := at_mk X G a_sg F_sg G_sg b_sg
    have G_bl : FnOk P w K mg base CX0 2 f_bl fd_bl ["demands", "shelf_life", "setup_cost", "holding_cost", "first", "behind"] (spBestLast K) := ok_bestlast F_bl A_sg m_range m_min m_len
    have A_bl : At P w K mg base "best_last" 2 ["demands", "shelf_life", "setup_cost", "holding_cost", "first", "behind"] (spBestLast K) := at_mk X G a_bl F_bl G_bl b_bl
    have G_br : FnOk P w K mg base CX0 3 f_br fd_br ["demands", "shelf_life", "setup_cost", "holding_cost"] (spBestRows K) := ok_bestrows F_br A_bl m_range m_len
    have A_br : At P w K mg base "best_rows" 3 ["demands", "shelf_life", "setup_cost", "holding_cost"] (spBestRows K) := at_mk X G a_br F_br G_br b_br
    have G_lc : FnOk P w K mg base CX0 4 f_lc fd_lc ["demands", "shelf_life", "setup_cost", "holding_cost"] (spLowest K) := ok_lowest F_lc A_br
    have A_lc : At P w K mg base "lowest_cost" 4 ["demands", "shelf_life", "setup_cost", "holding_cost"] (spLowest K) := at_mk X G a_lc F_lc G_lc b_lc
    have G_bp : FnOk P w K mg base CX0 4 f_bp fd_bp ["demands", "shelf_life", "setup_cost", "holding_cost"] (spBestPlan K) := ok_bestplan F_bp A_br m_len m_range m_sum
    have A_bp : At P w K mg base "best_plan" 4 ["demands", "shelf_life", "setup_cost", "holding_cost"] (spBestPlan K) := at_mk X G a_bp F_bp G_bp b_bp
    have G_bd : FnOk P w K mg base CX0 1 f_bd fd_bd ["plan"] (spBakDays K) := ok_bakdays F_bd m_len
    have A_bd : At P w K mg base "baking_days" 1 ["plan"] (spBakDays K) := at_mk X G a_bd F_bd G_bd b_bd
    have G_so : FnOk P w K mg base CX0 1 f_so fd_so ["stock", "wanted", "ages"] (spSold K) := ok_sold F_so m_list m_min
    have A_so : At P w K mg base "sold_stock" 1 ["stock", "wanted", "ages"] (spSold K) := at_mk X G a_so F_so G_so b_so
    have G_ag : FnOk P w K mg base CX0 1 f_ag fd_ag ["shelf_life", "is_newest_first"] (spAges) := ok_ages F_ag m_list m_range m_reversed
    have A_ag : At P w K mg base "ages_in_order" 1 ["shelf_life", "is_newest_first"] (spAges) := at_mk X G a_ag F_ag G_ag b_ag
    have G_dr : FnOk P w K mg base CX0 2 f_dr fd_dr ["demands", "shelf_life", "plan", "is_newest_first"] (spDayRows K) := ok_dayrows F_dr A_ag A_so m_range m_len m_sum
    have A_dr : At P w K mg base "day_rows" 2 ["demands", "shelf_life", "plan", "is_newest_first"] (spDayRows K) := at_mk X G a_dr F_dr G_dr b_dr
    have G_cs : FnOk P w K mg base CX0 1 f_cs fd_cs ["rows", "column"] (spColSum K) := ok_colsum F_cs m_sum
    have A_cs : At P w K mg base "column_sum" 1 ["rows", "column"] (spColSum K) := at_mk X G a_cs F_cs G_cs b_cs
    have G_si : FnOk P w K mg base CX0 3 f_si fd_si ["demands", "shelf_life", "plan", "is_newest_first"] (spSim K) := ok_sim F_si A_dr A_cs m_len m_range m_list
    have A_si : At P w K mg base "simulated" 3 ["demands", "shelf_life", "plan", "is_newest_first"] (spSim K) := at_mk X G a_si F_si G_si b_si
    have G_pc : FnOk P w K mg base CX0 3 f_pc fd_pc ["demands", "shelf_life", "setup_cost", "holding_cost", "plan"] (spPlanCost K) := ok_plancost F_pc A_dr A_cs A_bd m_sum m_int
    have A_pc : At P w K mg base "plan_cost" 3 ["demands", "shelf_life", "setup_cost", "holding_cost", "plan"] (spPlanCost K) := at_mk X G a_pc F_pc G_pc b_pc
    have G_ol : FnOk P w K mg base CX0 5 f_ol fd_ol ["bakery", "demands", "shelf_life"] (spOwnLow K C) := ok_ownlow F_ol T A_lc
    have A_ol : At P w K mg base "own_lowest_cost" 5 ["bakery", "demands", "shelf_life"] (spOwnLow K C) := at_mk X G a_ol F_ol G_ol b_ol
    have G_ob : FnOk P w K mg base CX0 5 f_ob fd_ob ["bakery"] (spOwnBest K C) := ok_ownbest F_ob T A_bp
    have A_ob : At P w K mg base "own_best_plan" 5 ["bakery"] (spOwnBest K C) := at_mk X G a_ob F_ob G_ob b_ob
    have G_d1 : FnOk P w K mg base CX0 4 f_d1 fd_d1 ["bakery", "numbers", "row"] (spD K C 1) := ok_d1 F_d1 T A_de A_wi
    have A_d1 : At P w K mg base "set_demand" 4 ["bakery", "numbers", "row"] (spD K C 1) := at_mk X G a_d1 F_d1 G_d1 b_d1
    have G_d2 : FnOk P w K mg base CX0 3 f_d2 fd_d2 ["bakery", "numbers", "row"] (spD K C 2) := ok_d2 F_d2 T A_fd m_list m_sum c_MOST_DEMAND c_OUTSIDE
    have A_d2 : At P w K mg base "set_demands" 3 ["bakery", "numbers", "row"] (spD K C 2) := at_mk X G a_d2 F_d2 G_d2 b_d2
    have G_d3 : FnOk P w K mg base CX0 3 f_d3 fd_d3 ["bakery", "numbers", "row"] (spD K C 3) := ok_d3 F_d3 T A_ws c_OUTSIDE
    have A_d3 : At P w K mg base "set_shelf_life" 3 ["bakery", "numbers", "row"] (spD K C 3) := at_mk X G a_d3 F_d3 G_d3 b_d3
    have G_d4 : FnOk P w K mg base CX0 3 f_d4 fd_d4 ["bakery", "numbers", "row"] (spD K C 4) := ok_d4 F_d4 T A_wu c_OUTSIDE
    have A_d4 : At P w K mg base "set_setup_cost" 3 ["bakery", "numbers", "row"] (spD K C 4) := at_mk X G a_d4 F_d4 G_d4 b_d4
    have G_d5 : FnOk P w K mg base CX0 3 f_d5 fd_d5 ["bakery", "numbers", "row"] (spD K C 5) := ok_d5 F_d5 T A_wh c_OUTSIDE
    have A_d5 : At P w K mg base "set_holding_cost" 3 ["bakery", "numbers", "row"] (spD K C 5) := at_mk X G a_d5 F_d5 G_d5 b_d5
    have G_d6 : FnOk P w K mg base CX0 6 f_d6 fd_d6 ["bakery", "numbers", "row"] (spD K C 6) := ok_d6 F_d6 T A_ol
    have A_d6 : At P w K mg base "tell_min_cost" 6 ["bakery", "numbers", "row"] (spD K C 6) := at_mk X G a_d6 F_d6 G_d6 b_d6
    have G_d7 : FnOk P w K mg base CX0 6 f_d7 fd_d7 ["bakery", "numbers", "row"] (spD K C 7) := ok_d7 F_d7 T A_ol A_ob
    have A_d7 : At P w K mg base "tell_best_plan" 6 ["bakery", "numbers", "row"] (spD K C 7) := at_mk X G a_d7 F_d7 G_d7 b_d7
    have G_d8 : FnOk P w K mg base CX0 4 f_d8 fd_d8 ["bakery", "numbers", "row"] (spD K C 8) := ok_d8 F_d8 T A_fd A_pc c_MOST_LOAVES c_OUTSIDE
    have A_d8 : At P w K mg base "tell_plan_cost" 4 ["bakery", "numbers", "row"] (spD K C 8) := at_mk X G a_d8 F_d8 G_d8 b_d8
    have G_d9 : FnOk P w K mg base CX0 4 f_d9 fd_d9 ["bakery", "numbers", "row"] (spD K C 9) := ok_d9 F_d9 T A_fd A_si c_MOST_LOAVES c_OUTSIDE
    have A_d9 : At P w K mg base "tell_simulated" 4 ["bakery", "numbers", "row"] (spD K C 9) := at_mk X G a_d9 F_d9 G_d9 b_d9
    have G_d10 : FnOk P w K mg base CX0 4 f_d10 fd_d10 ["bakery", "numbers", "row"] (spD K C 10) := ok_d10 F_d10 T A_fd A_si c_MOST_LOAVES c_OUTSIDE
    have A_d10 : At P w K mg base "tell_newest_first" 4 ["bakery", "numbers", "row"] (spD K C 10) := at_mk X G a_d10 F_d10 G_d10 b_d10
    have G_d11 : FnOk P w K mg base CX0 6 f_d11 fd_d11 ["bakery", "numbers", "row"] (spD K C 11) := ok_d11 F_d11 T A_de A_wi A_ol
    have A_d11 : At P w K mg base "tell_if_demand" 6 ["bakery", "numbers", "row"] (spD K C 11) := at_mk X G a_d11 F_d11 G_d11 b_d11
    have G_d12 : FnOk P w K mg base CX0 6 f_d12 fd_d12 ["bakery", "numbers", "row"] (spD K C 12) := ok_d12 F_d12 T A_ws A_ol c_OUTSIDE
    have A_d12 : At P w K mg base "tell_if_shelf_life" 6 ["bakery", "numbers", "row"] (spD K C 12) := at_mk X G a_d12 F_d12 G_d12 b_d12
    have G_d13 : FnOk P w K mg base CX0 6 f_d13 fd_d13 ["bakery", "numbers", "row"] (spD K C 13) := ok_d13 F_d13 T A_bd A_ob
    have A_d13 : At P w K mg base "tell_setup_count" 6 ["bakery", "numbers", "row"] (spD K C 13) := at_mk X G a_d13 F_d13 G_d13 b_d13
    have G_d14 : FnOk P w K mg base CX0 1 f_d14 fd_d14 ["bakery", "numbers", "row"] (spD K C 14) := ok_d14 F_d14 T m_sum
    have A_d14 : At P w K mg base "tell_total" 1 ["bakery", "numbers", "row"] (spD K C 14) := at_mk X G a_d14 F_d14 G_d14 b_d14
    have G_d15 : FnOk P w K mg base CX0 1 f_d15 fd_d15 ["bakery", "numbers", "row"] (spD K C 15) := ok_d15 F_d15 T m_len
    have A_d15 : At P w K mg base "describe" 1 ["bakery", "numbers", "row"] (spD K C 15) := at_mk X G a_d15 F_d15 G_d15 b_d15
    have deeds : ∀ (i : Int) (ns row : List Int) (c : Sr101.Call), Rec i ns row c → i ≠ 0 → ∃ f, IDct K dd i (.ref f) ∧ Held P w K mg base 6 f (spD K C i) := by
      intro i ns row c hr hi
      cases hr with
      | create => exact absurd rfl hi
      | setDemand => exact ⟨f_d1, ⟨es, n0, _, lD, kD, g_1, rfl⟩, held_mk F_d1 G_d1 b_d1 (by decide)⟩
      | setDemands => exact ⟨f_d2, ⟨es, n0, _, lD, kD, g_2, rfl⟩, held_mk F_d2 G_d2 b_d2 (by decide)⟩
      | setShelfLife => exact ⟨f_d3, ⟨es, n0, _, lD, kD, g_3, rfl⟩, held_mk F_d3 G_d3 b_d3 (by decide)⟩
      | setSetupCost => exact ⟨f_d4, ⟨es, n0, _, lD, kD, g_4, rfl⟩, held_mk F_d4 G_d4 b_d4 (by decide)⟩
      | setHoldingCost => exact ⟨f_d5, ⟨es, n0, _, lD, kD, g_5, rfl⟩, held_mk F_d5 G_d5 b_d5 (by decide)⟩
      | minCost => exact ⟨f_d6, ⟨es, n0, _, lD, kD, g_6, rfl⟩, held_mk F_d6 G_d6 b_d6 (by decide)⟩
      | bestPlan => exact ⟨f_d7, ⟨es, n0, _, lD, kD, g_7, rfl⟩, held_mk F_d7 G_d7 b_d7 (by decide)⟩
      | planCost => exact ⟨f_d8, ⟨es, n0, _, lD, kD, g_8, rfl⟩, held_mk F_d8 G_d8 b_d8 (by decide)⟩
      | simulate => exact ⟨f_d9, ⟨es, n0, _, lD, kD, g_9, rfl⟩, held_mk F_d9 G_d9 b_d9 (by decide)⟩
      | simulateNewest => exact ⟨f_d10, ⟨es, n0, _, lD, kD, g_10, rfl⟩, held_mk F_d10 G_d10 b_d10 (by decide)⟩
      | minCostIfDemand => exact ⟨f_d11, ⟨es, n0, _, lD, kD, g_11, rfl⟩, held_mk F_d11 G_d11 b_d11 (by decide)⟩
      | minCostIfShelfLife => exact ⟨f_d12, ⟨es, n0, _, lD, kD, g_12, rfl⟩, held_mk F_d12 G_d12 b_d12 (by decide)⟩
      | setupCount => exact ⟨f_d13, ⟨es, n0, _, lD, kD, g_13, rfl⟩, held_mk F_d13 G_d13 b_d13 (by decide)⟩
      | totalDemand => exact ⟨f_d14, ⟨es, n0, _, lD, kD, g_14, rfl⟩, held_mk F_d14 G_d14 b_d14 (by decide)⟩
      | describe => exact ⟨f_d15, ⟨es, n0, _, lD, kD, g_15, rfl⟩, held_mk F_d15 G_d15 b_d15 (by decide)⟩
    have G_ad : FnOk P w K mg base CX0 7 f_ad fd_ad ["bakery", "number", "numbers", "row"] (spAD K C) := ok_ansdeed F_ad g_DEEDS deeds
    have A_ad : At P w K mg base "answer_deed" 7 ["bakery", "number", "numbers", "row"] (spAD K C) := at_mk X G a_ad F_ad G_ad b_ad
    have G_rd : FnOk P w K mg base CX0 1 f_rd fd_rd ["calls"] (spRead K) := ok_read F_rd m_len g_NUMBERS g_WITH_LIST hN hW
    have A_rd : At P w K mg base "read_calls" 1 ["calls"] (spRead K) := at_mk X G a_rd F_rd G_rd b_rd
    exact ok_answers F_an A_rd A_nb A_ad m_len c_CREATE c_OUTSIDE c_NO_INSTANCE
end FL
open PySem PySem.W PyProof.Rows
set_option maxRecDepth 100000 in
set_option maxHeartbeats 8000000 in
theorem PySem.Challenge.cw_freshlotsworks_s01_answers_holds : PySem.Challenge.rw_freshlotsworks_s01_answers.Holds := by
  w_on; k_headS; (case hw => exact ⟨[.list [.int 6]], by decide +kernel, by decide +kernel⟩)
  k_fillS
  refine L2.walk_specK (r := PySem.Challenge.rw_freshlotsworks_s01_answers) (k := 8) (CX := L2.CX0) (ps := ["calls"]) (sp := FL.spAns) (by decide +kernel) rfl rfl ⟨rfl, by decide, by decide⟩ (fun w h Y => PySem.W.kIn_of Y) ?F ?S (fun _ _ _ _ z => z)
  case F =>
    intro w mg fa h Y KX G hmg
    refine' FL.all_mk KX G hmg ?a_w ?x_w ?a_ws ?x_ws ?a_wu ?x_wu ?a_wh ?x_wh ?a_wd ?x_wd ?a_fd ?x_fd ?a_nb ?x_nb ?a_de ?x_de ?a_wi ?x_wi ?a_sg ?x_sg ?a_bl ?x_bl ?a_br ?x_br ?a_lc ?x_lc ?a_bp ?x_bp ?a_bd ?x_bd ?a_so ?x_so ?a_ag ?x_ag ?a_dr ?x_dr ?a_cs ?x_cs ?a_si ?x_si ?a_pc ?x_pc ?a_ol ?x_ol ?a_ob ?x_ob ?a_d1 ?x_d1 ?a_d2 ?x_d2 ?a_d3 ?x_d3 ?a_d4 ?x_d4 ?a_d5 ?x_d5 ?a_d6 ?x_d6 ?a_d7 ?x_d7 ?a_d8 ?x_d8 ?a_d9 ?x_d9 ?a_d10 ?x_d10 ?a_d11 ?x_d11 ?a_d12 ?x_d12 ?a_d13 ?x_d13 ?a_d14 ?x_d14 ?a_d15 ?x_d15 ?a_ad ?x_ad ?a_rd ?x_rd ?a_an ?x_an ?aC ?a_in ?i_in ?x_in ?pg ?hd ?po ?sa ?mk ?kc ?nS ?nU ?nH ?nD ?k_MISSING ?k_NO_INSTANCE ?k_OUTSIDE ?k_MOST_DAYS ?k_MOST_SHELF_LIFE ?k_MOST_SETUP_COST ?k_MOST_HOLDING_COST ?k_MOST_DEMAND ?k_MOST_LOAVES ?k_CREATE ?b_len ?b_all ?b_list ?b_sum ?b_range ?b_min ?b_reversed ?b_int ?aD ?lD ?aNu ?lN ?aWi ?lW ?keys ?sN ?sW ?vN ?vW ?g_1 ?g_2 ?g_3 ?g_4 ?g_5 ?g_6 ?g_7 ?g_8 ?g_9 ?g_10 ?g_11 ?g_12 ?g_13 ?g_14 ?g_15
    (case a_w => k_is)
    (case x_w => (refine' FL.fun_at ?l ?c ?k; (case l => k_is); (case c => k_is); (case k => k_is)))
    (case a_ws => k_is)
    (case x_ws => (refine' FL.fun_at ?l ?c ?k; (case l => k_is); (case c => k_is); (case k => k_is)))
    (case a_wu => k_is)
    (case x_wu => (refine' FL.fun_at ?l ?c ?k; (case l => k_is); (case c => k_is); (case k => k_is)))
    (case a_wh => k_is)
    (case x_wh => (refine' FL.fun_at ?l ?c ?k; (case l => k_is); (case c => k_is); (case k => k_is)))
    (case a_wd => k_is)
    (case x_wd => (refine' FL.fun_at ?l ?c ?k; (case l => k_is); (case c => k_is); (case k => k_is)))
    (case a_fd => k_is)
    (case x_fd => (refine' FL.fun_at ?l ?c ?k; (case l => k_is); (case c => k_is); (case k => k_is)))
    (case a_nb => k_is)
    (case x_nb => (refine' FL.fun_at ?l ?c ?k; (case l => k_is); (case c => k_is); (case k => k_is)))
    (case a_de => k_is)
    (case x_de => (refine' FL.fun_at ?l ?c ?k; (case l => k_is); (case c => k_is); (case k => k_is)))
    (case a_wi => k_is)
    (case x_wi => (refine' FL.fun_at ?l ?c ?k; (case l => k_is); (case c => k_is); (case k => k_is)))
    (case a_sg => k_is)
    (case x_sg => (refine' FL.fun_at ?l ?c ?k; (case l => k_is); (case c => k_is); (case k => k_is)))
    (case a_bl => k_is)
    (case x_bl => (refine' FL.fun_at ?l ?c ?k; (case l => k_is); (case c => k_is); (case k => k_is)))
    (case a_br => k_is)
    (case x_br => (refine' FL.fun_at ?l ?c ?k; (case l => k_is); (case c => k_is); (case k => k_is)))
    (case a_lc => k_is)
    (case x_lc => (refine' FL.fun_at ?l ?c ?k; (case l => k_is); (case c => k_is); (case k => k_is)))
    (case a_bp => k_is)
    (case x_bp => (refine' FL.fun_at ?l ?c ?k; (case l => k_is); (case c => k_is); (case k => k_is)))
    (case a_bd => k_is)
    (case x_bd => (refine' FL.fun_at ?l ?c ?k; (case l => k_is); (case c => k_is); (case k => k_is)))
    (case a_so => k_is)
    (case x_so => (refine' FL.fun_at ?l ?c ?k; (case l => k_is); (case c => k_is); (case k => k_is)))
    (case a_ag => k_is)
    (case x_ag => (refine' FL.fun_at ?l ?c ?k; (case l => k_is); (case c => k_is); (case k => k_is)))
    (case a_dr => k_is)
    (case x_dr => (refine' FL.fun_at ?l ?c ?k; (case l => k_is); (case c => k_is); (case k => k_is)))
    (case a_cs => k_is)
    (case x_cs => (refine' FL.fun_at ?l ?c ?k; (case l => k_is); (case c => k_is); (case k => k_is)))
    (case a_si => k_is)
    (case x_si => (refine' FL.fun_at ?l ?c ?k; (case l => k_is); (case c => k_is); (case k => k_is)))
    (case a_pc => k_is)
    (case x_pc => (refine' FL.fun_at ?l ?c ?k; (case l => k_is); (case c => k_is); (case k => k_is)))
    (case a_ol => k_is)
    (case x_ol => (refine' FL.fun_at ?l ?c ?k; (case l => k_is); (case c => k_is); (case k => k_is)))
    (case a_ob => k_is)
    (case x_ob => (refine' FL.fun_at ?l ?c ?k; (case l => k_is); (case c => k_is); (case k => k_is)))
    (case a_d1 => k_is)
    (case x_d1 => (refine' FL.fun_at ?l ?c ?k; (case l => k_is); (case c => k_is); (case k => k_is)))
    (case a_d2 => k_is)
    (case x_d2 => (refine' FL.fun_at ?l ?c ?k; (case l => k_is); (case c => k_is); (case k => k_is)))
    (case a_d3 => k_is)
    (case x_d3 => (refine' FL.fun_at ?l ?c ?k; (case l => k_is); (case c => k_is); (case k => k_is)))
    (case a_d4 => k_is)
    (case x_d4 => (refine' FL.fun_at ?l ?c ?k; (case l => k_is); (case c => k_is); (case k => k_is)))
    (case a_d5 => k_is)
    (case x_d5 => (refine' FL.fun_at ?l ?c ?k; (case l => k_is); (case c => k_is); (case k => k_is)))
    (case a_d6 => k_is)
    (case x_d6 => (refine' FL.fun_at ?l ?c ?k; (case l => k_is); (case c => k_is); (case k => k_is)))
    (case a_d7 => k_is)
    (case x_d7 => (refine' FL.fun_at ?l ?c ?k; (case l => k_is); (case c => k_is); (case k => k_is)))
    (case a_d8 => k_is)
    (case x_d8 => (refine' FL.fun_at ?l ?c ?k; (case l => k_is); (case c => k_is); (case k => k_is)))
    (case a_d9 => k_is)
    (case x_d9 => (refine' FL.fun_at ?l ?c ?k; (case l => k_is); (case c => k_is); (case k => k_is)))
    (case a_d10 => k_is)
    (case x_d10 => (refine' FL.fun_at ?l ?c ?k; (case l => k_is); (case c => k_is); (case k => k_is)))
    (case a_d11 => k_is)
    (case x_d11 => (refine' FL.fun_at ?l ?c ?k; (case l => k_is); (case c => k_is); (case k => k_is)))
    (case a_d12 => k_is)
    (case x_d12 => (refine' FL.fun_at ?l ?c ?k; (case l => k_is); (case c => k_is); (case k => k_is)))
    (case a_d13 => k_is)
    (case x_d13 => (refine' FL.fun_at ?l ?c ?k; (case l => k_is); (case c => k_is); (case k => k_is)))
    (case a_d14 => k_is)
    (case x_d14 => (refine' FL.fun_at ?l ?c ?k; (case l => k_is); (case c => k_is); (case k => k_is)))
    (case a_d15 => k_is)
    (case x_d15 => (refine' FL.fun_at ?l ?c ?k; (case l => k_is); (case c => k_is); (case k => k_is)))
    (case a_ad => k_is)
    (case x_ad => (refine' FL.fun_at ?l ?c ?k; (case l => k_is); (case c => k_is); (case k => k_is)))
    (case a_rd => k_is)
    (case x_rd => (refine' FL.fun_at ?l ?c ?k; (case l => k_is); (case c => k_is); (case k => k_is)))
    (case a_an => k_is)
    (case x_an => (refine' FL.fun_at ?l ?c ?k; (case l => k_is); (case c => k_is); (case k => k_is)))
    (case aC => k_is)
    (case a_in => k_is)
    (case i_in => k_is)
    (case x_in => (refine' FL.fun_at ?l ?c ?k; (case l => k_is); (case c => k_is); (case k => k_is)))
    (case pg => k_is)
    (case hd => k_is)
    (case po => k_is)
    (case sa => k_is)
    (case mk => k_is)
    (case kc => k_is)
    (case nS => k_is)
    (case nU => k_is)
    (case nH => k_is)
    (case nD => k_is)
    (case k_MISSING => k_is)
    (case k_NO_INSTANCE => k_is)
    (case k_OUTSIDE => k_is)
    (case k_MOST_DAYS => k_is)
    (case k_MOST_SHELF_LIFE => k_is)
    (case k_MOST_SETUP_COST => k_is)
    (case k_MOST_HOLDING_COST => k_is)
    (case k_MOST_DEMAND => k_is)
    (case k_MOST_LOAVES => k_is)
    (case k_CREATE => k_is)
    (case b_len => k_is)
    (case b_all => k_is)
    (case b_list => k_is)
    (case b_sum => k_is)
    (case b_range => k_is)
    (case b_min => k_is)
    (case b_reversed => k_is)
    (case b_int => k_is)
    (case aD => k_is)
    (case lD => k_is)
    (case aNu => k_is)
    (case lN => k_is)
    (case aWi => k_is)
    (case lW => k_is)
    (case keys => decide +kernel)
    (case sN => decide)
    (case sW => decide)
    (case vN => (show L2.Vals [L2.V.int 4, L2.V.int 2, L2.V.int 0, L2.V.int 1, L2.V.int 1, L2.V.int 1, L2.V.int 0, L2.V.int 0, L2.V.int 0, L2.V.int 0, L2.V.int 0, L2.V.int 2, L2.V.int 1, L2.V.int 0, L2.V.int 0, L2.V.int 0] _; repeat (first | exact .nil | refine .cons ⟨_, rfl⟩ ?_)))
    (case vW => (show L2.Vals [L2.V.int 2, L2.V.int 8, L2.V.int 9, L2.V.int 10] _; repeat (first | exact .nil | refine .cons ⟨_, rfl⟩ ?_)))
    (case g_1 => rfl)
    (case g_2 => rfl)
    (case g_3 => rfl)
    (case g_4 => rfl)
    (case g_5 => rfl)
    (case g_6 => rfl)
    (case g_7 => rfl)
    (case g_8 => rfl)
    (case g_9 => rfl)
    (case g_10 => rfl)
    (case g_11 => rfl)
    (case g_12 => rfl)
    (case g_13 => rfl)
    (case g_14 => rfl)
    (case g_15 => rfl)
  case S =>
    intro K H xs a hO hwi hask hx
    cases hx with
    | cons h1 h2 =>
      cases h2
      cases h1 with
      | lst hs ha =>
        have e := L2.ints_dw a.1 _ ha
        subst e
        have q : (Codec.inLen 0 4320 a.1 && a.1.all (Codec.inInt (-2147483648) 2147483647) && true) = true := hwi
        rw [Bool.and_eq_true, Bool.and_eq_true] at q
        exact ⟨_, a.1, rfl, hs, (Codec.inNat_iff.mp q.1.1).2, hask, fun H' p hp => .lst (L2.SqL.of hp) (L2.dw_ints _)⟩
#print axioms PySem.Challenge.cw_freshlotsworks_s01_answers_holds
