import PyProof.Rows.All
import Wide.All
import OpenK.AllK
import Wide.FinOn
import PyProof.EqAt
import PyProof.EqKinds
import PyProof.TupleCall
import Open.SpecLaws
import KE.OsGo
import HandS.ForSpec
import HandS.Comp
import HandS.Iter
import HandS.Walk
import HandS.ExcInit
import HandS.ExcField
import PySem.Challenge.RW_framesgiven_s01_last
set_option Elab.async false
set_option linter.all false
set_option maxRecDepth 100000
set_option maxHeartbeats 4000000
/-! The plain law: no program in sight. -/
namespace Fg
open Kzd6

/-! ### sums -/
theorem foldl_add (l : List Nat) : ∀ a : Nat, l.foldl (· + ·) a = a + l.sum := by
  induction l with
  | nil => intro a; simp
  | cons x l ih => intro a; rw [List.foldl_cons, ih, List.sum_cons]; omega
theorem sum_is (l : List Nat) : Kzd1.sum l = l.sum := by
  unfold Kzd1.sum
  rw [foldl_add]; omega
theorem sum_cast (l : List Nat) : (l.map fun n : Nat => (n : Int)).sum = ((l.sum : Nat) : Int) := by
  induction l with
  | nil => rfl
  | cons x l ih => rw [List.map_cons, List.sum_cons, ih, List.sum_cons]; omega
theorem sum_filter (p : Nat → Bool) (g : Nat → Nat) (l : List Nat) : ((l.filter p).map g).sum = (l.map fun k => if p k = true then g k else 0).sum := by
  induction l with
  | nil => rfl
  | cons x l ih =>
    rw [List.filter_cons, List.map_cons, List.sum_cons]
    by_cases h : p x = true
    · rw [if_pos h, if_pos h, List.map_cons, List.sum_cons, ih]
    · rw [if_neg h, if_neg h, ih]; omega
theorem sum_pos_iff (l : List Nat) : l.sum = 0 ↔ ∀ x ∈ l, x = 0 := by
  induction l with
  | nil => simp
  | cons x l ih =>
    rw [List.sum_cons]
    constructor
    · intro h y hy
      rcases List.mem_cons.mp hy with e | e
      · omega
      · exact ih.mp (by omega) y e
    · intro h
      have h1 := h x (List.mem_cons_self ..)
      have h2 := ih.mpr fun y hy => h y (List.mem_cons_of_mem _ hy)
      omega
theorem zip_range {g : Nat → Nat → Nat} : ∀ (r f : List Nat), f.length = r.length → List.zipWith g r f = (List.range r.length).map fun k => g (r.getD k 0) (f.getD k 0)
  | [], [], _ => rfl
  | [], _ :: _, h => by simp at h
  | _ :: _, [], h => by simp at h
  | x :: r, y :: f, h => by
    have h' : f.length = r.length := by simpa using h
    rw [List.zipWith_cons_cons, zip_range r f h', List.length_cons, List.range_succ_eq_map, List.map_cons, List.map_map]
    rfl

/-! ### frames given to an order -/
/-- what the frames of an order spin, by places -/
def pick (r f : List Nat) (j n : Nat) : List Nat := ((List.range n).filter fun k => f.getD k 0 == j).map fun k => r.getD k 0
theorem pick_succ (r f : List Nat) (j n : Nat) : pick r f j (n + 1) = if f.getD n 0 = j then pick r f j n ++ [r.getD n 0] else pick r f j n := by
  unfold pick
  rw [List.range_succ, List.filter_append, List.map_append]
  by_cases h : f.getD n 0 = j
  · rw [if_pos h]
    have e : (f.getD n 0 == j) = true := by simpa using h
    simp only [List.filter_cons, List.filter_nil, e, if_true, List.map_cons, List.map_nil]
  · rw [if_neg h]
    have e : (f.getD n 0 == j) = false := by simpa using h
    simp only [List.filter_cons, List.filter_nil, e, Bool.false_eq_true, if_false, List.map_nil, List.append_nil]
theorem pick_length (r f : List Nat) (j n : Nat) : (pick r f j n).length ≤ n := by
  unfold pick
  rw [List.length_map]
  exact Nat.le_trans (List.length_filter_le _ _) (by simp)
theorem rate_pick {r f : List Nat} (h : f.length = r.length) (j : Nat) : rate r f j = (pick r f j r.length).sum := by
  unfold rate pick
  rw [sum_is, zip_range r f h, sum_filter]
  congr 1
  apply List.map_congr_left
  intro k _
  by_cases e : f.getD k 0 = j
  · simp
  · simp
theorem frames_le {r : List Nat} (h : okFrames r = true) : r.length ≤ 6 ∧ ∀ x ∈ r, 1 ≤ x ∧ x ≤ 1000 := by
  unfold okFrames at h
  simp only [Bool.and_eq_true, decide_eq_true_eq, List.all_eq_true] at h
  exact h
theorem orders_le {q : List Nat} (h : okOrders q = true) : q.length ≤ 4 ∧ ∀ x ∈ q, 1 ≤ x ∧ x ≤ 10000 := by
  unfold okOrders at h
  simp only [Bool.and_eq_true, decide_eq_true_eq, List.all_eq_true] at h
  exact h
theorem getD_mem {l : List Nat} {k : Nat} (h : k < l.length) : l.getD k 0 ∈ l := by
  rw [List.getD_eq_getElem?_getD, List.getElem?_eq_getElem h]
  exact List.getElem_mem h
theorem rate_zero {r f : List Nat} (hr : ∀ x ∈ r, 1 ≤ x) (h : f.length = r.length) (j : Nat) : rate r f j = 0 ↔ j ∉ f := by
  rw [rate_pick h, sum_pos_iff]
  constructor
  · intro z hj
    obtain ⟨k, hk, e⟩ := List.getElem_of_mem hj
    have hk' : k < r.length := by omega
    have e1 : f.getD k 0 = j := by rw [List.getD_eq_getElem?_getD, List.getElem?_eq_getElem hk]; exact e
    have m : r.getD k 0 ∈ pick r f j r.length := by
      unfold pick
      exact List.mem_map.mpr ⟨k, List.mem_filter.mpr ⟨List.mem_range.mpr hk', by simpa using e1⟩, rfl⟩
    have z1 := z _ m
    have z2 := hr _ (getD_mem hk')
    omega
  · intro hj x hx
    unfold pick at hx
    obtain ⟨k, hk, e⟩ := List.mem_map.mp hx
    obtain ⟨h1, h2⟩ := List.mem_filter.mp hk
    have h3 : k < r.length := List.mem_range.mp h1
    have h4 : f.getD k 0 = j := by simpa using h2
    exact absurd (h4 ▸ getD_mem (l := f) (k := k) (by omega)) hj
theorem sum_le (c : Nat) : ∀ l : List Nat, (∀ x ∈ l, x ≤ c) → l.sum ≤ c * l.length
  | [], _ => by simp
  | x :: l, h => by
    have h1 := h x (List.mem_cons_self ..)
    have h2 := sum_le c l fun y hy => h y (List.mem_cons_of_mem _ hy)
    rw [List.sum_cons, List.length_cons, Nat.mul_succ]
    omega
theorem rate_le {r f : List Nat} (hr : ∀ x ∈ r, x ≤ 1000) (hl : r.length ≤ 1000) (h : f.length = r.length) (j : Nat) : rate r f j ≤ 1000000 := by
  rw [rate_pick h]
  have h1 : ∀ x ∈ pick r f j r.length, x ≤ 1000 := fun x hx => by
    unfold pick at hx
    obtain ⟨k, hk, e⟩ := List.mem_map.mp hx
    have h3 : k < r.length := List.mem_range.mp (List.mem_filter.mp hk).1
    rw [← e]
    exact hr _ (getD_mem h3)
  have h2 := sum_le 1000 _ h1
  have h3 := pick_length r f j r.length
  omega

/-! ### days -/
def hasF (q f : List Nat) : Bool := (List.range q.length).all fun j => f.contains j
def dayN (q r f : List Nat) (j : Nat) : Nat := (q.getD j 0 + rate r f j - 1) / rate r f j
def dn (q r f : List Nat) : List Nat := (List.range q.length).map (dayN q r f)
def lastN (q r f : List Nat) : Nat := (dn q r f).foldl max 0
theorem dn_length (q r f : List Nat) : (dn q r f).length = q.length := by unfold dn; simp
theorem allDays_has {q r f : List Nat} (hr : ∀ x ∈ r, 1 ≤ x) (h : f.length = r.length) (hf : hasF q f = true) : allDays q r f = (dn q r f).map some := by
  unfold allDays dn
  rw [List.map_map]
  apply List.map_congr_left
  intro j hj
  unfold hasF at hf
  have h1 := List.all_eq_true.mp hf j hj
  have h2 : j ∈ f := by simpa using h1
  have h3 : rate r f j ≠ 0 := fun z => (rate_zero hr h j).mp z h2
  unfold days dayN
  rw [if_neg h3]
  rfl
theorem fold_some : ∀ (l : List Nat) (a : Nat), (l.map some).foldl (fun a b => match a, b with
  | some x, some y => some (max x y)
  | _, _ => none) (some a) = some (l.foldl max a)
  | [], _ => rfl
  | x :: l, a => by
    rw [List.map_cons, List.foldl_cons, List.foldl_cons]
    exact fold_some l (max a x)
theorem fold_none : ∀ (l : List (Option Nat)), l.foldl (fun a b => match a, b with
  | some x, some y => some (max x y)
  | _, _ => none) (none : Option Nat) = none
  | [] => rfl
  | _ :: l => by
    rw [List.foldl_cons]
    exact fold_none l
theorem fold_none_mem : ∀ (l : List (Option Nat)) (a : Option Nat), none ∈ l → l.foldl (fun a b => match a, b with
  | some x, some y => some (max x y)
  | _, _ => none) a = none
  | [], _, h => by simp at h
  | none :: l, a, _ => by
    rw [List.foldl_cons]
    have e : (match a, (none : Option Nat) with
      | some x, some y => some (max x y)
      | _, _ => none) = none := by cases a <;> rfl
    rw [e]
    exact fold_none l
  | some y :: l, a, h => by
    rw [List.foldl_cons]
    refine fold_none_mem l _ ?_
    rcases List.mem_cons.mp h with e | e
    · cases e
    · exact e
theorem last_has {q r f : List Nat} (hr : ∀ x ∈ r, 1 ≤ x) (h : f.length = r.length) (hf : hasF q f = true) : last q r f = some (lastN q r f) := by
  unfold last lastN
  rw [allDays_has hr h hf]
  exact fold_some _ 0
theorem last_hasnt {q r f : List Nat} (hr : ∀ x ∈ r, 1 ≤ x) (h : f.length = r.length) (hf : hasF q f = false) : last q r f = none := by
  unfold last
  refine fold_none_mem _ _ ?_
  have h1 : ¬ (List.range q.length).all (fun j => f.contains j) = true := by
    unfold hasF at hf
    rw [hf]
    exact Bool.false_ne_true
  rw [List.all_eq_true] at h1
  obtain ⟨j, hj⟩ := Classical.not_forall.mp h1
  obtain ⟨hj1, hj2⟩ := Classical.not_imp.mp hj
  unfold allDays
  refine List.mem_map.mpr ⟨j, hj1, ?_⟩
  have h3 : rate r f j = 0 := (rate_zero hr h j).mpr (by simpa using hj2)
  unfold days
  rw [if_pos h3]
theorem last_some {q r f : List Nat} (hr : ∀ x ∈ r, 1 ≤ x) (h : f.length = r.length) : last q r f = if hasF q f = true then some (lastN q r f) else none := by
  by_cases e : hasF q f = true
  · rw [if_pos e]
    exact last_has hr h e
  · rw [if_neg e]
    exact last_hasnt hr h (by simpa using e)

/-! ### the greatest -/
theorem foldl_max : ∀ (l : List Nat) (a : Nat), a ≤ l.foldl max a ∧ (∀ x ∈ l, x ≤ l.foldl max a) ∧ (l.foldl max a = a ∨ l.foldl max a ∈ l)
  | [], a => ⟨Nat.le_refl _, fun _ h => by simp at h, .inl rfl⟩
  | x :: l, a => by
    obtain ⟨h1, h2, h3⟩ := foldl_max l (max a x)
    rw [List.foldl_cons]
    refine ⟨by omega, fun y hy => ?_, ?_⟩
    · rcases List.mem_cons.mp hy with e | e
      · rw [e]; omega
      · exact h2 y e
    · rcases h3 with e | e
      · rw [e]
        by_cases c : x ≤ a
        · exact .inl (by omega)
        · exact .inr (by rw [show max a x = x by omega]; exact List.mem_cons_self ..)
      · exact .inr (List.mem_cons_of_mem _ e)
theorem max_is {l : List Nat} {m : Int} (hm : m ∈ (0 :: l.map fun n : Nat => (n : Int))) (hle : ∀ y ∈ (0 :: l.map fun n : Nat => (n : Int)), y ≤ m) : m = ((l.foldl max 0 : Nat) : Int) := by
  obtain ⟨h1, h2, h3⟩ := foldl_max l 0
  have u : ((l.foldl max 0 : Nat) : Int) ≤ m := by
    rcases h3 with e | e
    · rw [e]; exact hle _ (List.mem_cons_self ..)
    · exact hle _ (List.mem_cons_of_mem _ (List.mem_map.mpr ⟨_, e, rfl⟩))
  have v : m ≤ ((l.foldl max 0 : Nat) : Int) := by
    rcases List.mem_cons.mp hm with e | e
    · rw [e]; omega
    · obtain ⟨x, hx, e⟩ := List.mem_map.mp e
      rw [← e]
      have := h2 x hx
      omega
  omega

/-! ### the statements, by cases -/
def castN (l : List Nat) : List Int := l.map fun n : Nat => (n : Int)
theorem nats_cast (l : List Nat) : Kzd6Neutral.natsOf (castN l) = l := by
  unfold Kzd6Neutral.natsOf castN
  rw [List.map_map]
  conv => rhs; rw [← List.map_id l]
  apply List.map_congr_left
  intro x _
  simp
theorem cast_of {l : List Int} (h : ∀ x ∈ l, 0 ≤ x) : l = castN (l.map Int.toNat) := by
  unfold castN
  rw [List.map_map]
  conv => lhs; rw [← List.map_id l]
  apply List.map_congr_left
  intro x hx
  have := h x hx
  simp only [id_eq, Function.comp_apply]
  omega
theorem ints_cast (l : List Nat) : Kzd6Neutral.ints l = castN l := rfl
theorem last_eq (q r f : List Nat) : PyKzd6.last (castN q) (castN r) (castN f) = (answer (.last q r f)).value :: castN (answer (.last q r f)).nums := by
  show (answer (.last (Kzd6Neutral.natsOf (castN q)) (Kzd6Neutral.natsOf (castN r)) (Kzd6Neutral.natsOf (castN f)))).value :: Kzd6Neutral.ints _ = _
  rw [nats_cast, nats_cast, nats_cast]
  rfl
theorem best_eq (q r : List Nat) : PyKzd6.best (castN q) (castN r) = (answer (.best q r)).value :: castN (answer (.best q r)).nums := by
  show (answer (.best (Kzd6Neutral.natsOf (castN q)) (Kzd6Neutral.natsOf (castN r)))).value :: Kzd6Neutral.ints _ = _
  rw [nats_cast, nats_cast]
  rfl
theorem fewest_eq (x d : Nat) (r : List Nat) : PyKzd6.fewest (x : Int) (d : Int) (castN r) = (answer (.fewest x d r)).value :: castN (answer (.fewest x d r)).nums := by
  show (answer (.fewest (x : Int).toNat (d : Int).toNat (Kzd6Neutral.natsOf (castN r)))).value :: Kzd6Neutral.ints _ = _
  rw [nats_cast]
  rfl
/-- last: what is due, by cases -/
def lastAns (q r f : List Nat) : List Int :=
  if okOrders q = false ∨ okFrames r = false ∨ okGiven q r f = false then [-22] else if hasF q f = true then castN (lastN q r f :: dn q r f) else [-33]
theorem given_len {q r f : List Nat} (h : okGiven q r f = true) : f.length = r.length ∧ ∀ j ∈ f, j < q.length := by
  unfold okGiven at h
  simpa using h
theorem last_ans (q r f : List Nat) : PyKzd6.last (castN q) (castN r) (castN f) = lastAns q r f := by
  rw [last_eq]
  unfold lastAns answer
  dsimp only
  by_cases c : okOrders q = false ∨ okFrames r = false ∨ okGiven q r f = false
  · rw [if_pos c, if_pos c]
    rfl
  · rw [if_neg c, if_neg c]
    have cr : okFrames r = true := by
      cases e : okFrames r with
      | true => rfl
      | false => exact absurd (.inr (.inl e)) c
    have cg : okGiven q r f = true := by
      cases e : okGiven q r f with
      | true => rfl
      | false => exact absurd (.inr (.inr e)) c
    have hr : ∀ x ∈ r, 1 ≤ x := fun x hx => ((frames_le cr).2 x hx).1
    rw [last_some hr (given_len cg).1]
    by_cases e : hasF q f = true
    · rw [if_pos e, if_pos e]
      dsimp only
      rw [allDays_has hr (given_len cg).1 e, List.map_map]
      show ((lastN q r f : Nat) : Int) :: castN ((dn q r f).map _) = castN (lastN q r f :: dn q r f)
      have e2 : (dn q r f).map ((fun x : Option Nat => x.getD 0) ∘ some) = dn q r f := by
        conv => rhs; rw [← List.map_id (dn q r f)]
        rfl
      rw [e2]
      rfl
    · rw [if_neg e, if_neg e]
      rfl

/-! ### ways -/
theorem ways_succ (m : Nat) : ∀ n : Nat, waysOn m (n + 1) = (waysOn m n).flatMap fun w => (List.range m).map fun j => w ++ [j]
  | 0 => by
    show (List.range m).flatMap (fun j => [[]].map (j :: ·)) = [[]].flatMap fun w => (List.range m).map fun j => w ++ [j]
    simp
    induction List.range m with
    | nil => rfl
    | cons x l ih => simpa using ih
  | n + 1 => by
    have ih := ways_succ m n
    show (List.range m).flatMap (fun j => (waysOn m (n + 1)).map (j :: ·)) = ((List.range m).flatMap (fun j => (waysOn m n).map (j :: ·))).flatMap fun w => (List.range m).map fun j => w ++ [j]
    rw [ih, List.flatMap_assoc]
    congr 1
    funext j
    rw [List.map_flatMap, List.flatMap_map]
    congr 1
    funext w
    rw [List.map_map]
    rfl
theorem ways_length (m : Nat) : ∀ n : Nat, (waysOn m n).length = m ^ n
  | 0 => rfl
  | n + 1 => by
    rw [ways_succ, List.length_flatMap]
    have e : (fun w : List Nat => ((List.range m).map fun j => w ++ [j]).length) = fun _ => m := by funext w; simp
    rw [e, Nat.pow_succ, ← ways_length m n]
    induction waysOn m n with
    | nil => simp
    | cons x l ih => rw [List.map_cons, List.sum_cons, ih, List.length_cons, Nat.succ_mul]; omega
theorem ways_mem (m : Nat) : ∀ (n : Nat) (w : List Nat), w ∈ waysOn m n → w.length = n
  | 0, w, h => by
    have e : w ∈ ([[]] : List (List Nat)) := h
    simp at e
    rw [e]
    rfl
  | n + 1, w, h => by
    have h' : w ∈ (List.range m).flatMap fun j => (waysOn m n).map (j :: ·) := h
    obtain ⟨j, _, h2⟩ := List.mem_flatMap.mp h'
    obtain ⟨v, h3, e⟩ := List.mem_map.mp h2
    rw [← e, List.length_cons, ways_mem m n v h3]
/-- of two ways the sooner one, the first of like ones -/
def sooN (q r : List Nat) (g f : List Nat) : List Nat := if lastN q r f < lastN q r g then f else g
def fullW (q r : List Nat) : List (List Nat) := (waysOn q.length r.length).filter (hasF q)
theorem best_some {q r : List Nat} (hr : ∀ x ∈ r, 1 ≤ x) : ∀ (ws : List (List Nat)) (g : List Nat), (∀ w ∈ ws, w.length = r.length) → g.length = r.length → hasF q g = true →
    ws.foldl (fun b f => match b with
      | none => if (last q r f).isSome then some f else none
      | some g => if sooner (last q r f) (last q r g) then some f else some g) (some g) = some ((ws.filter (hasF q)).foldl (sooN q r) g)
  | [], _, _, _, _ => rfl
  | w :: ws, g, hw, hg, hgf => by
    have hwl := hw w (List.mem_cons_self ..)
    have hw' : ∀ v ∈ ws, v.length = r.length := fun v hv => hw v (List.mem_cons_of_mem _ hv)
    rw [List.foldl_cons, List.filter_cons]
    dsimp only
    rw [last_some hr hg, if_pos hgf, last_some hr hwl]
    by_cases c : hasF q w = true
    · rw [if_pos c, if_pos c, List.foldl_cons]
      show List.foldl _ (if decide (lastN q r w < lastN q r g) = true then some w else some g) ws = _
      by_cases d : lastN q r w < lastN q r g
      · rw [if_pos (decide_eq_true d)]
        have e : sooN q r g w = w := if_pos d
        rw [e]
        exact best_some hr ws w hw' hwl c
      · rw [if_neg (by simpa using d)]
        have e : sooN q r g w = g := if_neg d
        rw [e]
        exact best_some hr ws g hw' hg hgf
    · rw [if_neg c, if_neg c]
      show List.foldl _ (if false = true then some w else some g) ws = _
      rw [if_neg Bool.false_ne_true]
      exact best_some hr ws g hw' hg hgf
theorem best_none {q r : List Nat} (hr : ∀ x ∈ r, 1 ≤ x) : ∀ (ws : List (List Nat)), (∀ w ∈ ws, w.length = r.length) →
    ws.foldl (fun b f => match b with
      | none => if (last q r f).isSome then some f else none
      | some g => if sooner (last q r f) (last q r g) then some f else some g) none = match ws.filter (hasF q) with
        | [] => none
        | w :: l => some (l.foldl (sooN q r) w)
  | [], _ => rfl
  | w :: ws, hw => by
    have hwl := hw w (List.mem_cons_self ..)
    have hw' : ∀ v ∈ ws, v.length = r.length := fun v hv => hw v (List.mem_cons_of_mem _ hv)
    rw [List.foldl_cons, List.filter_cons]
    dsimp only
    rw [last_some hr hwl]
    by_cases c : hasF q w = true
    · rw [if_pos c, if_pos c, if_pos (show (some (lastN q r w)).isSome = true from rfl), best_some hr ws w hw' hwl c]
    · rw [if_neg c, if_neg c, if_neg (by simp), best_none hr ws hw']
def bestW (q r : List Nat) : Option (List Nat) := match fullW q r with
  | [] => none
  | w :: l => some (l.foldl (sooN q r) w)
theorem best_is {q r : List Nat} (hr : ∀ x ∈ r, 1 ≤ x) : best q r = bestW q r := by
  unfold best bestW fullW
  exact best_none hr _ fun w hw => ways_mem _ _ w hw
theorem full_mem {q r w : List Nat} (h : w ∈ fullW q r) : w.length = r.length ∧ hasF q w = true := by
  unfold fullW at h
  obtain ⟨h1, h2⟩ := List.mem_filter.mp h
  exact ⟨ways_mem _ _ w h1, h2⟩
theorem soo_mem {q r : List Nat} : ∀ (l : List (List Nat)) (w : List Nat), l.foldl (sooN q r) w = w ∨ l.foldl (sooN q r) w ∈ l
  | [], _ => .inl rfl
  | v :: l, w => by
    rw [List.foldl_cons]
    rcases soo_mem l (sooN q r w v) with e | e
    · rw [e]
      unfold sooN
      by_cases c : lastN q r v < lastN q r w
      · rw [if_pos c]; exact .inr (List.mem_cons_self ..)
      · rw [if_neg c]; exact .inl rfl
    · exact .inr (List.mem_cons_of_mem _ e)
def bestAns (q r : List Nat) : List Int :=
  if okOrders q = false ∨ okFrames r = false then [-22] else match fullW q r with
    | [] => [-33]
    | w :: l => castN (lastN q r (l.foldl (sooN q r) w) :: l.foldl (sooN q r) w)
theorem best_ans (q r : List Nat) : PyKzd6.best (castN q) (castN r) = bestAns q r := by
  rw [best_eq]
  unfold bestAns answer
  dsimp only
  by_cases c : okOrders q = false ∨ okFrames r = false
  · rw [if_pos c, if_pos c]
    rfl
  · rw [if_neg c, if_neg c]
    have cr : okFrames r = true := by
      cases e : okFrames r with
      | true => rfl
      | false => exact absurd (.inr e) c
    have hr : ∀ x ∈ r, 1 ≤ x := fun x hx => ((frames_le cr).2 x hx).1
    rw [best_is hr]
    unfold bestW
    cases e : fullW q r with
    | nil => rfl
    | cons w l =>
      dsimp only
      have hm : l.foldl (sooN q r) w ∈ fullW q r := by
        rw [e]
        rcases soo_mem (q := q) (r := r) l w with z | z
        · rw [z]; exact List.mem_cons_self ..
        · exact List.mem_cons_of_mem _ z
      obtain ⟨h1, h2⟩ := full_mem hm
      rw [last_has hr h1 h2]
      rfl

/-! ### sets of frames -/
def mem (m n : Nat) : List Nat := (List.range n).filter (has m)
theorem mem_succ (m n : Nat) : mem m (n + 1) = if m / 2 ^ n % 2 = 1 then mem m n ++ [n] else mem m n := by
  unfold mem
  rw [List.range_succ, List.filter_append]
  by_cases h : m / 2 ^ n % 2 = 1
  · rw [if_pos h]
    have e : has m n = true := by unfold has; simpa using h
    simp only [List.filter_cons, List.filter_nil, e, if_true]
  · rw [if_neg h]
    have e : has m n = false := by unfold has; simpa using h
    simp only [List.filter_cons, List.filter_nil, e, Bool.false_eq_true, if_false, List.append_nil]
theorem mem_length (m n : Nat) : (mem m n).length ≤ n := by
  unfold mem
  exact Nat.le_trans (List.length_filter_le _ _) (by simp)
theorem mem_lt {m n k : Nat} (h : k ∈ mem m n) : k < n := by
  unfold mem at h
  exact List.mem_range.mp (List.mem_filter.mp h).1
theorem div_succ (m n : Nat) : m / 2 ^ n / 2 = m / 2 ^ (n + 1) := by rw [Nat.div_div_eq_div_mul, Nat.pow_succ]
/-- one turn -/
def fewStep (x d : Nat) (r : List Nat) (b : Option Nat) (m : Nat) : Option Nat := if rateOf r m * d < x then b else match b with
  | none => some m
  | some k => if size r m < size r k then some m else b
def fewN (x d : Nat) (r : List Nat) (n : Nat) : Option Nat := (List.range n).foldl (fewStep x d r) none
theorem few_succ (x d : Nat) (r : List Nat) (n : Nat) : fewN x d r (n + 1) = fewStep x d r (fewN x d r n) n := by
  unfold fewN
  rw [List.range_succ, List.foldl_append]
  rfl
theorem fewest_is (x d : Nat) (r : List Nat) : fewest x d r = fewN x d r (2 ^ r.length) := rfl
def fewAns (x d : Nat) (r : List Nat) : List Int :=
  if x < 1 ∨ 10000 < x ∨ 1000 < d ∨ okFrames r = false then [-22] else match fewN x d r (2 ^ r.length) with
    | none => [-33]
    | some m => castN [size r m, m]
theorem few_ans (x d : Nat) (r : List Nat) : PyKzd6.fewest (x : Int) (d : Int) (castN r) = fewAns x d r := by
  rw [fewest_eq]
  unfold fewAns answer
  dsimp only
  by_cases c : x < 1 ∨ 10000 < x ∨ 1000 < d ∨ okFrames r = false
  · rw [if_pos c, if_pos c]
    rfl
  · rw [if_neg c, if_neg c, fewest_is]
    cases fewN x d r (2 ^ r.length) with
    | none => rfl
    | some m => rfl
theorem rateOf_is (r : List Nat) (m : Nat) : rateOf r m = ((mem m r.length).map fun i => r.getD i 0).sum := by
  unfold rateOf mem
  rw [sum_is]
theorem size_is (r : List Nat) (m : Nat) : size r m = (mem m r.length).length := rfl
end Fg
/-! ### What all three calls share: the refusal, want, are_from, want_frames -/
namespace Fg
open PySem PySem.Spec PyProof.Rows L2
open PySem.W (Codec)
/-- whole numbers as values -/
def nv (l : List Nat) : List V := (castN l).map V.int
theorem cast_length (l : List Nat) : (castN l).length = l.length := by unfold castN; rw [List.length_map]
theorem nv_length (l : List Nat) : (nv l).length = l.length := by unfold nv; rw [List.length_map, cast_length]
theorem nv_get {l : List Nat} {i : Nat} {x : V} (h : (nv l)[i]? = some x) : ∃ n : Nat, l[i]? = some n ∧ x = V.int (n : Int) := by
  unfold nv castN at h
  rw [List.map_map, List.getElem?_map] at h
  cases e : l[i]? with
  | none => rw [e] at h; cases h
  | some n =>
    rw [e] at h
    exact ⟨n, rfl, (Option.some.inj h).symm⟩
theorem nv_at {l : List Nat} {i : Nat} (h : i < l.length) : (nv l)[i]? = some (V.int ((l.getD i 0 : Nat) : Int)) := by
  unfold nv castN
  rw [List.map_map, List.getElem?_map, List.getD_eq_getElem?_getD, List.getElem?_eq_getElem h]
  rfl
theorem nv_append (l m : List Nat) : nv (l ++ m) = nv l ++ nv m := by unfold nv castN; rw [List.map_append, List.map_append]
theorem nv_one (n : Nat) : nv [n] = [V.int (n : Int)] := rfl
theorem take_more {α : Type} {l : List α} {i : Nat} {x : α} (h : l[i]? = some x) : l.take (i + 1) = l.take i ++ [x] := by
  rw [List.take_add_one, h]
  rfl
theorem lt_of_get {α : Type} {l : List α} {i : Nat} {x : α} (h : l[i]? = some x) : i < l.length := (List.getElem?_eq_some_iff.mp h).1
theorem getD_of {l : List Nat} {i n : Nat} (h : l[i]? = some n) : l.getD i 0 = n := by
  rw [List.getD_eq_getElem?_getD, h]
  rfl
theorem same_upd {H H' : Hp} {p : Addr} {o : HO} (s : Same H H') (n : H p = none) : Same H (upd H' p o) := fun b u e => by
  rw [upd_ne (ne_of_none e n)]
  exact s b u e
theorem size_small {n : Nat} (h : n ≤ 1000000) : n < sizeLine := by rw [sizeLine_eq]; omega
theorem size_small' {n : Nat} (h : n ≤ 1000000) : n ≤ sizeLine := Nat.le_of_lt (size_small h)
/-- an if whose test is known -/
theorem if_true_of {c : Bool} {A B : Prop} (hc : c = true) (h : A) : if c = true then A else B := by
  rw [if_pos hc]
  exact h
theorem if_false_of {c : Bool} {A B : Prop} (hc : c = false) (h : B) : if c = true then A else B := by
  rw [hc, if_neg Bool.false_ne_true]
  exact h

/-! ### The text -/
def topS (i : Nat) : Stmt := PySem.Challenge.pw_framesgiven_s01_last.main.body.getD i (.Pass ⟨0, 0, 0, 0⟩)
abbrev sInit : Stmt := inClass (topS 7) 0
abbrev sWant : Stmt := topS 8
abbrev sAre : Stmt := topS 9
abbrev sWFrames : Stmt := topS 11
theorem scI : FnScope ["self", "refusal"] ["self", "refusal"] (defScope sInit) := ⟨rfl, rfl, rfl, by decide +kernel, rfl, by decide +kernel, by decide +kernel⟩
theorem scW : FnScope ["is_so", "refusal"] ["is_so", "refusal"] (defScope sWant) := ⟨rfl, rfl, rfl, by decide +kernel, rfl, by decide +kernel, by decide +kernel⟩
theorem scA : FnScope ["numbers", "least", "most", "number"] ["numbers", "least", "most"] (defScope sAre) := ⟨rfl, rfl, rfl, by decide +kernel, rfl, by decide +kernel, by decide +kernel⟩
theorem scWF : FnScope ["frames"] ["frames"] (defScope sWFrames) := ⟨rfl, rfl, rfl, by decide +kernel, rfl, by decide +kernel, by decide +kernel⟩

/-- a def of the top: where its name leads, that it stands there, how it binds -/
structure Dn (K : PySem.W.Frag) (mg : Str → Option Value) (x : Str) (st : Stmt) (f : Addr) (fd : FuncData) (ps : List Str) : Prop where
  g : mg x = some (.ref f)
  F : Fun K x x st f fd
  b : Binds K fd ps []
/-- what the top has written of the error's class and of names -/
structure Txt (K : PySem.W.Frag) (mg : Str → Option Value) (C fI : Addr) (fdI : FuncData) : Prop where
  oex : OexC K C
  xf : XfC K C
  nR : PySem.W.findIn K (.ref C) "refusal" = some none
  iC : PySem.W.findIn K (.ref C) "__init__" = some (some (.ref fI))
  tI : PySem.W.typeIn K (.ref fI) = some (.type "function")
  gC : mg "Refused" = some (.ref C)
  te : PySem.W.exmOne K (.ref C) (.ref C) = some true
  vV : PySem.W.findCls K (.type "ValueError") (.type "type") "__init__" = some (.val (.builtin "ValueError.__init__"))
  fI : Fun K "__init__" "Refused.__init__" sInit fI fdI
  bI : Binds K fdI ["self", "refusal"] []
  nVE : mg "ValueError" = none
  nAll : mg "all" = none
  nLen : mg "len" = none
  nRange : mg "range" = none
  nSum : mg "sum" = none
  nMax : mg "max" = none
  nEnum : mg "enumerate" = none
  nList : mg "list" = none
  gOut : ∃ t, mg "OUT_OF_RANGE" = some (.int (-22) t)
  gCan : ∃ t, mg "CANNOT_BE" = some (.int (-33) t)
  gMF : ∃ t, mg "MOST_FRAMES" = some (.int 6 t)
  gMD : ∃ t, mg "MOST_A_DAY" = some (.int 1000 t)
  gMK : ∃ t, mg "MOST_KILOGRAMS" = some (.int 10000 t)

/-! ### The promises -/
def spInit (C : Addr) : Sp := fun vs H Q _ => ∃ (a : Addr) (v : V), vs = [.ref a, v] ∧ H a = some (exo a C none) ∧
  ∀ dx, H dx = none → dx ≠ a → Q .non (upd (upd H dx (exd dx [(("refusal" : Str), v)])) a (exo a C (some dx)))
/-- the way out by a refusal: its own dict d bears the number, all else stands -/
def Refuses (C : Addr) (H : Hp) (v : Int) (E : XK) : Prop := ∀ (d : Addr) (H' : Hp), Same H H' → H' d = some (.xd [(("refusal" : Str), .int v)]) → E (.ref C) (some d) H'
theorem Refuses.on {C : Addr} {H H1 : Hp} {v : Int} {E : XK} (r : Refuses C H v E) (s : Same H H1) : Refuses C H1 v E := fun d H' s' e => r d H' (s.trans s') e
def spWant (C : Addr) : Sp := fun vs H Q E => ∃ (b : Bool) (v : Int), vs = [.bl b, .int v] ∧ (b = true → Q .non H) ∧ (b = false → Refuses C H v E)
def areB (ns : List Int) (lo hi : Int) : Bool := ns.all fun n => decide (lo ≤ n) && decide (n ≤ hi)
def spAre (K : PySem.W.Frag) : Sp := fun vs H Q _ => ∃ (a : Addr) (ns : List Int) (lo hi : Int), vs = [.ref a, .int lo, .int hi] ∧ SqL K H a (ns.map V.int) ∧ ns.length ≤ 1000 ∧
  ∀ H', Same H H' → Q (.bl (areB ns lo hi)) H'
def spWFrames (K : PySem.W.Frag) (C : Addr) : Sp := fun vs H Q E => ∃ (a : Addr) (r : List Nat), vs = [.ref a] ∧ SqL K H a (nv r) ∧ r.length ≤ 8 ∧
  (Kzd6.okFrames r = true → ∀ H', Same H H' → Q .non H') ∧ (Kzd6.okFrames r = false → Refuses C H (-22) E)

theorem are_cast (l : List Nat) (lo hi : Nat) : areB (castN l) (lo : Int) (hi : Int) = l.all fun x => decide (lo ≤ x) && decide (x ≤ hi) := by
  unfold areB castN
  induction l with
  | nil => rfl
  | cons x l ih =>
    rw [List.map_cons, List.all_cons, List.all_cons, ih]
    congr 1
    have e1 : decide ((lo : Int) ≤ (x : Int)) = decide (lo ≤ x) := by rw [decide_eq_decide]; omega
    have e2 : decide ((x : Int) ≤ (hi : Int)) = decide (x ≤ hi) := by rw [decide_eq_decide]; omega
    rw [e1, e2]
theorem frames_is (r : List Nat) : (decide (((r.length : Nat) : Int) ≤ 6) && areB (castN r) 1 1000) = Kzd6.okFrames r := by
  have e := are_cast r 1 1000
  have e2 : decide (((r.length : Nat) : Int) ≤ 6) = decide (r.length ≤ 6) := by rw [decide_eq_decide]; omega
  unfold Kzd6.okFrames
  rw [e2, ← e]
  rfl

section
variable {P : Program} {w : World} {K : PySem.W.Frag} {mg : Str → Option Value} {base : Heap} {C fI : Addr} {fdI : FuncData}
theorem ok_init (T : Txt K mg C fI fdI) : FnOk P w K mg base CX0 1 fI fdI ["self", "refusal"] (spInit C) := by
  refine T.fI.ok scI (fun vs H Q E h => ?_) (fun cdv A outer s H vs Q E hr h => ?_)
  · obtain ⟨a, v, rfl, _⟩ := h
    rfl
  · obtain ⟨a, v, rfl, ha, k⟩ := h
    refine ⟨_, pss_cons (ps_expr (pe_veinit rfl T.nVE T.vV (pa_cons (pv 0) (pa_cons pe_str pa_nil)))) (pss_one (ps_ost (pv 0) (pv 1))), ?_⟩
    refine ⟨_, rfl, a, C, [_], rfl, (by show 1 ≤ 1000; decide), T.oex, ha, ?_⟩
    exact ⟨_, rfl, _, rfl, a, C, rfl, T.oex, T.nR, .inl ⟨ha, fun dx hd ne => k dx hd ne⟩⟩
theorem ok_want (T : Txt K mg C fI fdI) {f : Addr} {fd : FuncData} (D : Dn K mg "want" sWant f fd ["is_so", "refusal"]) : FnOk P w K mg base (L2.CX P w) 3 f fd ["is_so", "refusal"] (spWant C) := by
  refine D.F.okX scW (fun vs H Q E h => ?_) (fun cdv A outer s H vs Q E hr h => ?_)
  · obtain ⟨b, v, rfl, _⟩ := h
    rfl
  · obtain ⟨b, v, rfl, kT, kF⟩ := h
    refine ⟨_, pss_one (ps_if (pt_not (pt_val (pv 0))) (pss_one (ps_raise rfl (takes_of rfl rfl rfl rfl) (pmk_oex T.oex T.iC T.tI (ok_init T) hr T.bI .nil pass0 rfl T.gC (pa_cons (pv 1) pa_nil)))) pss_nil), ?_⟩
    refine ⟨_, rfl, b, rfl, ?_⟩
    cases b with
    | true => exact if_false_of rfl (kT rfl)
    | false =>
      refine if_true_of rfl ?_
      refine ⟨_, rfl, (by show 1 ≤ 1000; decide), fun a na => ⟨a, _, rfl, upd_same, fun dx nd ne => ⟨rfl, dx, _, upd_same, (upd_ne ne).trans upd_same, ?_, ?_⟩⟩⟩
      · rw [upd_ne ne] at nd
        exact nd
      · rw [upd_ne ne] at nd
        refine kF rfl dx _ (fun b o e => ?_) upd_same
        have h1 := ne_of_none e nd
        have h2 := ne_of_none e na
        rw [upd_ne h1, del_ne h2, upd_ne h2, upd_ne h1, upd_ne h2]
        exact e
theorem ok_are (T : Txt K mg C fI fdI) {f : Addr} {fd : FuncData} (D : Dn K mg "are_from" sAre f fd ["numbers", "least", "most"]) : FnOk P w K mg base CX0 1 f fd ["numbers", "least", "most"] (spAre K) := by
  refine D.F.ok scA (fun vs H Q E h => ?_) (fun cdv A outer s H vs Q E hr h => ?_)
  · obtain ⟨a, ns, lo, hi, rfl, _⟩ := h
    rfl
  · obtain ⟨a, ns, lo, hi, rfl, hS, hlen, k⟩ := h
    refine ⟨_, pss_one (ps_ret (pe_callB (cr_all rfl) (by rfl) T.nAll (by decide +kernel) (pa_cons (pe_lc (own := [("number", 3)]) (g := gName 3) (tt := tYes) rfl scA.nd (pi_list (pv 0)) (blkOk_by (N := ["numbers", "least", "most", "number"]) (sc := defScope sAre) (by decide +kernel))
      (fun _ _ _ _ _ => pg_name (i := 3) scA.nd rfl (Or.inl rfl)) (fun _ _ _ _ _ => pts_nil) (fun _ _ _ _ _ => pe_chain op_le op_le (pv 1) (pv 3) (pv 2))) pa_nil))), ?_⟩
    refine ⟨_, rfl, a, rfl, ⟨_, hS⟩, fun D nD => lc_list (K := K) (a := a) (xs := ns.map V.int) (fun i H' => Same H H' ∧ H' D = some (.lst (((ns.take i).map fun n => decide (lo ≤ n) && decide (n ≤ hi)).map V.bl)))
      ⟨same_upd (Same.refl H) nD, upd_same⟩ (fun i H' _ q => q.1.seq hS) ?_ ?_⟩
    · rintro i x H' hx ⟨s1, hD⟩
      obtain ⟨n, hn, rfl⟩ : ∃ n, ns[i]? = some n ∧ x = V.int n := by
        rw [List.getElem?_map] at hx
        cases e : ns[i]? with
        | none => rw [e] at hx; cases hx
        | some n =>
          rw [e] at hx
          exact ⟨n, rfl, (Option.some.inj hx).symm⟩
      have hi' : i < ns.length := lt_of_get hn
      refine ⟨rfl, ?_⟩
      have fin : ∀ b : Bool, b = (decide (lo ≤ n) && decide (n ≤ hi)) → ∃ acc, H' D = some (.lst acc) ∧ acc.length < sizeLine ∧ Same H (upd H' D (.lst (acc ++ [V.bl b]))) ∧
          upd H' D (.lst (acc ++ [V.bl b])) D = some (.lst (((ns.take (i + 1)).map fun n => decide (lo ≤ n) && decide (n ≤ hi)).map V.bl)) := fun b hb => by
        refine ⟨_, hD, ?_, same_upd s1 nD, ?_⟩
        · rw [List.length_map, List.length_map, List.length_take]
          exact size_small (by omega)
        · rw [upd_same, take_more hn, List.map_append, List.map_append, hb]
          rfl
      refine ⟨_, rfl, _, rfl, _, _, rfl, rfl, _, rfl, ?_⟩
      by_cases c : lo ≤ n
      · refine if_true_of (decide_eq_true c) ⟨_, rfl, _, _, rfl, rfl, ?_⟩
        exact fin _ (by rw [decide_eq_true c, Bool.true_and])
      · refine if_false_of (decide_eq_false c) ?_
        exact fin _ (by rw [decide_eq_false c, Bool.false_and])
    · rintro H' ⟨s1, hD⟩
      rw [List.length_map, List.take_length] at hD
      refine ⟨D, _, rfl, SqL.of hD, ?_⟩
      have e : (ns.map fun n => decide (lo ≤ n) && decide (n ≤ hi)).all id = areB ns lo hi := by
        unfold areB
        rw [List.all_map]
        rfl
      rw [e]
      exact k H' s1
theorem ok_wframes (T : Txt K mg C fI fdI) {f fW fA : Addr} {fd fdW fdA : FuncData} (D : Dn K mg "want_frames" sWFrames f fd ["frames"]) (DW : Dn K mg "want" sWant fW fdW ["is_so", "refusal"]) (DA : Dn K mg "are_from" sAre fA fdA ["numbers", "least", "most"]) :
    FnOk P w K mg base (L2.CX P w) 4 f fd ["frames"] (spWFrames K C) := by
  obtain ⟨t1, g1⟩ := T.gOut
  obtain ⟨t2, g2⟩ := T.gMF
  obtain ⟨t3, g3⟩ := T.gMD
  refine D.F.okX scWF (fun vs H Q E h => ?_) (fun cdv A outer s H vs Q E hr h => ?_)
  · obtain ⟨a, r, rfl, _⟩ := h
    rfl
  · obtain ⟨a, r, rfl, hS, hlen, kT, kF⟩ := h
    refine ⟨_, pss_one (ps_expr (pe_call (E := E) (ok_want T DW) hr rfl DW.g DW.F.kp DW.b .nil (passes_call (takes_of rfl rfl rfl rfl) (fun _ _ _ _ h => h)) (pa_cons (pe_and (pe_cmpR op_le (pe_callB call_len_seq (by rfl) T.nLen PySem.boot_len (pa_cons (pv 0) pa_nil)) (pe_glob (v := .int 6) rfl g2 ⟨_, rfl⟩) (nomark _))
      (pe_one (pe_call (E := E0) (ok_are T DA) (hr.mono (by decide)) rfl DA.g DA.F.kp DA.b .nil pass0 (pa_cons (pv 0) (pa_cons pe_int (pa_cons (pe_glob (v := .int 1000) rfl g3 ⟨_, rfl⟩) pa_nil)))))) (pa_cons (pe_glob (v := .int (-22)) rfl g1 ⟨_, rfl⟩) pa_nil)))), ?_⟩
    refine ⟨_, rfl, a, _, rfl, .inl hS, _, _, rfl, rfl, _, rfl, ?_⟩
    have fin : ∀ (H1 : Hp) (b : Bool), Same H H1 → b = Kzd6.okFrames r → spWant C [.bl b, .int (-22)] H1 (fun _ H' => Q .non H') E := fun H1 b s1 hb =>
      ⟨b, -22, rfl, fun e => kT (by rw [← hb, e]) H1 s1, fun e => (kF (by rw [← hb, e])).on s1⟩
    have e := frames_is r
    rw [nv_length]
    by_cases c : ((r.length : Nat) : Int) ≤ 6
    · rw [decide_eq_true c, Bool.true_and] at e
      refine if_true_of (decide_eq_true c) ⟨_, rfl, a, castN r, 1, 1000, rfl, hS, by rw [cast_length]; omega, fun H1 s1 => ?_⟩
      exact fin H1 _ s1 e
    · rw [decide_eq_false c, Bool.false_and] at e
      exact if_false_of (decide_eq_false c) (fin H _ (Same.refl H) e)
end
end Fg
/-! ### A call's answer, or its refusal -/
namespace Fg
open PySem PySem.Spec PyProof.Rows L2
/-- ans comes out as a new list, or its one number as a refusal -/
def Told (C : Addr) (H : Hp) (ans : List Int) (Q : VK) (E : XK) : Prop := (∀ (H' : Hp) (p : Addr), H' p = some (.lst (ans.map V.int)) → Q (.ref p) H') ∧ ∀ v : Int, ans = [v] → Refuses C H v E
theorem Told.on {C : Addr} {H H1 : Hp} {ans : List Int} {Q : VK} {E : XK} (r : Told C H ans Q E) (s : Same H H1) : Told C H1 ans Q E := ⟨r.1, fun v e => (r.2 v e).on s⟩
/-- an error of the class at S is what «except S» names -/
theorem exm_self {K : PySem.W.Frag} {S : Addr} (h1 : PySem.W.subIn K (.ref S) (.type "BaseException") = some true) (h2 : PySem.W.isClsIn K S = true) (h3 : PySem.W.typeIn K (.ref S) = some (.type "type")) (h4 : PySem.W.subIn K (.ref S) (.ref S) = some true) :
    PySem.W.exmOne K (.ref S) (.ref S) = some true := by
  have e1 : (PySem.W.subIn K (.ref S) (.type "BaseException") == some true) = true := by rw [h1] <;> rfl
  have e2 : ((PySem.W.clsIn K S).isSome && PySem.W.typeIn K (.ref S) == some (.type "type")) = true := by
    have h2' : (PySem.W.clsIn K S).isSome = true := h2
    rw [h2', h3] <;> rfl
  show (if (PySem.W.subIn K (.ref S) (.type "BaseException") == some true) = true then (if ((PySem.W.clsIn K S).isSome && PySem.W.typeIn K (.ref S) == some (.type "type")) = true then PySem.W.subIn K (.ref S) (.ref S) else none) else none) = some true
  rw [if_pos e1, if_pos e2]
  exact h4
end Fg
/-! ### want_orders and the spans -/
namespace Fg
open PySem PySem.Spec PyProof.Rows L2
abbrev sWOrders : Stmt := topS 10
abbrev sUp : Stmt := topS 14
abbrev sSpun : Stmt := topS 15
abbrev sHas : Stmt := topS 16
abbrev sDays : Stmt := topS 17
abbrev sLastOf : Stmt := topS 18
theorem scWO : FnScope ["orders"] ["orders"] (defScope sWOrders) := ⟨rfl, rfl, rfl, by decide +kernel, rfl, by decide +kernel, by decide +kernel⟩
theorem scUp : FnScope ["number", "other"] ["number", "other"] (defScope sUp) := ⟨rfl, rfl, rfl, by decide +kernel, rfl, by decide +kernel, by decide +kernel⟩
theorem scSpun : FnScope ["order", "frames", "given", "k"] ["order", "frames", "given"] (defScope sSpun) := ⟨rfl, rfl, rfl, by decide +kernel, rfl, by decide +kernel, by decide +kernel⟩
theorem scHas : FnScope ["orders", "given", "order"] ["orders", "given"] (defScope sHas) := ⟨rfl, rfl, rfl, by decide +kernel, rfl, by decide +kernel, by decide +kernel⟩
theorem scDays : FnScope ["orders", "frames", "given", "found", "order", "kilograms"] ["orders", "frames", "given"] (defScope sDays) := ⟨rfl, rfl, rfl, by decide +kernel, rfl, by decide +kernel, by decide +kernel⟩
theorem scLastOf : FnScope ["days"] ["days"] (defScope sLastOf) := ⟨rfl, rfl, rfl, by decide +kernel, rfl, by decide +kernel, by decide +kernel⟩

def spWOrders (K : PySem.W.Frag) (C : Addr) : Sp := fun vs H Q E => ∃ (a : Addr) (q : List Nat), vs = [.ref a] ∧ SqL K H a (nv q) ∧ q.length ≤ 8 ∧
  (Kzd6.okOrders q = true → ∀ H', Same H H' → Q .non H') ∧ (Kzd6.okOrders q = false → Refuses C H (-22) E)
def spUp : Sp := fun vs H Q _ => ∃ (x n : Nat), vs = [.int (x : Int), .int (n : Int)] ∧ 0 < n ∧ n ≤ 1000000 ∧ Q (.int (((x + n - 1) / n : Nat) : Int)) H
def spSpun (K : PySem.W.Frag) : Sp := fun vs H Q _ => ∃ (j : Nat) (a b : Addr) (r f : List Nat), vs = [.int (j : Int), .ref a, .ref b] ∧ SqL K H a (nv r) ∧ SqL K H b (nv f) ∧ f.length = r.length ∧ r.length ≤ 1000 ∧
  ∀ H', Same H H' → Q (.int ((Kzd6.rate r f j : Nat) : Int)) H'
def spHas (K : PySem.W.Frag) : Sp := fun vs H Q _ => ∃ (a b : Addr) (q f : List Nat), vs = [.ref a, .ref b] ∧ SqL K H a (nv q) ∧ SqL K H b (nv f) ∧ q.length ≤ 1000 ∧
  ∀ H', Same H H' → Q (.bl (hasF q f)) H'
def spDays (K : PySem.W.Frag) : Sp := fun vs H Q _ => ∃ (a b c : Addr) (q r f : List Nat), vs = [.ref a, .ref b, .ref c] ∧ SqL K H a (nv q) ∧ SqL K H b (nv r) ∧ SqL K H c (nv f) ∧ q.length ≤ 1000 ∧ r.length ≤ 1000 ∧
  f.length = r.length ∧ (∀ x ∈ r, 1 ≤ x ∧ x ≤ 1000) ∧ hasF q f = true ∧ ∀ (H' : Hp) (p : Addr), Same H H' → H' p = some (.lst (nv (dn q r f))) → Q (.ref p) H'
def spLastOf : Sp := fun vs H Q _ => ∃ (a : Addr) (l : List Nat), vs = [.ref a] ∧ H a = some (.lst (nv l)) ∧ l.length ≤ 1000 ∧ ∀ H', Same H H' → Q (.int ((l.foldl max 0 : Nat) : Int)) H'

theorem orders_is (q : List Nat) : (decide (((q.length : Nat) : Int) ≤ 4) && areB (castN q) 1 10000) = Kzd6.okOrders q := by
  have e := are_cast q 1 10000
  have e2 : decide (((q.length : Nat) : Int) ≤ 4) = decide (q.length ≤ 4) := by rw [decide_eq_decide]; omega
  unfold Kzd6.okOrders
  rw [e2, ← e]
  rfl
theorem in_nv (j : Nat) (f : List Nat) : inV (.int (j : Int)) (nv f) = f.contains j := by
  unfold inV nv castN
  induction f with
  | nil => rfl
  | cons x f ih =>
    rw [List.map_cons, List.map_cons, List.any_cons, ih, List.contains_cons]
    congr 1
    show ((x : Int) == (j : Int)) = (j == x)
    rw [Bool.eq_iff_iff]
    simp
    omega
theorem flat_nv (f : List Nat) : (nv f).all flatV = true := by
  unfold nv
  rw [List.all_map]
  exact List.all_eq_true.mpr fun _ _ => rfl
theorem day_at {q r f : List Nat} {i n : Nat} (h : q[i]? = some n) : dayN q r f i = (n + Kzd6.rate r f i - 1) / Kzd6.rate r f i := by
  unfold dayN
  rw [getD_of h]
theorem dn_more (q r f : List Nat) (i : Nat) : (List.range (i + 1)).map (dayN q r f) = (List.range i).map (dayN q r f) ++ [dayN q r f i] := by
  rw [List.range_succ, List.map_append]
  rfl
theorem has_rate {q r f : List Nat} (hr : ∀ x ∈ r, 1 ≤ x ∧ x ≤ 1000) (h : f.length = r.length) (hf : hasF q f = true) {j : Nat} (hj : j < q.length) : 0 < Kzd6.rate r f j := by
  unfold hasF at hf
  have h1 := List.all_eq_true.mp hf j (List.mem_range.mpr hj)
  have h2 : j ∈ f := by simpa using h1
  have h3 : Kzd6.rate r f j ≠ 0 := fun z => (rate_zero (fun x hx => (hr x hx).1) h j).mp z h2
  omega
section
variable {P : Program} {w : World} {K : PySem.W.Frag} {mg : Str → Option Value} {base : Heap} {C fI : Addr} {fdI : FuncData}
theorem ok_worders (T : Txt K mg C fI fdI) (gMO : ∃ t, mg "MOST_ORDERS" = some (.int 4 t)) {f fW fA : Addr} {fd fdW fdA : FuncData} (D : Dn K mg "want_orders" sWOrders f fd ["orders"]) (DW : Dn K mg "want" sWant fW fdW ["is_so", "refusal"]) (DA : Dn K mg "are_from" sAre fA fdA ["numbers", "least", "most"]) :
    FnOk P w K mg base (L2.CX P w) 4 f fd ["orders"] (spWOrders K C) := by
  obtain ⟨t1, g1⟩ := T.gOut
  obtain ⟨t2, g2⟩ := gMO
  obtain ⟨t3, g3⟩ := T.gMK
  refine D.F.okX scWO (fun vs H Q E h => ?_) (fun cdv A outer s H vs Q E hr h => ?_)
  · obtain ⟨a, r, rfl, _⟩ := h
    rfl
  · obtain ⟨a, r, rfl, hS, hlen, kT, kF⟩ := h
    refine ⟨_, pss_one (ps_expr (pe_call (E := E) (ok_want T DW) hr rfl DW.g DW.F.kp DW.b .nil (passes_call (takes_of rfl rfl rfl rfl) (fun _ _ _ _ h => h)) (pa_cons (pe_and (pe_cmpR op_le (pe_callB call_len_seq (by rfl) T.nLen PySem.boot_len (pa_cons (pv 0) pa_nil)) (pe_glob (v := .int 4) rfl g2 ⟨_, rfl⟩) (nomark _))
      (pe_one (pe_call (E := E0) (ok_are T DA) (hr.mono (by decide)) rfl DA.g DA.F.kp DA.b .nil pass0 (pa_cons (pv 0) (pa_cons pe_int (pa_cons (pe_glob (v := .int 10000) rfl g3 ⟨_, rfl⟩) pa_nil)))))) (pa_cons (pe_glob (v := .int (-22)) rfl g1 ⟨_, rfl⟩) pa_nil)))), ?_⟩
    refine ⟨_, rfl, a, _, rfl, .inl hS, _, _, rfl, rfl, _, rfl, ?_⟩
    have fin : ∀ (H1 : Hp) (b : Bool), Same H H1 → b = Kzd6.okOrders r → spWant C [.bl b, .int (-22)] H1 (fun _ H' => Q .non H') E := fun H1 b s1 hb =>
      ⟨b, -22, rfl, fun e => kT (by rw [← hb, e]) H1 s1, fun e => (kF (by rw [← hb, e])).on s1⟩
    have e := orders_is r
    rw [nv_length]
    by_cases c : ((r.length : Nat) : Int) ≤ 4
    · rw [decide_eq_true c, Bool.true_and] at e
      refine if_true_of (decide_eq_true c) ⟨_, rfl, a, castN r, 1, 10000, rfl, hS, by rw [cast_length]; omega, fun H1 s1 => ?_⟩
      exact fin H1 _ s1 e
    · rw [decide_eq_false c, Bool.false_and] at e
      exact if_false_of (decide_eq_false c) (fin H _ (Same.refl H) e)
theorem ok_up {f : Addr} {fd : FuncData} (D : Dn K mg "rounded_up" sUp f fd ["number", "other"]) : FnOk P w K mg base CX0 1 f fd ["number", "other"] spUp := by
  refine D.F.ok scUp (fun vs H Q E h => ?_) (fun cdv A outer s H vs Q E hr h => ?_)
  · obtain ⟨x, n, rfl, _⟩ := h
    rfl
  · obtain ⟨x, n, rfl, h0, h1, k⟩ := h
    refine ⟨_, pss_one (ps_ret (pe_op op_fdiv (pe_op op_sub (pe_op op_add (pv 0) (pv 1)) pe_int) (pv 1))), ?_⟩
    refine ⟨_, rfl, _, rfl, _, _, rfl, rfl, _, _, rfl, rfl, _, rfl, _, _, rfl, rfl, ⟨by omega, by omega⟩, ?_⟩
    have e : ((x : Int) + (n : Int) - 1) / (n : Int) = (((x + n - 1) / n : Nat) : Int) := by
      rw [Int.natCast_ediv, show ((x + n - 1 : Nat) : Int) = (x : Int) + (n : Int) - 1 by omega]
    show Q (.int (((x : Int) + (n : Int) - 1) / (n : Int))) H
    rw [e]
    exact k
theorem ok_spun (T : Txt K mg C fI fdI) {f : Addr} {fd : FuncData} (D : Dn K mg "spun_a_day" sSpun f fd ["order", "frames", "given"]) : FnOk P w K mg base CX0 1 f fd ["order", "frames", "given"] (spSpun K) := by
  refine D.F.ok scSpun (fun vs H Q E h => ?_) (fun cdv A outer s H vs Q E hr h => ?_)
  · obtain ⟨j, a, b, r, f, rfl, _⟩ := h
    rfl
  · obtain ⟨j, a, b, r, f, rfl, hA, hB, hl, hlen, k⟩ := h
    refine ⟨_, pss_one (ps_ret (pe_callB (cr_sum rfl) (by rfl) T.nSum (by decide +kernel) (pa_cons (pe_lc (own := [("k", 3)]) (g := gName 3) (tt := tTest (tOp rEq (tOp (rIxL K) (tVar 2) (tVar 3)) (tVar 0))) (te := tOp (rIxL K) (tVar 1) (tVar 3)) rfl scSpun.nd
      (pi_range1 (by rfl) T.nRange (pa_cons (pe_callB call_len_seq (by rfl) T.nLen PySem.boot_len (pa_cons (pv 1) pa_nil)) pa_nil)) (blkOk_by (N := ["order", "frames", "given", "k"]) (sc := defScope sSpun) (by decide +kernel))
      (fun _ _ _ _ _ => pg_name (i := 3) scSpun.nd rfl (Or.inl rfl)) (fun _ _ _ _ _ => pts_one (pt_cmpR op_eq (pe_ix (r := rIxL K) ix_list (pv 2) (pv 3) (fun _ _ => rfl)) (pv 0) (nomark _))) (fun _ _ _ _ _ => pe_ix (r := rIxL K) ix_list (pv 1) (pv 3) (fun _ _ => rfl))) pa_nil))), ?_⟩
    refine ⟨_, rfl, a, _, rfl, .inl hA, ((r.length : Nat) : Int), by rw [nv_length], by omega, by omega, fun D nD => lc_range (lo := 0) (n := r.length) (fun i H' => Same H H' ∧ H' D = some (.lst (nv (pick r f j i))))
      ⟨same_upd (Same.refl H) nD, upd_same⟩ ?_ ?_⟩
    · rintro i H' hi ⟨s1, hD⟩
      rw [Int.zero_add]
      refine ⟨rfl, ?_⟩
      refine ⟨_, rfl, _, rfl, b, _, _, _, rfl, rfl, s1.seq hB, atI_nat (nv_at (by omega)), _, rfl, rfl, _, rfl, ?_⟩
      by_cases c : f.getD i 0 = j
      · refine if_true_of (decide_eq_true (congrArg V.int (by omega))) ?_
        refine ⟨_, rfl, _, rfl, a, _, _, _, rfl, rfl, s1.seq hA, atI_nat (nv_at hi), _, hD, ?_, same_upd s1 nD, ?_⟩
        · rw [nv_length]
          have := pick_length r f j i
          exact size_small (by omega)
        · rw [upd_same, pick_succ, if_pos c, nv_append]
          rfl
      · refine if_false_of (decide_eq_false fun z => c (by have z' := V.int.inj z; omega)) ⟨s1, ?_⟩
        rw [pick_succ, if_neg c]
        exact hD
    · rintro H' ⟨s1, hD⟩
      refine ⟨D, castN (pick r f j r.length), rfl, SqL.of hD, ?_⟩
      have e : (castN (pick r f j r.length)).sum = ((Kzd6.rate r f j : Nat) : Int) := by
        unfold castN
        rw [sum_cast, rate_pick hl]
      rw [e]
      exact k H' s1
theorem ok_has (T : Txt K mg C fI fdI) {f : Addr} {fd : FuncData} (D : Dn K mg "has_frames" sHas f fd ["orders", "given"]) : FnOk P w K mg base CX0 1 f fd ["orders", "given"] (spHas K) := by
  refine D.F.ok scHas (fun vs H Q E h => ?_) (fun cdv A outer s H vs Q E hr h => ?_)
  · obtain ⟨a, b, q, f, rfl, _⟩ := h
    rfl
  · obtain ⟨a, b, q, f, rfl, hA, hB, hlen, k⟩ := h
    refine ⟨_, pss_one (ps_ret (pe_callB (cr_all rfl) (by rfl) T.nAll (by decide +kernel) (pa_cons (pe_lc (own := [("order", 2)]) (g := gName 2) (tt := tYes) (te := tOp (rIn K false) (tVar 2) (tVar 1)) rfl scHas.nd
      (pi_range1 (by rfl) T.nRange (pa_cons (pe_callB call_len_seq (by rfl) T.nLen PySem.boot_len (pa_cons (pv 0) pa_nil)) pa_nil)) (blkOk_by (N := ["orders", "given", "order"]) (sc := defScope sHas) (by decide +kernel))
      (fun _ _ _ _ _ => pg_name (i := 2) scHas.nd rfl (Or.inl rfl)) (fun _ _ _ _ _ => pts_nil) (fun _ _ _ _ _ => pe_cmpR (r := rIn K false) op_in_seq (pv 2) (pv 1) (by rfl))) pa_nil))), ?_⟩
    refine ⟨_, rfl, a, _, rfl, .inl hA, ((q.length : Nat) : Int), by rw [nv_length], by omega, by omega, fun D nD => lc_range (lo := 0) (n := q.length) (fun i H' => Same H H' ∧ H' D = some (.lst (((List.range i).map fun j => f.contains j).map V.bl)))
      ⟨same_upd (Same.refl H) nD, upd_same⟩ ?_ ?_⟩
    · rintro i H' hi ⟨s1, hD⟩
      rw [Int.zero_add]
      refine ⟨rfl, ?_⟩
      refine ⟨_, rfl, _, rfl, b, _, rfl, .inl (s1.seq hB), rfl, flat_nv f, _, hD, ?_, same_upd s1 nD, ?_⟩
      · rw [List.length_map, List.length_map, List.length_range]
        exact size_small (by omega)
      · rw [upd_same, List.range_succ, List.map_append, List.map_append]
        show some (HO.lst (_ ++ [V.bl (inV (V.int (i : Int)) (nv f))])) = _
        rw [in_nv]
        rfl
    · rintro H' ⟨s1, hD⟩
      refine ⟨D, _, rfl, SqL.of hD, ?_⟩
      have e : ((List.range q.length).map fun j => f.contains j).all id = hasF q f := by
        unfold hasF
        rw [List.all_map]
        rfl
      rw [e]
      exact k H' s1
theorem ok_days (T : Txt K mg C fI fdI) {f fU fS : Addr} {fd fdU fdS : FuncData} (D : Dn K mg "days_of" sDays f fd ["orders", "frames", "given"]) (DU : Dn K mg "rounded_up" sUp fU fdU ["number", "other"]) (DS : Dn K mg "spun_a_day" sSpun fS fdS ["order", "frames", "given"]) :
    FnOk P w K mg base CX0 2 f fd ["orders", "frames", "given"] (spDays K) := by
  refine D.F.ok scDays (fun vs H Q E h => ?_) (fun cdv A outer s H vs Q E hr h => ?_)
  · obtain ⟨a, b, c, q, r, f, rfl, _⟩ := h
    rfl
  · obtain ⟨a, b, c, q, r, f, rfl, hA, hB, hC, hq, hrl, hl, hr1, hf, k⟩ := h
    refine ⟨_, pss_cons (ps_set (i := 3) scDays.nd rfl (Or.inl rfl) (pe_lst pa_nil))
      (pss_cons (ps_for PassesOwn.never rfl (pi_enum (by rfl) T.nEnum (pa_cons (pv 0) pa_nil)) (pg_tup rfl (pgs_cons (pg_name (i := 4) scDays.nd rfl (Or.inl rfl)) (pgs_cons (pg_name (i := 5) scDays.nd rfl (Or.inl rfl)) pgs_nil)))
        (pss_one (ps_expr (pe_bm PySem.F.plainAttrs_list PySem.F.slot_list_append PySem.F.type_list_append mt_append (pv 3)
          (pa_cons (pe_call (E := E0) (ok_up DU) hr rfl DU.g DU.F.kp DU.b .nil pass0 (pa_cons (pv 5) (pa_cons (pe_call (E := E0) (ok_spun T DS) hr rfl DS.g DS.F.kp DS.b .nil pass0 (pa_cons (pv 4) (pa_cons (pv 1) (pa_cons (pv 2) pa_nil)))) pa_nil))) pa_nil)))))
      (pss_one (ps_ret (pv 3)))), ?_⟩
    refine ⟨Nat.zero_le _, fun p np => ?_⟩
    have sp : Same H (upd H p (.lst [])) := same_upd (Same.refl H) np
    refine ⟨_, rfl, a, _, rfl, sp.seq hA, for_it (walk_enum (K := K) (a := a) (xs := nv q)) (fun i σ H' => ∃ v1 v2 : Option V, σ = [some (.ref a), some (.ref b), some (.ref c), some (.ref p), v1, v2] ∧ Same H H' ∧ H' p = some (.lst (nv ((List.range i).map (dayN q r f)))))
      ⟨none, none, rfl, sp, upd_same⟩ (fun i σ H' _ ⟨_, _, _, s1, _⟩ => s1.seq hA) ?_ ?_⟩
    · rintro i x σ H1 H2 hi ⟨v1, v2, rfl, s1, hp⟩ ⟨t, x1, x2, rfl, nt, rfl, e1, e2⟩
      obtain ⟨n, hn, rfl⟩ := nv_get e2
      obtain rfl := Option.some.inj e1
      rw [nv_length] at hi
      have s2 : Same H (upd H1 t (.tup [.int ((i : Nat) : Int), .int (n : Int)])) := fun b o z => by
        rw [upd_ne (ne_of_none (s1 b o z) nt)]
        exact s1 b o z
      have hp2 : upd H1 t (.tup [.int ((i : Nat) : Int), .int (n : Int)]) p = some (.lst (nv ((List.range i).map (dayN q r f)))) := by
        rw [upd_ne (ne_of_none hp nt)]
        exact hp
      refine ⟨t, _, rfl, SqT.of upd_same, rfl, _, _, rfl, _, _, rfl, rfl, ?_⟩
      refine ⟨_, rfl, .inl ⟨rfl, _, SqL.of hp2⟩, _, rfl, _, rfl, _, rfl, _, rfl, i, b, c, r, f, rfl, s2.seq hB, s2.seq hC, hl, hrl, fun H3 s3 => ?_⟩
      refine ⟨n, Kzd6.rate r f i, rfl, has_rate hr1 hl hf hi, rate_le (fun x hx => (hr1 x hx).2) hrl hl i, ?_⟩
      refine ⟨p, _, _, rfl, rfl, s3 _ _ hp2, ?_, ?_⟩
      · rw [nv_length, List.length_map, List.length_range]
        exact size_small (by omega)
      · refine ⟨_, _, rfl, same_upd (s2.trans s3) np, ?_⟩
        rw [upd_same, dn_more, nv_append, day_at hn]
        rfl
    · rintro σ H' ⟨v1, v2, rfl, s1, hp⟩
      rw [nv_length] at hp
      exact ⟨_, rfl, k H' p s1 hp⟩
theorem ok_lastOf (T : Txt K mg C fI fdI) {f : Addr} {fd : FuncData} (D : Dn K mg "last_of" sLastOf f fd ["days"]) : FnOk P w K mg base CX0 1 f fd ["days"] spLastOf := by
  refine D.F.ok scLastOf (fun vs H Q E h => ?_) (fun cdv A outer s H vs Q E hr h => ?_)
  · obtain ⟨a, l, rfl, _⟩ := h
    rfl
  · obtain ⟨a, l, rfl, hA, hlen, k⟩ := h
    refine ⟨_, pss_one (ps_ret (pe_callB (cr_max rfl) (by rfl) T.nMax (by decide +kernel) (pa_cons (pe_op op_cat (pe_lst (pa_cons pe_int pa_nil)) (pv 0)) pa_nil))), ?_⟩
    refine ⟨(by show 1 ≤ sizeLine; decide), fun p np => ?_⟩
    have s1 : Same H (upd H p (.lst [V.int 0])) := same_upd (Same.refl H) np
    refine ⟨_, rfl, p, a, _, _, rfl, rfl, upd_same, s1 _ _ hA, ?_, fun p2 np2 => ?_⟩
    · rw [nv_length]
      exact size_small' (by show 1 + l.length ≤ 1000000; omega)
    · refine ⟨p2, 0 :: castN l, rfl, SqL.of upd_same, (by show 0 < (castN l).length + 1; omega), fun m hm hle => ?_⟩
      have e := max_is hm hle
      rw [e]
      refine k _ fun b o z => ?_
      rw [upd_ne (ne_of_none (s1 b o z) np2)]
      exact s1 b o z
end
end Fg
/-! ### last -/
namespace Fg
open PySem PySem.Spec PyProof.Rows L2
abbrev sWGiven : Stmt := topS 12
abbrev sLastTold : Stmt := topS 20
abbrev sLast : Stmt := topS 21
theorem scWG : FnScope ["orders", "frames", "given"] ["orders", "frames", "given"] (defScope sWGiven) := ⟨rfl, rfl, rfl, by decide +kernel, rfl, by decide +kernel, by decide +kernel⟩
theorem scLT : FnScope ["orders", "frames", "given", "days"] ["orders", "frames", "given"] (defScope sLastTold) := ⟨rfl, rfl, rfl, by decide +kernel, rfl, by decide +kernel, by decide +kernel⟩
theorem scL : FnScope ["orders", "frames", "given", "e"] ["orders", "frames", "given"] (defScope sLast) := ⟨rfl, rfl, rfl, by decide +kernel, rfl, by decide +kernel, by decide +kernel⟩
def spWGiven (K : PySem.W.Frag) (C : Addr) : Sp := fun vs H Q E => ∃ (a b c : Addr) (q r f : List Nat), vs = [.ref a, .ref b, .ref c] ∧ SqL K H a (nv q) ∧ SqL K H b (nv r) ∧ SqL K H c (nv f) ∧ f.length ≤ 8 ∧
  (Kzd6.okGiven q r f = true → ∀ H', Same H H' → Q .non H') ∧ (Kzd6.okGiven q r f = false → Refuses C H (-22) E)
def spLastTold (K : PySem.W.Frag) (C : Addr) : Sp := fun vs H Q E => ∃ (a b c : Addr) (q r f : List Nat), vs = [.ref a, .ref b, .ref c] ∧ SqL K H a (nv q) ∧ SqL K H b (nv r) ∧ SqL K H c (nv f) ∧ q.length ≤ 6 ∧ r.length ≤ 8 ∧ f.length ≤ 8 ∧
  Told C H (lastAns q r f) Q E
def spLast (K : PySem.W.Frag) : Sp := fun vs H Q _ => ∃ (a b c : Addr) (q r f : List Nat), vs = [.ref a, .ref b, .ref c] ∧ SqL K H a (nv q) ∧ SqL K H b (nv r) ∧ SqL K H c (nv f) ∧ q.length ≤ 6 ∧ r.length ≤ 8 ∧ f.length ≤ 8 ∧
  ∀ (H' : Hp) (p : Addr), H' p = some (.lst ((lastAns q r f).map V.int)) → Q (.ref p) H'
theorem given_is (q r f : List Nat) : (decide (V.int ((f.length : Nat) : Int) = V.int ((r.length : Nat) : Int)) && areB (castN f) 0 (((q.length : Nat) : Int) - 1)) = Kzd6.okGiven q r f := by
  have e1 : decide (V.int ((f.length : Nat) : Int) = V.int ((r.length : Nat) : Int)) = (f.length == r.length) := by
    rw [Bool.eq_iff_iff]
    simp only [decide_eq_true_eq, V.int.injEq, beq_iff_eq]
    omega
  have e2 : areB (castN f) 0 (((q.length : Nat) : Int) - 1) = f.all fun j => decide (j < q.length) := by
    unfold areB castN
    clear e1
    induction f with
    | nil => rfl
    | cons x l ih =>
      rw [List.map_cons, List.all_cons, List.all_cons, ih]
      congr 1
      rw [Bool.eq_iff_iff]
      simp only [Bool.and_eq_true, decide_eq_true_eq]
      omega
  unfold Kzd6.okGiven
  rw [e1, e2]
theorem last_bad {q r f : List Nat} (h : Kzd6.okOrders q = false ∨ Kzd6.okFrames r = false ∨ Kzd6.okGiven q r f = false) : lastAns q r f = [-22] := by
  unfold lastAns
  exact if_pos h
theorem last_good {q r f : List Nat} (h1 : Kzd6.okOrders q = true) (h2 : Kzd6.okFrames r = true) (h3 : Kzd6.okGiven q r f = true) : lastAns q r f = if hasF q f = true then castN (lastN q r f :: dn q r f) else [-33] := by
  unfold lastAns
  refine if_neg fun z => ?_
  rcases z with z | z | z
  · rw [h1] at z
    cases z
  · rw [h2] at z
    cases z
  · rw [h3] at z
    cases z
section
variable {P : Program} {w : World} {K : PySem.W.Frag} {mg : Str → Option Value} {base : Heap} {C fI : Addr} {fdI : FuncData}
theorem ok_wgiven (T : Txt K mg C fI fdI) {f fW fA : Addr} {fd fdW fdA : FuncData} (D : Dn K mg "want_given" sWGiven f fd ["orders", "frames", "given"]) (DW : Dn K mg "want" sWant fW fdW ["is_so", "refusal"]) (DA : Dn K mg "are_from" sAre fA fdA ["numbers", "least", "most"]) :
    FnOk P w K mg base (L2.CX P w) 4 f fd ["orders", "frames", "given"] (spWGiven K C) := by
  obtain ⟨t1, g1⟩ := T.gOut
  refine D.F.okX scWG (fun vs H Q E h => ?_) (fun cdv A outer s H vs Q E hr h => ?_)
  · obtain ⟨a, b, c, q, r, f, rfl, _⟩ := h
    rfl
  · obtain ⟨a, b, c, q, r, f, rfl, hA, hB, hC, hlen, kT, kF⟩ := h
    refine ⟨_, pss_one (ps_expr (pe_call (E := E) (ok_want T DW) hr rfl DW.g DW.F.kp DW.b .nil (passes_call (takes_of rfl rfl rfl rfl) (fun _ _ _ _ h => h)) (pa_cons (pe_and (pe_cmpR op_eq (pe_callB call_len_seq (by rfl) T.nLen PySem.boot_len (pa_cons (pv 2) pa_nil)) (pe_callB call_len_seq (by rfl) T.nLen PySem.boot_len (pa_cons (pv 1) pa_nil)) (nomark _))
      (pe_one (pe_call (E := E0) (ok_are T DA) (hr.mono (by decide)) rfl DA.g DA.F.kp DA.b .nil pass0 (pa_cons (pv 2) (pa_cons pe_int (pa_cons (pe_op op_sub (pe_callB call_len_seq (by rfl) T.nLen PySem.boot_len (pa_cons (pv 0) pa_nil)) pe_int) pa_nil)))))) (pa_cons (pe_glob (v := .int (-22)) rfl g1 ⟨_, rfl⟩) pa_nil)))), ?_⟩
    refine ⟨_, rfl, c, _, rfl, .inl hC, _, rfl, b, _, rfl, .inl hB, rfl, _, rfl, ?_⟩
    have fin : ∀ (H1 : Hp) (b : Bool), Same H H1 → b = Kzd6.okGiven q r f → spWant C [.bl b, .int (-22)] H1 (fun _ H' => Q .non H') E := fun H1 b s1 hb =>
      ⟨b, -22, rfl, fun e => kT (by rw [← hb, e]) H1 s1, fun e => (kF (by rw [← hb, e])).on s1⟩
    have e := given_is q r f
    rw [nv_length, nv_length]
    by_cases c : V.int ((f.length : Nat) : Int) = V.int ((r.length : Nat) : Int)
    · rw [decide_eq_true c, Bool.true_and] at e
      refine if_true_of (decide_eq_true c) ⟨_, rfl, _, rfl, a, _, rfl, .inl hA, _, _, rfl, rfl, _, castN f, 0, ((q.length : Nat) : Int) - 1, by rw [nv_length]; rfl, hC, by rw [cast_length]; omega, fun H1 s1 => ?_⟩
      exact fin H1 _ s1 e
    · rw [decide_eq_false c, Bool.false_and] at e
      exact if_false_of (decide_eq_false c) (fin H _ (Same.refl H) e)
theorem ok_lastTold (T : Txt K mg C fI fdI) {f fW fO fF fG fH fD fL : Addr} {fd fdW fdO fdF fdG fdH fdD fdL : FuncData} (D : Dn K mg "last_told" sLastTold f fd ["orders", "frames", "given"])
    (DW : Dn K mg "want" sWant fW fdW ["is_so", "refusal"]) (DO : Dn K mg "want_orders" sWOrders fO fdO ["orders"]) (DF : Dn K mg "want_frames" sWFrames fF fdF ["frames"]) (DG : Dn K mg "want_given" sWGiven fG fdG ["orders", "frames", "given"])
    (DH : Dn K mg "has_frames" sHas fH fdH ["orders", "given"]) (DD : Dn K mg "days_of" sDays fD fdD ["orders", "frames", "given"]) (DL : Dn K mg "last_of" sLastOf fL fdL ["days"])
    (GO : FnOk P w K mg base (L2.CX P w) 4 fO fdO ["orders"] (spWOrders K C)) (GF : FnOk P w K mg base (L2.CX P w) 4 fF fdF ["frames"] (spWFrames K C)) (GG : FnOk P w K mg base (L2.CX P w) 4 fG fdG ["orders", "frames", "given"] (spWGiven K C))
    (GH : FnOk P w K mg base CX0 1 fH fdH ["orders", "given"] (spHas K)) (GD : FnOk P w K mg base CX0 2 fD fdD ["orders", "frames", "given"] (spDays K)) (GL : FnOk P w K mg base CX0 1 fL fdL ["days"] spLastOf) :
    FnOk P w K mg base (L2.CX P w) 5 f fd ["orders", "frames", "given"] (spLastTold K C) := by
  obtain ⟨t2, g2⟩ := T.gCan
  refine D.F.okX scLT (fun vs H Q E h => ?_) (fun cdv A outer s H vs Q E hr h => ?_)
  · obtain ⟨a, b, c, q, r, f, rfl, _⟩ := h
    rfl
  · obtain ⟨a, b, c, q, r, f, rfl, hA, hB, hC, hq, hrl, hfl, told⟩ := h
    have hr3 : Room 3 _ := hr.mono (by decide)
    have hr2 : Room 2 _ := hr.mono (by decide)
    have hr1 : Room 1 _ := hr.mono (by decide)
    refine ⟨_, pss_cons (ps_expr (pe_call (E := E) GO hr rfl DO.g DO.F.kp DO.b .nil (passes_call (takes_of rfl rfl rfl rfl) (fun _ _ _ _ h => h)) (pa_cons (pv 0) pa_nil)))
      (pss_cons (ps_expr (pe_call (E := E) GF hr rfl DF.g DF.F.kp DF.b .nil (passes_call (takes_of rfl rfl rfl rfl) (fun _ _ _ _ h => h)) (pa_cons (pv 1) pa_nil)))
      (pss_cons (ps_expr (pe_call (E := E) GG hr rfl DG.g DG.F.kp DG.b .nil (passes_call (takes_of rfl rfl rfl rfl) (fun _ _ _ _ h => h)) (pa_cons (pv 0) (pa_cons (pv 1) (pa_cons (pv 2) pa_nil)))))
      (pss_cons (ps_expr (pe_call (E := E) (ok_want T DW) hr3 rfl DW.g DW.F.kp DW.b .nil (passes_call (takes_of rfl rfl rfl rfl) (fun _ _ _ _ h => h)) (pa_cons (pe_call (E := E0) GH hr1 rfl DH.g DH.F.kp DH.b .nil pass0 (pa_cons (pv 0) (pa_cons (pv 2) pa_nil))) (pa_cons (pe_glob (v := .int (-33)) rfl g2 ⟨_, rfl⟩) pa_nil))))
      (pss_cons (ps_set (i := 3) scLT.nd rfl (Or.inl rfl) (pe_call (E := E0) GD hr2 rfl DD.g DD.F.kp DD.b .nil pass0 (pa_cons (pv 0) (pa_cons (pv 1) (pa_cons (pv 2) pa_nil)))))
      (pss_one (ps_ret (pe_op op_cat (pe_lst (pa_cons (pe_call (E := E0) GL hr1 rfl DL.g DL.F.kp DL.b .nil pass0 (pa_cons (pv 3) pa_nil)) pa_nil)) (pv 3)))))))), ?_⟩
    refine ⟨_, rfl, a, q, rfl, hA, by omega, fun ho H1 s1 => ?_, fun ho => told.2 _ (last_bad (.inl ho))⟩
    refine ⟨_, rfl, b, r, rfl, s1.seq hB, hrl, fun hf H2 s2 => ?_, fun hf => (told.2 _ (last_bad (.inr (.inl hf)))).on s1⟩
    have s12 : Same H H2 := s1.trans s2
    refine ⟨_, rfl, _, rfl, _, rfl, a, b, c, q, r, f, rfl, s12.seq hA, s12.seq hB, s12.seq hC, hfl, fun hg H3 s3 => ?_, fun hg => (told.2 _ (last_bad (.inr (.inr hg)))).on s12⟩
    have s13 : Same H H3 := s12.trans s3
    have good := last_good ho hf hg
    refine ⟨_, rfl, _, rfl, a, c, q, f, rfl, s13.seq hA, s13.seq hC, by omega, fun H4 s4 => ?_⟩
    have s14 : Same H H4 := s13.trans s4
    refine ⟨hasF q f, -33, rfl, fun hh => ?_, fun hh => (told.2 _ (by rw [good, if_neg (by rw [hh]; exact Bool.false_ne_true)])).on s14⟩
    rw [if_pos hh] at good
    refine ⟨_, rfl, _, rfl, _, rfl, a, b, c, q, r, f, rfl, s14.seq hA, s14.seq hB, s14.seq hC, by omega, by omega, (given_len hg).1, (frames_le hf).2, hh, fun H5 p s5 hp => ?_⟩
    refine ⟨_, rfl, p, dn q r f, rfl, hp, by rw [dn_length]; omega, fun H6 s6 => ⟨(by show 1 ≤ sizeLine; decide), fun p1 np1 => ?_⟩⟩
    have hp6 := s6 _ _ hp
    refine ⟨_, rfl, p1, p, _, _, rfl, rfl, upd_same, (upd_ne (ne_of_none hp6 np1)).trans hp6, ?_, fun p2 np2 => told.1 _ p2 ?_⟩
    · rw [nv_length, dn_length]
      exact size_small' (by show 1 + q.length ≤ 1000000; omega)
    · rw [upd_same, good]
      rfl
theorem ok_last (T : Txt K mg C fI fdI) {f fO : Addr} {fd fdO : FuncData} (D : Dn K mg "last" sLast f fd ["orders", "frames", "given"]) (DO : Dn K mg "last_told" sLastTold fO fdO ["orders", "frames", "given"])
    (GO : FnOk P w K mg base (L2.CX P w) 5 fO fdO ["orders", "frames", "given"] (spLastTold K C)) : FnOk P w K mg base CX0 6 f fd ["orders", "frames", "given"] (spLast K) := by
  refine D.F.ok scL (fun vs H Q E h => ?_) (fun cdv A outer s H vs Q E hr h => ?_)
  · obtain ⟨a, b, c, q, r, f, rfl, _⟩ := h
    rfl
  · obtain ⟨a, b, c, q, r, f, rfl, hA, hB, hC, hq, hrl, hfl, k⟩ := h
    refine ⟨_, pss_one (ps_try_as (i := 3) (tb := fun W => tRet (tCallS (spLastTold K C) (WE W) (tCons (tVar 0) (tCons (tVar 1) (tCons (tVar 2) tNil))))) (ts := fun a cls d => tRet (tLst (tCons (tXf a cls d C "refusal" (tVar 3)) tNil))) (Wout := fun _ _ _ _ => False) rfl rfl scL.nd rfl rfl ⟨rfl, by decide, Or.inl T.gC⟩ takes0
        (fun W pn xe tk _ => pss_one (ps_ret (by exact (pe_callS GO hr rfl DO.g DO.F.kp DO.b (fun σ => passAt tk σ) (by exact (pa_cons (pv 0) (pa_cons (pv 1) (pa_cons (pv 2) pa_nil))))))))
        (fun a oe cls d pn hz hf => pss_one (ps_ret (by exact (pe_lst (pa_cons (pe_xf T.xf T.nR hz hf (pv 3)) pa_nil)))))), ?_⟩
    refine ⟨_, rfl, _, rfl, _, rfl, a, b, c, q, r, f, rfl, hA, hB, hC, hq, hrl, hfl, k, fun v hv dd H1 s1 h1 => ?_⟩
    refine ⟨true, T.te, fun _ a0 _ => ?_, fun q => Bool.noConfusion q⟩
    refine ⟨_, rfl, rfl, rfl, dd, _, _, rfl, h1, rfl, (by show 1 ≤ sizeLine; decide), fun p np => k _ p ?_⟩
    rw [upd_same, hv]
    rfl
end
end Fg
/-! ### The end -/
namespace Fg
open PySem PySem.Spec PyProof.Rows L2
open PySem.W (Codec)
theorem all_mk {P : Program} {w : World} {K : PySem.W.Frag} {h : Heap} {mg : Str → Option Value} {fa C f0 : Addr} (X : K.In h) (G : h.Ns mainGlobals mg) (hfa : mg "last" = some (.ref fa))
    {nm qn : Str} {N : Addr} {bs : List Value} {sn : List Str} {sub : List Value} {ab : Bool} {col : Option Bool} {dd : Option Addr} {m0 m1 m2 m3 m5 : Option Value}
    {od0 an0 : Option Addr} {sl0 : Array (Option Value)} {oc0 kV0 dc0 pm0 cd0 ct0 : Value}
    {f1 : Addr} {od1 an1 : Option Addr} {sl1 : Array (Option Value)} {oc1 kV1 dc1 pm1 cd1 ct1 : Value}
    {f2 : Addr} {od2 an2 : Option Addr} {sl2 : Array (Option Value)} {oc2 kV2 dc2 pm2 cd2 ct2 : Value}
    {f3 : Addr} {od3 an3 : Option Addr} {sl3 : Array (Option Value)} {oc3 kV3 dc3 pm3 cd3 ct3 : Value}
    {f4 : Addr} {od4 an4 : Option Addr} {sl4 : Array (Option Value)} {oc4 kV4 dc4 pm4 cd4 ct4 : Value}
    {f5 : Addr} {od5 an5 : Option Addr} {sl5 : Array (Option Value)} {oc5 kV5 dc5 pm5 cd5 ct5 : Value}
    {f6 : Addr} {od6 an6 : Option Addr} {sl6 : Array (Option Value)} {oc6 kV6 dc6 pm6 cd6 ct6 : Value}
    {f7 : Addr} {od7 an7 : Option Addr} {sl7 : Array (Option Value)} {oc7 kV7 dc7 pm7 cd7 ct7 : Value}
    {f8 : Addr} {od8 an8 : Option Addr} {sl8 : Array (Option Value)} {oc8 kV8 dc8 pm8 cd8 ct8 : Value}
    {f9 : Addr} {od9 an9 : Option Addr} {sl9 : Array (Option Value)} {oc9 kV9 dc9 pm9 cd9 ct9 : Value}
    {f10 : Addr} {od10 an10 : Option Addr} {sl10 : Array (Option Value)} {oc10 kV10 dc10 pm10 cd10 ct10 : Value}
    {f11 : Addr} {od11 an11 : Option Addr} {sl11 : Array (Option Value)} {oc11 kV11 dc11 pm11 cd11 ct11 : Value}
    {f12 : Addr} {od12 an12 : Option Addr} {sl12 : Array (Option Value)} {oc12 kV12 dc12 pm12 cd12 ct12 : Value}
    {tOUT_OF_RANGE tCANNOT_BE tMOST_FRAMES tMOST_A_DAY tMOST_KILOGRAMS tMOST_ORDERS : Tok}
    (aC : PySem.W.nsIn K mainGlobals "Refused" = some (some (.ref C)))
    (xL : K.lookup C = some (excClassObj nm qn C N bs [.type "ValueError", .type "Exception", .type "BaseException", .type "object"] true sn sub ab col dd m0 m1 m2 m3 m5 "ValueError.__new__"))
    (sa : PySem.W.findIn K (.ref C) "__setattr__" = some (some (.builtin "object.__setattr__"))) (ga : PySem.W.findIn K (.ref C) "__getattribute__" = some (some (.builtin "BaseException.__getattribute__"))) (gg : PySem.W.findIn K (.ref C) "__getattr__" = some none) (nb : PySem.W.findIn K (.ref C) "refusal" = some none)
    (a0 : PySem.W.findIn K (.ref C) "__init__" = some (some (.ref f0))) (t0 : PySem.W.typeIn K (.ref f0) = some (.type "function"))
    (l0 : K.lookup f0 = some ⟨oc0, od0, .func (PySem.W.fnOf "__init__" "Refused.__init__" (defArgs sInit) (defBody sInit) (defScope sInit) .none kV0 dc0 pm0 an0 cd0 ct0), sl0⟩) (c0 : PySem.W.codeIn K cd0 "Refused.__init__" = true) (k0 : PySem.W.keepIn K (.ref f0) = true)
    (kC : PySem.W.keepIn K (.ref C) = true) (eC : PySem.W.subIn K (.ref C) (.type "BaseException") = some true) (tC : PySem.W.typeIn K (.ref C) = some (.type "type")) (hC : PySem.W.hasDictIn K C = true) (iC : PySem.W.isClsIn K C = true) (sC : PySem.W.subIn K (.ref C) (.ref C) = some true)
    (vV : PySem.W.findCls K (.type "ValueError") (.type "type") "__init__" = some (.val (.builtin "ValueError.__init__")))
    (a1 : PySem.W.nsIn K mainGlobals "want" = some (some (.ref f1))) (l1 : K.lookup f1 = some ⟨oc1, od1, .func (PySem.W.fnOf "want" "want" (defArgs sWant) (defBody sWant) (defScope sWant) .none kV1 dc1 pm1 an1 cd1 ct1), sl1⟩) (c1 : PySem.W.codeIn K cd1 "want" = true) (k1 : PySem.W.keepIn K (.ref f1) = true)
    (a2 : PySem.W.nsIn K mainGlobals "are_from" = some (some (.ref f2))) (l2 : K.lookup f2 = some ⟨oc2, od2, .func (PySem.W.fnOf "are_from" "are_from" (defArgs sAre) (defBody sAre) (defScope sAre) .none kV2 dc2 pm2 an2 cd2 ct2), sl2⟩) (c2 : PySem.W.codeIn K cd2 "are_from" = true) (k2 : PySem.W.keepIn K (.ref f2) = true)
    (a3 : PySem.W.nsIn K mainGlobals "want_orders" = some (some (.ref f3))) (l3 : K.lookup f3 = some ⟨oc3, od3, .func (PySem.W.fnOf "want_orders" "want_orders" (defArgs sWOrders) (defBody sWOrders) (defScope sWOrders) .none kV3 dc3 pm3 an3 cd3 ct3), sl3⟩) (c3 : PySem.W.codeIn K cd3 "want_orders" = true) (k3 : PySem.W.keepIn K (.ref f3) = true)
    (a4 : PySem.W.nsIn K mainGlobals "want_frames" = some (some (.ref f4))) (l4 : K.lookup f4 = some ⟨oc4, od4, .func (PySem.W.fnOf "want_frames" "want_frames" (defArgs sWFrames) (defBody sWFrames) (defScope sWFrames) .none kV4 dc4 pm4 an4 cd4 ct4), sl4⟩) (c4 : PySem.W.codeIn K cd4 "want_frames" = true) (k4 : PySem.W.keepIn K (.ref f4) = true)
    (a5 : PySem.W.nsIn K mainGlobals "want_given" = some (some (.ref f5))) (l5 : K.lookup f5 = some ⟨oc5, od5, .func (PySem.W.fnOf "want_given" "want_given" (defArgs sWGiven) (defBody sWGiven) (defScope sWGiven) .none kV5 dc5 pm5 an5 cd5 ct5), sl5⟩) (c5 : PySem.W.codeIn K cd5 "want_given" = true) (k5 : PySem.W.keepIn K (.ref f5) = true)
    (a6 : PySem.W.nsIn K mainGlobals "rounded_up" = some (some (.ref f6))) (l6 : K.lookup f6 = some ⟨oc6, od6, .func (PySem.W.fnOf "rounded_up" "rounded_up" (defArgs sUp) (defBody sUp) (defScope sUp) .none kV6 dc6 pm6 an6 cd6 ct6), sl6⟩) (c6 : PySem.W.codeIn K cd6 "rounded_up" = true) (k6 : PySem.W.keepIn K (.ref f6) = true)
    (a7 : PySem.W.nsIn K mainGlobals "spun_a_day" = some (some (.ref f7))) (l7 : K.lookup f7 = some ⟨oc7, od7, .func (PySem.W.fnOf "spun_a_day" "spun_a_day" (defArgs sSpun) (defBody sSpun) (defScope sSpun) .none kV7 dc7 pm7 an7 cd7 ct7), sl7⟩) (c7 : PySem.W.codeIn K cd7 "spun_a_day" = true) (k7 : PySem.W.keepIn K (.ref f7) = true)
    (a8 : PySem.W.nsIn K mainGlobals "has_frames" = some (some (.ref f8))) (l8 : K.lookup f8 = some ⟨oc8, od8, .func (PySem.W.fnOf "has_frames" "has_frames" (defArgs sHas) (defBody sHas) (defScope sHas) .none kV8 dc8 pm8 an8 cd8 ct8), sl8⟩) (c8 : PySem.W.codeIn K cd8 "has_frames" = true) (k8 : PySem.W.keepIn K (.ref f8) = true)
    (a9 : PySem.W.nsIn K mainGlobals "days_of" = some (some (.ref f9))) (l9 : K.lookup f9 = some ⟨oc9, od9, .func (PySem.W.fnOf "days_of" "days_of" (defArgs sDays) (defBody sDays) (defScope sDays) .none kV9 dc9 pm9 an9 cd9 ct9), sl9⟩) (c9 : PySem.W.codeIn K cd9 "days_of" = true) (k9 : PySem.W.keepIn K (.ref f9) = true)
    (a10 : PySem.W.nsIn K mainGlobals "last_of" = some (some (.ref f10))) (l10 : K.lookup f10 = some ⟨oc10, od10, .func (PySem.W.fnOf "last_of" "last_of" (defArgs sLastOf) (defBody sLastOf) (defScope sLastOf) .none kV10 dc10 pm10 an10 cd10 ct10), sl10⟩) (c10 : PySem.W.codeIn K cd10 "last_of" = true) (k10 : PySem.W.keepIn K (.ref f10) = true)
    (a11 : PySem.W.nsIn K mainGlobals "last_told" = some (some (.ref f11))) (l11 : K.lookup f11 = some ⟨oc11, od11, .func (PySem.W.fnOf "last_told" "last_told" (defArgs sLastTold) (defBody sLastTold) (defScope sLastTold) .none kV11 dc11 pm11 an11 cd11 ct11), sl11⟩) (c11 : PySem.W.codeIn K cd11 "last_told" = true) (k11 : PySem.W.keepIn K (.ref f11) = true)
    (a12 : PySem.W.nsIn K mainGlobals "last" = some (some (.ref f12))) (l12 : K.lookup f12 = some ⟨oc12, od12, .func (PySem.W.fnOf "last" "last" (defArgs sLast) (defBody sLast) (defScope sLast) .none kV12 dc12 pm12 an12 cd12 ct12), sl12⟩) (c12 : PySem.W.codeIn K cd12 "last" = true) (k12 : PySem.W.keepIn K (.ref f12) = true)
    (zValueError : PySem.W.nsIn K mainGlobals "ValueError" = some none)
    (zall : PySem.W.nsIn K mainGlobals "all" = some none)
    (zlen : PySem.W.nsIn K mainGlobals "len" = some none)
    (zrange : PySem.W.nsIn K mainGlobals "range" = some none)
    (zsum : PySem.W.nsIn K mainGlobals "sum" = some none)
    (zmax : PySem.W.nsIn K mainGlobals "max" = some none)
    (zenumerate : PySem.W.nsIn K mainGlobals "enumerate" = some none)
    (zlist : PySem.W.nsIn K mainGlobals "list" = some none)
    (gOUT_OF_RANGE : PySem.W.nsIn K mainGlobals "OUT_OF_RANGE" = some (some (.int (-22) tOUT_OF_RANGE)))
    (gCANNOT_BE : PySem.W.nsIn K mainGlobals "CANNOT_BE" = some (some (.int (-33) tCANNOT_BE)))
    (gMOST_FRAMES : PySem.W.nsIn K mainGlobals "MOST_FRAMES" = some (some (.int 6 tMOST_FRAMES)))
    (gMOST_A_DAY : PySem.W.nsIn K mainGlobals "MOST_A_DAY" = some (some (.int 1000 tMOST_A_DAY)))
    (gMOST_KILOGRAMS : PySem.W.nsIn K mainGlobals "MOST_KILOGRAMS" = some (some (.int 10000 tMOST_KILOGRAMS)))
    (gMOST_ORDERS : PySem.W.nsIn K mainGlobals "MOST_ORDERS" = some (some (.int 4 tMOST_ORDERS)))
    : ∃ fd : FuncData, (∀ (s : Shared) (us : List Value), us.length = (["orders", "frames", "given"] : List Str).length → BindsTo s fd ⟨us, []⟩ ((["orders", "frames", "given"] : List Str).zip us)) ∧ ∀ base : Heap, K.In base → base.Ns mainGlobals mg → FnOk P w K mg base CX0 6 fa fd ["orders", "frames", "given"] (spLast K) := by
  have e := hfa.symm.trans (PySem.W.mg_of X G a12)
  cases e
  have F0 := fun_mk (st := sInit) l0 c0 k0
  have b0 := F0.binds (ps := ["self", "refusal"]) fun _ _ _ _ _ _ us hl => match us, hl with | [_, _], _ => rfl
  have T : Txt K mg C f0 _ :=
    { oex := { cls := ⟨nm, qn, N, bs, _, sn, sub, ab, col, dd, m0, m1, m2, m3, m5, xL, by decide +kernel⟩, sa := sa, exC := eC, tyC := tC, kC := kC }, xf := { ga := ga, gg := gg, exC := eC, hdC := hC }, nR := nb, iC := a0, tI := t0, gC := PySem.W.mg_of X G aC, te := exm_self eC iC tC sC, vV := vV, fI := F0, bI := b0,
      nVE := PySem.W.mg_none_of X G zValueError, nAll := PySem.W.mg_none_of X G zall, nLen := PySem.W.mg_none_of X G zlen, nRange := PySem.W.mg_none_of X G zrange, nSum := PySem.W.mg_none_of X G zsum, nMax := PySem.W.mg_none_of X G zmax, nEnum := PySem.W.mg_none_of X G zenumerate, nList := PySem.W.mg_none_of X G zlist,
      gOut := ⟨_, PySem.W.mg_of X G gOUT_OF_RANGE⟩, gCan := ⟨_, PySem.W.mg_of X G gCANNOT_BE⟩, gMF := ⟨_, PySem.W.mg_of X G gMOST_FRAMES⟩, gMD := ⟨_, PySem.W.mg_of X G gMOST_A_DAY⟩, gMK := ⟨_, PySem.W.mg_of X G gMOST_KILOGRAMS⟩ }
  have F1 := fun_mk (st := sWant) l1 c1 k1
  have D_want : Dn K mg "want" sWant f1 _ ["is_so", "refusal"] := ⟨PySem.W.mg_of X G a1, F1, F1.binds (ps := ["is_so", "refusal"]) fun _ _ _ _ _ _ us hl => match us, hl with | [_, _], _ => rfl⟩
  have F2 := fun_mk (st := sAre) l2 c2 k2
  have D_are_from : Dn K mg "are_from" sAre f2 _ ["numbers", "least", "most"] := ⟨PySem.W.mg_of X G a2, F2, F2.binds (ps := ["numbers", "least", "most"]) fun _ _ _ _ _ _ us hl => match us, hl with | [_, _, _], _ => rfl⟩
  have F3 := fun_mk (st := sWOrders) l3 c3 k3
  have D_want_orders : Dn K mg "want_orders" sWOrders f3 _ ["orders"] := ⟨PySem.W.mg_of X G a3, F3, F3.binds (ps := ["orders"]) fun _ _ _ _ _ _ us hl => match us, hl with | [_], _ => rfl⟩
  have F4 := fun_mk (st := sWFrames) l4 c4 k4
  have D_want_frames : Dn K mg "want_frames" sWFrames f4 _ ["frames"] := ⟨PySem.W.mg_of X G a4, F4, F4.binds (ps := ["frames"]) fun _ _ _ _ _ _ us hl => match us, hl with | [_], _ => rfl⟩
  have F5 := fun_mk (st := sWGiven) l5 c5 k5
  have D_want_given : Dn K mg "want_given" sWGiven f5 _ ["orders", "frames", "given"] := ⟨PySem.W.mg_of X G a5, F5, F5.binds (ps := ["orders", "frames", "given"]) fun _ _ _ _ _ _ us hl => match us, hl with | [_, _, _], _ => rfl⟩
  have F6 := fun_mk (st := sUp) l6 c6 k6
  have D_rounded_up : Dn K mg "rounded_up" sUp f6 _ ["number", "other"] := ⟨PySem.W.mg_of X G a6, F6, F6.binds (ps := ["number", "other"]) fun _ _ _ _ _ _ us hl => match us, hl with | [_, _], _ => rfl⟩
  have F7 := fun_mk (st := sSpun) l7 c7 k7
  have D_spun_a_day : Dn K mg "spun_a_day" sSpun f7 _ ["order", "frames", "given"] := ⟨PySem.W.mg_of X G a7, F7, F7.binds (ps := ["order", "frames", "given"]) fun _ _ _ _ _ _ us hl => match us, hl with | [_, _, _], _ => rfl⟩
  have F8 := fun_mk (st := sHas) l8 c8 k8
  have D_has_frames : Dn K mg "has_frames" sHas f8 _ ["orders", "given"] := ⟨PySem.W.mg_of X G a8, F8, F8.binds (ps := ["orders", "given"]) fun _ _ _ _ _ _ us hl => match us, hl with | [_, _], _ => rfl⟩
  have F9 := fun_mk (st := sDays) l9 c9 k9
  have D_days_of : Dn K mg "days_of" sDays f9 _ ["orders", "frames", "given"] := ⟨PySem.W.mg_of X G a9, F9, F9.binds (ps := ["orders", "frames", "given"]) fun _ _ _ _ _ _ us hl => match us, hl with | [_, _, _], _ => rfl⟩
  have F10 := fun_mk (st := sLastOf) l10 c10 k10
  have D_last_of : Dn K mg "last_of" sLastOf f10 _ ["days"] := ⟨PySem.W.mg_of X G a10, F10, F10.binds (ps := ["days"]) fun _ _ _ _ _ _ us hl => match us, hl with | [_], _ => rfl⟩
  have F11 := fun_mk (st := sLastTold) l11 c11 k11
  have D_last_told : Dn K mg "last_told" sLastTold f11 _ ["orders", "frames", "given"] := ⟨PySem.W.mg_of X G a11, F11, F11.binds (ps := ["orders", "frames", "given"]) fun _ _ _ _ _ _ us hl => match us, hl with | [_, _, _], _ => rfl⟩
  have F12 := fun_mk (st := sLast) l12 c12 k12
  have D_last : Dn K mg "last" sLast fa _ ["orders", "frames", "given"] := ⟨PySem.W.mg_of X G a12, F12, F12.binds (ps := ["orders", "frames", "given"]) fun _ _ _ _ _ _ us hl => match us, hl with | [_, _, _], _ => rfl⟩
  refine ⟨PySem.W.fnOf "last" "last" (defArgs sLast) (defBody sLast) (defScope sLast) .none kV12 dc12 pm12 an12 cd12 ct12, fun s us hu => match us, hu with | [_, _, _], _ => .of_eq rfl, fun base _ _ => ?_⟩
  have mo : ∃ t, mg "MOST_ORDERS" = some (.int 4 t) := ⟨_, PySem.W.mg_of X G gMOST_ORDERS⟩
  have GO := ok_worders (P := P) (w := w) (base := base) T mo D_want_orders D_want D_are_from
  have GF := ok_wframes (P := P) (w := w) (base := base) T D_want_frames D_want D_are_from
  have GG := ok_wgiven (P := P) (w := w) (base := base) T D_want_given D_want D_are_from
  have GD := ok_days (P := P) (w := w) (base := base) T D_days_of D_rounded_up D_spun_a_day
  have GL := ok_lastOf (P := P) (w := w) (base := base) T D_last_of
  have GH := ok_has (P := P) (w := w) (base := base) T D_has_frames
  have GT := ok_lastTold T D_last_told D_want D_want_orders D_want_frames D_want_given D_has_frames D_days_of D_last_of GO GF GG GH GD GL
  exact ok_last T D_last D_last_told GT
/-- a list that may be handed in is one of numbers not below 0 -/
theorem list_in {n : Nat} {l : List Int} (h : (Codec.inLen 0 n l && l.all (Codec.inInt (_root_.Int.ofNat 0) (_root_.Int.ofNat 4294967295))) = true) : ∃ q : List Nat, l = castN q ∧ q.length ≤ n := by
  rw [Bool.and_eq_true] at h
  have h1 := (Codec.inNat_iff.mp h.1).2
  have h2 : ∀ x ∈ l, (0 : Int) ≤ x := fun x hx => (Codec.inInt_iff.mp (List.all_eq_true.mp h.2 x hx)).1
  exact ⟨_, cast_of h2, by rw [List.length_map]; exact h1⟩
theorem int_in {z : Int} (h : Codec.inInt (_root_.Int.ofNat 0) (_root_.Int.ofNat 4294967295) z = true) : ∃ n : Nat, z = (n : Int) ∧ n ≤ 4294967295 := by
  obtain ⟨h1, h2⟩ := Codec.inInt_iff.mp h
  have h1 : (0 : Int) ≤ z := h1
  have h2 : z ≤ 4294967295 := h2
  exact ⟨z.toNat, by omega, by omega⟩
end Fg
open PySem PySem.W PyProof.Rows
set_option maxRecDepth 100000 in
set_option maxHeartbeats 8000000 in
theorem PySem.Challenge.cw_framesgiven_s01_last_holds : PySem.Challenge.rw_framesgiven_s01_last.Holds := by
  w_on; k_headS; (case hw => exact ⟨[.list [], .list [], .list []], by decide +kernel, by decide +kernel⟩)
  k_fillS
  refine L2.walk_specK (r := PySem.Challenge.rw_framesgiven_s01_last) (k := 6) (CX := L2.CX0) (ps := ["orders", "frames", "given"]) (sp := Fg.spLast) (by decide +kernel) rfl rfl ⟨rfl, by decide, by decide⟩ (fun w h Y => PySem.W.kIn_of Y) ?F ?S (fun _ _ _ _ z => z)
  case F =>
    intro w mg fa h Y KX G hmg
    refine' Fg.all_mk KX G hmg ?aC ?xL ?sa ?ga ?gg ?nb ?a0 ?t0 ?l0 ?c0 ?k0 ?kC ?eC ?tC ?hC ?iC ?sC ?vV ?a1 ?l1 ?c1 ?k1 ?a2 ?l2 ?c2 ?k2 ?a3 ?l3 ?c3 ?k3 ?a4 ?l4 ?c4 ?k4 ?a5 ?l5 ?c5 ?k5 ?a6 ?l6 ?c6 ?k6 ?a7 ?l7 ?c7 ?k7 ?a8 ?l8 ?c8 ?k8 ?a9 ?l9 ?c9 ?k9 ?a10 ?l10 ?c10 ?k10 ?a11 ?l11 ?c11 ?k11 ?a12 ?l12 ?c12 ?k12 ?zValueError ?zall ?zlen ?zrange ?zsum ?zmax ?zenumerate ?zlist ?gOUT_OF_RANGE ?gCANNOT_BE ?gMOST_FRAMES ?gMOST_A_DAY ?gMOST_KILOGRAMS ?gMOST_ORDERS
    (case aC => k_is)
    (case xL => k_is)
    (case sa => k_is)
    (case ga => k_is)
    (case gg => k_is)
    (case nb => k_is)
    (case a0 => k_is)
    (case t0 => k_is)
    (case l0 => k_is)
    (case c0 => k_is)
    (case k0 => k_is)
    (case kC => k_is)
    (case eC => k_is)
    (case tC => k_is)
    (case hC => k_is)
    (case iC => k_is)
    (case sC => first | rfl | k_is)
    (case vV => first | k_is | rfl | decide +kernel)
    (case a1 => k_is)
    (case l1 => k_is)
    (case c1 => k_is)
    (case k1 => k_is)
    (case a2 => k_is)
    (case l2 => k_is)
    (case c2 => k_is)
    (case k2 => k_is)
    (case a3 => k_is)
    (case l3 => k_is)
    (case c3 => k_is)
    (case k3 => k_is)
    (case a4 => k_is)
    (case l4 => k_is)
    (case c4 => k_is)
    (case k4 => k_is)
    (case a5 => k_is)
    (case l5 => k_is)
    (case c5 => k_is)
    (case k5 => k_is)
    (case a6 => k_is)
    (case l6 => k_is)
    (case c6 => k_is)
    (case k6 => k_is)
    (case a7 => k_is)
    (case l7 => k_is)
    (case c7 => k_is)
    (case k7 => k_is)
    (case a8 => k_is)
    (case l8 => k_is)
    (case c8 => k_is)
    (case k8 => k_is)
    (case a9 => k_is)
    (case l9 => k_is)
    (case c9 => k_is)
    (case k9 => k_is)
    (case a10 => k_is)
    (case l10 => k_is)
    (case c10 => k_is)
    (case k10 => k_is)
    (case a11 => k_is)
    (case l11 => k_is)
    (case c11 => k_is)
    (case k11 => k_is)
    (case a12 => k_is)
    (case l12 => k_is)
    (case c12 => k_is)
    (case k12 => k_is)
    (case zValueError => k_is)
    (case zall => k_is)
    (case zlen => k_is)
    (case zrange => k_is)
    (case zsum => k_is)
    (case zmax => k_is)
    (case zenumerate => k_is)
    (case zlist => k_is)
    (case gOUT_OF_RANGE => k_is)
    (case gCANNOT_BE => k_is)
    (case gMOST_FRAMES => k_is)
    (case gMOST_A_DAY => k_is)
    (case gMOST_KILOGRAMS => k_is)
    (case gMOST_ORDERS => k_is)
  case S =>
    intro K H xs a hO hwi hask hx
    obtain ⟨orders, frames, given, u⟩ := a
    have qw : ((Codec.inLen 0 6 orders && orders.all (Codec.inInt (_root_.Int.ofNat 0) (_root_.Int.ofNat 4294967295))) && ((Codec.inLen 0 8 frames && frames.all (Codec.inInt (_root_.Int.ofNat 0) (_root_.Int.ofNat 4294967295))) && ((Codec.inLen 0 8 given && given.all (Codec.inInt (_root_.Int.ofNat 0) (_root_.Int.ofNat 4294967295))) && true))) = true := hwi
    have q0 := Bool.and_eq_true_iff.mp qw
    have q00 := Bool.and_eq_true_iff.mp q0.2
    have q000 := Bool.and_eq_true_iff.mp q00.2
    obtain ⟨q, rfl, hq1⟩ := Fg.list_in q0.1
    obtain ⟨r, rfl, hr1⟩ := Fg.list_in q00.1
    obtain ⟨f, rfl, hf1⟩ := Fg.list_in q000.1
    cases hx with
    | cons h1 h2 =>
      cases h2 with
      | cons h2 h3 =>
        cases h3 with
        | cons h3 h4 =>
          cases h4
          cases h1 with
          | lst s1 e1 =>
          cases h2 with
          | lst s2 e2 =>
          cases h3 with
          | lst s3 e3 =>
            have e := L2.ints_dw (Fg.castN q) _ e1
            subst e
            have e := L2.ints_dw (Fg.castN r) _ e2
            subst e
            have e := L2.ints_dw (Fg.castN f) _ e3
            subst e
            refine ⟨_, _, _, q, r, f, rfl, s1, s2, s3, hq1, hr1, hf1, fun H' p hp => ?_⟩
            show L2.Dw K H' (.ref p) (.list ((PyKzd6.last (Fg.castN q) (Fg.castN r) (Fg.castN f)).map WData.int))
            rw [Fg.last_ans]
            exact .lst (L2.SqL.of hp) (L2.dw_ints _)
#print axioms PySem.Challenge.cw_framesgiven_s01_last_holds
