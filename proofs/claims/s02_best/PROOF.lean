import PyProof.Rows.All
import Wide.All
import OpenK.AllK
import Wide.FinOn
import PyProof.EqAt
import PyProof.EqKinds
import PyProof.TupleCall
import Open.SpecLaws
import KE.OsGo
import HandS.ForSpec
import HandS.Comp
import HandS.Iter
import HandS.Walk
import HandS.ExcInit
import HandS.ExcField
import PySem.Challenge.RW_framesgiven_s02_best
set_option Elab.async false
set_option linter.all false
set_option maxRecDepth 100000
set_option maxHeartbeats 4000000
/-! The plain law: no program in sight. -/
namespace Fg
open Kzd6

/-! ### sums -/
theorem foldl_add (l : List Nat) : ∀ a : Nat, l.foldl (· + ·) a = a + l.sum := by
  induction l with
  | nil => intro a; simp
  | cons x l ih => intro a; rw [List.foldl_cons, ih, List.sum_cons]; omega
theorem sum_is (l : List Nat) : Kzd1.sum l = l.sum := by
  unfold Kzd1.sum
  rw [foldl_add]; omega
theorem sum_cast (l : List Nat) : (l.map fun n : Nat => (n : Int)).sum = ((l.sum : Nat) : Int) := by
  induction l with
  | nil => rfl
  | cons x l ih => rw [List.map_cons, List.sum_cons, ih, List.sum_cons]; omega
theorem sum_filter (p : Nat → Bool) (g : Nat → Nat) (l : List Nat) : ((l.filter p).map g).sum = (l.map fun k => if p k = true then g k else 0).sum := by
  induction l with
  | nil => rfl
  | cons x l ih =>
    rw [List.filter_cons, List.map_cons, List.sum_cons]
    by_cases h : p x = true
    · rw [if_pos h, if_pos h, List.map_cons, List.sum_cons, ih]
    · rw [if_neg h, if_neg h, ih]; omega
theorem sum_pos_iff (l : List Nat) : l.sum = 0 ↔ ∀ x ∈ l, x = 0 := by
  induction l with
  | nil => simp
  | cons x l ih =>
    rw [List.sum_cons]
    constructor
    · intro h y hy
      rcases List.mem_cons.mp hy with e | e
      · omega
      · exact ih.mp (by omega) y e
    · intro h
      have h1 := h x (List.mem_cons_self ..)
      have h2 := ih.mpr fun y hy => h y (List.mem_cons_of_mem _ hy)
      omega
theorem zip_range {g : Nat → Nat → Nat} : ∀ (r f : List Nat), f.length = r.length → List.zipWith g r f = (List.range r.length).map fun k => g (r.getD k 0) (f.getD k 0)
  | [], [], _ => rfl
  | [], _ :: _, h => by simp at h
  | _ :: _, [], h => by simp at h
  | x :: r, y :: f, h => by
    have h' : f.length = r.length := by simpa using h
    rw [List.zipWith_cons_cons, zip_range r f h', List.length_cons, List.range_succ_eq_map, List.map_cons, List.map_map]
    rfl

/-! ### frames given to an order -/
/-- what the frames of an order spin, by places -/
def pick (r f : List Nat) (j n : Nat) : List Nat := ((List.range n).filter fun k => f.getD k 0 == j).map fun k => r.getD k 0
theorem pick_succ (r f : List Nat) (j n : Nat) : pick r f j (n + 1) = if f.getD n 0 = j then pick r f j n ++ [r.getD n 0] else pick r f j n := by
  unfold pick
  rw [List.range_succ, List.filter_append, List.map_append]
  by_cases h : f.getD n 0 = j
  · rw [if_pos h]
    have e : (f.getD n 0 == j) = true := by simpa using h
    simp only [List.filter_cons, List.filter_nil, e, if_true, List.map_cons, List.map_nil]
  · rw [if_neg h]
    have e : (f.getD n 0 == j) = false := by simpa using h
    simp only [List.filter_cons, List.filter_nil, e, Bool.false_eq_true, if_false, List.map_nil, List.append_nil]
theorem pick_length (r f : List Nat) (j n : Nat) : (pick r f j n).length ≤ n := by
  unfold pick
  rw [List.length_map]
  exact Nat.le_trans (List.length_filter_le _ _) (by simp)
theorem rate_pick {r f : List Nat} (h : f.length = r.length) (j : Nat) : rate r f j = (pick r f j r.length).sum := by
  unfold rate pick
  rw [sum_is, zip_range r f h, sum_filter]
  congr 1
  apply List.map_congr_left
  intro k _
  by_cases e : f.getD k 0 = j
  · simp
  · simp
theorem frames_le {r : List Nat} (h : okFrames r = true) : r.length ≤ 6 ∧ ∀ x ∈ r, 1 ≤ x ∧ x ≤ 1000 := by
  unfold okFrames at h
  simp only [Bool.and_eq_true, decide_eq_true_eq, List.all_eq_true] at h
  exact h
theorem orders_le {q : List Nat} (h : okOrders q = true) : q.length ≤ 4 ∧ ∀ x ∈ q, 1 ≤ x ∧ x ≤ 10000 := by
  unfold okOrders at h
  simp only [Bool.and_eq_true, decide_eq_true_eq, List.all_eq_true] at h
  exact h
theorem getD_mem {l : List Nat} {k : Nat} (h : k < l.length) : l.getD k 0 ∈ l := by
  rw [List.getD_eq_getElem?_getD, List.getElem?_eq_getElem h]
  exact List.getElem_mem h
theorem rate_zero {r f : List Nat} (hr : ∀ x ∈ r, 1 ≤ x) (h : f.length = r.length) (j : Nat) : rate r f j = 0 ↔ j ∉ f := by
  rw [rate_pick h, sum_pos_iff]
  constructor
  · intro z hj
    obtain ⟨k, hk, e⟩ := List.getElem_of_mem hj
    have hk' : k < r.length := by omega
    have e1 : f.getD k 0 = j := by rw [List.getD_eq_getElem?_getD, List.getElem?_eq_getElem hk]; exact e
    have m : r.getD k 0 ∈ pick r f j r.length := by
      unfold pick
      exact List.mem_map.mpr ⟨k, List.mem_filter.mpr ⟨List.mem_range.mpr hk', by simpa using e1⟩, rfl⟩
    have z1 := z _ m
    have z2 := hr _ (getD_mem hk')
    omega
  · intro hj x hx
    unfold pick at hx
    obtain ⟨k, hk, e⟩ := List.mem_map.mp hx
    obtain ⟨h1, h2⟩ := List.mem_filter.mp hk
    have h3 : k < r.length := List.mem_range.mp h1
    have h4 : f.getD k 0 = j := by simpa using h2
    exact absurd (h4 ▸ getD_mem (l := f) (k := k) (by omega)) hj
theorem sum_le (c : Nat) : ∀ l : List Nat, (∀ x ∈ l, x ≤ c) → l.sum ≤ c * l.length
  | [], _ => by simp
  | x :: l, h => by
    have h1 := h x (List.mem_cons_self ..)
    have h2 := sum_le c l fun y hy => h y (List.mem_cons_of_mem _ hy)
    rw [List.sum_cons, List.length_cons, Nat.mul_succ]
    omega
theorem rate_le {r f : List Nat} (hr : ∀ x ∈ r, x ≤ 1000) (hl : r.length ≤ 1000) (h : f.length = r.length) (j : Nat) : rate r f j ≤ 1000000 := by
  rw [rate_pick h]
  have h1 : ∀ x ∈ pick r f j r.length, x ≤ 1000 := fun x hx => by
    unfold pick at hx
    obtain ⟨k, hk, e⟩ := List.mem_map.mp hx
    have h3 : k < r.length := List.mem_range.mp (List.mem_filter.mp hk).1
    rw [← e]
    exact hr _ (getD_mem h3)
  have h2 := sum_le 1000 _ h1
  have h3 := pick_length r f j r.length
  omega

/-! ### days -/
def hasF (q f : List Nat) : Bool := (List.range q.length).all fun j => f.contains j
def dayN (q r f : List Nat) (j : Nat) : Nat := (q.getD j 0 + rate r f j - 1) / rate r f j
def dn (q r f : List Nat) : List Nat := (List.range q.length).map (dayN q r f)
def lastN (q r f : List Nat) : Nat := (dn q r f).foldl max 0
theorem dn_length (q r f : List Nat) : (dn q r f).length = q.length := by unfold dn; simp
theorem allDays_has {q r f : List Nat} (hr : ∀ x ∈ r, 1 ≤ x) (h : f.length = r.length) (hf : hasF q f = true) : allDays q r f = (dn q r f).map some := by
  unfold allDays dn
  rw [List.map_map]
  apply List.map_congr_left
  intro j hj
  unfold hasF at hf
  have h1 := List.all_eq_true.mp hf j hj
  have h2 : j ∈ f := by simpa using h1
  have h3 : rate r f j ≠ 0 := fun z => (rate_zero hr h j).mp z h2
  unfold days dayN
  rw [if_neg h3]
  rfl
theorem fold_some : ∀ (l : List Nat) (a : Nat), (l.map some).foldl (fun a b => match a, b with
  | some x, some y => some (max x y)
  | _, _ => none) (some a) = some (l.foldl max a)
  | [], _ => rfl
  | x :: l, a => by
    rw [List.map_cons, List.foldl_cons, List.foldl_cons]
    exact fold_some l (max a x)
theorem fold_none : ∀ (l : List (Option Nat)), l.foldl (fun a b => match a, b with
  | some x, some y => some (max x y)
  | _, _ => none) (none : Option Nat) = none
  | [] => rfl
  | _ :: l => by
    rw [List.foldl_cons]
    exact fold_none l
theorem fold_none_mem : ∀ (l : List (Option Nat)) (a : Option Nat), none ∈ l → l.foldl (fun a b => match a, b with
  | some x, some y => some (max x y)
  | _, _ => none) a = none
  | [], _, h => by simp at h
  | none :: l, a, _ => by
    rw [List.foldl_cons]
    have e : (match a, (none : Option Nat) with
      | some x, some y => some (max x y)
      | _, _ => none) = none := by cases a <;> rfl
    rw [e]
    exact fold_none l
  | some y :: l, a, h => by
    rw [List.foldl_cons]
    refine fold_none_mem l _ ?_
    rcases List.mem_cons.mp h with e | e
    · cases e
    · exact e
theorem last_has {q r f : List Nat} (hr : ∀ x ∈ r, 1 ≤ x) (h : f.length = r.length) (hf : hasF q f = true) : last q r f = some (lastN q r f) := by
  unfold last lastN
  rw [allDays_has hr h hf]
  exact fold_some _ 0
theorem last_hasnt {q r f : List Nat} (hr : ∀ x ∈ r, 1 ≤ x) (h : f.length = r.length) (hf : hasF q f = false) : last q r f = none := by
  unfold last
  refine fold_none_mem _ _ ?_
  have h1 : ¬ (List.range q.length).all (fun j => f.contains j) = true := by
    unfold hasF at hf
    rw [hf]
    exact Bool.false_ne_true
  rw [List.all_eq_true] at h1
  obtain ⟨j, hj⟩ := Classical.not_forall.mp h1
  obtain ⟨hj1, hj2⟩ := Classical.not_imp.mp hj
  unfold allDays
  refine List.mem_map.mpr ⟨j, hj1, ?_⟩
  have h3 : rate r f j = 0 := (rate_zero hr h j).mpr (by simpa using hj2)
  unfold days
  rw [if_pos h3]
theorem last_some {q r f : List Nat} (hr : ∀ x ∈ r, 1 ≤ x) (h : f.length = r.length) : last q r f = if hasF q f = true then some (lastN q r f) else none := by
  by_cases e : hasF q f = true
  · rw [if_pos e]
    exact last_has hr h e
  · rw [if_neg e]
    exact last_hasnt hr h (by simpa using e)

/-! ### the greatest -/
theorem foldl_max : ∀ (l : List Nat) (a : Nat), a ≤ l.foldl max a ∧ (∀ x ∈ l, x ≤ l.foldl max a) ∧ (l.foldl max a = a ∨ l.foldl max a ∈ l)
  | [], a => ⟨Nat.le_refl _, fun _ h => by simp at h, .inl rfl⟩
  | x :: l, a => by
    obtain ⟨h1, h2, h3⟩ := foldl_max l (max a x)
    rw [List.foldl_cons]
    refine ⟨by omega, fun y hy => ?_, ?_⟩
    · rcases List.mem_cons.mp hy with e | e
      · rw [e]; omega
      · exact h2 y e
    · rcases h3 with e | e
      · rw [e]
        by_cases c : x ≤ a
        · exact .inl (by omega)
        · exact .inr (by rw [show max a x = x by omega]; exact List.mem_cons_self ..)
      · exact .inr (List.mem_cons_of_mem _ e)
theorem max_is {l : List Nat} {m : Int} (hm : m ∈ (0 :: l.map fun n : Nat => (n : Int))) (hle : ∀ y ∈ (0 :: l.map fun n : Nat => (n : Int)), y ≤ m) : m = ((l.foldl max 0 : Nat) : Int) := by
  obtain ⟨h1, h2, h3⟩ := foldl_max l 0
  have u : ((l.foldl max 0 : Nat) : Int) ≤ m := by
    rcases h3 with e | e
    · rw [e]; exact hle _ (List.mem_cons_self ..)
    · exact hle _ (List.mem_cons_of_mem _ (List.mem_map.mpr ⟨_, e, rfl⟩))
  have v : m ≤ ((l.foldl max 0 : Nat) : Int) := by
    rcases List.mem_cons.mp hm with e | e
    · rw [e]; omega
    · obtain ⟨x, hx, e⟩ := List.mem_map.mp e
      rw [← e]
      have := h2 x hx
      omega
  omega

/-! ### the statements, by cases -/
def castN (l : List Nat) : List Int := l.map fun n : Nat => (n : Int)
theorem nats_cast (l : List Nat) : Kzd6Neutral.natsOf (castN l) = l := by
  unfold Kzd6Neutral.natsOf castN
  rw [List.map_map]
  conv => rhs; rw [← List.map_id l]
  apply List.map_congr_left
  intro x _
  simp
theorem cast_of {l : List Int} (h : ∀ x ∈ l, 0 ≤ x) : l = castN (l.map Int.toNat) := by
  unfold castN
  rw [List.map_map]
  conv => lhs; rw [← List.map_id l]
  apply List.map_congr_left
  intro x hx
  have := h x hx
  simp only [id_eq, Function.comp_apply]
  omega
theorem ints_cast (l : List Nat) : Kzd6Neutral.ints l = castN l := rfl
theorem last_eq (q r f : List Nat) : PyKzd6.last (castN q) (castN r) (castN f) = (answer (.last q r f)).value :: castN (answer (.last q r f)).nums := by
  show (answer (.last (Kzd6Neutral.natsOf (castN q)) (Kzd6Neutral.natsOf (castN r)) (Kzd6Neutral.natsOf (castN f)))).value :: Kzd6Neutral.ints _ = _
  rw [nats_cast, nats_cast, nats_cast]
  rfl
theorem best_eq (q r : List Nat) : PyKzd6.best (castN q) (castN r) = (answer (.best q r)).value :: castN (answer (.best q r)).nums := by
  show (answer (.best (Kzd6Neutral.natsOf (castN q)) (Kzd6Neutral.natsOf (castN r)))).value :: Kzd6Neutral.ints _ = _
  rw [nats_cast, nats_cast]
  rfl
theorem fewest_eq (x d : Nat) (r : List Nat) : PyKzd6.fewest (x : Int) (d : Int) (castN r) = (answer (.fewest x d r)).value :: castN (answer (.fewest x d r)).nums := by
  show (answer (.fewest (x : Int).toNat (d : Int).toNat (Kzd6Neutral.natsOf (castN r)))).value :: Kzd6Neutral.ints _ = _
  rw [nats_cast]
  rfl
/-- last: what is due, by cases -/
def lastAns (q r f : List Nat) : List Int :=
  if okOrders q = false ∨ okFrames r = false ∨ okGiven q r f = false then [-22] else if hasF q f = true then castN (lastN q r f :: dn q r f) else [-33]
theorem given_len {q r f : List Nat} (h : okGiven q r f = true) : f.length = r.length ∧ ∀ j ∈ f, j < q.length := by
  unfold okGiven at h
  simpa using h
theorem last_ans (q r f : List Nat) : PyKzd6.last (castN q) (castN r) (castN f) = lastAns q r f := by
  rw [last_eq]
  unfold lastAns answer
  dsimp only
  by_cases c : okOrders q = false ∨ okFrames r = false ∨ okGiven q r f = false
  · rw [if_pos c, if_pos c]
    rfl
  · rw [if_neg c, if_neg c]
    have cr : okFrames r = true := by
      cases e : okFrames r with
      | true => rfl
      | false => exact absurd (.inr (.inl e)) c
    have cg : okGiven q r f = true := by
      cases e : okGiven q r f with
      | true => rfl
      | false => exact absurd (.inr (.inr e)) c
    have hr : ∀ x ∈ r, 1 ≤ x := fun x hx => ((frames_le cr).2 x hx).1
    rw [last_some hr (given_len cg).1]
    by_cases e : hasF q f = true
    · rw [if_pos e, if_pos e]
      dsimp only
      rw [allDays_has hr (given_len cg).1 e, List.map_map]
      show ((lastN q r f : Nat) : Int) :: castN ((dn q r f).map _) = castN (lastN q r f :: dn q r f)
      have e2 : (dn q r f).map ((fun x : Option Nat => x.getD 0) ∘ some) = dn q r f := by
        conv => rhs; rw [← List.map_id (dn q r f)]
        rfl
      rw [e2]
      rfl
    · rw [if_neg e, if_neg e]
      rfl

/-! ### ways -/
theorem ways_succ (m : Nat) : ∀ n : Nat, waysOn m (n + 1) = (waysOn m n).flatMap fun w => (List.range m).map fun j => w ++ [j]
  | 0 => by
    show (List.range m).flatMap (fun j => [[]].map (j :: ·)) = [[]].flatMap fun w => (List.range m).map fun j => w ++ [j]
    simp
    induction List.range m with
    | nil => rfl
    | cons x l ih => simpa using ih
  | n + 1 => by
    have ih := ways_succ m n
    show (List.range m).flatMap (fun j => (waysOn m (n + 1)).map (j :: ·)) = ((List.range m).flatMap (fun j => (waysOn m n).map (j :: ·))).flatMap fun w => (List.range m).map fun j => w ++ [j]
    rw [ih, List.flatMap_assoc]
    congr 1
    funext j
    rw [List.map_flatMap, List.flatMap_map]
    congr 1
    funext w
    rw [List.map_map]
    rfl
theorem ways_length (m : Nat) : ∀ n : Nat, (waysOn m n).length = m ^ n
  | 0 => rfl
  | n + 1 => by
    rw [ways_succ, List.length_flatMap]
    have e : (fun w : List Nat => ((List.range m).map fun j => w ++ [j]).length) = fun _ => m := by funext w; simp
    rw [e, Nat.pow_succ, ← ways_length m n]
    induction waysOn m n with
    | nil => simp
    | cons x l ih => rw [List.map_cons, List.sum_cons, ih, List.length_cons, Nat.succ_mul]; omega
theorem ways_mem (m : Nat) : ∀ (n : Nat) (w : List Nat), w ∈ waysOn m n → w.length = n
  | 0, w, h => by
    have e : w ∈ ([[]] : List (List Nat)) := h
    simp at e
    rw [e]
    rfl
  | n + 1, w, h => by
    have h' : w ∈ (List.range m).flatMap fun j => (waysOn m n).map (j :: ·) := h
    obtain ⟨j, _, h2⟩ := List.mem_flatMap.mp h'
    obtain ⟨v, h3, e⟩ := List.mem_map.mp h2
    rw [← e, List.length_cons, ways_mem m n v h3]
/-- of two ways the sooner one, the first of like ones -/
def sooN (q r : List Nat) (g f : List Nat) : List Nat := if lastN q r f < lastN q r g then f else g
def fullW (q r : List Nat) : List (List Nat) := (waysOn q.length r.length).filter (hasF q)
theorem best_some {q r : List Nat} (hr : ∀ x ∈ r, 1 ≤ x) : ∀ (ws : List (List Nat)) (g : List Nat), (∀ w ∈ ws, w.length = r.length) → g.length = r.length → hasF q g = true →
    ws.foldl (fun b f => match b with
      | none => if (last q r f).isSome then some f else none
      | some g => if sooner (last q r f) (last q r g) then some f else some g) (some g) = some ((ws.filter (hasF q)).foldl (sooN q r) g)
  | [], _, _, _, _ => rfl
  | w :: ws, g, hw, hg, hgf => by
    have hwl := hw w (List.mem_cons_self ..)
    have hw' : ∀ v ∈ ws, v.length = r.length := fun v hv => hw v (List.mem_cons_of_mem _ hv)
    rw [List.foldl_cons, List.filter_cons]
    dsimp only
    rw [last_some hr hg, if_pos hgf, last_some hr hwl]
    by_cases c : hasF q w = true
    · rw [if_pos c, if_pos c, List.foldl_cons]
      show List.foldl _ (if decide (lastN q r w < lastN q r g) = true then some w else some g) ws = _
      by_cases d : lastN q r w < lastN q r g
      · rw [if_pos (decide_eq_true d)]
        have e : sooN q r g w = w := if_pos d
        rw [e]
        exact best_some hr ws w hw' hwl c
      · rw [if_neg (by simpa using d)]
        have e : sooN q r g w = g := if_neg d
        rw [e]
        exact best_some hr ws g hw' hg hgf
    · rw [if_neg c, if_neg c]
      show List.foldl _ (if false = true then some w else some g) ws = _
      rw [if_neg Bool.false_ne_true]
      exact best_some hr ws g hw' hg hgf
theorem best_none {q r : List Nat} (hr : ∀ x ∈ r, 1 ≤ x) : ∀ (ws : List (List Nat)), (∀ w ∈ ws, w.length = r.length) →
    ws.foldl (fun b f => match b with
      | none => if (last q r f).isSome then some f else none
      | some g => if sooner (last q r f) (last q r g) then some f else some g) none = match ws.filter (hasF q) with
        | [] => none
        | w :: l => some (l.foldl (sooN q r) w)
  | [], _ => rfl
  | w :: ws, hw => by
    have hwl := hw w (List.mem_cons_self ..)
    have hw' : ∀ v ∈ ws, v.length = r.length := fun v hv => hw v (List.mem_cons_of_mem _ hv)
    rw [List.foldl_cons, List.filter_cons]
    dsimp only
    rw [last_some hr hwl]
    by_cases c : hasF q w = true
    · rw [if_pos c, if_pos c, if_pos (show (some (lastN q r w)).isSome = true from rfl), best_some hr ws w hw' hwl c]
    · rw [if_neg c, if_neg c, if_neg (by simp), best_none hr ws hw']
def bestW (q r : List Nat) : Option (List Nat) := match fullW q r with
  | [] => none
  | w :: l => some (l.foldl (sooN q r) w)
theorem best_is {q r : List Nat} (hr : ∀ x ∈ r, 1 ≤ x) : best q r = bestW q r := by
  unfold best bestW fullW
  exact best_none hr _ fun w hw => ways_mem _ _ w hw
theorem full_mem {q r w : List Nat} (h : w ∈ fullW q r) : w.length = r.length ∧ hasF q w = true := by
  unfold fullW at h
  obtain ⟨h1, h2⟩ := List.mem_filter.mp h
  exact ⟨ways_mem _ _ w h1, h2⟩
theorem soo_mem {q r : List Nat} : ∀ (l : List (List Nat)) (w : List Nat), l.foldl (sooN q r) w = w ∨ l.foldl (sooN q r) w ∈ l
  | [], _ => .inl rfl
  | v :: l, w => by
    rw [List.foldl_cons]
    rcases soo_mem l (sooN q r w v) with e | e
    · rw [e]
      unfold sooN
      by_cases c : lastN q r v < lastN q r w
      · rw [if_pos c]; exact .inr (List.mem_cons_self ..)
      · rw [if_neg c]; exact .inl rfl
    · exact .inr (List.mem_cons_of_mem _ e)
def bestAns (q r : List Nat) : List Int :=
  if okOrders q = false ∨ okFrames r = false then [-22] else match fullW q r with
    | [] => [-33]
    | w :: l => castN (lastN q r (l.foldl (sooN q r) w) :: l.foldl (sooN q r) w)
theorem best_ans (q r : List Nat) : PyKzd6.best (castN q) (castN r) = bestAns q r := by
  rw [best_eq]
  unfold bestAns answer
  dsimp only
  by_cases c : okOrders q = false ∨ okFrames r = false
  · rw [if_pos c, if_pos c]
    rfl
  · rw [if_neg c, if_neg c]
    have cr : okFrames r = true := by
      cases e : okFrames r with
      | true => rfl
      | false => exact absurd (.inr e) c
    have hr : ∀ x ∈ r, 1 ≤ x := fun x hx => ((frames_le cr).2 x hx).1
    rw [best_is hr]
    unfold bestW
    cases e : fullW q r with
    | nil => rfl
    | cons w l =>
      dsimp only
      have hm : l.foldl (sooN q r) w ∈ fullW q r := by
        rw [e]
        rcases soo_mem (q := q) (r := r) l w with z | z
        · rw [z]; exact List.mem_cons_self ..
        · exact List.mem_cons_of_mem _ z
      obtain ⟨h1, h2⟩ := full_mem hm
      rw [last_has hr h1 h2]
      rfl

/-! ### sets of frames -/
def mem (m n : Nat) : List Nat := (List.range n).filter (has m)
theorem mem_succ (m n : Nat) : mem m (n + 1) = if m / 2 ^ n % 2 = 1 then mem m n ++ [n] else mem m n := by
  unfold mem
  rw [List.range_succ, List.filter_append]
  by_cases h : m / 2 ^ n % 2 = 1
  · rw [if_pos h]
    have e : has m n = true := by unfold has; simpa using h
    simp only [List.filter_cons, List.filter_nil, e, if_true]
  · rw [if_neg h]
    have e : has m n = false := by unfold has; simpa using h
    simp only [List.filter_cons, List.filter_nil, e, Bool.false_eq_true, if_false, List.append_nil]
theorem mem_length (m n : Nat) : (mem m n).length ≤ n := by
  unfold mem
  exact Nat.le_trans (List.length_filter_le _ _) (by simp)
theorem mem_lt {m n k : Nat} (h : k ∈ mem m n) : k < n := by
  unfold mem at h
  exact List.mem_range.mp (List.mem_filter.mp h).1
theorem div_succ (m n : Nat) : m / 2 ^ n / 2 = m / 2 ^ (n + 1) := by rw [Nat.div_div_eq_div_mul, Nat.pow_succ]
/-- one turn -/
def fewStep (x d : Nat) (r : List Nat) (b : Option Nat) (m : Nat) : Option Nat := if rateOf r m * d < x then b else match b with
  | none => some m
  | some k => if size r m < size r k then some m else b
def fewN (x d : Nat) (r : List Nat) (n : Nat) : Option Nat := (List.range n).foldl (fewStep x d r) none
theorem few_succ (x d : Nat) (r : List Nat) (n : Nat) : fewN x d r (n + 1) = fewStep x d r (fewN x d r n) n := by
  unfold fewN
  rw [List.range_succ, List.foldl_append]
  rfl
theorem fewest_is (x d : Nat) (r : List Nat) : fewest x d r = fewN x d r (2 ^ r.length) := rfl
def fewAns (x d : Nat) (r : List Nat) : List Int :=
  if x < 1 ∨ 10000 < x ∨ 1000 < d ∨ okFrames r = false then [-22] else match fewN x d r (2 ^ r.length) with
    | none => [-33]
    | some m => castN [size r m, m]
theorem few_ans (x d : Nat) (r : List Nat) : PyKzd6.fewest (x : Int) (d : Int) (castN r) = fewAns x d r := by
  rw [fewest_eq]
  unfold fewAns answer
  dsimp only
  by_cases c : x < 1 ∨ 10000 < x ∨ 1000 < d ∨ okFrames r = false
  · rw [if_pos c, if_pos c]
    rfl
  · rw [if_neg c, if_neg c, fewest_is]
    cases fewN x d r (2 ^ r.length) with
    | none => rfl
    | some m => rfl
theorem rateOf_is (r : List Nat) (m : Nat) : rateOf r m = ((mem m r.length).map fun i => r.getD i 0).sum := by
  unfold rateOf mem
  rw [sum_is]
theorem size_is (r : List Nat) (m : Nat) : size r m = (mem m r.length).length := rfl
end Fg
/-! ### What all three calls share: the refusal, want, are_from, want_frames -/
namespace Fg
open PySem PySem.Spec PyProof.Rows L2
open PySem.W (Codec)
/-- whole numbers as values -/
def nv (l : List Nat) : List V := (castN l).map V.int
theorem cast_length (l : List Nat) : (castN l).length = l.length := by unfold castN; rw [List.length_map]
theorem nv_length (l : List Nat) : (nv l).length = l.length := by unfold nv; rw [List.length_map, cast_length]
theorem nv_get {l : List Nat} {i : Nat} {x : V} (h : (nv l)[i]? = some x) : ∃ n : Nat, l[i]? = some n ∧ x = V.int (n : Int) := by
  unfold nv castN at h
  rw [List.map_map, List.getElem?_map] at h
  cases e : l[i]? with
  | none => rw [e] at h; cases h
  | some n =>
    rw [e] at h
    exact ⟨n, rfl, (Option.some.inj h).symm⟩
theorem nv_at {l : List Nat} {i : Nat} (h : i < l.length) : (nv l)[i]? = some (V.int ((l.getD i 0 : Nat) : Int)) := by
  unfold nv castN
  rw [List.map_map, List.getElem?_map, List.getD_eq_getElem?_getD, List.getElem?_eq_getElem h]
  rfl
theorem nv_append (l m : List Nat) : nv (l ++ m) = nv l ++ nv m := by unfold nv castN; rw [List.map_append, List.map_append]
theorem nv_one (n : Nat) : nv [n] = [V.int (n : Int)] := rfl
theorem take_more {α : Type} {l : List α} {i : Nat} {x : α} (h : l[i]? = some x) : l.take (i + 1) = l.take i ++ [x] := by
  rw [List.take_add_one, h]
  rfl
theorem lt_of_get {α : Type} {l : List α} {i : Nat} {x : α} (h : l[i]? = some x) : i < l.length := (List.getElem?_eq_some_iff.mp h).1
theorem getD_of {l : List Nat} {i n : Nat} (h : l[i]? = some n) : l.getD i 0 = n := by
  rw [List.getD_eq_getElem?_getD, h]
  rfl
theorem same_upd {H H' : Hp} {p : Addr} {o : HO} (s : Same H H') (n : H p = none) : Same H (upd H' p o) := fun b u e => by
  rw [upd_ne (ne_of_none e n)]
  exact s b u e
theorem size_small {n : Nat} (h : n ≤ 1000000) : n < sizeLine := by rw [sizeLine_eq]; omega
theorem size_small' {n : Nat} (h : n ≤ 1000000) : n ≤ sizeLine := Nat.le_of_lt (size_small h)
/-- an if whose test is known -/
theorem if_true_of {c : Bool} {A B : Prop} (hc : c = true) (h : A) : if c = true then A else B := by
  rw [if_pos hc]
  exact h
theorem if_false_of {c : Bool} {A B : Prop} (hc : c = false) (h : B) : if c = true then A else B := by
  rw [hc, if_neg Bool.false_ne_true]
  exact h

/-! ### The text -/
def topS (i : Nat) : Stmt := PySem.Challenge.pw_framesgiven_s02_best.main.body.getD i (.Pass ⟨0, 0, 0, 0⟩)
abbrev sInit : Stmt := inClass (topS 7) 0
abbrev sWant : Stmt := topS 8
abbrev sAre : Stmt := topS 9
abbrev sWFrames : Stmt := topS 11
theorem scI : FnScope ["self", "refusal"] ["self", "refusal"] (defScope sInit) := ⟨rfl, rfl, rfl, by decide +kernel, rfl, by decide +kernel, by decide +kernel⟩
theorem scW : FnScope ["is_so", "refusal"] ["is_so", "refusal"] (defScope sWant) := ⟨rfl, rfl, rfl, by decide +kernel, rfl, by decide +kernel, by decide +kernel⟩
theorem scA : FnScope ["numbers", "least", "most", "number"] ["numbers", "least", "most"] (defScope sAre) := ⟨rfl, rfl, rfl, by decide +kernel, rfl, by decide +kernel, by decide +kernel⟩
theorem scWF : FnScope ["frames"] ["frames"] (defScope sWFrames) := ⟨rfl, rfl, rfl, by decide +kernel, rfl, by decide +kernel, by decide +kernel⟩

/-- a def of the top: where its name leads, that it stands there, how it binds -/
structure Dn (K : PySem.W.Frag) (mg : Str → Option Value) (x : Str) (st : Stmt) (f : Addr) (fd : FuncData) (ps : List Str) : Prop where
  g : mg x = some (.ref f)
  F : Fun K x x st f fd
  b : Binds K fd ps []
/-- what the top has written of the error's class and of names -/
structure Txt (K : PySem.W.Frag) (mg : Str → Option Value) (C fI : Addr) (fdI : FuncData) : Prop where
  oex : OexC K C
  xf : XfC K C
  nR : PySem.W.findIn K (.ref C) "refusal" = some none
  iC : PySem.W.findIn K (.ref C) "__init__" = some (some (.ref fI))
  tI : PySem.W.typeIn K (.ref fI) = some (.type "function")
  gC : mg "Refused" = some (.ref C)
  te : PySem.W.exmOne K (.ref C) (.ref C) = some true
  vV : PySem.W.findCls K (.type "ValueError") (.type "type") "__init__" = some (.val (.builtin "ValueError.__init__"))
  fI : Fun K "__init__" "Refused.__init__" sInit fI fdI
  bI : Binds K fdI ["self", "refusal"] []
  nVE : mg "ValueError" = none
  nAll : mg "all" = none
  nLen : mg "len" = none
  nRange : mg "range" = none
  nSum : mg "sum" = none
  nMax : mg "max" = none
  nEnum : mg "enumerate" = none
  nList : mg "list" = none
  gOut : ∃ t, mg "OUT_OF_RANGE" = some (.int (-22) t)
  gCan : ∃ t, mg "CANNOT_BE" = some (.int (-33) t)
  gMF : ∃ t, mg "MOST_FRAMES" = some (.int 6 t)
  gMD : ∃ t, mg "MOST_A_DAY" = some (.int 1000 t)
  gMK : ∃ t, mg "MOST_KILOGRAMS" = some (.int 10000 t)

/-! ### The promises -/
def spInit (C : Addr) : Sp := fun vs H Q _ => ∃ (a : Addr) (v : V), vs = [.ref a, v] ∧ H a = some (exo a C none) ∧
  ∀ dx, H dx = none → dx ≠ a → Q .non (upd (upd H dx (exd dx [(("refusal" : Str), v)])) a (exo a C (some dx)))
/-- the way out by a refusal: its own dict d bears the number, all else stands -/
def Refuses (C : Addr) (H : Hp) (v : Int) (E : XK) : Prop := ∀ (d : Addr) (H' : Hp), Same H H' → H' d = some (.xd [(("refusal" : Str), .int v)]) → E (.ref C) (some d) H'
theorem Refuses.on {C : Addr} {H H1 : Hp} {v : Int} {E : XK} (r : Refuses C H v E) (s : Same H H1) : Refuses C H1 v E := fun d H' s' e => r d H' (s.trans s') e
def spWant (C : Addr) : Sp := fun vs H Q E => ∃ (b : Bool) (v : Int), vs = [.bl b, .int v] ∧ (b = true → Q .non H) ∧ (b = false → Refuses C H v E)
def areB (ns : List Int) (lo hi : Int) : Bool := ns.all fun n => decide (lo ≤ n) && decide (n ≤ hi)
def spAre (K : PySem.W.Frag) : Sp := fun vs H Q _ => ∃ (a : Addr) (ns : List Int) (lo hi : Int), vs = [.ref a, .int lo, .int hi] ∧ SqL K H a (ns.map V.int) ∧ ns.length ≤ 1000 ∧
  ∀ H', Same H H' → Q (.bl (areB ns lo hi)) H'
def spWFrames (K : PySem.W.Frag) (C : Addr) : Sp := fun vs H Q E => ∃ (a : Addr) (r : List Nat), vs = [.ref a] ∧ SqL K H a (nv r) ∧ r.length ≤ 8 ∧
  (Kzd6.okFrames r = true → ∀ H', Same H H' → Q .non H') ∧ (Kzd6.okFrames r = false → Refuses C H (-22) E)

theorem are_cast (l : List Nat) (lo hi : Nat) : areB (castN l) (lo : Int) (hi : Int) = l.all fun x => decide (lo ≤ x) && decide (x ≤ hi) := by
  unfold areB castN
  induction l with
  | nil => rfl
  | cons x l ih =>
    rw [List.map_cons, List.all_cons, List.all_cons, ih]
    congr 1
    have e1 : decide ((lo : Int) ≤ (x : Int)) = decide (lo ≤ x) := by rw [decide_eq_decide]; omega
    have e2 : decide ((x : Int) ≤ (hi : Int)) = decide (x ≤ hi) := by rw [decide_eq_decide]; omega
    rw [e1, e2]
theorem frames_is (r : List Nat) : (decide (((r.length : Nat) : Int) ≤ 6) && areB (castN r) 1 1000) = Kzd6.okFrames r := by
  have e := are_cast r 1 1000
  have e2 : decide (((r.length : Nat) : Int) ≤ 6) = decide (r.length ≤ 6) := by rw [decide_eq_decide]; omega
  unfold Kzd6.okFrames
  rw [e2, ← e]
  rfl

section
variable {P : Program} {w : World} {K : PySem.W.Frag} {mg : Str → Option Value} {base : Heap} {C fI : Addr} {fdI : FuncData}
theorem ok_init (T : Txt K mg C fI fdI) : FnOk P w K mg base CX0 1 fI fdI ["self", "refusal"] (spInit C) := by
  refine T.fI.ok scI (fun vs H Q E h => ?_) (fun cdv A outer s H vs Q E hr h => ?_)
  · obtain ⟨a, v, rfl, _⟩ := h
    rfl
  · obtain ⟨a, v, rfl, ha, k⟩ := h
    refine ⟨_, pss_cons (ps_expr (pe_veinit rfl T.nVE T.vV (pa_cons (pv 0) (pa_cons pe_str pa_nil)))) (pss_one (ps_ost (pv 0) (pv 1))), ?_⟩
    refine ⟨_, rfl, a, C, [_], rfl, (by show 1 ≤ 1000; decide), T.oex, ha, ?_⟩
    exact ⟨_, rfl, _, rfl, a, C, rfl, T.oex, T.nR, .inl ⟨ha, fun dx hd ne => k dx hd ne⟩⟩
theorem ok_want (T : Txt K mg C fI fdI) {f : Addr} {fd : FuncData} (D : Dn K mg "want" sWant f fd ["is_so", "refusal"]) : FnOk P w K mg base (L2.CX P w) 3 f fd ["is_so", "refusal"] (spWant C) := by
  refine D.F.okX scW (fun vs H Q E h => ?_) (fun cdv A outer s H vs Q E hr h => ?_)
  · obtain ⟨b, v, rfl, _⟩ := h
    rfl
  · obtain ⟨b, v, rfl, kT, kF⟩ := h
    refine ⟨_, pss_one (ps_if (pt_not (pt_val (pv 0))) (pss_one (ps_raise rfl (takes_of rfl rfl rfl rfl) (pmk_oex T.oex T.iC T.tI (ok_init T) hr T.bI .nil pass0 rfl T.gC (pa_cons (pv 1) pa_nil)))) pss_nil), ?_⟩
    refine ⟨_, rfl, b, rfl, ?_⟩
    cases b with
    | true => exact if_false_of rfl (kT rfl)
    | false =>
      refine if_true_of rfl ?_
      refine ⟨_, rfl, (by show 1 ≤ 1000; decide), fun a na => ⟨a, _, rfl, upd_same, fun dx nd ne => ⟨rfl, dx, _, upd_same, (upd_ne ne).trans upd_same, ?_, ?_⟩⟩⟩
      · rw [upd_ne ne] at nd
        exact nd
      · rw [upd_ne ne] at nd
        refine kF rfl dx _ (fun b o e => ?_) upd_same
        have h1 := ne_of_none e nd
        have h2 := ne_of_none e na
        rw [upd_ne h1, del_ne h2, upd_ne h2, upd_ne h1, upd_ne h2]
        exact e
theorem ok_are (T : Txt K mg C fI fdI) {f : Addr} {fd : FuncData} (D : Dn K mg "are_from" sAre f fd ["numbers", "least", "most"]) : FnOk P w K mg base CX0 1 f fd ["numbers", "least", "most"] (spAre K) := by
  refine D.F.ok scA (fun vs H Q E h => ?_) (fun cdv A outer s H vs Q E hr h => ?_)
  · obtain ⟨a, ns, lo, hi, rfl, _⟩ := h
    rfl
  · obtain ⟨a, ns, lo, hi, rfl, hS, hlen, k⟩ := h
    refine ⟨_, pss_one (ps_ret (pe_callB (cr_all rfl) (by rfl) T.nAll (by decide +kernel) (pa_cons (pe_lc (own := [("number", 3)]) (g := gName 3) (tt := tYes) rfl scA.nd (pi_list (pv 0)) (blkOk_by (N := ["numbers", "least", "most", "number"]) (sc := defScope sAre) (by decide +kernel))
      (fun _ _ _ _ _ => pg_name (i := 3) scA.nd rfl (Or.inl rfl)) (fun _ _ _ _ _ => pts_nil) (fun _ _ _ _ _ => pe_chain op_le op_le (pv 1) (pv 3) (pv 2))) pa_nil))), ?_⟩
    refine ⟨_, rfl, a, rfl, ⟨_, hS⟩, fun D nD => lc_list (K := K) (a := a) (xs := ns.map V.int) (fun i H' => Same H H' ∧ H' D = some (.lst (((ns.take i).map fun n => decide (lo ≤ n) && decide (n ≤ hi)).map V.bl)))
      ⟨same_upd (Same.refl H) nD, upd_same⟩ (fun i H' _ q => q.1.seq hS) ?_ ?_⟩
    · rintro i x H' hx ⟨s1, hD⟩
      obtain ⟨n, hn, rfl⟩ : ∃ n, ns[i]? = some n ∧ x = V.int n := by
        rw [List.getElem?_map] at hx
        cases e : ns[i]? with
        | none => rw [e] at hx; cases hx
        | some n =>
          rw [e] at hx
          exact ⟨n, rfl, (Option.some.inj hx).symm⟩
      have hi' : i < ns.length := lt_of_get hn
      refine ⟨rfl, ?_⟩
      have fin : ∀ b : Bool, b = (decide (lo ≤ n) && decide (n ≤ hi)) → ∃ acc, H' D = some (.lst acc) ∧ acc.length < sizeLine ∧ Same H (upd H' D (.lst (acc ++ [V.bl b]))) ∧
          upd H' D (.lst (acc ++ [V.bl b])) D = some (.lst (((ns.take (i + 1)).map fun n => decide (lo ≤ n) && decide (n ≤ hi)).map V.bl)) := fun b hb => by
        refine ⟨_, hD, ?_, same_upd s1 nD, ?_⟩
        · rw [List.length_map, List.length_map, List.length_take]
          exact size_small (by omega)
        · rw [upd_same, take_more hn, List.map_append, List.map_append, hb]
          rfl
      refine ⟨_, rfl, _, rfl, _, _, rfl, rfl, _, rfl, ?_⟩
      by_cases c : lo ≤ n
      · refine if_true_of (decide_eq_true c) ⟨_, rfl, _, _, rfl, rfl, ?_⟩
        exact fin _ (by rw [decide_eq_true c, Bool.true_and])
      · refine if_false_of (decide_eq_false c) ?_
        exact fin _ (by rw [decide_eq_false c, Bool.false_and])
    · rintro H' ⟨s1, hD⟩
      rw [List.length_map, List.take_length] at hD
      refine ⟨D, _, rfl, SqL.of hD, ?_⟩
      have e : (ns.map fun n => decide (lo ≤ n) && decide (n ≤ hi)).all id = areB ns lo hi := by
        unfold areB
        rw [List.all_map]
        rfl
      rw [e]
      exact k H' s1
theorem ok_wframes (T : Txt K mg C fI fdI) {f fW fA : Addr} {fd fdW fdA : FuncData} (D : Dn K mg "want_frames" sWFrames f fd ["frames"]) (DW : Dn K mg "want" sWant fW fdW ["is_so", "refusal"]) (DA : Dn K mg "are_from" sAre fA fdA ["numbers", "least", "most"]) :
    FnOk P w K mg base (L2.CX P w) 4 f fd ["frames"] (spWFrames K C) := by
  obtain ⟨t1, g1⟩ := T.gOut
  obtain ⟨t2, g2⟩ := T.gMF
  obtain ⟨t3, g3⟩ := T.gMD
  refine D.F.okX scWF (fun vs H Q E h => ?_) (fun cdv A outer s H vs Q E hr h => ?_)
  · obtain ⟨a, r, rfl, _⟩ := h
    rfl
  · obtain ⟨a, r, rfl, hS, hlen, kT, kF⟩ := h
    refine ⟨_, pss_one (ps_expr (pe_call (E := E) (ok_want T DW) hr rfl DW.g DW.F.kp DW.b .nil (passes_call (takes_of rfl rfl rfl rfl) (fun _ _ _ _ h => h)) (pa_cons (pe_and (pe_cmpR op_le (pe_callB call_len_seq (by rfl) T.nLen PySem.boot_len (pa_cons (pv 0) pa_nil)) (pe_glob (v := .int 6) rfl g2 ⟨_, rfl⟩) (nomark _))
      (pe_one (pe_call (E := E0) (ok_are T DA) (hr.mono (by decide)) rfl DA.g DA.F.kp DA.b .nil pass0 (pa_cons (pv 0) (pa_cons pe_int (pa_cons (pe_glob (v := .int 1000) rfl g3 ⟨_, rfl⟩) pa_nil)))))) (pa_cons (pe_glob (v := .int (-22)) rfl g1 ⟨_, rfl⟩) pa_nil)))), ?_⟩
    refine ⟨_, rfl, a, _, rfl, .inl hS, _, _, rfl, rfl, _, rfl, ?_⟩
    have fin : ∀ (H1 : Hp) (b : Bool), Same H H1 → b = Kzd6.okFrames r → spWant C [.bl b, .int (-22)] H1 (fun _ H' => Q .non H') E := fun H1 b s1 hb =>
      ⟨b, -22, rfl, fun e => kT (by rw [← hb, e]) H1 s1, fun e => (kF (by rw [← hb, e])).on s1⟩
    have e := frames_is r
    rw [nv_length]
    by_cases c : ((r.length : Nat) : Int) ≤ 6
    · rw [decide_eq_true c, Bool.true_and] at e
      refine if_true_of (decide_eq_true c) ⟨_, rfl, a, castN r, 1, 1000, rfl, hS, by rw [cast_length]; omega, fun H1 s1 => ?_⟩
      exact fin H1 _ s1 e
    · rw [decide_eq_false c, Bool.false_and] at e
      exact if_false_of (decide_eq_false c) (fin H _ (Same.refl H) e)
end
end Fg
/-! ### A call's answer, or its refusal -/
namespace Fg
open PySem PySem.Spec PyProof.Rows L2
/-- ans comes out as a new list, or its one number as a refusal -/
def Told (C : Addr) (H : Hp) (ans : List Int) (Q : VK) (E : XK) : Prop := (∀ (H' : Hp) (p : Addr), H' p = some (.lst (ans.map V.int)) → Q (.ref p) H') ∧ ∀ v : Int, ans = [v] → Refuses C H v E
theorem Told.on {C : Addr} {H H1 : Hp} {ans : List Int} {Q : VK} {E : XK} (r : Told C H ans Q E) (s : Same H H1) : Told C H1 ans Q E := ⟨r.1, fun v e => (r.2 v e).on s⟩
/-- an error of the class at S is what «except S» names -/
theorem exm_self {K : PySem.W.Frag} {S : Addr} (h1 : PySem.W.subIn K (.ref S) (.type "BaseException") = some true) (h2 : PySem.W.isClsIn K S = true) (h3 : PySem.W.typeIn K (.ref S) = some (.type "type")) (h4 : PySem.W.subIn K (.ref S) (.ref S) = some true) :
    PySem.W.exmOne K (.ref S) (.ref S) = some true := by
  have e1 : (PySem.W.subIn K (.ref S) (.type "BaseException") == some true) = true := by rw [h1] <;> rfl
  have e2 : ((PySem.W.clsIn K S).isSome && PySem.W.typeIn K (.ref S) == some (.type "type")) = true := by
    have h2' : (PySem.W.clsIn K S).isSome = true := h2
    rw [h2', h3] <;> rfl
  show (if (PySem.W.subIn K (.ref S) (.type "BaseException") == some true) = true then (if ((PySem.W.clsIn K S).isSome && PySem.W.typeIn K (.ref S) == some (.type "type")) = true then PySem.W.subIn K (.ref S) (.ref S) else none) else none) = some true
  rw [if_pos e1, if_pos e2]
  exact h4
end Fg
/-! ### want_orders and the spans -/
namespace Fg
open PySem PySem.Spec PyProof.Rows L2
abbrev sWOrders : Stmt := topS 10
abbrev sUp : Stmt := topS 13
abbrev sSpun : Stmt := topS 14
abbrev sHas : Stmt := topS 15
abbrev sDays : Stmt := topS 16
abbrev sLastOf : Stmt := topS 17
theorem scWO : FnScope ["orders"] ["orders"] (defScope sWOrders) := ⟨rfl, rfl, rfl, by decide +kernel, rfl, by decide +kernel, by decide +kernel⟩
theorem scUp : FnScope ["number", "other"] ["number", "other"] (defScope sUp) := ⟨rfl, rfl, rfl, by decide +kernel, rfl, by decide +kernel, by decide +kernel⟩
theorem scSpun : FnScope ["order", "frames", "given", "k"] ["order", "frames", "given"] (defScope sSpun) := ⟨rfl, rfl, rfl, by decide +kernel, rfl, by decide +kernel, by decide +kernel⟩
theorem scHas : FnScope ["orders", "given", "order"] ["orders", "given"] (defScope sHas) := ⟨rfl, rfl, rfl, by decide +kernel, rfl, by decide +kernel, by decide +kernel⟩
theorem scDays : FnScope ["orders", "frames", "given", "found", "order", "kilograms"] ["orders", "frames", "given"] (defScope sDays) := ⟨rfl, rfl, rfl, by decide +kernel, rfl, by decide +kernel, by decide +kernel⟩
theorem scLastOf : FnScope ["days"] ["days"] (defScope sLastOf) := ⟨rfl, rfl, rfl, by decide +kernel, rfl, by decide +kernel, by decide +kernel⟩

def spWOrders (K : PySem.W.Frag) (C : Addr) : Sp := fun vs H Q E => ∃ (a : Addr) (q : List Nat), vs = [.ref a] ∧ SqL K H a (nv q) ∧ q.length ≤ 8 ∧
  (Kzd6.okOrders q = true → ∀ H', Same H H' → Q .non H') ∧ (Kzd6.okOrders q = false → Refuses C H (-22) E)
def spUp : Sp := fun vs H Q _ => ∃ (x n : Nat), vs = [.int (x : Int), .int (n : Int)] ∧ 0 < n ∧ n ≤ 1000000 ∧ Q (.int (((x + n - 1) / n : Nat) : Int)) H
def spSpun (K : PySem.W.Frag) : Sp := fun vs H Q _ => ∃ (j : Nat) (a b : Addr) (r f : List Nat), vs = [.int (j : Int), .ref a, .ref b] ∧ SqL K H a (nv r) ∧ SqL K H b (nv f) ∧ f.length = r.length ∧ r.length ≤ 1000 ∧
  ∀ H', Same H H' → Q (.int ((Kzd6.rate r f j : Nat) : Int)) H'
def spHas (K : PySem.W.Frag) : Sp := fun vs H Q _ => ∃ (a b : Addr) (q f : List Nat), vs = [.ref a, .ref b] ∧ SqL K H a (nv q) ∧ SqL K H b (nv f) ∧ q.length ≤ 1000 ∧
  ∀ H', Same H H' → Q (.bl (hasF q f)) H'
def spDays (K : PySem.W.Frag) : Sp := fun vs H Q _ => ∃ (a b c : Addr) (q r f : List Nat), vs = [.ref a, .ref b, .ref c] ∧ SqL K H a (nv q) ∧ SqL K H b (nv r) ∧ SqL K H c (nv f) ∧ q.length ≤ 1000 ∧ r.length ≤ 1000 ∧
  f.length = r.length ∧ (∀ x ∈ r, 1 ≤ x ∧ x ≤ 1000) ∧ hasF q f = true ∧ ∀ (H' : Hp) (p : Addr), Same H H' → H' p = some (.lst (nv (dn q r f))) → Q (.ref p) H'
def spLastOf : Sp := fun vs H Q _ => ∃ (a : Addr) (l : List Nat), vs = [.ref a] ∧ H a = some (.lst (nv l)) ∧ l.length ≤ 1000 ∧ ∀ H', Same H H' → Q (.int ((l.foldl max 0 : Nat) : Int)) H'

theorem orders_is (q : List Nat) : (decide (((q.length : Nat) : Int) ≤ 4) && areB (castN q) 1 10000) = Kzd6.okOrders q := by
  have e := are_cast q 1 10000
  have e2 : decide (((q.length : Nat) : Int) ≤ 4) = decide (q.length ≤ 4) := by rw [decide_eq_decide]; omega
  unfold Kzd6.okOrders
  rw [e2, ← e]
  rfl
theorem in_nv (j : Nat) (f : List Nat) : inV (.int (j : Int)) (nv f) = f.contains j := by
  unfold inV nv castN
  induction f with
  | nil => rfl
  | cons x f ih =>
    rw [List.map_cons, List.map_cons, List.any_cons, ih, List.contains_cons]
    congr 1
    show ((x : Int) == (j : Int)) = (j == x)
    rw [Bool.eq_iff_iff]
    simp
    omega
theorem flat_nv (f : List Nat) : (nv f).all flatV = true := by
  unfold nv
  rw [List.all_map]
  exact List.all_eq_true.mpr fun _ _ => rfl
theorem day_at {q r f : List Nat} {i n : Nat} (h : q[i]? = some n) : dayN q r f i = (n + Kzd6.rate r f i - 1) / Kzd6.rate r f i := by
  unfold dayN
  rw [getD_of h]
theorem dn_more (q r f : List Nat) (i : Nat) : (List.range (i + 1)).map (dayN q r f) = (List.range i).map (dayN q r f) ++ [dayN q r f i] := by
  rw [List.range_succ, List.map_append]
  rfl
theorem has_rate {q r f : List Nat} (hr : ∀ x ∈ r, 1 ≤ x ∧ x ≤ 1000) (h : f.length = r.length) (hf : hasF q f = true) {j : Nat} (hj : j < q.length) : 0 < Kzd6.rate r f j := by
  unfold hasF at hf
  have h1 := List.all_eq_true.mp hf j (List.mem_range.mpr hj)
  have h2 : j ∈ f := by simpa using h1
  have h3 : Kzd6.rate r f j ≠ 0 := fun z => (rate_zero (fun x hx => (hr x hx).1) h j).mp z h2
  omega
section
variable {P : Program} {w : World} {K : PySem.W.Frag} {mg : Str → Option Value} {base : Heap} {C fI : Addr} {fdI : FuncData}
theorem ok_worders (T : Txt K mg C fI fdI) (gMO : ∃ t, mg "MOST_ORDERS" = some (.int 4 t)) {f fW fA : Addr} {fd fdW fdA : FuncData} (D : Dn K mg "want_orders" sWOrders f fd ["orders"]) (DW : Dn K mg "want" sWant fW fdW ["is_so", "refusal"]) (DA : Dn K mg "are_from" sAre fA fdA ["numbers", "least", "most"]) :
    FnOk P w K mg base (L2.CX P w) 4 f fd ["orders"] (spWOrders K C) := by
  obtain ⟨t1, g1⟩ := T.gOut
  obtain ⟨t2, g2⟩ := gMO
  obtain ⟨t3, g3⟩ := T.gMK
  refine D.F.okX scWO (fun vs H Q E h => ?_) (fun cdv A outer s H vs Q E hr h => ?_)
  · obtain ⟨a, r, rfl, _⟩ := h
    rfl
  · obtain ⟨a, r, rfl, hS, hlen, kT, kF⟩ := h
    refine ⟨_, pss_one (ps_expr (pe_call (E := E) (ok_want T DW) hr rfl DW.g DW.F.kp DW.b .nil (passes_call (takes_of rfl rfl rfl rfl) (fun _ _ _ _ h => h)) (pa_cons (pe_and (pe_cmpR op_le (pe_callB call_len_seq (by rfl) T.nLen PySem.boot_len (pa_cons (pv 0) pa_nil)) (pe_glob (v := .int 4) rfl g2 ⟨_, rfl⟩) (nomark _))
      (pe_one (pe_call (E := E0) (ok_are T DA) (hr.mono (by decide)) rfl DA.g DA.F.kp DA.b .nil pass0 (pa_cons (pv 0) (pa_cons pe_int (pa_cons (pe_glob (v := .int 10000) rfl g3 ⟨_, rfl⟩) pa_nil)))))) (pa_cons (pe_glob (v := .int (-22)) rfl g1 ⟨_, rfl⟩) pa_nil)))), ?_⟩
    refine ⟨_, rfl, a, _, rfl, .inl hS, _, _, rfl, rfl, _, rfl, ?_⟩
    have fin : ∀ (H1 : Hp) (b : Bool), Same H H1 → b = Kzd6.okOrders r → spWant C [.bl b, .int (-22)] H1 (fun _ H' => Q .non H') E := fun H1 b s1 hb =>
      ⟨b, -22, rfl, fun e => kT (by rw [← hb, e]) H1 s1, fun e => (kF (by rw [← hb, e])).on s1⟩
    have e := orders_is r
    rw [nv_length]
    by_cases c : ((r.length : Nat) : Int) ≤ 4
    · rw [decide_eq_true c, Bool.true_and] at e
      refine if_true_of (decide_eq_true c) ⟨_, rfl, a, castN r, 1, 10000, rfl, hS, by rw [cast_length]; omega, fun H1 s1 => ?_⟩
      exact fin H1 _ s1 e
    · rw [decide_eq_false c, Bool.false_and] at e
      exact if_false_of (decide_eq_false c) (fin H _ (Same.refl H) e)
theorem ok_up {f : Addr} {fd : FuncData} (D : Dn K mg "rounded_up" sUp f fd ["number", "other"]) : FnOk P w K mg base CX0 1 f fd ["number", "other"] spUp := by
  refine D.F.ok scUp (fun vs H Q E h => ?_) (fun cdv A outer s H vs Q E hr h => ?_)
  · obtain ⟨x, n, rfl, _⟩ := h
    rfl
  · obtain ⟨x, n, rfl, h0, h1, k⟩ := h
    refine ⟨_, pss_one (ps_ret (pe_op op_fdiv (pe_op op_sub (pe_op op_add (pv 0) (pv 1)) pe_int) (pv 1))), ?_⟩
    refine ⟨_, rfl, _, rfl, _, _, rfl, rfl, _, _, rfl, rfl, _, rfl, _, _, rfl, rfl, ⟨by omega, by omega⟩, ?_⟩
    have e : ((x : Int) + (n : Int) - 1) / (n : Int) = (((x + n - 1) / n : Nat) : Int) := by
      rw [Int.natCast_ediv, show ((x + n - 1 : Nat) : Int) = (x : Int) + (n : Int) - 1 by omega]
    show Q (.int (((x : Int) + (n : Int) - 1) / (n : Int))) H
    rw [e]
    exact k
theorem ok_spun (T : Txt K mg C fI fdI) {f : Addr} {fd : FuncData} (D : Dn K mg "spun_a_day" sSpun f fd ["order", "frames", "given"]) : FnOk P w K mg base CX0 1 f fd ["order", "frames", "given"] (spSpun K) := by
  refine D.F.ok scSpun (fun vs H Q E h => ?_) (fun cdv A outer s H vs Q E hr h => ?_)
  · obtain ⟨j, a, b, r, f, rfl, _⟩ := h
    rfl
  · obtain ⟨j, a, b, r, f, rfl, hA, hB, hl, hlen, k⟩ := h
    refine ⟨_, pss_one (ps_ret (pe_callB (cr_sum rfl) (by rfl) T.nSum (by decide +kernel) (pa_cons (pe_lc (own := [("k", 3)]) (g := gName 3) (tt := tTest (tOp rEq (tOp (rIxL K) (tVar 2) (tVar 3)) (tVar 0))) (te := tOp (rIxL K) (tVar 1) (tVar 3)) rfl scSpun.nd
      (pi_range1 (by rfl) T.nRange (pa_cons (pe_callB call_len_seq (by rfl) T.nLen PySem.boot_len (pa_cons (pv 1) pa_nil)) pa_nil)) (blkOk_by (N := ["order", "frames", "given", "k"]) (sc := defScope sSpun) (by decide +kernel))
      (fun _ _ _ _ _ => pg_name (i := 3) scSpun.nd rfl (Or.inl rfl)) (fun _ _ _ _ _ => pts_one (pt_cmpR op_eq (pe_ix (r := rIxL K) ix_list (pv 2) (pv 3) (fun _ _ => rfl)) (pv 0) (nomark _))) (fun _ _ _ _ _ => pe_ix (r := rIxL K) ix_list (pv 1) (pv 3) (fun _ _ => rfl))) pa_nil))), ?_⟩
    refine ⟨_, rfl, a, _, rfl, .inl hA, ((r.length : Nat) : Int), by rw [nv_length], by omega, by omega, fun D nD => lc_range (lo := 0) (n := r.length) (fun i H' => Same H H' ∧ H' D = some (.lst (nv (pick r f j i))))
      ⟨same_upd (Same.refl H) nD, upd_same⟩ ?_ ?_⟩
    · rintro i H' hi ⟨s1, hD⟩
      rw [Int.zero_add]
      refine ⟨rfl, ?_⟩
      refine ⟨_, rfl, _, rfl, b, _, _, _, rfl, rfl, s1.seq hB, atI_nat (nv_at (by omega)), _, rfl, rfl, _, rfl, ?_⟩
      by_cases c : f.getD i 0 = j
      · refine if_true_of (decide_eq_true (congrArg V.int (by omega))) ?_
        refine ⟨_, rfl, _, rfl, a, _, _, _, rfl, rfl, s1.seq hA, atI_nat (nv_at hi), _, hD, ?_, same_upd s1 nD, ?_⟩
        · rw [nv_length]
          have := pick_length r f j i
          exact size_small (by omega)
        · rw [upd_same, pick_succ, if_pos c, nv_append]
          rfl
      · refine if_false_of (decide_eq_false fun z => c (by have z' := V.int.inj z; omega)) ⟨s1, ?_⟩
        rw [pick_succ, if_neg c]
        exact hD
    · rintro H' ⟨s1, hD⟩
      refine ⟨D, castN (pick r f j r.length), rfl, SqL.of hD, ?_⟩
      have e : (castN (pick r f j r.length)).sum = ((Kzd6.rate r f j : Nat) : Int) := by
        unfold castN
        rw [sum_cast, rate_pick hl]
      rw [e]
      exact k H' s1
theorem ok_has (T : Txt K mg C fI fdI) {f : Addr} {fd : FuncData} (D : Dn K mg "has_frames" sHas f fd ["orders", "given"]) : FnOk P w K mg base CX0 1 f fd ["orders", "given"] (spHas K) := by
  refine D.F.ok scHas (fun vs H Q E h => ?_) (fun cdv A outer s H vs Q E hr h => ?_)
  · obtain ⟨a, b, q, f, rfl, _⟩ := h
    rfl
  · obtain ⟨a, b, q, f, rfl, hA, hB, hlen, k⟩ := h
    refine ⟨_, pss_one (ps_ret (pe_callB (cr_all rfl) (by rfl) T.nAll (by decide +kernel) (pa_cons (pe_lc (own := [("order", 2)]) (g := gName 2) (tt := tYes) (te := tOp (rIn K false) (tVar 2) (tVar 1)) rfl scHas.nd
      (pi_range1 (by rfl) T.nRange (pa_cons (pe_callB call_len_seq (by rfl) T.nLen PySem.boot_len (pa_cons (pv 0) pa_nil)) pa_nil)) (blkOk_by (N := ["orders", "given", "order"]) (sc := defScope sHas) (by decide +kernel))
      (fun _ _ _ _ _ => pg_name (i := 2) scHas.nd rfl (Or.inl rfl)) (fun _ _ _ _ _ => pts_nil) (fun _ _ _ _ _ => pe_cmpR (r := rIn K false) op_in_seq (pv 2) (pv 1) (by rfl))) pa_nil))), ?_⟩
    refine ⟨_, rfl, a, _, rfl, .inl hA, ((q.length : Nat) : Int), by rw [nv_length], by omega, by omega, fun D nD => lc_range (lo := 0) (n := q.length) (fun i H' => Same H H' ∧ H' D = some (.lst (((List.range i).map fun j => f.contains j).map V.bl)))
      ⟨same_upd (Same.refl H) nD, upd_same⟩ ?_ ?_⟩
    · rintro i H' hi ⟨s1, hD⟩
      rw [Int.zero_add]
      refine ⟨rfl, ?_⟩
      refine ⟨_, rfl, _, rfl, b, _, rfl, .inl (s1.seq hB), rfl, flat_nv f, _, hD, ?_, same_upd s1 nD, ?_⟩
      · rw [List.length_map, List.length_map, List.length_range]
        exact size_small (by omega)
      · rw [upd_same, List.range_succ, List.map_append, List.map_append]
        show some (HO.lst (_ ++ [V.bl (inV (V.int (i : Int)) (nv f))])) = _
        rw [in_nv]
        rfl
    · rintro H' ⟨s1, hD⟩
      refine ⟨D, _, rfl, SqL.of hD, ?_⟩
      have e : ((List.range q.length).map fun j => f.contains j).all id = hasF q f := by
        unfold hasF
        rw [List.all_map]
        rfl
      rw [e]
      exact k H' s1
theorem ok_days (T : Txt K mg C fI fdI) {f fU fS : Addr} {fd fdU fdS : FuncData} (D : Dn K mg "days_of" sDays f fd ["orders", "frames", "given"]) (DU : Dn K mg "rounded_up" sUp fU fdU ["number", "other"]) (DS : Dn K mg "spun_a_day" sSpun fS fdS ["order", "frames", "given"]) :
    FnOk P w K mg base CX0 2 f fd ["orders", "frames", "given"] (spDays K) := by
  refine D.F.ok scDays (fun vs H Q E h => ?_) (fun cdv A outer s H vs Q E hr h => ?_)
  · obtain ⟨a, b, c, q, r, f, rfl, _⟩ := h
    rfl
  · obtain ⟨a, b, c, q, r, f, rfl, hA, hB, hC, hq, hrl, hl, hr1, hf, k⟩ := h
    refine ⟨_, pss_cons (ps_set (i := 3) scDays.nd rfl (Or.inl rfl) (pe_lst pa_nil))
      (pss_cons (ps_for PassesOwn.never rfl (pi_enum (by rfl) T.nEnum (pa_cons (pv 0) pa_nil)) (pg_tup rfl (pgs_cons (pg_name (i := 4) scDays.nd rfl (Or.inl rfl)) (pgs_cons (pg_name (i := 5) scDays.nd rfl (Or.inl rfl)) pgs_nil)))
        (pss_one (ps_expr (pe_bm PySem.F.plainAttrs_list PySem.F.slot_list_append PySem.F.type_list_append mt_append (pv 3)
          (pa_cons (pe_call (E := E0) (ok_up DU) hr rfl DU.g DU.F.kp DU.b .nil pass0 (pa_cons (pv 5) (pa_cons (pe_call (E := E0) (ok_spun T DS) hr rfl DS.g DS.F.kp DS.b .nil pass0 (pa_cons (pv 4) (pa_cons (pv 1) (pa_cons (pv 2) pa_nil)))) pa_nil))) pa_nil)))))
      (pss_one (ps_ret (pv 3)))), ?_⟩
    refine ⟨Nat.zero_le _, fun p np => ?_⟩
    have sp : Same H (upd H p (.lst [])) := same_upd (Same.refl H) np
    refine ⟨_, rfl, a, _, rfl, sp.seq hA, for_it (walk_enum (K := K) (a := a) (xs := nv q)) (fun i σ H' => ∃ v1 v2 : Option V, σ = [some (.ref a), some (.ref b), some (.ref c), some (.ref p), v1, v2] ∧ Same H H' ∧ H' p = some (.lst (nv ((List.range i).map (dayN q r f)))))
      ⟨none, none, rfl, sp, upd_same⟩ (fun i σ H' _ ⟨_, _, _, s1, _⟩ => s1.seq hA) ?_ ?_⟩
    · rintro i x σ H1 H2 hi ⟨v1, v2, rfl, s1, hp⟩ ⟨t, x1, x2, rfl, nt, rfl, e1, e2⟩
      obtain ⟨n, hn, rfl⟩ := nv_get e2
      obtain rfl := Option.some.inj e1
      rw [nv_length] at hi
      have s2 : Same H (upd H1 t (.tup [.int ((i : Nat) : Int), .int (n : Int)])) := fun b o z => by
        rw [upd_ne (ne_of_none (s1 b o z) nt)]
        exact s1 b o z
      have hp2 : upd H1 t (.tup [.int ((i : Nat) : Int), .int (n : Int)]) p = some (.lst (nv ((List.range i).map (dayN q r f)))) := by
        rw [upd_ne (ne_of_none hp nt)]
        exact hp
      refine ⟨t, _, rfl, SqT.of upd_same, rfl, _, _, rfl, _, _, rfl, rfl, ?_⟩
      refine ⟨_, rfl, .inl ⟨rfl, _, SqL.of hp2⟩, _, rfl, _, rfl, _, rfl, _, rfl, i, b, c, r, f, rfl, s2.seq hB, s2.seq hC, hl, hrl, fun H3 s3 => ?_⟩
      refine ⟨n, Kzd6.rate r f i, rfl, has_rate hr1 hl hf hi, rate_le (fun x hx => (hr1 x hx).2) hrl hl i, ?_⟩
      refine ⟨p, _, _, rfl, rfl, s3 _ _ hp2, ?_, ?_⟩
      · rw [nv_length, List.length_map, List.length_range]
        exact size_small (by omega)
      · refine ⟨_, _, rfl, same_upd (s2.trans s3) np, ?_⟩
        rw [upd_same, dn_more, nv_append, day_at hn]
        rfl
    · rintro σ H' ⟨v1, v2, rfl, s1, hp⟩
      rw [nv_length] at hp
      exact ⟨_, rfl, k H' p s1 hp⟩
theorem ok_lastOf (T : Txt K mg C fI fdI) {f : Addr} {fd : FuncData} (D : Dn K mg "last_of" sLastOf f fd ["days"]) : FnOk P w K mg base CX0 1 f fd ["days"] spLastOf := by
  refine D.F.ok scLastOf (fun vs H Q E h => ?_) (fun cdv A outer s H vs Q E hr h => ?_)
  · obtain ⟨a, l, rfl, _⟩ := h
    rfl
  · obtain ⟨a, l, rfl, hA, hlen, k⟩ := h
    refine ⟨_, pss_one (ps_ret (pe_callB (cr_max rfl) (by rfl) T.nMax (by decide +kernel) (pa_cons (pe_op op_cat (pe_lst (pa_cons pe_int pa_nil)) (pv 0)) pa_nil))), ?_⟩
    refine ⟨(by show 1 ≤ sizeLine; decide), fun p np => ?_⟩
    have s1 : Same H (upd H p (.lst [V.int 0])) := same_upd (Same.refl H) np
    refine ⟨_, rfl, p, a, _, _, rfl, rfl, upd_same, s1 _ _ hA, ?_, fun p2 np2 => ?_⟩
    · rw [nv_length]
      exact size_small' (by show 1 + l.length ≤ 1000000; omega)
    · refine ⟨p2, 0 :: castN l, rfl, SqL.of upd_same, (by show 0 < (castN l).length + 1; omega), fun m hm hle => ?_⟩
      have e := max_is hm hle
      rw [e]
      refine k _ fun b o z => ?_
      rw [upd_ne (ne_of_none (s1 b o z) np2)]
      exact s1 b o z
end
end Fg
/-! ### the ways -/
namespace Fg
open PySem PySem.Spec PyProof.Rows L2
abbrev sWays : Stmt := topS 19
abbrev sFull : Stmt := topS 20
theorem scWays : FnScope ["many_orders", "many_frames", "found", "frame", "longer", "way", "order"] ["many_orders", "many_frames"] (defScope sWays) := ⟨rfl, rfl, rfl, by decide +kernel, rfl, by decide +kernel, by decide +kernel⟩
theorem scFull : FnScope ["orders", "frames", "way"] ["orders", "frames"] (defScope sFull) := ⟨rfl, rfl, rfl, by decide +kernel, rfl, by decide +kernel, by decide +kernel⟩
/-- at the addresses stand the ways -/
def WaysAt (H : Hp) : List Addr → List (List Nat) → Prop
  | [], [] => True
  | a :: as, w :: ws => H a = some (.lst (nv w)) ∧ WaysAt H as ws
  | _, _ => False
theorem WaysAt.on {H H' : Hp} (s : Same H H') : ∀ {as : List Addr} {ws : List (List Nat)}, WaysAt H as ws → WaysAt H' as ws
  | [], [], _ => trivial
  | [], _ :: _, h => h.elim
  | _ :: _, [], h => h.elim
  | _ :: _, _ :: _, h => ⟨s _ _ h.1, WaysAt.on s h.2⟩
theorem WaysAt.append {H : Hp} : ∀ {as bs : List Addr} {ws vs : List (List Nat)}, WaysAt H as ws → WaysAt H bs vs → WaysAt H (as ++ bs) (ws ++ vs)
  | [], _, [], _, _, g => g
  | [], _, _ :: _, _, h, _ => h.elim
  | _ :: _, _, [], _, h, _ => h.elim
  | _ :: _, _, _ :: _, _, h, g => ⟨h.1, WaysAt.append h.2 g⟩
theorem WaysAt.length {H : Hp} : ∀ {as : List Addr} {ws : List (List Nat)}, WaysAt H as ws → as.length = ws.length
  | [], [], _ => rfl
  | [], _ :: _, h => h.elim
  | _ :: _, [], h => h.elim
  | _ :: as, _ :: ws, h => congrArg (· + 1) (WaysAt.length h.2)
theorem WaysAt.get {H : Hp} : ∀ {as : List Addr} {ws : List (List Nat)} {i : Nat} {a : Addr}, WaysAt H as ws → as[i]? = some a → ∃ w, ws[i]? = some w ∧ H a = some (.lst (nv w))
  | [], _, i, _, _, e => by simp at e
  | _ :: _, [], _, _, h, _ => h.elim
  | b :: as, w :: ws, 0, a, h, e => by
    have e' : b = a := Option.some.inj e
    subst e'
    exact ⟨w, rfl, h.1⟩
  | b :: as, w :: ws, i + 1, a, h, e => WaysAt.get (i := i) h.2 e
theorem refs_ne {as : List Addr} {w : List Nat} (h : w ≠ []) : (HO.lst (nv w)) ≠ HO.lst (as.map V.ref) := fun z => by
  injection z with z
  cases w with
  | nil => exact h rfl
  | cons x w =>
    cases as with
    | nil => cases z
    | cons a as =>
      unfold nv castN at z
      rw [List.map_cons, List.map_cons, List.map_cons] at z
      injection z with z1 _
      cases z1
theorem WaysAt.upd {H : Hp} {l : Addr} {bs : List Addr} {o : HO} (hl : H l = some (.lst (bs.map V.ref))) : ∀ {as : List Addr} {ws : List (List Nat)}, WaysAt H as ws → (∀ w ∈ ws, w ≠ []) → WaysAt (L2.upd H l o) as ws
  | [], [], _, _ => trivial
  | [], _ :: _, h, _ => h.elim
  | _ :: _, [], h, _ => h.elim
  | _ :: _, w :: ws, h, n => ⟨(upd_ne (ne_of h.1 hl (refs_ne (n w (List.mem_cons_self ..))))).trans h.1, WaysAt.upd hl h.2 fun v hv => n v (List.mem_cons_of_mem _ hv)⟩
/-- each way by each order more -/
def longer (m : Nat) (ws : List (List Nat)) : List (List Nat) := ws.flatMap fun w => (List.range m).map fun j => w ++ [j]
theorem longer_length (m : Nat) (ws : List (List Nat)) : (longer m ws).length = ws.length * m := by
  unfold longer
  induction ws with
  | nil => simp
  | cons w ws ih =>
    rw [List.flatMap_cons, List.length_append, ih, List.length_map, List.length_range, List.length_cons, Nat.succ_mul]
    omega
theorem longer_more {m : Nat} {ws : List (List Nat)} {i : Nat} {w : List Nat} (h : ws[i]? = some w) : longer m (ws.take (i + 1)) = longer m (ws.take i) ++ (List.range m).map fun j => w ++ [j] := by
  unfold longer
  rw [take_more h, List.flatMap_append]
  simp
theorem longer_ne {m : Nat} {ws : List (List Nat)} : ∀ w ∈ longer m ws, w ≠ [] := fun w hw => by
  unfold longer at hw
  obtain ⟨v, _, h⟩ := List.mem_flatMap.mp hw
  obtain ⟨j, _, e⟩ := List.mem_map.mp h
  rw [← e]
  simp
theorem range_ne {m : Nat} {w : List Nat} : ∀ v ∈ (List.range m).map (fun j => w ++ [j]), v ≠ [] := fun v hv => by
  obtain ⟨j, _, e⟩ := List.mem_map.mp hv
  rw [← e]
  simp
theorem pow_small {m n : Nat} (hm : m ≤ 4) (hn : n ≤ 6) : m ^ n ≤ 4096 :=
  Nat.le_trans (Nat.pow_le_pow_left hm n) (Nat.le_trans (Nat.pow_le_pow_right (by decide) hn) (by decide))
def spWays : Sp := fun vs H Q _ => ∃ (m n : Nat), vs = [.int (m : Int), .int (n : Int)] ∧ m ≤ 4 ∧ n ≤ 6 ∧
  ∀ (H' : Hp) (p : Addr) (as : List Addr), Same H H' → H' p = some (.lst (as.map V.ref)) → WaysAt H' as (Kzd6.waysOn m n) → Q (.ref p) H'
def spFull (K : PySem.W.Frag) : Sp := fun vs H Q _ => ∃ (a b : Addr) (q r : List Nat), vs = [.ref a, .ref b] ∧ SqL K H a (nv q) ∧ SqL K H b (nv r) ∧ q.length ≤ 4 ∧ r.length ≤ 6 ∧
  ∀ (H' : Hp) (p : Addr) (as : List Addr), Same H H' → H' p = some (.lst (as.map V.ref)) → WaysAt H' as (fullW q r) → Q (.ref p) H'
section
variable {P : Program} {w : World} {K : PySem.W.Frag} {mg : Str → Option Value} {base : Heap} {C fI : Addr} {fdI : FuncData}
theorem ok_ways (T : Txt K mg C fI fdI) {f : Addr} {fd : FuncData} (D : Dn K mg "all_ways" sWays f fd ["many_orders", "many_frames"]) : FnOk P w K mg base CX0 1 f fd ["many_orders", "many_frames"] spWays := by
  refine D.F.ok scWays (fun vs H Q E h => ?_) (fun cdv A outer s H vs Q E hr h => ?_)
  · obtain ⟨m, n, rfl, _⟩ := h
    rfl
  · obtain ⟨m, n, rfl, hm, hn, k⟩ := h
    refine ⟨_, pss_cons (ps_set (i := 2) scWays.nd rfl (Or.inl rfl) (pe_lst (pa_cons (pe_lst pa_nil) pa_nil)))
      (pss_cons (ps_for PassesOwn.never rfl (pi_range1 (by rfl) T.nRange (pa_cons (pv 1) pa_nil)) (pg_name (i := 3) scWays.nd rfl (Or.inl rfl))
        (pss_cons (ps_set (i := 4) scWays.nd rfl (Or.inl rfl) (pe_lst pa_nil))
        (pss_cons (ps_for PassesOwn.never rfl (pi_list (pv 2)) (pg_name (i := 5) scWays.nd rfl (Or.inr rfl))
          (pss_one (ps_expr (pe_bm PySem.F.plainAttrs_list PySem.F.slot_list_extend PySem.F.type_list_extend mt_extend (pv 4)
            (pa_cons (pe_lc (own := [("order", 6)]) (g := gName 6) (tt := tYes) (te := tOp rCat (tVar 5) (tLst (tCons (tVar 6) tNil))) rfl scWays.nd (pi_range1 (by rfl) T.nRange (pa_cons (pv 0) pa_nil))
              (blkOk_by (N := ["many_orders", "many_frames", "found", "frame", "longer", "way", "order"]) (sc := defScope sWays) (by decide +kernel))
              (fun _ _ _ _ _ => pg_name (i := 6) scWays.nd rfl (Or.inl rfl)) (fun _ _ _ _ _ => pts_nil) (fun _ _ _ _ _ => pe_op op_cat (pv 5) (pe_lst (pa_cons (pv 6) pa_nil)))) pa_nil)))))
        (pss_one (ps_set (i := 2) scWays.nd rfl (Or.inl rfl) (pv 4))))))
      (pss_one (ps_ret (pv 2)))), ?_⟩
    refine ⟨Nat.zero_le _, fun p0 np0 => ⟨(by show 1 ≤ sizeLine; decide), fun p1 np1 => ?_⟩⟩
    have s0 : Same H (upd H p0 (.lst [])) := same_upd (Same.refl H) np0
    have s1 : Same H (upd (upd H p0 (.lst [])) p1 (.lst [V.ref p0])) := fun b o e => by
      rw [upd_ne (ne_of_none (s0 b o e) np1)]
      exact s0 b o e
    refine ⟨_, rfl, (n : Int), rfl, by omega, by omega, for_range (lo := 0) (n := n)
      (fun i σ H' => ∃ (p : Addr) (as : List Addr) (v1 v2 v3 : Option V), σ = [some (.int (m : Int)), some (.int (n : Int)), some (.ref p), v1, v2, v3, none] ∧ Same H H' ∧ H' p = some (.lst (as.map V.ref)) ∧ WaysAt H' as (Kzd6.waysOn m i))
      ⟨p1, [p0], none, none, none, rfl, s1, upd_same, (upd_ne (ne_of_none upd_same np1)).trans upd_same, trivial⟩ ?_ ?_⟩
    · rintro i σ H1 hi ⟨p, as, v1, v2, v3, rfl, sH, hp, ha⟩
      have hlen := ha.length
      rw [ways_length] at hlen
      have hpow : m ^ i * m ≤ 4096 := by
        have := pow_small (m := m) (n := i + 1) hm (by omega)
        rwa [Nat.pow_succ] at this
      -- longer = []
      refine ⟨Nat.zero_le _, fun l nl => ?_⟩
      have sl : Same H1 (upd H1 l (.lst [])) := same_upd (Same.refl H1) nl
      refine ⟨_, rfl, p, rfl, ⟨_, SqL.of (sl _ _ hp)⟩, for_list (K := K) (a := p) (xs := as.map V.ref)
        (fun j σ H' => ∃ (bs : List Addr) (v : Option V), σ = [some (.int (m : Int)), some (.int (n : Int)), some (.ref p), some (.int (0 + (i : Int))), some (.ref l), v, none] ∧ Same H1 H' ∧ H' l = some (.lst (bs.map V.ref)) ∧ WaysAt H' bs (longer m ((Kzd6.waysOn m i).take j)))
        ⟨[], v3, rfl, sl, upd_same, trivial⟩ (fun j σ H' _ ⟨_, _, _, s2, _, _⟩ => SqL.of (s2 _ _ hp)) ?_ ?_⟩
      · rintro j x σ H2 hx ⟨bs, v, rfl, s2, hl, hb⟩
        obtain ⟨aw, hj, rfl⟩ : ∃ aw, as[j]? = some aw ∧ x = V.ref aw := by
          rw [List.getElem?_map] at hx
          cases e : as[j]? with
          | none => rw [e] at hx; cases hx
          | some aw =>
            rw [e] at hx
            exact ⟨aw, rfl, (Option.some.inj hx).symm⟩
        obtain ⟨wy, hw, hwy⟩ := ha.get hj
        have hjl : j < as.length := lt_of_get hj
        have hwl : wy.length = i := ways_mem m i wy (List.mem_of_getElem? hw)
        have hblen := hb.length
        rw [longer_length, List.length_take] at hblen
        -- longer.extend([..])
        refine ⟨_, rfl, .inl ⟨rfl, _, SqL.of hl⟩, ?_⟩
        refine ⟨_, rfl, (m : Int), rfl, by omega, by omega, fun D nD => lc_range (lo := 0) (n := m) (fun o H' => ∃ cs : List Addr, Same H2 H' ∧ H' D = some (.lst (cs.map V.ref)) ∧ WaysAt H' cs ((List.range o).map fun x => wy ++ [x]))
          ⟨[], same_upd (Same.refl H2) nD, upd_same, trivial⟩ ?_ ?_⟩
        · rintro o H3 ho ⟨cs, s3, hD, hc⟩
          have hclen := hc.length
          rw [List.length_map, List.length_range] at hclen
          rw [Int.zero_add]
          refine ⟨rfl, ?_⟩
          refine ⟨_, rfl, _, rfl, (by show 1 ≤ sizeLine; decide), fun q1 nq1 => ?_⟩
          have s4 : Same H3 (upd H3 q1 (.lst [V.int (o : Int)])) := same_upd (Same.refl H3) nq1
          refine ⟨aw, q1, _, _, rfl, rfl, s4 _ _ (s3 _ _ (s2 _ _ hwy)), upd_same, ?_, fun q2 nq2 => ?_⟩
          · rw [nv_length, hwl]
            exact size_small' (by show i + 1 ≤ 1000000; omega)
          · have s5 : Same H3 (upd (upd H3 q1 (.lst [V.int (o : Int)])) q2 (.lst (nv wy ++ [V.int (o : Int)]))) := fun b u e => by
              rw [upd_ne (ne_of_none (s4 b u e) nq2)]
              exact s4 b u e
            have hD5 := s5 _ _ hD
            refine ⟨_, hD5, ?_, cs ++ [q2], same_upd (s3.trans s5) nD, ?_, ?_⟩
            · rw [List.length_map]
              exact size_small (by omega)
            · rw [upd_same, List.map_append]
              rfl
            · rw [List.range_succ, List.map_append]
              refine WaysAt.append (WaysAt.upd hD5 (hc.on s5) range_ne) ⟨?_, trivial⟩
              rw [upd_ne (Ne.symm (ne_of_none (s4 _ _ hD) nq2)), upd_same, nv_append]
              rfl
        · rintro H3 ⟨cs, s3, hD, hc⟩
          have hclen := hc.length
          rw [List.length_map, List.length_range] at hclen
          have hl3 := s3 _ _ hl
          refine ⟨l, D, _, _, rfl, rfl, hl3, hD, ?_, ?_⟩
          · rw [List.length_map, List.length_map, hclen, hblen]
            have h1 : min j (Kzd6.waysOn m i).length * m ≤ m ^ i * m := Nat.mul_le_mul_right m (by rw [ways_length]; exact Nat.min_le_right _ _)
            exact size_small' (by omega)
          · refine ⟨bs ++ cs, some (.ref aw), rfl, same_upd (s2.trans s3) nl, ?_, ?_⟩
            · rw [upd_same, List.map_append]
            · rw [longer_more hw]
              exact WaysAt.append (WaysAt.upd hl3 (hb.on s3) longer_ne) (WaysAt.upd hl3 hc range_ne)
      · rintro σ H2 ⟨bs, v, rfl, s2, hl, hb⟩
        refine ⟨_, rfl, l, bs, some (.int (0 + (i : Int))), some (.ref l), v, rfl, sH.trans s2, hl, ?_⟩
        rw [ways_succ]
        have e : (Kzd6.waysOn m i).take (as.map V.ref).length = Kzd6.waysOn m i := by
          rw [List.length_map, hlen, ← ways_length m i, List.take_length]
        rw [e] at hb
        exact hb
    · rintro σ H1 ⟨p, as, v1, v2, v3, rfl, sH, hp, ha⟩
      exact ⟨_, rfl, k H1 p as sH hp ha⟩
theorem ok_full (T : Txt K mg C fI fdI) {f fW fH : Addr} {fd fdW fdH : FuncData} (D : Dn K mg "full_ways" sFull f fd ["orders", "frames"]) (DW : Dn K mg "all_ways" sWays fW fdW ["many_orders", "many_frames"]) (DH : Dn K mg "has_frames" sHas fH fdH ["orders", "given"])
    (GW : FnOk P w K mg base CX0 1 fW fdW ["many_orders", "many_frames"] spWays) (GH : FnOk P w K mg base CX0 1 fH fdH ["orders", "given"] (spHas K)) : FnOk P w K mg base CX0 2 f fd ["orders", "frames"] (spFull K) := by
  refine D.F.ok scFull (fun vs H Q E h => ?_) (fun cdv A outer s H vs Q E hr h => ?_)
  · obtain ⟨a, b, q, r, rfl, _⟩ := h
    rfl
  · obtain ⟨a, b, q, r, rfl, hA, hB, hq, hrl, k⟩ := h
    refine ⟨_, pss_one (ps_ret (pe_lc (own := [("way", 2)]) (g := gName 2) (tt := tB (tCall (spHas K) [] E0 (tCons (tVar 0) (tCons (tVar 2) tNil)))) (te := tVar 2) rfl scFull.nd
      (pi_list (pe_call (E := E0) GW hr rfl DW.g DW.F.kp DW.b .nil pass0 (pa_cons (pe_callB call_len_seq (by rfl) T.nLen PySem.boot_len (pa_cons (pv 0) pa_nil)) (pa_cons (pe_callB call_len_seq (by rfl) T.nLen PySem.boot_len (pa_cons (pv 1) pa_nil)) pa_nil))))
      (blkOk_by (N := ["orders", "frames", "way"]) (sc := defScope sFull) (by decide +kernel))
      (fun _ _ _ _ _ => pg_name (i := 2) scFull.nd rfl (Or.inl rfl)) (fun _ _ _ _ _ => pts_one (pt_val (pe_call (E := E0) GH hr rfl DH.g DH.F.kp DH.b .nil pass0 (pa_cons (pv 0) (pa_cons (pv 2) pa_nil))))) (fun _ _ _ _ _ => pv 2))), ?_⟩
    refine ⟨_, rfl, a, _, rfl, .inl hA, _, rfl, b, _, rfl, .inl hB, q.length, r.length, by rw [nv_length, nv_length]; rfl, hq, hrl, fun H1 p as s1 hp ha => ?_⟩
    have hlen := ha.length
    rw [ways_length] at hlen
    have hpow := pow_small hq hrl
    refine ⟨p, rfl, ⟨_, SqL.of hp⟩, fun D nD => lc_list (K := K) (a := p) (xs := as.map V.ref) (fun i H' => ∃ bs : List Addr, Same H1 H' ∧ H' D = some (.lst (bs.map V.ref)) ∧ WaysAt H1 bs (((Kzd6.waysOn q.length r.length).take i).filter (hasF q)))
      ⟨[], same_upd (Same.refl H1) nD, upd_same, trivial⟩ (fun i H' _ ⟨_, s2, _, _⟩ => SqL.of (s2 _ _ hp)) ?_ ?_⟩
    · rintro i x H2 hx ⟨bs, s2, hD, hb⟩
      obtain ⟨aw, hj, rfl⟩ : ∃ aw, as[i]? = some aw ∧ x = V.ref aw := by
        rw [List.getElem?_map] at hx
        cases e : as[i]? with
        | none => rw [e] at hx; cases hx
        | some aw =>
          rw [e] at hx
          exact ⟨aw, rfl, (Option.some.inj hx).symm⟩
      obtain ⟨wy, hw, hwy⟩ := ha.get hj
      refine ⟨rfl, ?_⟩
      refine ⟨_, rfl, _, rfl, a, aw, q, wy, rfl, s2.seq (s1.seq hA), SqL.of (s2 _ _ hwy), by omega, fun H3 s3 => ⟨_, rfl, ?_⟩⟩
      have step : ((Kzd6.waysOn q.length r.length).take (i + 1)).filter (hasF q) = ((Kzd6.waysOn q.length r.length).take i).filter (hasF q) ++ (if hasF q wy = true then [wy] else []) := by
        rw [take_more hw, List.filter_append, List.filter_cons, List.filter_nil]
      have hblen := hb.length
      by_cases c : hasF q wy = true
      · refine if_true_of c ⟨_, rfl, _, s3 _ _ hD, ?_, bs ++ [aw], ?_, ?_, ?_⟩
        · rw [List.length_map, hblen]
          have h1 := List.length_filter_le (hasF q) ((Kzd6.waysOn q.length r.length).take i)
          rw [List.length_take, ways_length] at h1
          exact size_small (by omega)
        · exact fun b' o e => by
            rw [upd_ne (ne_of_none e nD)]
            exact s3 _ _ (s2 _ _ e)
        · rw [upd_same, List.map_append]
          rfl
        · rw [step, if_pos c]
          exact WaysAt.append hb ⟨hwy, trivial⟩
      · refine if_false_of (by simpa using c) ⟨bs, s2.trans s3, s3 _ _ hD, ?_⟩
        rw [step, if_neg c, List.append_nil]
        exact hb
    · rintro H2 ⟨bs, s2, hD, hb⟩
      have e : (Kzd6.waysOn q.length r.length).take (as.map V.ref).length = Kzd6.waysOn q.length r.length := by
        rw [List.length_map, hlen, ← ways_length q.length r.length, List.take_length]
      rw [e] at hb
      exact k H2 D bs (s1.trans s2) hD (hb.on s2)
end
end Fg
/-! ### best -/
namespace Fg
open PySem PySem.Spec PyProof.Rows L2
abbrev sBestOf : Stmt := topS 21
abbrev sBestTold : Stmt := topS 23
abbrev sBest : Stmt := topS 24
theorem scBO : FnScope ["orders", "frames", "ways", "found", "soonest", "way", "here"] ["orders", "frames", "ways"] (defScope sBestOf) := ⟨rfl, rfl, rfl, by decide +kernel, rfl, by decide +kernel, by decide +kernel⟩
theorem scBT : FnScope ["orders", "frames", "ways", "days", "way"] ["orders", "frames"] (defScope sBestTold) := ⟨rfl, rfl, rfl, by decide +kernel, rfl, by decide +kernel, by decide +kernel⟩
theorem scB : FnScope ["orders", "frames", "e"] ["orders", "frames"] (defScope sBest) := ⟨rfl, rfl, rfl, by decide +kernel, rfl, by decide +kernel, by decide +kernel⟩
def spBestOf (K : PySem.W.Frag) : Sp := fun vs H Q _ => ∃ (a b c : Addr) (q r : List Nat) (as : List Addr) (w0 : List Nat) (l : List (List Nat)), vs = [.ref a, .ref b, .ref c] ∧ SqL K H a (nv q) ∧ SqL K H b (nv r) ∧ H c = some (.lst (as.map V.ref)) ∧ WaysAt H as (w0 :: l) ∧
  q.length ≤ 1000 ∧ r.length ≤ 1000 ∧ (∀ x ∈ r, 1 ≤ x ∧ x ≤ 1000) ∧ (∀ w ∈ w0 :: l, w.length = r.length ∧ hasF q w = true) ∧
  ∀ (H' : Hp) (t p : Addr), Same H H' → H' t = some (.tup [.int ((lastN q r (l.foldl (sooN q r) w0) : Nat) : Int), .ref p]) → H' p = some (.lst (nv (l.foldl (sooN q r) w0))) → Q (.ref t) H'
def spBestTold (K : PySem.W.Frag) (C : Addr) : Sp := fun vs H Q E => ∃ (a b : Addr) (q r : List Nat), vs = [.ref a, .ref b] ∧ SqL K H a (nv q) ∧ SqL K H b (nv r) ∧ q.length ≤ 6 ∧ r.length ≤ 8 ∧ Told C H (bestAns q r) Q E
def spBest (K : PySem.W.Frag) : Sp := fun vs H Q _ => ∃ (a b : Addr) (q r : List Nat), vs = [.ref a, .ref b] ∧ SqL K H a (nv q) ∧ SqL K H b (nv r) ∧ q.length ≤ 6 ∧ r.length ≤ 8 ∧
  ∀ (H' : Hp) (p : Addr), H' p = some (.lst ((bestAns q r).map V.int)) → Q (.ref p) H'
theorem best_bad {q r : List Nat} (h : Kzd6.okOrders q = false ∨ Kzd6.okFrames r = false) : bestAns q r = [-22] := by
  unfold bestAns
  exact if_pos h
theorem best_n {q r : List Nat} (h1 : Kzd6.okOrders q = true) (h2 : Kzd6.okFrames r = true) : ¬ (Kzd6.okOrders q = false ∨ Kzd6.okFrames r = false) := fun z => by
  rcases z with z | z
  · rw [h1] at z
    cases z
  · rw [h2] at z
    cases z
theorem best_nil {q r : List Nat} (h1 : Kzd6.okOrders q = true) (h2 : Kzd6.okFrames r = true) (h3 : fullW q r = []) : bestAns q r = [-33] := by
  unfold bestAns
  refine (if_neg (best_n h1 h2)).trans ?_
  rw [h3]
theorem best_cons {q r : List Nat} {w0 : List Nat} {l : List (List Nat)} (h1 : Kzd6.okOrders q = true) (h2 : Kzd6.okFrames r = true) (h3 : fullW q r = w0 :: l) : bestAns q r = castN (lastN q r (l.foldl (sooN q r) w0) :: l.foldl (sooN q r) w0) := by
  unfold bestAns
  refine (if_neg (best_n h1 h2)).trans ?_
  rw [h3]
theorem soo_self (q r w : List Nat) : sooN q r w w = w := by
  unfold sooN
  rw [if_neg (Nat.lt_irrefl _)]
/-! the ways as data, to be compared with [] -/
def wayD (w : List Nat) : PyData := .list (w.map fun n : Nat => .int (n : Int))
def waysD (ws : List (List Nat)) : PyData := .list (ws.map wayD)
theorem dp_nv {K : PySem.W.Frag} {H : Hp} : ∀ w : List Nat, DpAll K H (nv w) (w.map fun n : Nat => .int (n : Int))
  | [] => .nil
  | n :: w => .cons (.int _) (dp_nv w)
theorem dp_ways {K : PySem.W.Frag} {H : Hp} : ∀ {as : List Addr} {ws : List (List Nat)}, WaysAt H as ws → DpAll K H (as.map V.ref) (ws.map wayD)
  | [], [], _ => .nil
  | [], _ :: _, h => h.elim
  | _ :: _, [], h => h.elim
  | _ :: _, w :: _, h => .cons (.lst (SqL.of h.1) (dp_nv w)) (dp_ways h.2)
theorem lay_ints : ∀ w : List Nat, PyData.canLayAll0 (w.map fun n : Nat => .int (n : Int)) = true
  | [] => by simp only [List.map_nil, PyData.canLayAll0]
  | n :: w => by simp only [List.map_cons, PyData.canLayAll0, PyData.canLay0, lay_ints w, Bool.and_self]
theorem lay_ways : ∀ ws : List (List Nat), PyData.canLayAll0 (ws.map wayD) = true
  | [] => by simp only [List.map_nil, PyData.canLayAll0]
  | w :: ws => by simp only [List.map_cons, PyData.canLayAll0, wayD, PyData.canLay0, lay_ints w, lay_ways ws, Bool.and_self]
theorem depth_ints : ∀ w : List Nat, PyData.depthAll (w.map fun n : Nat => .int (n : Int)) ≤ 1
  | [] => by simp only [List.map_nil, PyData.depthAll]; omega
  | n :: w => by
    have := depth_ints w
    simp only [List.map_cons, PyData.depthAll, PyData.depth]
    omega
theorem depth_ways : ∀ ws : List (List Nat), PyData.depthAll (ws.map wayD) ≤ 2
  | [] => by simp only [List.map_nil, PyData.depthAll]; omega
  | w :: ws => by
    have h1 := depth_ways ws
    have h2 := depth_ints w
    simp only [List.map_cons, PyData.depthAll, wayD, PyData.depth]
    omega
theorem shaped_ways (ws : List (List Nat)) : SeqAt.shaped (waysD ws) = true := by
  have h1 := lay_ways ws
  have h2 := depth_ways ws
  unfold SeqAt.shaped waysD
  rw [Bool.and_eq_true]
  refine ⟨?_, decide_eq_true ?_⟩
  · simp only [PyData.canLay0]
    exact h1
  · simp only [PyData.depth]
    omega
theorem eqv_nil (ws : List (List Nat)) : PyData.eqv (waysD ws) (waysD []) = ws.isEmpty := by
  cases ws with
  | nil => rfl
  | cons w ws =>
    unfold waysD
    simp only [List.map_cons, List.map_nil, PyData.eqv, PyData.eqvAll, List.isEmpty_cons]
section
variable {P : Program} {w : World} {K : PySem.W.Frag} {mg : Str → Option Value} {base : Heap} {C fI : Addr} {fdI : FuncData}
theorem ok_bestOf (T : Txt K mg C fI fdI) {f fD fL : Addr} {fd fdD fdL : FuncData} (D : Dn K mg "best_of" sBestOf f fd ["orders", "frames", "ways"]) (DD : Dn K mg "days_of" sDays fD fdD ["orders", "frames", "given"]) (DL : Dn K mg "last_of" sLastOf fL fdL ["days"])
    (GD : FnOk P w K mg base CX0 2 fD fdD ["orders", "frames", "given"] (spDays K)) (GL : FnOk P w K mg base CX0 1 fL fdL ["days"] spLastOf) : FnOk P w K mg base CX0 3 f fd ["orders", "frames", "ways"] (spBestOf K) := by
  refine D.F.ok scBO (fun vs H Q E h => ?_) (fun cdv A outer s H vs Q E hr h => ?_)
  · obtain ⟨a, b, c, q, r, as, w0, l, rfl, _⟩ := h
    rfl
  · obtain ⟨a, b, c, q, r, as, w0, l, rfl, hA, hB, hc, ha, hq, hrl, hr1, hall, k⟩ := h
    have hr1' : Room 1 _ := hr.mono (by decide)
    refine ⟨_, pss_cons (ps_set (i := 3) scBO.nd rfl (Or.inl rfl) (pe_ix ix_list (pv 2) pe_int (fun _ _ => rfl)))
      (pss_cons (ps_set (i := 4) scBO.nd rfl (Or.inl rfl) (pe_call (E := E0) GL hr1' rfl DL.g DL.F.kp DL.b .nil pass0 (pa_cons (pe_call (E := E0) GD hr rfl DD.g DD.F.kp DD.b .nil pass0 (pa_cons (pv 0) (pa_cons (pv 1) (pa_cons (pv 3) pa_nil)))) pa_nil)))
      (pss_cons (ps_for PassesOwn.never rfl (pi_list (pv 2)) (pg_name (i := 5) scBO.nd rfl (Or.inl rfl))
        (pss_cons (ps_set (i := 6) scBO.nd rfl (Or.inl rfl) (pe_call (E := E0) GL hr1' rfl DL.g DL.F.kp DL.b .nil pass0 (pa_cons (pe_call (E := E0) GD hr rfl DD.g DD.F.kp DD.b .nil pass0 (pa_cons (pv 0) (pa_cons (pv 1) (pa_cons (pv 5) pa_nil)))) pa_nil)))
        (pss_one (ps_if (pt_cmpR op_lt (pv 6) (pv 4) (nomark _)) (pss_cons (ps_set (i := 3) scBO.nd rfl (Or.inl rfl) (pv 5)) (pss_one (ps_set (i := 4) scBO.nd rfl (Or.inl rfl) (pv 6)))) pss_nil))))
      (pss_one (ps_ret (pe_tup (pa_cons (pv 4) (pa_cons (pv 3) pa_nil))))))), ?_⟩
    -- found = ways[0]
    cases as with
    | nil => exact ha.elim
    | cons p0 as =>
      have hp0 := ha.1
      have h0 := hall w0 (List.mem_cons_self ..)
      refine ⟨_, rfl, c, _, _, _, rfl, rfl, SqL.of hc, atI_nat (j := 0) rfl, ?_⟩
      -- soonest
      refine ⟨_, rfl, _, rfl, _, rfl, a, b, p0, q, r, w0, rfl, hA, hB, SqL.of hp0, hq, hrl, h0.1, hr1, h0.2, fun H1 p1 s1 hp1 => ?_⟩
      refine ⟨p1, dn q r w0, rfl, hp1, by rw [dn_length]; exact hq, fun H2 s2 => ?_⟩
      have s12 := s1.trans s2
      refine ⟨_, rfl, c, rfl, ⟨_, SqL.of (s12 _ _ hc)⟩, for_list (K := K) (a := c) (xs := (p0 :: as).map V.ref)
        (fun i σ H' => ∃ (p : Addr) (v1 v2 : Option V), σ = [some (.ref a), some (.ref b), some (.ref c), some (.ref p), some (.int ((lastN q r (((w0 :: l).take i).foldl (sooN q r) w0) : Nat) : Int)), v1, v2] ∧ Same H H' ∧ H' p = some (.lst (nv (((w0 :: l).take i).foldl (sooN q r) w0))))
        ⟨p0, none, none, rfl, s12, s12 _ _ hp0⟩ (fun i σ H' _ ⟨_, _, _, _, s3, _⟩ => SqL.of (s3 _ _ hc)) ?_ ?_⟩
      · rintro i x σ H3 hx ⟨p, v1, v2, rfl, s3, hp⟩
        obtain ⟨aw, hj, rfl⟩ : ∃ aw, (p0 :: as)[i]? = some aw ∧ x = V.ref aw := by
          rw [List.getElem?_map] at hx
          cases e : (p0 :: as)[i]? with
          | none => rw [e] at hx; cases hx
          | some aw =>
            rw [e] at hx
            exact ⟨aw, rfl, (Option.some.inj hx).symm⟩
        obtain ⟨wy, hw, hwy⟩ := WaysAt.get (ws := w0 :: l) ha hj
        have hw1 := hall wy (List.mem_of_getElem? hw)
        refine ⟨_, rfl, _, rfl, _, rfl, a, b, aw, q, r, wy, rfl, s3.seq hA, s3.seq hB, SqL.of (s3 _ _ hwy), hq, hrl, hw1.1, hr1, hw1.2, fun H4 p4 s4 hp4 => ?_⟩
        refine ⟨p4, dn q r wy, rfl, hp4, by rw [dn_length]; exact hq, fun H5 s5 => ?_⟩
        have s35 : Same H H5 := (s3.trans s4).trans s5
        have step : ((w0 :: l).take (i + 1)).foldl (sooN q r) w0 = sooN q r (((w0 :: l).take i).foldl (sooN q r) w0) wy := by
          rw [take_more hw, List.foldl_append]
          rfl
        refine ⟨_, rfl, _, rfl, _, _, rfl, rfl, _, rfl, ?_⟩
        by_cases d : lastN q r wy < lastN q r (((w0 :: l).take i).foldl (sooN q r) w0)
        · refine if_true_of (decide_eq_true (Int.ofNat_lt.mpr d)) ?_
          have e : sooN q r (((w0 :: l).take i).foldl (sooN q r) w0) wy = wy := if_pos d
          rw [e] at step
          refine ⟨_, rfl, _, rfl, aw, some (.ref aw), some (.int ((lastN q r wy : Nat) : Int)), ?_, s35, ?_⟩
          · rw [step]
            rfl
          · rw [step]
            exact s35 _ _ hwy
        · refine if_false_of (decide_eq_false fun z => d (Int.ofNat_lt.mp z)) ?_
          have e : sooN q r (((w0 :: l).take i).foldl (sooN q r) w0) wy = ((w0 :: l).take i).foldl (sooN q r) w0 := if_neg d
          rw [e] at step
          refine ⟨p, some (.ref aw), some (.int ((lastN q r wy : Nat) : Int)), ?_, s35, ?_⟩
          · rw [step]
            rfl
          · rw [step]
            exact s5 _ _ (s4 _ _ hp)
      · rintro σ H3 ⟨p, v1, v2, rfl, s3, hp⟩
        have e : ((w0 :: l).take ((p0 :: as).map V.ref).length).foldl (sooN q r) w0 = l.foldl (sooN q r) w0 := by
          rw [List.length_map, WaysAt.length (ws := w0 :: l) ha, List.take_length, List.foldl_cons, soo_self]
        rw [e] at hp
        refine ⟨_, rfl, _, rfl, (by show 2 ≤ sizeLine; decide), fun t nt => k _ t p ?_ ?_ ?_⟩
        · exact fun b' o z => by
            rw [upd_ne (ne_of_none (s3 _ _ z) nt)]
            exact s3 _ _ z
        · rw [upd_same, e]
        · rw [upd_ne (ne_of_none hp nt)]
          exact hp
theorem ok_bestTold (T : Txt K mg C fI fdI) {f fW fO fF fU fB : Addr} {fd fdW fdO fdF fdU fdB : FuncData} (D : Dn K mg "best_told" sBestTold f fd ["orders", "frames"])
    (DW : Dn K mg "want" sWant fW fdW ["is_so", "refusal"]) (DO : Dn K mg "want_orders" sWOrders fO fdO ["orders"]) (DF : Dn K mg "want_frames" sWFrames fF fdF ["frames"]) (DU : Dn K mg "full_ways" sFull fU fdU ["orders", "frames"]) (DB : Dn K mg "best_of" sBestOf fB fdB ["orders", "frames", "ways"])
    (GO : FnOk P w K mg base (L2.CX P w) 4 fO fdO ["orders"] (spWOrders K C)) (GF : FnOk P w K mg base (L2.CX P w) 4 fF fdF ["frames"] (spWFrames K C)) (GU : FnOk P w K mg base CX0 2 fU fdU ["orders", "frames"] (spFull K)) (GB : FnOk P w K mg base CX0 3 fB fdB ["orders", "frames", "ways"] (spBestOf K)) :
    FnOk P w K mg base (L2.CX P w) 5 f fd ["orders", "frames"] (spBestTold K C) := by
  obtain ⟨t2, g2⟩ := T.gCan
  refine D.F.okX scBT (fun vs H Q E h => ?_) (fun cdv A outer s H vs Q E hr h => ?_)
  · obtain ⟨a, b, q, r, rfl, _⟩ := h
    rfl
  · obtain ⟨a, b, q, r, rfl, hA, hB, hq, hrl, told⟩ := h
    have hr3 : Room 3 _ := hr.mono (by decide)
    have hr2 : Room 2 _ := hr.mono (by decide)
    refine ⟨_, pss_cons (ps_expr (pe_call (E := E) GO hr rfl DO.g DO.F.kp DO.b .nil (passes_call (takes_of rfl rfl rfl rfl) (fun _ _ _ _ h => h)) (pa_cons (pv 0) pa_nil)))
      (pss_cons (ps_expr (pe_call (E := E) GF hr rfl DF.g DF.F.kp DF.b .nil (passes_call (takes_of rfl rfl rfl rfl) (fun _ _ _ _ h => h)) (pa_cons (pv 1) pa_nil)))
      (pss_cons (ps_set (i := 2) scBT.nd rfl (Or.inl rfl) (pe_call (E := E0) GU hr2 rfl DU.g DU.F.kp DU.b .nil pass0 (pa_cons (pv 0) (pa_cons (pv 1) pa_nil))))
      (pss_cons (ps_expr (pe_call (E := E) (ok_want T DW) hr3 rfl DW.g DW.F.kp DW.b .nil (passes_call (takes_of rfl rfl rfl rfl) (fun _ _ _ _ h => h)) (pa_cons (pe_cmpR (op_neD hr.units) (pv 2) (pe_lst pa_nil) (nomark _)) (pa_cons (pe_glob (v := .int (-33)) rfl g2 ⟨_, rfl⟩) pa_nil))))
      (pss_cons (ps_asg (pe_call (E := E0) GB hr3 rfl DB.g DB.F.kp DB.b .nil pass0 (pa_cons (pv 0) (pa_cons (pv 1) (pa_cons (pv 2) pa_nil)))) (pg_tup rfl (pgs_cons (pg_name (i := 3) scBT.nd rfl (Or.inl rfl)) (pgs_cons (pg_name (i := 4) scBT.nd rfl (Or.inl rfl)) pgs_nil))))
      (pss_one (ps_ret (pe_op op_cat (pe_lst (pa_cons (pv 3) pa_nil)) (pv 4)))))))), ?_⟩
    refine ⟨_, rfl, a, q, rfl, hA, by omega, fun ho H1 s1 => ?_, fun ho => told.2 _ (best_bad (.inl ho))⟩
    refine ⟨_, rfl, b, r, rfl, s1.seq hB, hrl, fun hf H2 s2 => ?_, fun hf => (told.2 _ (best_bad (.inr hf))).on s1⟩
    have s12 : Same H H2 := s1.trans s2
    refine ⟨_, rfl, _, rfl, a, b, q, r, rfl, s12.seq hA, s12.seq hB, (orders_le ho).1, (frames_le hf).1, fun H3 p as s3 hp ha => ?_⟩
    have s13 : Same H H3 := s12.trans s3
    -- want(ways != [], CANNOT_BE)
    refine ⟨_, rfl, Nat.zero_le _, fun z nz => ?_⟩
    have s4 : Same H3 (upd H3 z (.lst [])) := same_upd (Same.refl H3) nz
    have s14 : Same H (upd H3 z (.lst [])) := s13.trans s4
    have hp4 := s4 _ _ hp
    have ha4 := ha.on s4
    refine ⟨waysD (fullW q r), waysD [], .lst (SqL.of hp4) (dp_ways ha4), .lst (SqL.of upd_same) .nil, shaped_ways _, shaped_ways _, ?_⟩
    refine ⟨!PyData.eqv (waysD (fullW q r)) (waysD []), -33, rfl, fun hh => ?_, fun hh => ?_⟩
    · rw [eqv_nil] at hh
      cases e : fullW q r with
      | nil => rw [e] at hh; cases hh
      | cons w0 l =>
        rw [e] at ha4
        have good := best_cons ho hf e
        refine ⟨_, rfl, _, rfl, _, rfl, a, b, p, q, r, as, w0, l, rfl, s14.seq hA, s14.seq hB, hp4, ha4, by omega, by omega, (frames_le hf).2, fun v hv => full_mem (by rw [e]; exact hv), fun H5 t p5 s5 ht hp5 => ?_⟩
        refine ⟨t, _, rfl, SqT.of ht, rfl, _, _, rfl, _, _, rfl, rfl, ?_⟩
        refine ⟨_, rfl, (by show 1 ≤ sizeLine; decide), fun z1 nz1 => ?_⟩
        refine ⟨_, rfl, z1, p5, _, _, rfl, rfl, upd_same, (upd_ne (ne_of_none hp5 nz1)).trans hp5, ?_, fun z2 nz2 => told.1 _ z2 ?_⟩
        · have hm : l.foldl (sooN q r) w0 ∈ fullW q r := by
            rw [e]
            rcases soo_mem (q := q) (r := r) l w0 with y | y
            · rw [y]; exact List.mem_cons_self ..
            · exact List.mem_cons_of_mem _ y
          rw [nv_length, (full_mem hm).1]
          exact size_small' (by show 1 + r.length ≤ 1000000; omega)
        · rw [upd_same, good]
          rfl
    · rw [eqv_nil] at hh
      cases e : fullW q r with
      | nil => exact (told.2 _ (best_nil ho hf e)).on s14
      | cons w0 l => rw [e] at hh; cases hh
theorem ok_best (T : Txt K mg C fI fdI) {f fO : Addr} {fd fdO : FuncData} (D : Dn K mg "best" sBest f fd ["orders", "frames"]) (DO : Dn K mg "best_told" sBestTold fO fdO ["orders", "frames"])
    (GO : FnOk P w K mg base (L2.CX P w) 5 fO fdO ["orders", "frames"] (spBestTold K C)) : FnOk P w K mg base CX0 6 f fd ["orders", "frames"] (spBest K) := by
  refine D.F.ok scB (fun vs H Q E h => ?_) (fun cdv A outer s H vs Q E hr h => ?_)
  · obtain ⟨a, b, q, r, rfl, _⟩ := h
    rfl
  · obtain ⟨a, b, q, r, rfl, hA, hB, hq, hrl, k⟩ := h
    refine ⟨_, pss_one (ps_try_as (i := 2) (tb := fun W => tRet (tCallS (spBestTold K C) (WE W) (tCons (tVar 0) (tCons (tVar 1) tNil)))) (ts := fun a cls d => tRet (tLst (tCons (tXf a cls d C "refusal" (tVar 2)) tNil))) (Wout := fun _ _ _ _ => False) rfl rfl scB.nd rfl rfl ⟨rfl, by decide, Or.inl T.gC⟩ takes0
        (fun W pn xe tk _ => pss_one (ps_ret (by exact (pe_callS GO hr rfl DO.g DO.F.kp DO.b (fun σ => passAt tk σ) (by exact (pa_cons (pv 0) (pa_cons (pv 1) pa_nil)))))))
        (fun a oe cls d pn hz hf => pss_one (ps_ret (by exact (pe_lst (pa_cons (pe_xf T.xf T.nR hz hf (pv 2)) pa_nil)))))), ?_⟩
    refine ⟨_, rfl, _, rfl, a, b, q, r, rfl, hA, hB, hq, hrl, k, fun v hv dd H1 s1 h1 => ?_⟩
    refine ⟨true, T.te, fun _ a0 _ => ?_, fun q => Bool.noConfusion q⟩
    refine ⟨_, rfl, rfl, rfl, dd, _, _, rfl, h1, rfl, (by show 1 ≤ sizeLine; decide), fun p np => k _ p ?_⟩
    rw [upd_same, hv]
    rfl
end
end Fg
/-! ### The end -/
namespace Fg
open PySem PySem.Spec PyProof.Rows L2
open PySem.W (Codec)
theorem all_mk {P : Program} {w : World} {K : PySem.W.Frag} {h : Heap} {mg : Str → Option Value} {fa C f0 : Addr} (X : K.In h) (G : h.Ns mainGlobals mg) (hfa : mg "best" = some (.ref fa))
    {nm qn : Str} {N : Addr} {bs : List Value} {sn : List Str} {sub : List Value} {ab : Bool} {col : Option Bool} {dd : Option Addr} {m0 m1 m2 m3 m5 : Option Value}
    {od0 an0 : Option Addr} {sl0 : Array (Option Value)} {oc0 kV0 dc0 pm0 cd0 ct0 : Value}
    {f1 : Addr} {od1 an1 : Option Addr} {sl1 : Array (Option Value)} {oc1 kV1 dc1 pm1 cd1 ct1 : Value}
    {f2 : Addr} {od2 an2 : Option Addr} {sl2 : Array (Option Value)} {oc2 kV2 dc2 pm2 cd2 ct2 : Value}
    {f3 : Addr} {od3 an3 : Option Addr} {sl3 : Array (Option Value)} {oc3 kV3 dc3 pm3 cd3 ct3 : Value}
    {f4 : Addr} {od4 an4 : Option Addr} {sl4 : Array (Option Value)} {oc4 kV4 dc4 pm4 cd4 ct4 : Value}
    {f5 : Addr} {od5 an5 : Option Addr} {sl5 : Array (Option Value)} {oc5 kV5 dc5 pm5 cd5 ct5 : Value}
    {f6 : Addr} {od6 an6 : Option Addr} {sl6 : Array (Option Value)} {oc6 kV6 dc6 pm6 cd6 ct6 : Value}
    {f7 : Addr} {od7 an7 : Option Addr} {sl7 : Array (Option Value)} {oc7 kV7 dc7 pm7 cd7 ct7 : Value}
    {f8 : Addr} {od8 an8 : Option Addr} {sl8 : Array (Option Value)} {oc8 kV8 dc8 pm8 cd8 ct8 : Value}
    {f9 : Addr} {od9 an9 : Option Addr} {sl9 : Array (Option Value)} {oc9 kV9 dc9 pm9 cd9 ct9 : Value}
    {f10 : Addr} {od10 an10 : Option Addr} {sl10 : Array (Option Value)} {oc10 kV10 dc10 pm10 cd10 ct10 : Value}
    {f11 : Addr} {od11 an11 : Option Addr} {sl11 : Array (Option Value)} {oc11 kV11 dc11 pm11 cd11 ct11 : Value}
    {f12 : Addr} {od12 an12 : Option Addr} {sl12 : Array (Option Value)} {oc12 kV12 dc12 pm12 cd12 ct12 : Value}
    {f13 : Addr} {od13 an13 : Option Addr} {sl13 : Array (Option Value)} {oc13 kV13 dc13 pm13 cd13 ct13 : Value}
    {f14 : Addr} {od14 an14 : Option Addr} {sl14 : Array (Option Value)} {oc14 kV14 dc14 pm14 cd14 ct14 : Value}
    {tOUT_OF_RANGE tCANNOT_BE tMOST_FRAMES tMOST_A_DAY tMOST_KILOGRAMS tMOST_ORDERS : Tok}
    (aC : PySem.W.nsIn K mainGlobals "Refused" = some (some (.ref C)))
    (xL : K.lookup C = some (excClassObj nm qn C N bs [.type "ValueError", .type "Exception", .type "BaseException", .type "object"] true sn sub ab col dd m0 m1 m2 m3 m5 "ValueError.__new__"))
    (sa : PySem.W.findIn K (.ref C) "__setattr__" = some (some (.builtin "object.__setattr__"))) (ga : PySem.W.findIn K (.ref C) "__getattribute__" = some (some (.builtin "BaseException.__getattribute__"))) (gg : PySem.W.findIn K (.ref C) "__getattr__" = some none) (nb : PySem.W.findIn K (.ref C) "refusal" = some none)
    (a0 : PySem.W.findIn K (.ref C) "__init__" = some (some (.ref f0))) (t0 : PySem.W.typeIn K (.ref f0) = some (.type "function"))
    (l0 : K.lookup f0 = some ⟨oc0, od0, .func (PySem.W.fnOf "__init__" "Refused.__init__" (defArgs sInit) (defBody sInit) (defScope sInit) .none kV0 dc0 pm0 an0 cd0 ct0), sl0⟩) (c0 : PySem.W.codeIn K cd0 "Refused.__init__" = true) (k0 : PySem.W.keepIn K (.ref f0) = true)
    (kC : PySem.W.keepIn K (.ref C) = true) (eC : PySem.W.subIn K (.ref C) (.type "BaseException") = some true) (tC : PySem.W.typeIn K (.ref C) = some (.type "type")) (hC : PySem.W.hasDictIn K C = true) (iC : PySem.W.isClsIn K C = true) (sC : PySem.W.subIn K (.ref C) (.ref C) = some true)
    (vV : PySem.W.findCls K (.type "ValueError") (.type "type") "__init__" = some (.val (.builtin "ValueError.__init__")))
    (a1 : PySem.W.nsIn K mainGlobals "want" = some (some (.ref f1))) (l1 : K.lookup f1 = some ⟨oc1, od1, .func (PySem.W.fnOf "want" "want" (defArgs sWant) (defBody sWant) (defScope sWant) .none kV1 dc1 pm1 an1 cd1 ct1), sl1⟩) (c1 : PySem.W.codeIn K cd1 "want" = true) (k1 : PySem.W.keepIn K (.ref f1) = true)
    (a2 : PySem.W.nsIn K mainGlobals "are_from" = some (some (.ref f2))) (l2 : K.lookup f2 = some ⟨oc2, od2, .func (PySem.W.fnOf "are_from" "are_from" (defArgs sAre) (defBody sAre) (defScope sAre) .none kV2 dc2 pm2 an2 cd2 ct2), sl2⟩) (c2 : PySem.W.codeIn K cd2 "are_from" = true) (k2 : PySem.W.keepIn K (.ref f2) = true)
    (a3 : PySem.W.nsIn K mainGlobals "want_orders" = some (some (.ref f3))) (l3 : K.lookup f3 = some ⟨oc3, od3, .func (PySem.W.fnOf "want_orders" "want_orders" (defArgs sWOrders) (defBody sWOrders) (defScope sWOrders) .none kV3 dc3 pm3 an3 cd3 ct3), sl3⟩) (c3 : PySem.W.codeIn K cd3 "want_orders" = true) (k3 : PySem.W.keepIn K (.ref f3) = true)
    (a4 : PySem.W.nsIn K mainGlobals "want_frames" = some (some (.ref f4))) (l4 : K.lookup f4 = some ⟨oc4, od4, .func (PySem.W.fnOf "want_frames" "want_frames" (defArgs sWFrames) (defBody sWFrames) (defScope sWFrames) .none kV4 dc4 pm4 an4 cd4 ct4), sl4⟩) (c4 : PySem.W.codeIn K cd4 "want_frames" = true) (k4 : PySem.W.keepIn K (.ref f4) = true)
    (a5 : PySem.W.nsIn K mainGlobals "rounded_up" = some (some (.ref f5))) (l5 : K.lookup f5 = some ⟨oc5, od5, .func (PySem.W.fnOf "rounded_up" "rounded_up" (defArgs sUp) (defBody sUp) (defScope sUp) .none kV5 dc5 pm5 an5 cd5 ct5), sl5⟩) (c5 : PySem.W.codeIn K cd5 "rounded_up" = true) (k5 : PySem.W.keepIn K (.ref f5) = true)
    (a6 : PySem.W.nsIn K mainGlobals "spun_a_day" = some (some (.ref f6))) (l6 : K.lookup f6 = some ⟨oc6, od6, .func (PySem.W.fnOf "spun_a_day" "spun_a_day" (defArgs sSpun) (defBody sSpun) (defScope sSpun) .none kV6 dc6 pm6 an6 cd6 ct6), sl6⟩) (c6 : PySem.W.codeIn K cd6 "spun_a_day" = true) (k6 : PySem.W.keepIn K (.ref f6) = true)
    (a7 : PySem.W.nsIn K mainGlobals "has_frames" = some (some (.ref f7))) (l7 : K.lookup f7 = some ⟨oc7, od7, .func (PySem.W.fnOf "has_frames" "has_frames" (defArgs sHas) (defBody sHas) (defScope sHas) .none kV7 dc7 pm7 an7 cd7 ct7), sl7⟩) (c7 : PySem.W.codeIn K cd7 "has_frames" = true) (k7 : PySem.W.keepIn K (.ref f7) = true)
    (a8 : PySem.W.nsIn K mainGlobals "days_of" = some (some (.ref f8))) (l8 : K.lookup f8 = some ⟨oc8, od8, .func (PySem.W.fnOf "days_of" "days_of" (defArgs sDays) (defBody sDays) (defScope sDays) .none kV8 dc8 pm8 an8 cd8 ct8), sl8⟩) (c8 : PySem.W.codeIn K cd8 "days_of" = true) (k8 : PySem.W.keepIn K (.ref f8) = true)
    (a9 : PySem.W.nsIn K mainGlobals "last_of" = some (some (.ref f9))) (l9 : K.lookup f9 = some ⟨oc9, od9, .func (PySem.W.fnOf "last_of" "last_of" (defArgs sLastOf) (defBody sLastOf) (defScope sLastOf) .none kV9 dc9 pm9 an9 cd9 ct9), sl9⟩) (c9 : PySem.W.codeIn K cd9 "last_of" = true) (k9 : PySem.W.keepIn K (.ref f9) = true)
    (a10 : PySem.W.nsIn K mainGlobals "all_ways" = some (some (.ref f10))) (l10 : K.lookup f10 = some ⟨oc10, od10, .func (PySem.W.fnOf "all_ways" "all_ways" (defArgs sWays) (defBody sWays) (defScope sWays) .none kV10 dc10 pm10 an10 cd10 ct10), sl10⟩) (c10 : PySem.W.codeIn K cd10 "all_ways" = true) (k10 : PySem.W.keepIn K (.ref f10) = true)
    (a11 : PySem.W.nsIn K mainGlobals "full_ways" = some (some (.ref f11))) (l11 : K.lookup f11 = some ⟨oc11, od11, .func (PySem.W.fnOf "full_ways" "full_ways" (defArgs sFull) (defBody sFull) (defScope sFull) .none kV11 dc11 pm11 an11 cd11 ct11), sl11⟩) (c11 : PySem.W.codeIn K cd11 "full_ways" = true) (k11 : PySem.W.keepIn K (.ref f11) = true)
    (a12 : PySem.W.nsIn K mainGlobals "best_of" = some (some (.ref f12))) (l12 : K.lookup f12 = some ⟨oc12, od12, .func (PySem.W.fnOf "best_of" "best_of" (defArgs sBestOf) (defBody sBestOf) (defScope sBestOf) .none kV12 dc12 pm12 an12 cd12 ct12), sl12⟩) (c12 : PySem.W.codeIn K cd12 "best_of" = true) (k12 : PySem.W.keepIn K (.ref f12) = true)
    (a13 : PySem.W.nsIn K mainGlobals "best_told" = some (some (.ref f13))) (l13 : K.lookup f13 = some ⟨oc13, od13, .func (PySem.W.fnOf "best_told" "best_told" (defArgs sBestTold) (defBody sBestTold) (defScope sBestTold) .none kV13 dc13 pm13 an13 cd13 ct13), sl13⟩) (c13 : PySem.W.codeIn K cd13 "best_told" = true) (k13 : PySem.W.keepIn K (.ref f13) = true)
    (a14 : PySem.W.nsIn K mainGlobals "best" = some (some (.ref f14))) (l14 : K.lookup f14 = some ⟨oc14, od14, .func (PySem.W.fnOf "best" "best" (defArgs sBest) (defBody sBest) (defScope sBest) .none kV14 dc14 pm14 an14 cd14 ct14), sl14⟩) (c14 : PySem.W.codeIn K cd14 "best" = true) (k14 : PySem.W.keepIn K (.ref f14) = true)
    (zValueError : PySem.W.nsIn K mainGlobals "ValueError" = some none)
    (zall : PySem.W.nsIn K mainGlobals "all" = some none)
    (zlen : PySem.W.nsIn K mainGlobals "len" = some none)
    (zrange : PySem.W.nsIn K mainGlobals "range" = some none)
    (zsum : PySem.W.nsIn K mainGlobals "sum" = some none)
    (zmax : PySem.W.nsIn K mainGlobals "max" = some none)
    (zenumerate : PySem.W.nsIn K mainGlobals "enumerate" = some none)
    (zlist : PySem.W.nsIn K mainGlobals "list" = some none)
    (gOUT_OF_RANGE : PySem.W.nsIn K mainGlobals "OUT_OF_RANGE" = some (some (.int (-22) tOUT_OF_RANGE)))
    (gCANNOT_BE : PySem.W.nsIn K mainGlobals "CANNOT_BE" = some (some (.int (-33) tCANNOT_BE)))
    (gMOST_FRAMES : PySem.W.nsIn K mainGlobals "MOST_FRAMES" = some (some (.int 6 tMOST_FRAMES)))
    (gMOST_A_DAY : PySem.W.nsIn K mainGlobals "MOST_A_DAY" = some (some (.int 1000 tMOST_A_DAY)))
    (gMOST_KILOGRAMS : PySem.W.nsIn K mainGlobals "MOST_KILOGRAMS" = some (some (.int 10000 tMOST_KILOGRAMS)))
    (gMOST_ORDERS : PySem.W.nsIn K mainGlobals "MOST_ORDERS" = some (some (.int 4 tMOST_ORDERS)))
    : ∃ fd : FuncData, (∀ (s : Shared) (us : List Value), us.length = (["orders", "frames"] : List Str).length → BindsTo s fd ⟨us, []⟩ ((["orders", "frames"] : List Str).zip us)) ∧ ∀ base : Heap, K.In base → base.Ns mainGlobals mg → FnOk P w K mg base CX0 6 fa fd ["orders", "frames"] (spBest K) := by
  have e := hfa.symm.trans (PySem.W.mg_of X G a14)
  cases e
  have F0 := fun_mk (st := sInit) l0 c0 k0
  have b0 := F0.binds (ps := ["self", "refusal"]) fun _ _ _ _ _ _ us hl => match us, hl with | [_, _], _ => rfl
  have T : Txt K mg C f0 _ :=
    { oex := { cls := ⟨nm, qn, N, bs, _, sn, sub, ab, col, dd, m0, m1, m2, m3, m5, xL, by decide +kernel⟩, sa := sa, exC := eC, tyC := tC, kC := kC }, xf := { ga := ga, gg := gg, exC := eC, hdC := hC }, nR := nb, iC := a0, tI := t0, gC := PySem.W.mg_of X G aC, te := exm_self eC iC tC sC, vV := vV, fI := F0, bI := b0,
      nVE := PySem.W.mg_none_of X G zValueError, nAll := PySem.W.mg_none_of X G zall, nLen := PySem.W.mg_none_of X G zlen, nRange := PySem.W.mg_none_of X G zrange, nSum := PySem.W.mg_none_of X G zsum, nMax := PySem.W.mg_none_of X G zmax, nEnum := PySem.W.mg_none_of X G zenumerate, nList := PySem.W.mg_none_of X G zlist,
      gOut := ⟨_, PySem.W.mg_of X G gOUT_OF_RANGE⟩, gCan := ⟨_, PySem.W.mg_of X G gCANNOT_BE⟩, gMF := ⟨_, PySem.W.mg_of X G gMOST_FRAMES⟩, gMD := ⟨_, PySem.W.mg_of X G gMOST_A_DAY⟩, gMK := ⟨_, PySem.W.mg_of X G gMOST_KILOGRAMS⟩ }
  have F1 := fun_mk (st := sWant) l1 c1 k1
  have D_want : Dn K mg "want" sWant f1 _ ["is_so", "refusal"] := ⟨PySem.W.mg_of X G a1, F1, F1.binds (ps := ["is_so", "refusal"]) fun _ _ _ _ _ _ us hl => match us, hl with | [_, _], _ => rfl⟩
  have F2 := fun_mk (st := sAre) l2 c2 k2
  have D_are_from : Dn K mg "are_from" sAre f2 _ ["numbers", "least", "most"] := ⟨PySem.W.mg_of X G a2, F2, F2.binds (ps := ["numbers", "least", "most"]) fun _ _ _ _ _ _ us hl => match us, hl with | [_, _, _], _ => rfl⟩
  have F3 := fun_mk (st := sWOrders) l3 c3 k3
  have D_want_orders : Dn K mg "want_orders" sWOrders f3 _ ["orders"] := ⟨PySem.W.mg_of X G a3, F3, F3.binds (ps := ["orders"]) fun _ _ _ _ _ _ us hl => match us, hl with | [_], _ => rfl⟩
  have F4 := fun_mk (st := sWFrames) l4 c4 k4
  have D_want_frames : Dn K mg "want_frames" sWFrames f4 _ ["frames"] := ⟨PySem.W.mg_of X G a4, F4, F4.binds (ps := ["frames"]) fun _ _ _ _ _ _ us hl => match us, hl with | [_], _ => rfl⟩
  have F5 := fun_mk (st := sUp) l5 c5 k5
  have D_rounded_up : Dn K mg "rounded_up" sUp f5 _ ["number", "other"] := ⟨PySem.W.mg_of X G a5, F5, F5.binds (ps := ["number", "other"]) fun _ _ _ _ _ _ us hl => match us, hl with | [_, _], _ => rfl⟩
  have F6 := fun_mk (st := sSpun) l6 c6 k6
  have D_spun_a_day : Dn K mg "spun_a_day" sSpun f6 _ ["order", "frames", "given"] := ⟨PySem.W.mg_of X G a6, F6, F6.binds (ps := ["order", "frames", "given"]) fun _ _ _ _ _ _ us hl => match us, hl with | [_, _, _], _ => rfl⟩
  have F7 := fun_mk (st := sHas) l7 c7 k7
  have D_has_frames : Dn K mg "has_frames" sHas f7 _ ["orders", "given"] := ⟨PySem.W.mg_of X G a7, F7, F7.binds (ps := ["orders", "given"]) fun _ _ _ _ _ _ us hl => match us, hl with | [_, _], _ => rfl⟩
  have F8 := fun_mk (st := sDays) l8 c8 k8
  have D_days_of : Dn K mg "days_of" sDays f8 _ ["orders", "frames", "given"] := ⟨PySem.W.mg_of X G a8, F8, F8.binds (ps := ["orders", "frames", "given"]) fun _ _ _ _ _ _ us hl => match us, hl with | [_, _, _], _ => rfl⟩
  have F9 := fun_mk (st := sLastOf) l9 c9 k9
  have D_last_of : Dn K mg "last_of" sLastOf f9 _ ["days"] := ⟨PySem.W.mg_of X G a9, F9, F9.binds (ps := ["days"]) fun _ _ _ _ _ _ us hl => match us, hl with | [_], _ => rfl⟩
  have F10 := fun_mk (st := sWays) l10 c10 k10
  have D_all_ways : Dn K mg "all_ways" sWays f10 _ ["many_orders", "many_frames"] := ⟨PySem.W.mg_of X G a10, F10, F10.binds (ps := ["many_orders", "many_frames"]) fun _ _ _ _ _ _ us hl => match us, hl with | [_, _], _ => rfl⟩
  have F11 := fun_mk (st := sFull) l11 c11 k11
  have D_full_ways : Dn K mg "full_ways" sFull f11 _ ["orders", "frames"] := ⟨PySem.W.mg_of X G a11, F11, F11.binds (ps := ["orders", "frames"]) fun _ _ _ _ _ _ us hl => match us, hl with | [_, _], _ => rfl⟩
  have F12 := fun_mk (st := sBestOf) l12 c12 k12
  have D_best_of : Dn K mg "best_of" sBestOf f12 _ ["orders", "frames", "ways"] := ⟨PySem.W.mg_of X G a12, F12, F12.binds (ps := ["orders", "frames", "ways"]) fun _ _ _ _ _ _ us hl => match us, hl with | [_, _, _], _ => rfl⟩
  have F13 := fun_mk (st := sBestTold) l13 c13 k13
  have D_best_told : Dn K mg "best_told" sBestTold f13 _ ["orders", "frames"] := ⟨PySem.W.mg_of X G a13, F13, F13.binds (ps := ["orders", "frames"]) fun _ _ _ _ _ _ us hl => match us, hl with | [_, _], _ => rfl⟩
  have F14 := fun_mk (st := sBest) l14 c14 k14
  have D_best : Dn K mg "best" sBest fa _ ["orders", "frames"] := ⟨PySem.W.mg_of X G a14, F14, F14.binds (ps := ["orders", "frames"]) fun _ _ _ _ _ _ us hl => match us, hl with | [_, _], _ => rfl⟩
  refine ⟨PySem.W.fnOf "best" "best" (defArgs sBest) (defBody sBest) (defScope sBest) .none kV14 dc14 pm14 an14 cd14 ct14, fun s us hu => match us, hu with | [_, _], _ => .of_eq rfl, fun base _ _ => ?_⟩
  have mo : ∃ t, mg "MOST_ORDERS" = some (.int 4 t) := ⟨_, PySem.W.mg_of X G gMOST_ORDERS⟩
  have GO := ok_worders (P := P) (w := w) (base := base) T mo D_want_orders D_want D_are_from
  have GF := ok_wframes (P := P) (w := w) (base := base) T D_want_frames D_want D_are_from
  have GD := ok_days (P := P) (w := w) (base := base) T D_days_of D_rounded_up D_spun_a_day
  have GL := ok_lastOf (P := P) (w := w) (base := base) T D_last_of
  have GH := ok_has (P := P) (w := w) (base := base) T D_has_frames
  have GW := ok_ways (P := P) (w := w) (base := base) T D_all_ways
  have GU := ok_full T D_full_ways D_all_ways D_has_frames GW GH
  have GB := ok_bestOf T D_best_of D_days_of D_last_of GD GL
  have GT := ok_bestTold T D_best_told D_want D_want_orders D_want_frames D_full_ways D_best_of GO GF GU GB
  exact ok_best T D_best D_best_told GT
/-- a list that may be handed in is one of numbers not below 0 -/
theorem list_in {n : Nat} {l : List Int} (h : (Codec.inLen 0 n l && l.all (Codec.inInt (_root_.Int.ofNat 0) (_root_.Int.ofNat 4294967295))) = true) : ∃ q : List Nat, l = castN q ∧ q.length ≤ n := by
  rw [Bool.and_eq_true] at h
  have h1 := (Codec.inNat_iff.mp h.1).2
  have h2 : ∀ x ∈ l, (0 : Int) ≤ x := fun x hx => (Codec.inInt_iff.mp (List.all_eq_true.mp h.2 x hx)).1
  exact ⟨_, cast_of h2, by rw [List.length_map]; exact h1⟩
theorem int_in {z : Int} (h : Codec.inInt (_root_.Int.ofNat 0) (_root_.Int.ofNat 4294967295) z = true) : ∃ n : Nat, z = (n : Int) ∧ n ≤ 4294967295 := by
  obtain ⟨h1, h2⟩ := Codec.inInt_iff.mp h
  have h1 : (0 : Int) ≤ z := h1
  have h2 : z ≤ 4294967295 := h2
  exact ⟨z.toNat, by omega, by omega⟩
end Fg
open PySem PySem.W PyProof.Rows
set_option maxRecDepth 100000 in
set_option maxHeartbeats 8000000 in
theorem PySem.Challenge.cw_framesgiven_s02_best_holds : PySem.Challenge.rw_framesgiven_s02_best.Holds := by
  w_on; k_headS; (case hw => exact ⟨[.list [], .list []], by decide +kernel, by decide +kernel⟩)
  k_fillS
  refine L2.walk_specK (r := PySem.Challenge.rw_framesgiven_s02_best) (k := 6) (CX := L2.CX0) (ps := ["orders", "frames"]) (sp := Fg.spBest) (by decide +kernel) rfl rfl ⟨rfl, by decide, by decide⟩ (fun w h Y => PySem.W.kIn_of Y) ?F ?S (fun _ _ _ _ z => z)
  case F =>
    intro w mg fa h Y KX G hmg
    refine' Fg.all_mk KX G hmg ?aC ?xL ?sa ?ga ?gg ?nb ?a0 ?t0 ?l0 ?c0 ?k0 ?kC ?eC ?tC ?hC ?iC ?sC ?vV ?a1 ?l1 ?c1 ?k1 ?a2 ?l2 ?c2 ?k2 ?a3 ?l3 ?c3 ?k3 ?a4 ?l4 ?c4 ?k4 ?a5 ?l5 ?c5 ?k5 ?a6 ?l6 ?c6 ?k6 ?a7 ?l7 ?c7 ?k7 ?a8 ?l8 ?c8 ?k8 ?a9 ?l9 ?c9 ?k9 ?a10 ?l10 ?c10 ?k10 ?a11 ?l11 ?c11 ?k11 ?a12 ?l12 ?c12 ?k12 ?a13 ?l13 ?c13 ?k13 ?a14 ?l14 ?c14 ?k14 ?zValueError ?zall ?zlen ?zrange ?zsum ?zmax ?zenumerate ?zlist ?gOUT_OF_RANGE ?gCANNOT_BE ?gMOST_FRAMES ?gMOST_A_DAY ?gMOST_KILOGRAMS ?gMOST_ORDERS
    (case aC => k_is)
    (case xL => k_is)
    (case sa => k_is)
    (case ga => k_is)
    (case gg => k_is)
    (case nb => k_is)
    (case a0 => k_is)
    (case t0 => k_is)
    (case l0 => k_is)
    (case c0 => k_is)
    (case k0 => k_is)
    (case kC => k_is)
    (case eC => k_is)
    (case tC => k_is)
    (case hC => k_is)
    (case iC => k_is)
    (case sC => first | rfl | k_is)
    (case vV => first | k_is | rfl | decide +kernel)
    (case a1 => k_is)
    (case l1 => k_is)
    (case c1 => k_is)
    (case k1 => k_is)
    (case a2 => k_is)
    (case l2 => k_is)
    (case c2 => k_is)
    (case k2 => k_is)
    (case a3 => k_is)
    (case l3 => k_is)
    (case c3 => k_is)
    (case k3 => k_is)
    (case a4 => k_is)
    (case l4 => k_is)
    (case c4 => k_is)
    (case k4 => k_is)
    (case a5 => k_is)
    (case l5 => k_is)
    (case c5 => k_is)
    (case k5 => k_is)
    (case a6 => k_is)
    (case l6 => k_is)
    (case c6 => k_is)
    (case k6 => k_is)
    (case a7 => k_is)
    (case l7 => k_is)
    (case c7 => k_is)
    (case k7 => k_is)
    (case a8 => k_is)
    (case l8 => k_is)
    (case c8 => k_is)
    (case k8 => k_is)
    (case a9 => k_is)
    (case l9 => k_is)
    (case c9 => k_is)
    (case k9 => k_is)
    (case a10 => k_is)
    (case l10 => k_is)
    (case c10 => k_is)
    (case k10 => k_is)
    (case a11 => k_is)
    (case l11 => k_is)
    (case c11 => k_is)
    (case k11 => k_is)
    (case a12 => k_is)
    (case l12 => k_is)
    (case c12 => k_is)
    (case k12 => k_is)
    (case a13 => k_is)
    (case l13 => k_is)
    (case c13 => k_is)
    (case k13 => k_is)
    (case a14 => k_is)
    (case l14 => k_is)
    (case c14 => k_is)
    (case k14 => k_is)
    (case zValueError => k_is)
    (case zall => k_is)
    (case zlen => k_is)
    (case zrange => k_is)
    (case zsum => k_is)
    (case zmax => k_is)
    (case zenumerate => k_is)
    (case zlist => k_is)
    (case gOUT_OF_RANGE => k_is)
    (case gCANNOT_BE => k_is)
    (case gMOST_FRAMES => k_is)
    (case gMOST_A_DAY => k_is)
    (case gMOST_KILOGRAMS => k_is)
    (case gMOST_ORDERS => k_is)
  case S =>
    intro K H xs a hO hwi hask hx
    obtain ⟨orders, frames, u⟩ := a
    have qw : ((Codec.inLen 0 6 orders && orders.all (Codec.inInt (_root_.Int.ofNat 0) (_root_.Int.ofNat 4294967295))) && ((Codec.inLen 0 8 frames && frames.all (Codec.inInt (_root_.Int.ofNat 0) (_root_.Int.ofNat 4294967295))) && true)) = true := hwi
    have q0 := Bool.and_eq_true_iff.mp qw
    have q00 := Bool.and_eq_true_iff.mp q0.2
    obtain ⟨q, rfl, hq1⟩ := Fg.list_in q0.1
    obtain ⟨r, rfl, hr1⟩ := Fg.list_in q00.1
    cases hx with
    | cons h1 h2 =>
      cases h2 with
      | cons h2 h3 =>
        cases h3
        cases h1 with
        | lst s1 e1 =>
        cases h2 with
        | lst s2 e2 =>
          have e := L2.ints_dw (Fg.castN q) _ e1
          subst e
          have e := L2.ints_dw (Fg.castN r) _ e2
          subst e
          refine ⟨_, _, q, r, rfl, s1, s2, hq1, hr1, fun H' p hp => ?_⟩
          show L2.Dw K H' (.ref p) (.list ((PyKzd6.best (Fg.castN q) (Fg.castN r)).map WData.int))
          rw [Fg.best_ans]
          exact .lst (L2.SqL.of hp) (L2.dw_ints _)
#print axioms PySem.Challenge.cw_framesgiven_s02_best_holds
