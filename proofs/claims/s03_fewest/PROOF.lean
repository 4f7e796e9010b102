import PyProof.Rows.All
import Wide.All
import OpenK.AllK
import Wide.FinOn
import PyProof.EqAt
import PyProof.EqKinds
import PyProof.TupleCall
import Open.SpecLaws
import KE.OsGo
import HandS.ForSpec
import HandS.Comp
import HandS.Iter
import HandS.Walk
import HandS.ExcInit
import HandS.ExcField
import PySem.Challenge.RW_framesgiven_s03_fewest
set_option Elab.async false
set_option linter.all false
set_option maxRecDepth 100000
set_option maxHeartbeats 4000000
/-! The plain law: no program in sight. -/
namespace Fg
open Kzd6

/-! ### sums -/
theorem foldl_add (l : List Nat) : ∀ a : Nat, l.foldl (· + ·) a = a + l.sum := by
  induction l with
  | nil => intro a; simp
  | cons x l ih => intro a; rw [List.foldl_cons, ih, List.sum_cons]; omega
theorem sum_is (l : List Nat) : Kzd1.sum l = l.sum := by
  unfold Kzd1.sum
  rw [foldl_add]; omega
theorem sum_cast (l : List Nat) : (l.map fun n : Nat => (n : Int)).sum = ((l.sum : Nat) : Int) := by
  induction l with
  | nil => rfl
  | cons x l ih => rw [List.map_cons, List.sum_cons, ih, List.sum_cons]; omega
theorem sum_filter (p : Nat → Bool) (g : Nat → Nat) (l : List Nat) : ((l.filter p).map g).sum = (l.map fun k => if p k = true then g k else 0).sum := by
  induction l with
  | nil => rfl
  | cons x l ih =>
    rw [List.filter_cons, List.map_cons, List.sum_cons]
    by_cases h : p x = true
    · rw [if_pos h, if_pos h, List.map_cons, List.sum_cons, ih]
    · rw [if_neg h, if_neg h, ih]; omega
theorem sum_pos_iff (l : List Nat) : l.sum = 0 ↔ ∀ x ∈ l, x = 0 := by
  induction l with
  | nil => simp
  | cons x l ih =>
    rw [List.sum_cons]
    constructor
    · intro h y hy
      rcases List.mem_cons.mp hy with e | e
      · omega
      · exact ih.mp (by omega) y e
    · intro h
      have h1 := h x (List.mem_cons_self ..)
      have h2 := ih.mpr fun y hy => h y (List.mem_cons_of_mem _ hy)
      omega
theorem zip_range {g : Nat → Nat → Nat} : ∀ (r f : List Nat), f.length = r.length → List.zipWith g r f = (List.range r.length).map fun k => g (r.getD k 0) (f.getD k 0)
  | [], [], _ => rfl
  | [], _ :: _, h => by simp at h
  | _ :: _, [], h => by simp at h
  | x :: r, y :: f, h => by
    have h' : f.length = r.length := by simpa using h
    rw [List.zipWith_cons_cons, zip_range r f h', List.length_cons, List.range_succ_eq_map, List.map_cons, List.map_map]
    rfl

/-! ### frames given to an order -/
/-- what the frames of an order spin, by places -/
def pick (r f : List Nat) (j n : Nat) : List Nat := ((List.range n).filter fun k => f.getD k 0 == j).map fun k => r.getD k 0
theorem pick_succ (r f : List Nat) (j n : Nat) : pick r f j (n + 1) = if f.getD n 0 = j then pick r f j n ++ [r.getD n 0] else pick r f j n := by
  unfold pick
  rw [List.range_succ, List.filter_append, List.map_append]
  by_cases h : f.getD n 0 = j
  · rw [if_pos h]
    have e : (f.getD n 0 == j) = true := by simpa using h
    simp only [List.filter_cons, List.filter_nil, e, if_true, List.map_cons, List.map_nil]
  · rw [if_neg h]
    have e : (f.getD n 0 == j) = false := by simpa using h
    simp only [List.filter_cons, List.filter_nil, e, Bool.false_eq_true, if_false, List.map_nil, List.append_nil]
theorem pick_length (r f : List Nat) (j n : Nat) : (pick r f j n).length ≤ n := by
  unfold pick
  rw [List.length_map]
  exact Nat.le_trans (List.length_filter_le _ _) (by simp)
theorem rate_pick {r f : List Nat} (h : f.length = r.length) (j : Nat) : rate r f j = (pick r f j r.length).sum := by
  unfold rate pick
  rw [sum_is, zip_range r f h, sum_filter]
  congr 1
  apply List.map_congr_left
  intro k _
  by_cases e : f.getD k 0 = j
  · simp
  · simp
theorem frames_le {r : List Nat} (h : okFrames r = true) : r.length ≤ 6 ∧ ∀ x ∈ r, 1 ≤ x ∧ x ≤ 1000 := by
  unfold okFrames at h
  simp only [Bool.and_eq_true, decide_eq_true_eq, List.all_eq_true] at h
  exact h
theorem orders_le {q : List Nat} (h : okOrders q = true) : q.length ≤ 4 ∧ ∀ x ∈ q, 1 ≤ x ∧ x ≤ 10000 := by
  unfold okOrders at h
  simp only [Bool.and_eq_true, decide_eq_true_eq, List.all_eq_true] at h
  exact h
theorem getD_mem {l : List Nat} {k : Nat} (h : k < l.length) : l.getD k 0 ∈ l := by
  rw [List.getD_eq_getElem?_getD, List.getElem?_eq_getElem h]
  exact List.getElem_mem h
theorem rate_zero {r f : List Nat} (hr : ∀ x ∈ r, 1 ≤ x) (h : f.length = r.length) (j : Nat) : rate r f j = 0 ↔ j ∉ f := by
  rw [rate_pick h, sum_pos_iff]
  constructor
  · intro z hj
    obtain ⟨k, hk, e⟩ := List.getElem_of_mem hj
    have hk' : k < r.length := by omega
    have e1 : f.getD k 0 = j := by rw [List.getD_eq_getElem?_getD, List.getElem?_eq_getElem hk]; exact e
    have m : r.getD k 0 ∈ pick r f j r.length := by
      unfold pick
      exact List.mem_map.mpr ⟨k, List.mem_filter.mpr ⟨List.mem_range.mpr hk', by simpa using e1⟩, rfl⟩
    have z1 := z _ m
    have z2 := hr _ (getD_mem hk')
    omega
  · intro hj x hx
    unfold pick at hx
    obtain ⟨k, hk, e⟩ := List.mem_map.mp hx
    obtain ⟨h1, h2⟩ := List.mem_filter.mp hk
    have h3 : k < r.length := List.mem_range.mp h1
    have h4 : f.getD k 0 = j := by simpa using h2
    exact absurd (h4 ▸ getD_mem (l := f) (k := k) (by omega)) hj
theorem sum_le (c : Nat) : ∀ l : List Nat, (∀ x ∈ l, x ≤ c) → l.sum ≤ c * l.length
  | [], _ => by simp
  | x :: l, h => by
    have h1 := h x (List.mem_cons_self ..)
    have h2 := sum_le c l fun y hy => h y (List.mem_cons_of_mem _ hy)
    rw [List.sum_cons, List.length_cons, Nat.mul_succ]
    omega
theorem rate_le {r f : List Nat} (hr : ∀ x ∈ r, x ≤ 1000) (hl : r.length ≤ 1000) (h : f.length = r.length) (j : Nat) : rate r f j ≤ 1000000 := by
  rw [rate_pick h]
  have h1 : ∀ x ∈ pick r f j r.length, x ≤ 1000 := fun x hx => by
    unfold pick at hx
    obtain ⟨k, hk, e⟩ := List.mem_map.mp hx
    have h3 : k < r.length := List.mem_range.mp (List.mem_filter.mp hk).1
    rw [← e]
    exact hr _ (getD_mem h3)
  have h2 := sum_le 1000 _ h1
  have h3 := pick_length r f j r.length
  omega

/-! ### days -/
def hasF (q f : List Nat) : Bool := (List.range q.length).all fun j => f.contains j
def dayN (q r f : List Nat) (j : Nat) : Nat := (q.getD j 0 + rate r f j - 1) / rate r f j
def dn (q r f : List Nat) : List Nat := (List.range q.length).map (dayN q r f)
def lastN (q r f : List Nat) : Nat := (dn q r f).foldl max 0
theorem dn_length (q r f : List Nat) : (dn q r f).length = q.length := by unfold dn; simp
theorem allDays_has {q r f : List Nat} (hr : ∀ x ∈ r, 1 ≤ x) (h : f.length = r.length) (hf : hasF q f = true) : allDays q r f = (dn q r f).map some := by
  unfold allDays dn
  rw [List.map_map]
  apply List.map_congr_left
  intro j hj
  unfold hasF at hf
  have h1 := List.all_eq_true.mp hf j hj
  have h2 : j ∈ f := by simpa using h1
  have h3 : rate r f j ≠ 0 := fun z => (rate_zero hr h j).mp z h2
  unfold days dayN
  rw [if_neg h3]
  rfl
theorem fold_some : ∀ (l : List Nat) (a : Nat), (l.map some).foldl (fun a b => match a, b with
  | some x, some y => some (max x y)
  | _, _ => none) (some a) = some (l.foldl max a)
  | [], _ => rfl
  | x :: l, a => by
    rw [List.map_cons, List.foldl_cons, List.foldl_cons]
    exact fold_some l (max a x)
theorem fold_none : ∀ (l : List (Option Nat)), l.foldl (fun a b => match a, b with
  | some x, some y => some (max x y)
  | _, _ => none) (none : Option Nat) = none
  | [] => rfl
  | _ :: l => by
    rw [List.foldl_cons]
    exact fold_none l
theorem fold_none_mem : ∀ (l : List (Option Nat)) (a : Option Nat), none ∈ l → l.foldl (fun a b => match a, b with
  | some x, some y => some (max x y)
  | _, _ => none) a = none
  | [], _, h => by simp at h
  | none :: l, a, _ => by
    rw [List.foldl_cons]
    have e : (match a, (none : Option Nat) with
      | some x, some y => some (max x y)
      | _, _ => none) = none := by cases a <;> rfl
    rw [e]
    exact fold_none l
  | some y :: l, a, h => by
    rw [List.foldl_cons]
    refine fold_none_mem l _ ?_
    rcases List.mem_cons.mp h with e | e
    · cases e
    · exact e
theorem last_has {q r f : List Nat} (hr : ∀ x ∈ r, 1 ≤ x) (h : f.length = r.length) (hf : hasF q f = true) : last q r f = some (lastN q r f) := by
  unfold last lastN
  rw [allDays_has hr h hf]
  exact fold_some _ 0
theorem last_hasnt {q r f : List Nat} (hr : ∀ x ∈ r, 1 ≤ x) (h : f.length = r.length) (hf : hasF q f = false) : last q r f = none := by
  unfold last
  refine fold_none_mem _ _ ?_
  have h1 : ¬ (List.range q.length).all (fun j => f.contains j) = true := by
    unfold hasF at hf
    rw [hf]
    exact Bool.false_ne_true
  rw [List.all_eq_true] at h1
  obtain ⟨j, hj⟩ := Classical.not_forall.mp h1
  obtain ⟨hj1, hj2⟩ := Classical.not_imp.mp hj
  unfold allDays
  refine List.mem_map.mpr ⟨j, hj1, ?_⟩
  have h3 : rate r f j = 0 := (rate_zero hr h j).mpr (by simpa using hj2)
  unfold days
  rw [if_pos h3]
theorem last_some {q r f : List Nat} (hr : ∀ x ∈ r, 1 ≤ x) (h : f.length = r.length) : last q r f = if hasF q f = true then some (lastN q r f) else none := by
  by_cases e : hasF q f = true
  · rw [if_pos e]
    exact last_has hr h e
  · rw [if_neg e]
    exact last_hasnt hr h (by simpa using e)

/-! ### the greatest -/
theorem foldl_max : ∀ (l : List Nat) (a : Nat), a ≤ l.foldl max a ∧ (∀ x ∈ l, x ≤ l.foldl max a) ∧ (l.foldl max a = a ∨ l.foldl max a ∈ l)
  | [], a => ⟨Nat.le_refl _, fun _ h => by simp at h, .inl rfl⟩
  | x :: l, a => by
    obtain ⟨h1, h2, h3⟩ := foldl_max l (max a x)
    rw [List.foldl_cons]
    refine ⟨by omega, fun y hy => ?_, ?_⟩
    · rcases List.mem_cons.mp hy with e | e
      · rw [e]; omega
      · exact h2 y e
    · rcases h3 with e | e
      · rw [e]
        by_cases c : x ≤ a
        · exact .inl (by omega)
        · exact .inr (by rw [show max a x = x by omega]; exact List.mem_cons_self ..)
      · exact .inr (List.mem_cons_of_mem _ e)
theorem max_is {l : List Nat} {m : Int} (hm : m ∈ (0 :: l.map fun n : Nat => (n : Int))) (hle : ∀ y ∈ (0 :: l.map fun n : Nat => (n : Int)), y ≤ m) : m = ((l.foldl max 0 : Nat) : Int) := by
  obtain ⟨h1, h2, h3⟩ := foldl_max l 0
  have u : ((l.foldl max 0 : Nat) : Int) ≤ m := by
    rcases h3 with e | e
    · rw [e]; exact hle _ (List.mem_cons_self ..)
    · exact hle _ (List.mem_cons_of_mem _ (List.mem_map.mpr ⟨_, e, rfl⟩))
  have v : m ≤ ((l.foldl max 0 : Nat) : Int) := by
    rcases List.mem_cons.mp hm with e | e
    · rw [e]; omega
    · obtain ⟨x, hx, e⟩ := List.mem_map.mp e
      rw [← e]
      have := h2 x hx
      omega
  omega

/-! ### the statements, by cases -/
def castN (l : List Nat) : List Int := l.map fun n : Nat => (n : Int)
theorem nats_cast (l : List Nat) : Kzd6Neutral.natsOf (castN l) = l := by
  unfold Kzd6Neutral.natsOf castN
  rw [List.map_map]
  conv => rhs; rw [← List.map_id l]
  apply List.map_congr_left
  intro x _
  simp
theorem cast_of {l : List Int} (h : ∀ x ∈ l, 0 ≤ x) : l = castN (l.map Int.toNat) := by
  unfold castN
  rw [List.map_map]
  conv => lhs; rw [← List.map_id l]
  apply List.map_congr_left
  intro x hx
  have := h x hx
  simp only [id_eq, Function.comp_apply]
  omega
theorem ints_cast (l : List Nat) : Kzd6Neutral.ints l = castN l := rfl
theorem last_eq (q r f : List Nat) : PyKzd6.last (castN q) (castN r) (castN f) = (answer (.last q r f)).value :: castN (answer (.last q r f)).nums := by
  show (answer (.last (Kzd6Neutral.natsOf (castN q)) (Kzd6Neutral.natsOf (castN r)) (Kzd6Neutral.natsOf (castN f)))).value :: Kzd6Neutral.ints _ = _
  rw [nats_cast, nats_cast, nats_cast]
  rfl
theorem best_eq (q r : List Nat) : PyKzd6.best (castN q) (castN r) = (answer (.best q r)).value :: castN (answer (.best q r)).nums := by
  show (answer (.best (Kzd6Neutral.natsOf (castN q)) (Kzd6Neutral.natsOf (castN r)))).value :: Kzd6Neutral.ints _ = _
  rw [nats_cast, nats_cast]
  rfl
theorem fewest_eq (x d : Nat) (r : List Nat) : PyKzd6.fewest (x : Int) (d : Int) (castN r) = (answer (.fewest x d r)).value :: castN (answer (.fewest x d r)).nums := by
  show (answer (.fewest (x : Int).toNat (d : Int).toNat (Kzd6Neutral.natsOf (castN r)))).value :: Kzd6Neutral.ints _ = _
  rw [nats_cast]
  rfl
/-- last: what is due, by cases -/
def lastAns (q r f : List Nat) : List Int :=
  if okOrders q = false ∨ okFrames r = false ∨ okGiven q r f = false then [-22] else if hasF q f = true then castN (lastN q r f :: dn q r f) else [-33]
theorem given_len {q r f : List Nat} (h : okGiven q r f = true) : f.length = r.length ∧ ∀ j ∈ f, j < q.length := by
  unfold okGiven at h
  simpa using h
theorem last_ans (q r f : List Nat) : PyKzd6.last (castN q) (castN r) (castN f) = lastAns q r f := by
  rw [last_eq]
  unfold lastAns answer
  dsimp only
  by_cases c : okOrders q = false ∨ okFrames r = false ∨ okGiven q r f = false
  · rw [if_pos c, if_pos c]
    rfl
  · rw [if_neg c, if_neg c]
    have cr : okFrames r = true := by
      cases e : okFrames r with
      | true => rfl
      | false => exact absurd (.inr (.inl e)) c
    have cg : okGiven q r f = true := by
      cases e : okGiven q r f with
      | true => rfl
      | false => exact absurd (.inr (.inr e)) c
    have hr : ∀ x ∈ r, 1 ≤ x := fun x hx => ((frames_le cr).2 x hx).1
    rw [last_some hr (given_len cg).1]
    by_cases e : hasF q f = true
    · rw [if_pos e, if_pos e]
      dsimp only
      rw [allDays_has hr (given_len cg).1 e, List.map_map]
      show ((lastN q r f : Nat) : Int) :: castN ((dn q r f).map _) = castN (lastN q r f :: dn q r f)
      have e2 : (dn q r f).map ((fun x : Option Nat => x.getD 0) ∘ some) = dn q r f := by
        conv => rhs; rw [← List.map_id (dn q r f)]
        rfl
      rw [e2]
      rfl
    · rw [if_neg e, if_neg e]
      rfl

/-! ### ways -/
theorem ways_succ (m : Nat) : ∀ n : Nat, waysOn m (n + 1) = (waysOn m n).flatMap fun w => (List.range m).map fun j => w ++ [j]
  | 0 => by
    show (List.range m).flatMap (fun j => [[]].map (j :: ·)) = [[]].flatMap fun w => (List.range m).map fun j => w ++ [j]
    simp
    induction List.range m with
    | nil => rfl
    | cons x l ih => simpa using ih
  | n + 1 => by
    have ih := ways_succ m n
    show (List.range m).flatMap (fun j => (waysOn m (n + 1)).map (j :: ·)) = ((List.range m).flatMap (fun j => (waysOn m n).map (j :: ·))).flatMap fun w => (List.range m).map fun j => w ++ [j]
    rw [ih, List.flatMap_assoc]
    congr 1
    funext j
    rw [List.map_flatMap, List.flatMap_map]
    congr 1
    funext w
    rw [List.map_map]
    rfl
theorem ways_length (m : Nat) : ∀ n : Nat, (waysOn m n).length = m ^ n
  | 0 => rfl
  | n + 1 => by
    rw [ways_succ, List.length_flatMap]
    have e : (fun w : List Nat => ((List.range m).map fun j => w ++ [j]).length) = fun _ => m := by funext w; simp
    rw [e, Nat.pow_succ, ← ways_length m n]
    induction waysOn m n with
    | nil => simp
    | cons x l ih => rw [List.map_cons, List.sum_cons, ih, List.length_cons, Nat.succ_mul]; omega
theorem ways_mem (m : Nat) : ∀ (n : Nat) (w : List Nat), w ∈ waysOn m n → w.length = n
  | 0, w, h => by
    have e : w ∈ ([[]] : List (List Nat)) := h
    simp at e
    rw [e]
    rfl
  | n + 1, w, h => by
    have h' : w ∈ (List.range m).flatMap fun j => (waysOn m n).map (j :: ·) := h
    obtain ⟨j, _, h2⟩ := List.mem_flatMap.mp h'
    obtain ⟨v, h3, e⟩ := List.mem_map.mp h2
    rw [← e, List.length_cons, ways_mem m n v h3]
/-- of two ways the sooner one, the first of like ones -/
def sooN (q r : List Nat) (g f : List Nat) : List Nat := if lastN q r f < lastN q r g then f else g
def fullW (q r : List Nat) : List (List Nat) := (waysOn q.length r.length).filter (hasF q)
theorem best_some {q r : List Nat} (hr : ∀ x ∈ r, 1 ≤ x) : ∀ (ws : List (List Nat)) (g : List Nat), (∀ w ∈ ws, w.length = r.length) → g.length = r.length → hasF q g = true →
    ws.foldl (fun b f => match b with
      | none => if (last q r f).isSome then some f else none
      | some g => if sooner (last q r f) (last q r g) then some f else some g) (some g) = some ((ws.filter (hasF q)).foldl (sooN q r) g)
  | [], _, _, _, _ => rfl
  | w :: ws, g, hw, hg, hgf => by
    have hwl := hw w (List.mem_cons_self ..)
    have hw' : ∀ v ∈ ws, v.length = r.length := fun v hv => hw v (List.mem_cons_of_mem _ hv)
    rw [List.foldl_cons, List.filter_cons]
    dsimp only
    rw [last_some hr hg, if_pos hgf, last_some hr hwl]
    by_cases c : hasF q w = true
    · rw [if_pos c, if_pos c, List.foldl_cons]
      show List.foldl _ (if decide (lastN q r w < lastN q r g) = true then some w else some g) ws = _
      by_cases d : lastN q r w < lastN q r g
      · rw [if_pos (decide_eq_true d)]
        have e : sooN q r g w = w := if_pos d
        rw [e]
        exact best_some hr ws w hw' hwl c
      · rw [if_neg (by simpa using d)]
        have e : sooN q r g w = g := if_neg d
        rw [e]
        exact best_some hr ws g hw' hg hgf
    · rw [if_neg c, if_neg c]
      show List.foldl _ (if false = true then some w else some g) ws = _
      rw [if_neg Bool.false_ne_true]
      exact best_some hr ws g hw' hg hgf
theorem best_none {q r : List Nat} (hr : ∀ x ∈ r, 1 ≤ x) : ∀ (ws : List (List Nat)), (∀ w ∈ ws, w.length = r.length) →
    ws.foldl (fun b f => match b with
      | none => if (last q r f).isSome then some f else none
      | some g => if sooner (last q r f) (last q r g) then some f else some g) none = match ws.filter (hasF q) with
        | [] => none
        | w :: l => some (l.foldl (sooN q r) w)
  | [], _ => rfl
  | w :: ws, hw => by
    have hwl := hw w (List.mem_cons_self ..)
    have hw' : ∀ v ∈ ws, v.length = r.length := fun v hv => hw v (List.mem_cons_of_mem _ hv)
    rw [List.foldl_cons, List.filter_cons]
    dsimp only
    rw [last_some hr hwl]
    by_cases c : hasF q w = true
    · rw [if_pos c, if_pos c, if_pos (show (some (lastN q r w)).isSome = true from rfl), best_some hr ws w hw' hwl c]
    · rw [if_neg c, if_neg c, if_neg (by simp), best_none hr ws hw']
def bestW (q r : List Nat) : Option (List Nat) := match fullW q r with
  | [] => none
  | w :: l => some (l.foldl (sooN q r) w)
theorem best_is {q r : List Nat} (hr : ∀ x ∈ r, 1 ≤ x) : best q r = bestW q r := by
  unfold best bestW fullW
  exact best_none hr _ fun w hw => ways_mem _ _ w hw
theorem full_mem {q r w : List Nat} (h : w ∈ fullW q r) : w.length = r.length ∧ hasF q w = true := by
  unfold fullW at h
  obtain ⟨h1, h2⟩ := List.mem_filter.mp h
  exact ⟨ways_mem _ _ w h1, h2⟩
theorem soo_mem {q r : List Nat} : ∀ (l : List (List Nat)) (w : List Nat), l.foldl (sooN q r) w = w ∨ l.foldl (sooN q r) w ∈ l
  | [], _ => .inl rfl
  | v :: l, w => by
    rw [List.foldl_cons]
    rcases soo_mem l (sooN q r w v) with e | e
    · rw [e]
      unfold sooN
      by_cases c : lastN q r v < lastN q r w
      · rw [if_pos c]; exact .inr (List.mem_cons_self ..)
      · rw [if_neg c]; exact .inl rfl
    · exact .inr (List.mem_cons_of_mem _ e)
def bestAns (q r : List Nat) : List Int :=
  if okOrders q = false ∨ okFrames r = false then [-22] else match fullW q r with
    | [] => [-33]
    | w :: l => castN (lastN q r (l.foldl (sooN q r) w) :: l.foldl (sooN q r) w)
theorem best_ans (q r : List Nat) : PyKzd6.best (castN q) (castN r) = bestAns q r := by
  rw [best_eq]
  unfold bestAns answer
  dsimp only
  by_cases c : okOrders q = false ∨ okFrames r = false
  · rw [if_pos c, if_pos c]
    rfl
  · rw [if_neg c, if_neg c]
    have cr : okFrames r = true := by
      cases e : okFrames r with
      | true => rfl
      | false => exact absurd (.inr e) c
    have hr : ∀ x ∈ r, 1 ≤ x := fun x hx => ((frames_le cr).2 x hx).1
    rw [best_is hr]
    unfold bestW
    cases e : fullW q r with
    | nil => rfl
    | cons w l =>
      dsimp only
      have hm : l.foldl (sooN q r) w ∈ fullW q r := by
        rw [e]
        rcases soo_mem (q := q) (r := r) l w with z | z
        · rw [z]; exact List.mem_cons_self ..
        · exact List.mem_cons_of_mem _ z
      obtain ⟨h1, h2⟩ := full_mem hm
      rw [last_has hr h1 h2]
      rfl

/-! ### sets of frames -/
def mem (m n : Nat) : List Nat := (List.range n).filter (has m)
theorem mem_succ (m n : Nat) : mem m (n + 1) = if m / 2 ^ n % 2 = 1 then mem m n ++ [n] else mem m n := by
  unfold mem
  rw [List.range_succ, List.filter_append]
  by_cases h : m / 2 ^ n % 2 = 1
  · rw [if_pos h]
    have e : has m n = true := by unfold has; simpa using h
    simp only [List.filter_cons, List.filter_nil, e, if_true]
  · rw [if_neg h]
    have e : has m n = false := by unfold has; simpa using h
    simp only [List.filter_cons, List.filter_nil, e, Bool.false_eq_true, if_false, List.append_nil]
theorem mem_length (m n : Nat) : (mem m n).length ≤ n := by
  unfold mem
  exact Nat.le_trans (List.length_filter_le _ _) (by simp)
theorem mem_lt {m n k : Nat} (h : k ∈ mem m n) : k < n := by
  unfold mem at h
  exact List.mem_range.mp (List.mem_filter.mp h).1
theorem div_succ (m n : Nat) : m / 2 ^ n / 2 = m / 2 ^ (n + 1) := by rw [Nat.div_div_eq_div_mul, Nat.pow_succ]
/-- one turn -/
def fewStep (x d : Nat) (r : List Nat) (b : Option Nat) (m : Nat) : Option Nat := if rateOf r m * d < x then b else match b with
  | none => some m
  | some k => if size r m < size r k then some m else b
def fewN (x d : Nat) (r : List Nat) (n : Nat) : Option Nat := (List.range n).foldl (fewStep x d r) none
theorem few_succ (x d : Nat) (r : List Nat) (n : Nat) : fewN x d r (n + 1) = fewStep x d r (fewN x d r n) n := by
  unfold fewN
  rw [List.range_succ, List.foldl_append]
  rfl
theorem fewest_is (x d : Nat) (r : List Nat) : fewest x d r = fewN x d r (2 ^ r.length) := rfl
def fewAns (x d : Nat) (r : List Nat) : List Int :=
  if x < 1 ∨ 10000 < x ∨ 1000 < d ∨ okFrames r = false then [-22] else match fewN x d r (2 ^ r.length) with
    | none => [-33]
    | some m => castN [size r m, m]
theorem few_ans (x d : Nat) (r : List Nat) : PyKzd6.fewest (x : Int) (d : Int) (castN r) = fewAns x d r := by
  rw [fewest_eq]
  unfold fewAns answer
  dsimp only
  by_cases c : x < 1 ∨ 10000 < x ∨ 1000 < d ∨ okFrames r = false
  · rw [if_pos c, if_pos c]
    rfl
  · rw [if_neg c, if_neg c, fewest_is]
    cases fewN x d r (2 ^ r.length) with
    | none => rfl
    | some m => rfl
theorem rateOf_is (r : List Nat) (m : Nat) : rateOf r m = ((mem m r.length).map fun i => r.getD i 0).sum := by
  unfold rateOf mem
  rw [sum_is]
theorem size_is (r : List Nat) (m : Nat) : size r m = (mem m r.length).length := rfl
end Fg
/-! ### What all three calls share: the refusal, want, are_from, want_frames -/
namespace Fg
open PySem PySem.Spec PyProof.Rows L2
open PySem.W (Codec)
/-- whole numbers as values -/
def nv (l : List Nat) : List V := (castN l).map V.int
theorem cast_length (l : List Nat) : (castN l).length = l.length := by unfold castN; rw [List.length_map]
theorem nv_length (l : List Nat) : (nv l).length = l.length := by unfold nv; rw [List.length_map, cast_length]
theorem nv_get {l : List Nat} {i : Nat} {x : V} (h : (nv l)[i]? = some x) : ∃ n : Nat, l[i]? = some n ∧ x = V.int (n : Int) := by
  unfold nv castN at h
  rw [List.map_map, List.getElem?_map] at h
  cases e : l[i]? with
  | none => rw [e] at h; cases h
  | some n =>
    rw [e] at h
    exact ⟨n, rfl, (Option.some.inj h).symm⟩
theorem nv_at {l : List Nat} {i : Nat} (h : i < l.length) : (nv l)[i]? = some (V.int ((l.getD i 0 : Nat) : Int)) := by
  unfold nv castN
  rw [List.map_map, List.getElem?_map, List.getD_eq_getElem?_getD, List.getElem?_eq_getElem h]
  rfl
theorem nv_append (l m : List Nat) : nv (l ++ m) = nv l ++ nv m := by unfold nv castN; rw [List.map_append, List.map_append]
theorem nv_one (n : Nat) : nv [n] = [V.int (n : Int)] := rfl
theorem take_more {α : Type} {l : List α} {i : Nat} {x : α} (h : l[i]? = some x) : l.take (i + 1) = l.take i ++ [x] := by
  rw [List.take_add_one, h]
  rfl
theorem lt_of_get {α : Type} {l : List α} {i : Nat} {x : α} (h : l[i]? = some x) : i < l.length := (List.getElem?_eq_some_iff.mp h).1
theorem getD_of {l : List Nat} {i n : Nat} (h : l[i]? = some n) : l.getD i 0 = n := by
  rw [List.getD_eq_getElem?_getD, h]
  rfl
theorem same_upd {H H' : Hp} {p : Addr} {o : HO} (s : Same H H') (n : H p = none) : Same H (upd H' p o) := fun b u e => by
  rw [upd_ne (ne_of_none e n)]
  exact s b u e
theorem size_small {n : Nat} (h : n ≤ 1000000) : n < sizeLine := by rw [sizeLine_eq]; omega
theorem size_small' {n : Nat} (h : n ≤ 1000000) : n ≤ sizeLine := Nat.le_of_lt (size_small h)
/-- an if whose test is known -/
theorem if_true_of {c : Bool} {A B : Prop} (hc : c = true) (h : A) : if c = true then A else B := by
  rw [if_pos hc]
  exact h
theorem if_false_of {c : Bool} {A B : Prop} (hc : c = false) (h : B) : if c = true then A else B := by
  rw [hc, if_neg Bool.false_ne_true]
  exact h

/-! ### The text -/
def topS (i : Nat) : Stmt := PySem.Challenge.pw_framesgiven_s03_fewest.main.body.getD i (.Pass ⟨0, 0, 0, 0⟩)
abbrev sInit : Stmt := inClass (topS 7) 0
abbrev sWant : Stmt := topS 8
abbrev sAre : Stmt := topS 9
abbrev sWFrames : Stmt := topS 10
theorem scI : FnScope ["self", "refusal"] ["self", "refusal"] (defScope sInit) := ⟨rfl, rfl, rfl, by decide +kernel, rfl, by decide +kernel, by decide +kernel⟩
theorem scW : FnScope ["is_so", "refusal"] ["is_so", "refusal"] (defScope sWant) := ⟨rfl, rfl, rfl, by decide +kernel, rfl, by decide +kernel, by decide +kernel⟩
theorem scA : FnScope ["numbers", "least", "most", "number"] ["numbers", "least", "most"] (defScope sAre) := ⟨rfl, rfl, rfl, by decide +kernel, rfl, by decide +kernel, by decide +kernel⟩
theorem scWF : FnScope ["frames"] ["frames"] (defScope sWFrames) := ⟨rfl, rfl, rfl, by decide +kernel, rfl, by decide +kernel, by decide +kernel⟩

/-- a def of the top: where its name leads, that it stands there, how it binds -/
structure Dn (K : PySem.W.Frag) (mg : Str → Option Value) (x : Str) (st : Stmt) (f : Addr) (fd : FuncData) (ps : List Str) : Prop where
  g : mg x = some (.ref f)
  F : Fun K x x st f fd
  b : Binds K fd ps []
/-- what the top has written of the error's class and of names -/
structure Txt (K : PySem.W.Frag) (mg : Str → Option Value) (C fI : Addr) (fdI : FuncData) : Prop where
  oex : OexC K C
  xf : XfC K C
  nR : PySem.W.findIn K (.ref C) "refusal" = some none
  iC : PySem.W.findIn K (.ref C) "__init__" = some (some (.ref fI))
  tI : PySem.W.typeIn K (.ref fI) = some (.type "function")
  gC : mg "Refused" = some (.ref C)
  te : PySem.W.exmOne K (.ref C) (.ref C) = some true
  vV : PySem.W.findCls K (.type "ValueError") (.type "type") "__init__" = some (.val (.builtin "ValueError.__init__"))
  fI : Fun K "__init__" "Refused.__init__" sInit fI fdI
  bI : Binds K fdI ["self", "refusal"] []
  nVE : mg "ValueError" = none
  nAll : mg "all" = none
  nLen : mg "len" = none
  nRange : mg "range" = none
  nSum : mg "sum" = none
  nMax : mg "max" = none
  nEnum : mg "enumerate" = none
  nList : mg "list" = none
  gOut : ∃ t, mg "OUT_OF_RANGE" = some (.int (-22) t)
  gCan : ∃ t, mg "CANNOT_BE" = some (.int (-33) t)
  gMF : ∃ t, mg "MOST_FRAMES" = some (.int 6 t)
  gMD : ∃ t, mg "MOST_A_DAY" = some (.int 1000 t)
  gMK : ∃ t, mg "MOST_KILOGRAMS" = some (.int 10000 t)

/-! ### The promises -/
def spInit (C : Addr) : Sp := fun vs H Q _ => ∃ (a : Addr) (v : V), vs = [.ref a, v] ∧ H a = some (exo a C none) ∧
  ∀ dx, H dx = none → dx ≠ a → Q .non (upd (upd H dx (exd dx [(("refusal" : Str), v)])) a (exo a C (some dx)))
/-- the way out by a refusal: its own dict d bears the number, all else stands -/
def Refuses (C : Addr) (H : Hp) (v : Int) (E : XK) : Prop := ∀ (d : Addr) (H' : Hp), Same H H' → H' d = some (.xd [(("refusal" : Str), .int v)]) → E (.ref C) (some d) H'
theorem Refuses.on {C : Addr} {H H1 : Hp} {v : Int} {E : XK} (r : Refuses C H v E) (s : Same H H1) : Refuses C H1 v E := fun d H' s' e => r d H' (s.trans s') e
def spWant (C : Addr) : Sp := fun vs H Q E => ∃ (b : Bool) (v : Int), vs = [.bl b, .int v] ∧ (b = true → Q .non H) ∧ (b = false → Refuses C H v E)
def areB (ns : List Int) (lo hi : Int) : Bool := ns.all fun n => decide (lo ≤ n) && decide (n ≤ hi)
def spAre (K : PySem.W.Frag) : Sp := fun vs H Q _ => ∃ (a : Addr) (ns : List Int) (lo hi : Int), vs = [.ref a, .int lo, .int hi] ∧ SqL K H a (ns.map V.int) ∧ ns.length ≤ 1000 ∧
  ∀ H', Same H H' → Q (.bl (areB ns lo hi)) H'
def spWFrames (K : PySem.W.Frag) (C : Addr) : Sp := fun vs H Q E => ∃ (a : Addr) (r : List Nat), vs = [.ref a] ∧ SqL K H a (nv r) ∧ r.length ≤ 8 ∧
  (Kzd6.okFrames r = true → ∀ H', Same H H' → Q .non H') ∧ (Kzd6.okFrames r = false → Refuses C H (-22) E)

theorem are_cast (l : List Nat) (lo hi : Nat) : areB (castN l) (lo : Int) (hi : Int) = l.all fun x => decide (lo ≤ x) && decide (x ≤ hi) := by
  unfold areB castN
  induction l with
  | nil => rfl
  | cons x l ih =>
    rw [List.map_cons, List.all_cons, List.all_cons, ih]
    congr 1
    have e1 : decide ((lo : Int) ≤ (x : Int)) = decide (lo ≤ x) := by rw [decide_eq_decide]; omega
    have e2 : decide ((x : Int) ≤ (hi : Int)) = decide (x ≤ hi) := by rw [decide_eq_decide]; omega
    rw [e1, e2]
theorem frames_is (r : List Nat) : (decide (((r.length : Nat) : Int) ≤ 6) && areB (castN r) 1 1000) = Kzd6.okFrames r := by
  have e := are_cast r 1 1000
  have e2 : decide (((r.length : Nat) : Int) ≤ 6) = decide (r.length ≤ 6) := by rw [decide_eq_decide]; omega
  unfold Kzd6.okFrames
  rw [e2, ← e]
  rfl

section
variable {P : Program} {w : World} {K : PySem.W.Frag} {mg : Str → Option Value} {base : Heap} {C fI : Addr} {fdI : FuncData}
theorem ok_init (T : Txt K mg C fI fdI) : FnOk P w K mg base CX0 1 fI fdI ["self", "refusal"] (spInit C) := by
  refine T.fI.ok scI (fun vs H Q E h => ?_) (fun cdv A outer s H vs Q E hr h => ?_)
  · obtain ⟨a, v, rfl, _⟩ := h
    rfl
  · obtain ⟨a, v, rfl, ha, k⟩ := h
    refine ⟨_, pss_cons (ps_expr (pe_veinit rfl T.nVE T.vV (pa_cons (pv 0) (pa_cons pe_str pa_nil)))) (pss_one (ps_ost (pv 0) (pv 1))), ?_⟩
    refine ⟨_, rfl, a, C, [_], rfl, (by show 1 ≤ 1000; decide), T.oex, ha, ?_⟩
    exact ⟨_, rfl, _, rfl, a, C, rfl, T.oex, T.nR, .inl ⟨ha, fun dx hd ne => k dx hd ne⟩⟩
theorem ok_want (T : Txt K mg C fI fdI) {f : Addr} {fd : FuncData} (D : Dn K mg "want" sWant f fd ["is_so", "refusal"]) : FnOk P w K mg base (L2.CX P w) 3 f fd ["is_so", "refusal"] (spWant C) := by
  refine D.F.okX scW (fun vs H Q E h => ?_) (fun cdv A outer s H vs Q E hr h => ?_)
  · obtain ⟨b, v, rfl, _⟩ := h
    rfl
  · obtain ⟨b, v, rfl, kT, kF⟩ := h
    refine ⟨_, pss_one (ps_if (pt_not (pt_val (pv 0))) (pss_one (ps_raise rfl (takes_of rfl rfl rfl rfl) (pmk_oex T.oex T.iC T.tI (ok_init T) hr T.bI .nil pass0 rfl T.gC (pa_cons (pv 1) pa_nil)))) pss_nil), ?_⟩
    refine ⟨_, rfl, b, rfl, ?_⟩
    cases b with
    | true => exact if_false_of rfl (kT rfl)
    | false =>
      refine if_true_of rfl ?_
      refine ⟨_, rfl, (by show 1 ≤ 1000; decide), fun a na => ⟨a, _, rfl, upd_same, fun dx nd ne => ⟨rfl, dx, _, upd_same, (upd_ne ne).trans upd_same, ?_, ?_⟩⟩⟩
      · rw [upd_ne ne] at nd
        exact nd
      · rw [upd_ne ne] at nd
        refine kF rfl dx _ (fun b o e => ?_) upd_same
        have h1 := ne_of_none e nd
        have h2 := ne_of_none e na
        rw [upd_ne h1, del_ne h2, upd_ne h2, upd_ne h1, upd_ne h2]
        exact e
theorem ok_are (T : Txt K mg C fI fdI) {f : Addr} {fd : FuncData} (D : Dn K mg "are_from" sAre f fd ["numbers", "least", "most"]) : FnOk P w K mg base CX0 1 f fd ["numbers", "least", "most"] (spAre K) := by
  refine D.F.ok scA (fun vs H Q E h => ?_) (fun cdv A outer s H vs Q E hr h => ?_)
  · obtain ⟨a, ns, lo, hi, rfl, _⟩ := h
    rfl
  · obtain ⟨a, ns, lo, hi, rfl, hS, hlen, k⟩ := h
    refine ⟨_, pss_one (ps_ret (pe_callB (cr_all rfl) (by rfl) T.nAll (by decide +kernel) (pa_cons (pe_lc (own := [("number", 3)]) (g := gName 3) (tt := tYes) rfl scA.nd (pi_list (pv 0)) (blkOk_by (N := ["numbers", "least", "most", "number"]) (sc := defScope sAre) (by decide +kernel))
      (fun _ _ _ _ _ => pg_name (i := 3) scA.nd rfl (Or.inl rfl)) (fun _ _ _ _ _ => pts_nil) (fun _ _ _ _ _ => pe_chain op_le op_le (pv 1) (pv 3) (pv 2))) pa_nil))), ?_⟩
    refine ⟨_, rfl, a, rfl, ⟨_, hS⟩, fun D nD => lc_list (K := K) (a := a) (xs := ns.map V.int) (fun i H' => Same H H' ∧ H' D = some (.lst (((ns.take i).map fun n => decide (lo ≤ n) && decide (n ≤ hi)).map V.bl)))
      ⟨same_upd (Same.refl H) nD, upd_same⟩ (fun i H' _ q => q.1.seq hS) ?_ ?_⟩
    · rintro i x H' hx ⟨s1, hD⟩
      obtain ⟨n, hn, rfl⟩ : ∃ n, ns[i]? = some n ∧ x = V.int n := by
        rw [List.getElem?_map] at hx
        cases e : ns[i]? with
        | none => rw [e] at hx; cases hx
        | some n =>
          rw [e] at hx
          exact ⟨n, rfl, (Option.some.inj hx).symm⟩
      have hi' : i < ns.length := lt_of_get hn
      refine ⟨rfl, ?_⟩
      have fin : ∀ b : Bool, b = (decide (lo ≤ n) && decide (n ≤ hi)) → ∃ acc, H' D = some (.lst acc) ∧ acc.length < sizeLine ∧ Same H (upd H' D (.lst (acc ++ [V.bl b]))) ∧
          upd H' D (.lst (acc ++ [V.bl b])) D = some (.lst (((ns.take (i + 1)).map fun n => decide (lo ≤ n) && decide (n ≤ hi)).map V.bl)) := fun b hb => by
        refine ⟨_, hD, ?_, same_upd s1 nD, ?_⟩
        · rw [List.length_map, List.length_map, List.length_take]
          exact size_small (by omega)
        · rw [upd_same, take_more hn, List.map_append, List.map_append, hb]
          rfl
      refine ⟨_, rfl, _, rfl, _, _, rfl, rfl, _, rfl, ?_⟩
      by_cases c : lo ≤ n
      · refine if_true_of (decide_eq_true c) ⟨_, rfl, _, _, rfl, rfl, ?_⟩
        exact fin _ (by rw [decide_eq_true c, Bool.true_and])
      · refine if_false_of (decide_eq_false c) ?_
        exact fin _ (by rw [decide_eq_false c, Bool.false_and])
    · rintro H' ⟨s1, hD⟩
      rw [List.length_map, List.take_length] at hD
      refine ⟨D, _, rfl, SqL.of hD, ?_⟩
      have e : (ns.map fun n => decide (lo ≤ n) && decide (n ≤ hi)).all id = areB ns lo hi := by
        unfold areB
        rw [List.all_map]
        rfl
      rw [e]
      exact k H' s1
theorem ok_wframes (T : Txt K mg C fI fdI) {f fW fA : Addr} {fd fdW fdA : FuncData} (D : Dn K mg "want_frames" sWFrames f fd ["frames"]) (DW : Dn K mg "want" sWant fW fdW ["is_so", "refusal"]) (DA : Dn K mg "are_from" sAre fA fdA ["numbers", "least", "most"]) :
    FnOk P w K mg base (L2.CX P w) 4 f fd ["frames"] (spWFrames K C) := by
  obtain ⟨t1, g1⟩ := T.gOut
  obtain ⟨t2, g2⟩ := T.gMF
  obtain ⟨t3, g3⟩ := T.gMD
  refine D.F.okX scWF (fun vs H Q E h => ?_) (fun cdv A outer s H vs Q E hr h => ?_)
  · obtain ⟨a, r, rfl, _⟩ := h
    rfl
  · obtain ⟨a, r, rfl, hS, hlen, kT, kF⟩ := h
    refine ⟨_, pss_one (ps_expr (pe_call (E := E) (ok_want T DW) hr rfl DW.g DW.F.kp DW.b .nil (passes_call (takes_of rfl rfl rfl rfl) (fun _ _ _ _ h => h)) (pa_cons (pe_and (pe_cmpR op_le (pe_callB call_len_seq (by rfl) T.nLen PySem.boot_len (pa_cons (pv 0) pa_nil)) (pe_glob (v := .int 6) rfl g2 ⟨_, rfl⟩) (nomark _))
      (pe_one (pe_call (E := E0) (ok_are T DA) (hr.mono (by decide)) rfl DA.g DA.F.kp DA.b .nil pass0 (pa_cons (pv 0) (pa_cons pe_int (pa_cons (pe_glob (v := .int 1000) rfl g3 ⟨_, rfl⟩) pa_nil)))))) (pa_cons (pe_glob (v := .int (-22)) rfl g1 ⟨_, rfl⟩) pa_nil)))), ?_⟩
    refine ⟨_, rfl, a, _, rfl, .inl hS, _, _, rfl, rfl, _, rfl, ?_⟩
    have fin : ∀ (H1 : Hp) (b : Bool), Same H H1 → b = Kzd6.okFrames r → spWant C [.bl b, .int (-22)] H1 (fun _ H' => Q .non H') E := fun H1 b s1 hb =>
      ⟨b, -22, rfl, fun e => kT (by rw [← hb, e]) H1 s1, fun e => (kF (by rw [← hb, e])).on s1⟩
    have e := frames_is r
    rw [nv_length]
    by_cases c : ((r.length : Nat) : Int) ≤ 6
    · rw [decide_eq_true c, Bool.true_and] at e
      refine if_true_of (decide_eq_true c) ⟨_, rfl, a, castN r, 1, 1000, rfl, hS, by rw [cast_length]; omega, fun H1 s1 => ?_⟩
      exact fin H1 _ s1 e
    · rw [decide_eq_false c, Bool.false_and] at e
      exact if_false_of (decide_eq_false c) (fin H _ (Same.refl H) e)
end
end Fg
/-! ### A call's answer, or its refusal -/
namespace Fg
open PySem PySem.Spec PyProof.Rows L2
/-- ans comes out as a new list, or its one number as a refusal -/
def Told (C : Addr) (H : Hp) (ans : List Int) (Q : VK) (E : XK) : Prop := (∀ (H' : Hp) (p : Addr), H' p = some (.lst (ans.map V.int)) → Q (.ref p) H') ∧ ∀ v : Int, ans = [v] → Refuses C H v E
theorem Told.on {C : Addr} {H H1 : Hp} {ans : List Int} {Q : VK} {E : XK} (r : Told C H ans Q E) (s : Same H H1) : Told C H1 ans Q E := ⟨r.1, fun v e => (r.2 v e).on s⟩
/-- an error of the class at S is what «except S» names -/
theorem exm_self {K : PySem.W.Frag} {S : Addr} (h1 : PySem.W.subIn K (.ref S) (.type "BaseException") = some true) (h2 : PySem.W.isClsIn K S = true) (h3 : PySem.W.typeIn K (.ref S) = some (.type "type")) (h4 : PySem.W.subIn K (.ref S) (.ref S) = some true) :
    PySem.W.exmOne K (.ref S) (.ref S) = some true := by
  have e1 : (PySem.W.subIn K (.ref S) (.type "BaseException") == some true) = true := by rw [h1] <;> rfl
  have e2 : ((PySem.W.clsIn K S).isSome && PySem.W.typeIn K (.ref S) == some (.type "type")) = true := by
    have h2' : (PySem.W.clsIn K S).isSome = true := h2
    rw [h2', h3] <;> rfl
  show (if (PySem.W.subIn K (.ref S) (.type "BaseException") == some true) = true then (if ((PySem.W.clsIn K S).isSome && PySem.W.typeIn K (.ref S) == some (.type "type")) = true then PySem.W.subIn K (.ref S) (.ref S) else none) else none) = some true
  rw [if_pos e1, if_pos e2]
  exact h4
end Fg
/-! ### fewest: the sets of frames -/
namespace Fg
open PySem PySem.Spec PyProof.Rows L2
abbrev sMem : Stmt := topS 12
abbrev sMany : Stmt := topS 13
abbrev sEno : Stmt := topS 14
abbrev sFewOf : Stmt := topS 15
abbrev sFewTold : Stmt := topS 17
abbrev sFew : Stmt := topS 18
theorem scMem : FnScope ["bits", "many", "found", "k"] ["bits", "many"] (defScope sMem) := ⟨rfl, rfl, rfl, by decide +kernel, rfl, by decide +kernel, by decide +kernel⟩
theorem scMany : FnScope ["many", "found", "k"] ["many"] (defScope sMany) := ⟨rfl, rfl, rfl, by decide +kernel, rfl, by decide +kernel, by decide +kernel⟩
theorem scEno : FnScope ["kg", "days", "frames", "some", "k"] ["kg", "days", "frames", "some"] (defScope sEno) := ⟨rfl, rfl, rfl, by decide +kernel, rfl, by decide +kernel, by decide +kernel⟩
theorem scFewOf : FnScope ["kg", "days", "frames", "found", "bits", "some"] ["kg", "days", "frames"] (defScope sFewOf) := ⟨rfl, rfl, rfl, by decide +kernel, rfl, by decide +kernel, by decide +kernel⟩
theorem scFewTold : FnScope ["kg", "days", "frames", "found"] ["kg", "days", "frames"] (defScope sFewTold) := ⟨rfl, rfl, rfl, by decide +kernel, rfl, by decide +kernel, by decide +kernel⟩
theorem scFew : FnScope ["kg", "days", "frames", "e"] ["kg", "days", "frames"] (defScope sFew) := ⟨rfl, rfl, rfl, by decide +kernel, rfl, by decide +kernel, by decide +kernel⟩

def spMem : Sp := fun vs H Q _ => ∃ (m n : Nat), vs = [.int (m : Int), .int (n : Int)] ∧ n ≤ 1000 ∧
  ∀ (H' : Hp) (p : Addr), Same H H' → H' p = some (.lst (nv (mem m n))) → Q (.ref p) H'
def spMany : Sp := fun vs H Q _ => ∃ (n : Nat), vs = [.int (n : Int)] ∧ n ≤ 1000 ∧ Q (.int ((2 ^ n : Nat) : Int)) H
def enough (x d : Nat) (r s : List Nat) : Bool := decide (x ≤ d * (s.map fun i => r.getD i 0).sum)
def spEno (K : PySem.W.Frag) : Sp := fun vs H Q _ => ∃ (x d : Nat) (a b : Addr) (r s : List Nat), vs = [.int (x : Int), .int (d : Int), .ref a, .ref b] ∧ SqL K H a (nv r) ∧ SqL K H b (nv s) ∧ (∀ k ∈ s, k < r.length) ∧ s.length ≤ 1000 ∧ d ≤ 4294967295 ∧
  ∀ H', Same H H' → Q (.bl (enough x d r s)) H'
def FoundAt (H : Hp) (r : List Nat) : Option Nat → V → Prop
  | none, v => v = .non
  | some m, v => ∃ p, v = .ref p ∧ H p = some (.tup [.int ((Kzd6.size r m : Nat) : Int), .int (m : Int)])
theorem FoundAt.on {H H' : Hp} {r : List Nat} {o : Option Nat} {v : V} (h : FoundAt H r o v) (s : Same H H') : FoundAt H' r o v := by
  cases o with
  | none => exact h
  | some m =>
    obtain ⟨p, e, q⟩ := h
    exact ⟨p, e, s _ _ q⟩
def spFewOf (K : PySem.W.Frag) : Sp := fun vs H Q _ => ∃ (x d : Nat) (a : Addr) (r : List Nat), vs = [.int (x : Int), .int (d : Int), .ref a] ∧ SqL K H a (nv r) ∧ r.length ≤ 8 ∧ d ≤ 4294967295 ∧
  ∀ (H' : Hp) (v : V), Same H H' → FoundAt H' r (fewN x d r (2 ^ r.length)) v → Q v H'
def spFewTold (K : PySem.W.Frag) (C : Addr) : Sp := fun vs H Q E => ∃ (x d : Nat) (a : Addr) (r : List Nat), vs = [.int (x : Int), .int (d : Int), .ref a] ∧ SqL K H a (nv r) ∧ r.length ≤ 8 ∧ d ≤ 4294967295 ∧ Told C H (fewAns x d r) Q E
def spFew (K : PySem.W.Frag) : Sp := fun vs H Q _ => ∃ (x d : Nat) (a : Addr) (r : List Nat), vs = [.int (x : Int), .int (d : Int), .ref a] ∧ SqL K H a (nv r) ∧ r.length ≤ 8 ∧ d ≤ 4294967295 ∧
  ∀ (H' : Hp) (p : Addr), H' p = some (.lst ((fewAns x d r).map V.int)) → Q (.ref p) H'

section
variable {P : Program} {w : World} {K : PySem.W.Frag} {mg : Str → Option Value} {base : Heap} {C fI : Addr} {fdI : FuncData}
theorem ok_mem (T : Txt K mg C fI fdI) {f : Addr} {fd : FuncData} (D : Dn K mg "members" sMem f fd ["bits", "many"]) : FnOk P w K mg base CX0 1 f fd ["bits", "many"] spMem := by
  refine D.F.ok scMem (fun vs H Q E h => ?_) (fun cdv A outer s H vs Q E hr h => ?_)
  · obtain ⟨m, n, rfl, _⟩ := h
    rfl
  · obtain ⟨m, n, rfl, hn, k⟩ := h
    refine ⟨_, pss_cons (ps_set (i := 2) scMem.nd rfl (Or.inl rfl) (pe_lst pa_nil))
      (pss_cons (ps_for PassesOwn.never rfl (pi_range1 (by rfl) T.nRange (pa_cons (pv 1) pa_nil)) (pg_name (i := 3) scMem.nd rfl (Or.inl rfl))
        (pss_cons (ps_if (pt_cmpR op_eq (pe_op op_mod (pv 0) pe_int) pe_int (nomark _)) (pss_one (ps_expr (pe_bm PySem.F.plainAttrs_list PySem.F.slot_list_append PySem.F.type_list_append mt_append (pv 2) (pa_cons (pv 3) pa_nil)))) pss_nil)
        (pss_one (ps_set (i := 0) scMem.nd rfl (Or.inl rfl) (pe_op op_fdiv (pv 0) pe_int)))))
      (pss_one (ps_ret (pv 2)))), ?_⟩
    refine ⟨Nat.zero_le _, fun p np => ?_⟩
    refine ⟨_, rfl, (n : Int), rfl, by omega, by omega, for_range (lo := 0) (n := n) (fun i σ H' => ∃ v : Option V, σ = [some (.int ((m / 2 ^ i : Nat) : Int)), some (.int (n : Int)), some (.ref p), v] ∧ Same H H' ∧ H' p = some (.lst (nv (mem m i))))
      ⟨none, ?_, same_upd (Same.refl H) np, upd_same⟩ ?_ ?_⟩
    · rw [Nat.pow_zero, Nat.div_one]
      rfl
    · rintro i σ H' hi ⟨v, rfl, s1, hp⟩
      rw [Int.zero_add]
      refine ⟨_, rfl, _, _, rfl, rfl, (by show (0 : Int) < 2; decide), rfl, _, rfl, ?_⟩
      have e2 : ((m / 2 ^ i : Nat) : Int) / 2 = ((m / 2 ^ (i + 1) : Nat) : Int) := by
        rw [← div_succ]
        rfl
      by_cases c : m / 2 ^ i % 2 = 1
      · refine if_true_of (decide_eq_true (congrArg V.int (by omega))) ?_
        refine ⟨_, rfl, .inl ⟨rfl, _, SqL.of hp⟩, _, rfl, p, _, _, rfl, rfl, hp, ?_, ?_⟩
        · rw [nv_length]
          have := mem_length m i
          exact size_small (by omega)
        · refine ⟨_, rfl, _, _, rfl, rfl, ⟨by decide, by decide⟩, ?_⟩
          refine ⟨some (.int (i : Int)), ?_, same_upd s1 np, ?_⟩
          · rw [← e2]
            rfl
          · rw [upd_same, mem_succ, if_pos c, nv_append]
            rfl
      · refine if_false_of (decide_eq_false fun z => c (by have z' := V.int.inj z; omega)) ?_
        refine ⟨_, rfl, _, _, rfl, rfl, ⟨by decide, by decide⟩, ?_⟩
        refine ⟨some (.int (i : Int)), ?_, s1, ?_⟩
        · rw [← e2]
          rfl
        · rw [mem_succ, if_neg c]
          exact hp
    · rintro σ H' ⟨v, rfl, s1, hp⟩
      exact ⟨_, rfl, k H' p s1 hp⟩
theorem ok_many (T : Txt K mg C fI fdI) {f : Addr} {fd : FuncData} (D : Dn K mg "many_sets" sMany f fd ["many"]) : FnOk P w K mg base CX0 1 f fd ["many"] spMany := by
  refine D.F.ok scMany (fun vs H Q E h => ?_) (fun cdv A outer s H vs Q E hr h => ?_)
  · obtain ⟨n, rfl, _⟩ := h
    rfl
  · obtain ⟨n, rfl, hn, k⟩ := h
    refine ⟨_, pss_cons (ps_set (i := 1) scMany.nd rfl (Or.inl rfl) pe_int)
      (pss_cons (ps_for PassesOwn.never rfl (pi_range1 (by rfl) T.nRange (pa_cons (pv 0) pa_nil)) (pg_name (i := 2) scMany.nd rfl (Or.inl rfl))
        (pss_one (ps_set (i := 1) scMany.nd rfl (Or.inl rfl) (pe_op op_mul pe_int (pv 1)))))
      (pss_one (ps_ret (pv 1)))), ?_⟩
    refine ⟨_, rfl, (n : Int), rfl, by omega, by omega, for_range (lo := 0) (n := n) (fun i σ H' => ∃ v : Option V, σ = [some (.int (n : Int)), some (.int ((2 ^ i : Nat) : Int)), v] ∧ H' = H)
      ⟨none, rfl, rfl⟩ ?_ ?_⟩
    · rintro i σ H' hi ⟨v, rfl, rfl⟩
      refine ⟨_, rfl, _, _, rfl, rfl, .inl ⟨by decide, by decide⟩, ?_⟩
      refine ⟨some (.int (0 + (i : Int))), ?_, rfl⟩
      have e : (2 : Int) * ((2 ^ i : Nat) : Int) = ((2 ^ (i + 1) : Nat) : Int) := by
        rw [Nat.pow_succ]
        omega
      rw [← e]
      rfl
    · rintro σ H' ⟨v, rfl, rfl⟩
      exact ⟨_, rfl, k⟩
theorem ok_eno (T : Txt K mg C fI fdI) {f : Addr} {fd : FuncData} (D : Dn K mg "is_enough" sEno f fd ["kg", "days", "frames", "some"]) : FnOk P w K mg base CX0 1 f fd ["kg", "days", "frames", "some"] (spEno K) := by
  refine D.F.ok scEno (fun vs H Q E h => ?_) (fun cdv A outer s H vs Q E hr h => ?_)
  · obtain ⟨x, d, a, b, r, ss, rfl, _⟩ := h
    rfl
  · obtain ⟨x, d, a, b, r, ss, rfl, hA, hB, hlt, hlen, hd, k⟩ := h
    refine ⟨_, pss_one (ps_ret (pe_cmpR op_ge (pe_op op_mul (pv 1) (pe_callB (cr_sum rfl) (by rfl) T.nSum (by decide +kernel) (pa_cons (pe_lc (own := [("k", 4)]) (g := gName 4) (tt := tYes) (te := tOp (rIxL K) (tVar 2) (tVar 4)) rfl scEno.nd (pi_list (pv 3)) (blkOk_by (N := ["kg", "days", "frames", "some", "k"]) (sc := defScope sEno) (by decide +kernel))
      (fun _ _ _ _ _ => pg_name (i := 4) scEno.nd rfl (Or.inl rfl)) (fun _ _ _ _ _ => pts_nil) (fun _ _ _ _ _ => pe_ix (r := rIxL K) ix_list (pv 2) (pv 4) (fun _ _ => rfl))) pa_nil))) (pv 0) (nomark _))), ?_⟩
    refine ⟨_, rfl, _, rfl, b, rfl, ⟨_, hB⟩, fun D nD => lc_list (K := K) (a := b) (xs := nv ss) (fun i H' => Same H H' ∧ H' D = some (.lst (nv ((ss.take i).map fun k => r.getD k 0))))
      ⟨same_upd (Same.refl H) nD, upd_same⟩ (fun i H' _ q => q.1.seq hB) ?_ ?_⟩
    · rintro i x' H' hx ⟨s1, hD⟩
      obtain ⟨n, hn, rfl⟩ := nv_get hx
      have hi' : i < ss.length := lt_of_get hn
      have hn' : n < r.length := hlt n (List.mem_of_getElem? hn)
      refine ⟨rfl, ?_⟩
      refine ⟨_, rfl, _, rfl, a, _, _, _, rfl, rfl, s1.seq hA, atI_nat (nv_at hn'), _, hD, ?_, same_upd s1 nD, ?_⟩
      · rw [nv_length, List.length_map, List.length_take]
        exact size_small (by omega)
      · rw [upd_same, take_more hn, List.map_append, nv_append]
        rfl
    · rintro H' ⟨s1, hD⟩
      rw [nv_length, List.take_length] at hD
      refine ⟨D, castN (ss.map fun k => r.getD k 0), rfl, SqL.of hD, _, _, rfl, rfl, .inl ⟨by omega, by omega⟩, _, rfl, _, _, rfl, rfl, ?_⟩
      have e : decide ((x : Int) ≤ (d : Int) * (castN (ss.map fun k => r.getD k 0)).sum) = enough x d r ss := by
        unfold enough castN
        rw [sum_cast, decide_eq_decide, ← Int.natCast_mul]
        omega
      show Q (.bl (decide ((x : Int) ≤ (d : Int) * (castN (ss.map fun k => r.getD k 0)).sum))) H'
      rw [e]
      exact k H' s1
theorem few_step_no {x d : Nat} {r : List Nat} {b : Option Nat} {m : Nat} (h : enough x d r (mem m r.length) = false) : fewStep x d r b m = b := by
  unfold enough at h
  have h1 : ¬ x ≤ d * ((mem m r.length).map fun i => r.getD i 0).sum := of_decide_eq_false h
  unfold fewStep
  rw [rateOf_is, if_pos (by rw [Nat.mul_comm]; omega)]
theorem few_step_yes {x d : Nat} {r : List Nat} {b : Option Nat} {m : Nat} (h : enough x d r (mem m r.length) = true) : fewStep x d r b m = match b with
    | none => some m
    | some k => if Kzd6.size r m < Kzd6.size r k then some m else some k := by
  unfold enough at h
  have h1 : x ≤ d * ((mem m r.length).map fun i => r.getD i 0).sum := of_decide_eq_true h
  unfold fewStep
  rw [rateOf_is, if_neg (by rw [Nat.mul_comm]; omega)]
  cases b <;> rfl
theorem ok_fewOf (T : Txt K mg C fI fdI) {f f1 f2 f3 : Addr} {fd fd1 fd2 fd3 : FuncData} (D : Dn K mg "fewest_of" sFewOf f fd ["kg", "days", "frames"]) (D1 : Dn K mg "members" sMem f1 fd1 ["bits", "many"]) (D2 : Dn K mg "many_sets" sMany f2 fd2 ["many"])
    (D3 : Dn K mg "is_enough" sEno f3 fd3 ["kg", "days", "frames", "some"]) : FnOk P w K mg base CX0 2 f fd ["kg", "days", "frames"] (spFewOf K) := by
  refine D.F.ok scFewOf (fun vs H Q E h => ?_) (fun cdv A outer s H vs Q E hr h => ?_)
  · obtain ⟨x, d, a, r, rfl, _⟩ := h
    rfl
  · obtain ⟨x, d, a, r, rfl, hS, hlen, hd, k⟩ := h
    refine ⟨_, pss_cons (ps_set (i := 3) scFewOf.nd rfl (Or.inl rfl) pe_non)
      (pss_cons (ps_for PassesOwn.never rfl (pi_range1 (by rfl) T.nRange (pa_cons (pe_call (E := E0) (ok_many T D2) hr rfl D2.g D2.F.kp D2.b .nil pass0 (pa_cons (pe_callB call_len_seq (by rfl) T.nLen PySem.boot_len (pa_cons (pv 2) pa_nil)) pa_nil)) pa_nil)) (pg_name (i := 4) scFewOf.nd rfl (Or.inl rfl))
        (pss_cons (ps_set (i := 5) scFewOf.nd rfl (Or.inl rfl) (pe_call (E := E0) (ok_mem T D1) hr rfl D1.g D1.F.kp D1.b .nil pass0 (pa_cons (pv 4) (pa_cons (pe_callB call_len_seq (by rfl) T.nLen PySem.boot_len (pa_cons (pv 2) pa_nil)) pa_nil))))
        (pss_one (ps_if (pt_val (pe_call (E := E0) (ok_eno T D3) hr rfl D3.g D3.F.kp D3.b .nil pass0 (pa_cons (pv 0) (pa_cons (pv 1) (pa_cons (pv 2) (pa_cons (pv 5) pa_nil))))))
          (pss_one (ps_if (PW.pt (pw_or (pt_cmpR op_isN (pv 3) pe_non (nomark _)) (pw_or1 (pt_cmpR op_lt (pe_callB call_len_seq (by rfl) T.nLen PySem.boot_len (pa_cons (pv 5) pa_nil)) (pe_ix ix_tup (pv 3) pe_int (fun _ _ => rfl)) (nomark _)))))
            (pss_one (ps_set (i := 3) scFewOf.nd rfl (Or.inl rfl) (pe_tup (pa_cons (pe_callB call_len_seq (by rfl) T.nLen PySem.boot_len (pa_cons (pv 5) pa_nil)) (pa_cons (pv 4) pa_nil))))) pss_nil)) pss_nil))))
      (pss_one (ps_ret (pv 3)))), ?_⟩
    refine ⟨_, rfl, a, _, rfl, .inl hS, r.length, by rw [nv_length]; rfl, by omega, ((2 ^ r.length : Nat) : Int), rfl, ?_, ?_, for_range (lo := 0) (n := 2 ^ r.length)
      (fun i σ H' => ∃ (v : V) (v1 v2 : Option V), σ = [some (.int (x : Int)), some (.int (d : Int)), some (.ref a), some v, v1, v2] ∧ Same H H' ∧ FoundAt H' r (fewN x d r i) v)
      ⟨.non, none, none, rfl, Same.refl H, rfl⟩ ?_ ?_⟩
    · have h1 : 0 ≤ ((2 ^ r.length : Nat) : Int) := Int.natCast_nonneg _
      omega
    · have h1 : 2 ^ r.length ≤ 2 ^ 8 := Nat.pow_le_pow_right (by decide) hlen
      omega
    · rintro i σ H' hi ⟨v, v1, v2, rfl, s1, hf⟩
      rw [Int.zero_add]
      refine ⟨_, rfl, _, rfl, a, _, rfl, .inl (s1.seq hS), i, r.length, by rw [nv_length]; rfl, by omega, fun H2 p s2 hp => ?_⟩
      refine ⟨_, rfl, _, rfl, _, rfl, _, rfl, x, d, a, p, r, mem i r.length, rfl, s2.seq (s1.seq hS), SqL.of hp, fun k hk => mem_lt hk, by have := mem_length i r.length; omega, hd, fun H3 s3 => ⟨_, rfl, ?_⟩⟩
      have s13 : Same H H3 := (s1.trans s2).trans s3
      have hf3 : FoundAt H3 r (fewN x d r i) v := (hf.on s2).on s3
      have hp3 : H3 p = some (.lst (nv (mem i r.length))) := s3 _ _ hp
      by_cases c : enough x d r (mem i r.length) = true
      · refine if_true_of c ?_
        have step : fewN x d r (i + 1) = _ := (few_succ x d r i).trans (few_step_yes c)
        have yes : fewN x d r (i + 1) = some i → ∃ y xs, [V.ref p] = [V.ref y] ∧ (SqL K H3 y xs ∨ SqT K H3 y xs) ∧ ∃ u, (some (some (V.int (i : Int))) : Option (Option V)) = some (some u) ∧ [V.int ((xs.length : Nat) : Int), u].length ≤ sizeLine ∧
            ∀ t, H3 t = none → ∃ (v : V) (v1 v2 : Option V), [some (.int (x : Int)), some (.int (d : Int)), some (.ref a), some (V.ref t), some (V.int (i : Int)), some (V.ref p)] = [some (.int (x : Int)), some (.int (d : Int)), some (.ref a), some v, v1, v2] ∧
              Same H (upd H3 t (.tup [V.int ((xs.length : Nat) : Int), u])) ∧ FoundAt (upd H3 t (.tup [V.int ((xs.length : Nat) : Int), u])) r (fewN x d r (i + 1)) v := fun e => by
          refine ⟨p, _, rfl, .inl (SqL.of hp3), _, rfl, (by show 2 ≤ sizeLine; decide), fun t nt => ⟨_, _, _, rfl, fun b o q => ?_, ?_⟩⟩
          · rw [upd_ne (ne_of_none (s13 b o q) nt)]
            exact s13 b o q
          · rw [e]
            refine ⟨t, rfl, ?_⟩
            rw [upd_same, nv_length, size_is]
        cases e : fewN x d r i with
        | none =>
          rw [e] at hf3 step
          obtain rfl : v = V.non := hf3
          refine ⟨_, rfl, rfl, _, rfl, if_true_of rfl ?_⟩
          refine if_true_of rfl ⟨_, rfl, ?_⟩
          obtain ⟨y, xs, h1, h2, u, h3, h4, h5⟩ := yes step
          exact ⟨y, xs, h1, h2, u, h3, h4, h5⟩
        | some m =>
          rw [e] at hf3 step
          obtain ⟨q, rfl, hq⟩ := hf3
          refine ⟨_, rfl, rfl, _, rfl, if_false_of rfl ?_⟩
          refine ⟨_, rfl, p, _, rfl, .inl (SqL.of hp3), _, rfl, q, _, _, _, rfl, rfl, SqT.of hq, rfl, _, _, rfl, rfl, _, rfl, ?_⟩
          by_cases c2 : Kzd6.size r i < Kzd6.size r m
          · refine if_true_of (decide_eq_true (by rw [nv_length, ← size_is]; omega)) ⟨_, rfl, ?_⟩
            have step' : fewN x d r (i + 1) = some i := step.trans (if_pos c2)
            obtain ⟨y, xs, h1, h2, u, h3, h4, h5⟩ := yes step'
            exact ⟨y, xs, h1, h2, u, h3, h4, h5⟩
          · refine if_false_of (decide_eq_false (by rw [nv_length, ← size_is]; omega)) ?_
            have step' : fewN x d r (i + 1) = some m := step.trans (if_neg c2)
            refine ⟨_, _, _, rfl, s13, ?_⟩
            rw [step']
            exact ⟨q, rfl, hq⟩
      · have c' : enough x d r (mem i r.length) = false := by simpa using c
        refine if_false_of c' ⟨_, _, _, rfl, s13, ?_⟩
        rw [few_succ, few_step_no c']
        exact hf3
    · rintro σ H' ⟨v, v1, v2, rfl, s1, hf⟩
      exact ⟨_, rfl, k H' v s1 hf⟩
end
end Fg
/-! ### fewest: the call -/
namespace Fg
open PySem PySem.Spec PyProof.Rows L2
theorem few_range (x d : Nat) : ((decide ((1 : Int) ≤ (x : Int)) && decide ((x : Int) ≤ 10000)) && decide ((d : Int) ≤ 1000)) = true ↔ ¬ (x < 1 ∨ 10000 < x ∨ 1000 < d) := by
  simp only [Bool.and_eq_true, decide_eq_true_eq]
  omega
theorem few_bad {x d : Nat} {r : List Nat} (h : x < 1 ∨ 10000 < x ∨ 1000 < d ∨ Kzd6.okFrames r = false) : fewAns x d r = [-22] := by
  unfold fewAns
  rw [if_pos h]
theorem few_good {x d : Nat} {r : List Nat} (h : ¬ (x < 1 ∨ 10000 < x ∨ 1000 < d)) (hr : Kzd6.okFrames r = true) : fewAns x d r = match fewN x d r (2 ^ r.length) with
    | none => [-33]
    | some m => castN [Kzd6.size r m, m] := by
  have n : ¬ (x < 1 ∨ 10000 < x ∨ 1000 < d ∨ Kzd6.okFrames r = false) := fun z => by
    rcases z with z | z | z | z
    · exact h (.inl z)
    · exact h (.inr (.inl z))
    · exact h (.inr (.inr z))
    · rw [hr] at z
      cases z
  unfold fewAns
  refine (if_neg n).trans ?_
  cases fewN x d r (2 ^ r.length) <;> rfl
section
variable {P : Program} {w : World} {K : PySem.W.Frag} {mg : Str → Option Value} {base : Heap} {C fI : Addr} {fdI : FuncData}
theorem ok_fewTold (T : Txt K mg C fI fdI) (gMY : ∃ t, mg "MOST_DAYS" = some (.int 1000 t)) {f fW fF fO : Addr} {fd fdW fdF fdO : FuncData} (D : Dn K mg "fewest_told" sFewTold f fd ["kg", "days", "frames"])
    (DW : Dn K mg "want" sWant fW fdW ["is_so", "refusal"]) (DF : Dn K mg "want_frames" sWFrames fF fdF ["frames"]) (DO : Dn K mg "fewest_of" sFewOf fO fdO ["kg", "days", "frames"])
    (GF : FnOk P w K mg base (L2.CX P w) 4 fF fdF ["frames"] (spWFrames K C)) (GO : FnOk P w K mg base CX0 2 fO fdO ["kg", "days", "frames"] (spFewOf K)) :
    FnOk P w K mg base (L2.CX P w) 5 f fd ["kg", "days", "frames"] (spFewTold K C) := by
  obtain ⟨t1, g1⟩ := T.gOut
  obtain ⟨t2, g2⟩ := T.gCan
  obtain ⟨t3, g3⟩ := T.gMK
  obtain ⟨t4, g4⟩ := gMY
  refine D.F.okX scFewTold (fun vs H Q E h => ?_) (fun cdv A outer s H vs Q E hr h => ?_)
  · obtain ⟨x, d, a, r, rfl, _⟩ := h
    rfl
  · obtain ⟨x, d, a, r, rfl, hS, hlen, hd, told⟩ := h
    have hr3 : Room 3 _ := hr.mono (by decide)
    have hr2 : Room 2 _ := hr.mono (by decide)
    refine ⟨_, pss_cons (ps_expr (pe_call (E := E) GF hr rfl DF.g DF.F.kp DF.b .nil (passes_call (takes_of rfl rfl rfl rfl) (fun _ _ _ _ h => h)) (pa_cons (pv 2) pa_nil)))
      (pss_cons (ps_expr (pe_call (E := E) (ok_want T DW) hr3 rfl DW.g DW.F.kp DW.b .nil (passes_call (takes_of rfl rfl rfl rfl) (fun _ _ _ _ h => h)) (pa_cons (pe_and (pe_chain op_le op_le pe_int (pv 0) (pe_glob (v := .int 10000) rfl g3 ⟨_, rfl⟩)) (pe_one (pe_cmpR op_le (pv 1) (pe_glob (v := .int 1000) rfl g4 ⟨_, rfl⟩) (nomark _)))) (pa_cons (pe_glob (v := .int (-22)) rfl g1 ⟨_, rfl⟩) pa_nil))))
      (pss_cons (ps_set (i := 3) scFewTold.nd rfl (Or.inl rfl) (pe_call (E := E0) GO hr2 rfl DO.g DO.F.kp DO.b .nil pass0 (pa_cons (pv 0) (pa_cons (pv 1) (pa_cons (pv 2) pa_nil)))))
      (pss_cons (ps_expr (pe_call (E := E) (ok_want T DW) hr3 rfl DW.g DW.F.kp DW.b .nil (passes_call (takes_of rfl rfl rfl rfl) (fun _ _ _ _ h => h)) (pa_cons (pe_cmpR op_notN (pv 3) pe_non (nomark _)) (pa_cons (pe_glob (v := .int (-33)) rfl g2 ⟨_, rfl⟩) pa_nil))))
      (pss_one (ps_ret (pe_callTy call_list_of (by rfl) T.nList (by decide +kernel) (pa_cons (pv 3) pa_nil))))))), ?_⟩
    refine ⟨_, rfl, a, r, rfl, hS, hlen, fun hok H1 s1 => ?_, fun hok => told.2 _ (few_bad (.inr (.inr (.inr hok))))⟩
    -- want(1 <= kg <= 10000 and days <= 1000)
    have finT : ∀ b : Bool, b = ((decide ((1 : Int) ≤ (x : Int)) && decide ((x : Int) ≤ 10000)) && decide ((d : Int) ≤ 1000)) → b = true → ¬ (x < 1 ∨ 10000 < x ∨ 1000 < d) := fun b hb e => (few_range x d).mp (by rw [← hb, e])
    have finF : ∀ b : Bool, b = ((decide ((1 : Int) ≤ (x : Int)) && decide ((x : Int) ≤ 10000)) && decide ((d : Int) ≤ 1000)) → b = false → Refuses C H1 (-22) E := fun b hb e => by
      refine (told.2 _ (few_bad ?_)).on s1
      have z : ¬ ¬ (x < 1 ∨ 10000 < x ∨ 1000 < d) := fun n => by
        have := (few_range x d).mpr n
        rw [← hb, e] at this
        cases this
      rcases Classical.not_not.mp z with z | z | z
      · exact .inl z
      · exact .inr (.inl z)
      · exact .inr (.inr (.inl z))
    have go : ¬ (x < 1 ∨ 10000 < x ∨ 1000 < d) → tSeq (tAsg (tCall (spFewOf K) [] E0 (tCons (tVar 0) (tCons (tVar 1) (tCons (tVar 2) tNil)))) (gName 3))
        (tSeq (tDrop (tCall (spWant C) [] E (tCons (tOp (fun x y H Q => y = .non ∧ Q (.bl (!decide (x = .non))) H) (tVar 3) (tC .non)) (tCons (tC (.int (-33))) tNil))))
          (tRet (tCB (fun xs H Q => ∃ p ys, xs = [.ref p] ∧ (SqL K H p ys ∨ SqT K H p ys) ∧ ∀ l, H l = none → Q (.ref l) (upd H l (.lst ys))) (tCons (tVar 3) tNil))))
        { nx := fun _ H' => Q .non H', rt := Q } [some (.int (x : Int)), some (.int (d : Int)), some (.ref a), none] H1 := fun hg => by
      have good := few_good hg hok
      refine ⟨_, rfl, _, rfl, _, rfl, x, d, a, r, rfl, s1.seq hS, hlen, hd, fun H2 v s2 hf => ?_⟩
      refine ⟨_, rfl, rfl, ?_⟩
      cases e : fewN x d r (2 ^ r.length) with
      | none =>
        rw [e] at hf good
        obtain rfl : v = V.non := hf
        exact ⟨_, -33, rfl, fun z => Bool.noConfusion z, fun _ => (told.2 _ good).on (s1.trans s2)⟩
      | some m =>
        rw [e] at hf good
        obtain ⟨p, rfl, hp⟩ := hf
        refine ⟨_, -33, rfl, fun _ => ?_, fun z => Bool.noConfusion z⟩
        refine ⟨_, rfl, p, _, rfl, .inr (SqT.of hp), fun l nl => told.1 _ l ?_⟩
        rw [upd_same, good]
        rfl
    refine ⟨_, rfl, _, _, rfl, rfl, _, rfl, ?_⟩
    by_cases c : (1 : Int) ≤ (x : Int)
    · refine if_true_of (decide_eq_true c) ⟨_, _, rfl, rfl, _, rfl, ?_⟩
      by_cases c2 : (x : Int) ≤ 10000
      · refine if_true_of (decide_eq_true c2) ⟨_, rfl, _, _, rfl, rfl, ?_⟩
        exact ⟨_, -22, rfl, fun e => go (finT _ (by rw [decide_eq_true c, decide_eq_true c2, Bool.true_and, Bool.true_and]) e), fun e => finF _ (by rw [decide_eq_true c, decide_eq_true c2, Bool.true_and, Bool.true_and]) e⟩
      · refine if_false_of (decide_eq_false c2) ?_
        exact ⟨_, -22, rfl, fun e => go (finT _ (by rw [decide_eq_false c2, Bool.and_false, Bool.false_and]) e), fun e => finF _ (by rw [decide_eq_false c2, Bool.and_false, Bool.false_and]) e⟩
    · refine if_false_of (decide_eq_false c) ⟨_, rfl, if_false_of rfl ?_⟩
      exact ⟨_, -22, rfl, fun e => go (finT _ (by rw [decide_eq_false c, Bool.false_and, Bool.false_and]) e), fun e => finF _ (by rw [decide_eq_false c, Bool.false_and, Bool.false_and]) e⟩
theorem ok_few (T : Txt K mg C fI fdI) {f fO : Addr} {fd fdO : FuncData} (D : Dn K mg "fewest" sFew f fd ["kg", "days", "frames"]) (DO : Dn K mg "fewest_told" sFewTold fO fdO ["kg", "days", "frames"])
    (GO : FnOk P w K mg base (L2.CX P w) 5 fO fdO ["kg", "days", "frames"] (spFewTold K C)) : FnOk P w K mg base CX0 6 f fd ["kg", "days", "frames"] (spFew K) := by
  refine D.F.ok scFew (fun vs H Q E h => ?_) (fun cdv A outer s H vs Q E hr h => ?_)
  · obtain ⟨x, d, a, r, rfl, _⟩ := h
    rfl
  · obtain ⟨x, d, a, r, rfl, hS, hlen, hd, k⟩ := h
    refine ⟨_, pss_one (ps_try_as (i := 3) (tb := fun W => tRet (tCallS (spFewTold K C) (WE W) (tCons (tVar 0) (tCons (tVar 1) (tCons (tVar 2) tNil))))) (ts := fun a cls d => tRet (tLst (tCons (tXf a cls d C "refusal" (tVar 3)) tNil))) (Wout := fun _ _ _ _ => False) rfl rfl scFew.nd rfl rfl ⟨rfl, by decide, Or.inl T.gC⟩ takes0
        (fun W pn xe tk _ => pss_one (ps_ret (by exact (pe_callS GO hr rfl DO.g DO.F.kp DO.b (fun σ => passAt tk σ) (by exact (pa_cons (pv 0) (pa_cons (pv 1) (pa_cons (pv 2) pa_nil))))))))
        (fun a oe cls d pn hz hf => pss_one (ps_ret (by exact (pe_lst (pa_cons (pe_xf T.xf T.nR hz hf (pv 3)) pa_nil)))))), ?_⟩
    refine ⟨_, rfl, _, rfl, _, rfl, x, d, a, r, rfl, hS, hlen, hd, k, fun v hv dd H1 s1 h1 => ?_⟩
    refine ⟨true, T.te, fun _ a0 _ => ?_, fun q => Bool.noConfusion q⟩
    refine ⟨_, rfl, rfl, rfl, dd, _, _, rfl, h1, rfl, (by show 1 ≤ sizeLine; decide), fun p np => k _ p ?_⟩
    rw [upd_same, hv]
    rfl
end
end Fg
/-! ### The end -/
namespace Fg
open PySem PySem.Spec PyProof.Rows L2
open PySem.W (Codec)
theorem all_mk {P : Program} {w : World} {K : PySem.W.Frag} {h : Heap} {mg : Str → Option Value} {fa C f0 : Addr} (X : K.In h) (G : h.Ns mainGlobals mg) (hfa : mg "fewest" = some (.ref fa))
    {nm qn : Str} {N : Addr} {bs : List Value} {sn : List Str} {sub : List Value} {ab : Bool} {col : Option Bool} {dd : Option Addr} {m0 m1 m2 m3 m5 : Option Value}
    {od0 an0 : Option Addr} {sl0 : Array (Option Value)} {oc0 kV0 dc0 pm0 cd0 ct0 : Value}
    {f1 : Addr} {od1 an1 : Option Addr} {sl1 : Array (Option Value)} {oc1 kV1 dc1 pm1 cd1 ct1 : Value}
    {f2 : Addr} {od2 an2 : Option Addr} {sl2 : Array (Option Value)} {oc2 kV2 dc2 pm2 cd2 ct2 : Value}
    {f3 : Addr} {od3 an3 : Option Addr} {sl3 : Array (Option Value)} {oc3 kV3 dc3 pm3 cd3 ct3 : Value}
    {f4 : Addr} {od4 an4 : Option Addr} {sl4 : Array (Option Value)} {oc4 kV4 dc4 pm4 cd4 ct4 : Value}
    {f5 : Addr} {od5 an5 : Option Addr} {sl5 : Array (Option Value)} {oc5 kV5 dc5 pm5 cd5 ct5 : Value}
    {f6 : Addr} {od6 an6 : Option Addr} {sl6 : Array (Option Value)} {oc6 kV6 dc6 pm6 cd6 ct6 : Value}
    {f7 : Addr} {od7 an7 : Option Addr} {sl7 : Array (Option Value)} {oc7 kV7 dc7 pm7 cd7 ct7 : Value}
    {f8 : Addr} {od8 an8 : Option Addr} {sl8 : Array (Option Value)} {oc8 kV8 dc8 pm8 cd8 ct8 : Value}
    {f9 : Addr} {od9 an9 : Option Addr} {sl9 : Array (Option Value)} {oc9 kV9 dc9 pm9 cd9 ct9 : Value}
    {tOUT_OF_RANGE tCANNOT_BE tMOST_FRAMES tMOST_A_DAY tMOST_KILOGRAMS tMOST_DAYS : Tok}
    (aC : PySem.W.nsIn K mainGlobals "Refused" = some (some (.ref C)))
    (xL : K.lookup C = some (excClassObj nm qn C N bs [.type "ValueError", .type "Exception", .type "BaseException", .type "object"] true sn sub ab col dd m0 m1 m2 m3 m5 "ValueError.__new__"))
    (sa : PySem.W.findIn K (.ref C) "__setattr__" = some (some (.builtin "object.__setattr__"))) (ga : PySem.W.findIn K (.ref C) "__getattribute__" = some (some (.builtin "BaseException.__getattribute__"))) (gg : PySem.W.findIn K (.ref C) "__getattr__" = some none) (nb : PySem.W.findIn K (.ref C) "refusal" = some none)
    (a0 : PySem.W.findIn K (.ref C) "__init__" = some (some (.ref f0))) (t0 : PySem.W.typeIn K (.ref f0) = some (.type "function"))
    (l0 : K.lookup f0 = some ⟨oc0, od0, .func (PySem.W.fnOf "__init__" "Refused.__init__" (defArgs sInit) (defBody sInit) (defScope sInit) .none kV0 dc0 pm0 an0 cd0 ct0), sl0⟩) (c0 : PySem.W.codeIn K cd0 "Refused.__init__" = true) (k0 : PySem.W.keepIn K (.ref f0) = true)
    (kC : PySem.W.keepIn K (.ref C) = true) (eC : PySem.W.subIn K (.ref C) (.type "BaseException") = some true) (tC : PySem.W.typeIn K (.ref C) = some (.type "type")) (hC : PySem.W.hasDictIn K C = true) (iC : PySem.W.isClsIn K C = true) (sC : PySem.W.subIn K (.ref C) (.ref C) = some true)
    (vV : PySem.W.findCls K (.type "ValueError") (.type "type") "__init__" = some (.val (.builtin "ValueError.__init__")))
    (a1 : PySem.W.nsIn K mainGlobals "want" = some (some (.ref f1))) (l1 : K.lookup f1 = some ⟨oc1, od1, .func (PySem.W.fnOf "want" "want" (defArgs sWant) (defBody sWant) (defScope sWant) .none kV1 dc1 pm1 an1 cd1 ct1), sl1⟩) (c1 : PySem.W.codeIn K cd1 "want" = true) (k1 : PySem.W.keepIn K (.ref f1) = true)
    (a2 : PySem.W.nsIn K mainGlobals "are_from" = some (some (.ref f2))) (l2 : K.lookup f2 = some ⟨oc2, od2, .func (PySem.W.fnOf "are_from" "are_from" (defArgs sAre) (defBody sAre) (defScope sAre) .none kV2 dc2 pm2 an2 cd2 ct2), sl2⟩) (c2 : PySem.W.codeIn K cd2 "are_from" = true) (k2 : PySem.W.keepIn K (.ref f2) = true)
    (a3 : PySem.W.nsIn K mainGlobals "want_frames" = some (some (.ref f3))) (l3 : K.lookup f3 = some ⟨oc3, od3, .func (PySem.W.fnOf "want_frames" "want_frames" (defArgs sWFrames) (defBody sWFrames) (defScope sWFrames) .none kV3 dc3 pm3 an3 cd3 ct3), sl3⟩) (c3 : PySem.W.codeIn K cd3 "want_frames" = true) (k3 : PySem.W.keepIn K (.ref f3) = true)
    (a4 : PySem.W.nsIn K mainGlobals "members" = some (some (.ref f4))) (l4 : K.lookup f4 = some ⟨oc4, od4, .func (PySem.W.fnOf "members" "members" (defArgs sMem) (defBody sMem) (defScope sMem) .none kV4 dc4 pm4 an4 cd4 ct4), sl4⟩) (c4 : PySem.W.codeIn K cd4 "members" = true) (k4 : PySem.W.keepIn K (.ref f4) = true)
    (a5 : PySem.W.nsIn K mainGlobals "many_sets" = some (some (.ref f5))) (l5 : K.lookup f5 = some ⟨oc5, od5, .func (PySem.W.fnOf "many_sets" "many_sets" (defArgs sMany) (defBody sMany) (defScope sMany) .none kV5 dc5 pm5 an5 cd5 ct5), sl5⟩) (c5 : PySem.W.codeIn K cd5 "many_sets" = true) (k5 : PySem.W.keepIn K (.ref f5) = true)
    (a6 : PySem.W.nsIn K mainGlobals "is_enough" = some (some (.ref f6))) (l6 : K.lookup f6 = some ⟨oc6, od6, .func (PySem.W.fnOf "is_enough" "is_enough" (defArgs sEno) (defBody sEno) (defScope sEno) .none kV6 dc6 pm6 an6 cd6 ct6), sl6⟩) (c6 : PySem.W.codeIn K cd6 "is_enough" = true) (k6 : PySem.W.keepIn K (.ref f6) = true)
    (a7 : PySem.W.nsIn K mainGlobals "fewest_of" = some (some (.ref f7))) (l7 : K.lookup f7 = some ⟨oc7, od7, .func (PySem.W.fnOf "fewest_of" "fewest_of" (defArgs sFewOf) (defBody sFewOf) (defScope sFewOf) .none kV7 dc7 pm7 an7 cd7 ct7), sl7⟩) (c7 : PySem.W.codeIn K cd7 "fewest_of" = true) (k7 : PySem.W.keepIn K (.ref f7) = true)
    (a8 : PySem.W.nsIn K mainGlobals "fewest_told" = some (some (.ref f8))) (l8 : K.lookup f8 = some ⟨oc8, od8, .func (PySem.W.fnOf "fewest_told" "fewest_told" (defArgs sFewTold) (defBody sFewTold) (defScope sFewTold) .none kV8 dc8 pm8 an8 cd8 ct8), sl8⟩) (c8 : PySem.W.codeIn K cd8 "fewest_told" = true) (k8 : PySem.W.keepIn K (.ref f8) = true)
    (a9 : PySem.W.nsIn K mainGlobals "fewest" = some (some (.ref f9))) (l9 : K.lookup f9 = some ⟨oc9, od9, .func (PySem.W.fnOf "fewest" "fewest" (defArgs sFew) (defBody sFew) (defScope sFew) .none kV9 dc9 pm9 an9 cd9 ct9), sl9⟩) (c9 : PySem.W.codeIn K cd9 "fewest" = true) (k9 : PySem.W.keepIn K (.ref f9) = true)
    (zValueError : PySem.W.nsIn K mainGlobals "ValueError" = some none)
    (zall : PySem.W.nsIn K mainGlobals "all" = some none)
    (zlen : PySem.W.nsIn K mainGlobals "len" = some none)
    (zrange : PySem.W.nsIn K mainGlobals "range" = some none)
    (zsum : PySem.W.nsIn K mainGlobals "sum" = some none)
    (zmax : PySem.W.nsIn K mainGlobals "max" = some none)
    (zenumerate : PySem.W.nsIn K mainGlobals "enumerate" = some none)
    (zlist : PySem.W.nsIn K mainGlobals "list" = some none)
    (gOUT_OF_RANGE : PySem.W.nsIn K mainGlobals "OUT_OF_RANGE" = some (some (.int (-22) tOUT_OF_RANGE)))
    (gCANNOT_BE : PySem.W.nsIn K mainGlobals "CANNOT_BE" = some (some (.int (-33) tCANNOT_BE)))
    (gMOST_FRAMES : PySem.W.nsIn K mainGlobals "MOST_FRAMES" = some (some (.int 6 tMOST_FRAMES)))
    (gMOST_A_DAY : PySem.W.nsIn K mainGlobals "MOST_A_DAY" = some (some (.int 1000 tMOST_A_DAY)))
    (gMOST_KILOGRAMS : PySem.W.nsIn K mainGlobals "MOST_KILOGRAMS" = some (some (.int 10000 tMOST_KILOGRAMS)))
    (gMOST_DAYS : PySem.W.nsIn K mainGlobals "MOST_DAYS" = some (some (.int 1000 tMOST_DAYS)))
    : ∃ fd : FuncData, (∀ (s : Shared) (us : List Value), us.length = (["kg", "days", "frames"] : List Str).length → BindsTo s fd ⟨us, []⟩ ((["kg", "days", "frames"] : List Str).zip us)) ∧ ∀ base : Heap, K.In base → base.Ns mainGlobals mg → FnOk P w K mg base CX0 6 fa fd ["kg", "days", "frames"] (spFew K) := by
  have e := hfa.symm.trans (PySem.W.mg_of X G a9)
  cases e
  have F0 := fun_mk (st := sInit) l0 c0 k0
  have b0 := F0.binds (ps := ["self", "refusal"]) fun _ _ _ _ _ _ us hl => match us, hl with | [_, _], _ => rfl
  have T : Txt K mg C f0 _ :=
    { oex := { cls := ⟨nm, qn, N, bs, _, sn, sub, ab, col, dd, m0, m1, m2, m3, m5, xL, by decide +kernel⟩, sa := sa, exC := eC, tyC := tC, kC := kC }, xf := { ga := ga, gg := gg, exC := eC, hdC := hC }, nR := nb, iC := a0, tI := t0, gC := PySem.W.mg_of X G aC, te := exm_self eC iC tC sC, vV := vV, fI := F0, bI := b0,
      nVE := PySem.W.mg_none_of X G zValueError, nAll := PySem.W.mg_none_of X G zall, nLen := PySem.W.mg_none_of X G zlen, nRange := PySem.W.mg_none_of X G zrange, nSum := PySem.W.mg_none_of X G zsum, nMax := PySem.W.mg_none_of X G zmax, nEnum := PySem.W.mg_none_of X G zenumerate, nList := PySem.W.mg_none_of X G zlist,
      gOut := ⟨_, PySem.W.mg_of X G gOUT_OF_RANGE⟩, gCan := ⟨_, PySem.W.mg_of X G gCANNOT_BE⟩, gMF := ⟨_, PySem.W.mg_of X G gMOST_FRAMES⟩, gMD := ⟨_, PySem.W.mg_of X G gMOST_A_DAY⟩, gMK := ⟨_, PySem.W.mg_of X G gMOST_KILOGRAMS⟩ }
  have F1 := fun_mk (st := sWant) l1 c1 k1
  have D_want : Dn K mg "want" sWant f1 _ ["is_so", "refusal"] := ⟨PySem.W.mg_of X G a1, F1, F1.binds (ps := ["is_so", "refusal"]) fun _ _ _ _ _ _ us hl => match us, hl with | [_, _], _ => rfl⟩
  have F2 := fun_mk (st := sAre) l2 c2 k2
  have D_are_from : Dn K mg "are_from" sAre f2 _ ["numbers", "least", "most"] := ⟨PySem.W.mg_of X G a2, F2, F2.binds (ps := ["numbers", "least", "most"]) fun _ _ _ _ _ _ us hl => match us, hl with | [_, _, _], _ => rfl⟩
  have F3 := fun_mk (st := sWFrames) l3 c3 k3
  have D_want_frames : Dn K mg "want_frames" sWFrames f3 _ ["frames"] := ⟨PySem.W.mg_of X G a3, F3, F3.binds (ps := ["frames"]) fun _ _ _ _ _ _ us hl => match us, hl with | [_], _ => rfl⟩
  have F4 := fun_mk (st := sMem) l4 c4 k4
  have D_members : Dn K mg "members" sMem f4 _ ["bits", "many"] := ⟨PySem.W.mg_of X G a4, F4, F4.binds (ps := ["bits", "many"]) fun _ _ _ _ _ _ us hl => match us, hl with | [_, _], _ => rfl⟩
  have F5 := fun_mk (st := sMany) l5 c5 k5
  have D_many_sets : Dn K mg "many_sets" sMany f5 _ ["many"] := ⟨PySem.W.mg_of X G a5, F5, F5.binds (ps := ["many"]) fun _ _ _ _ _ _ us hl => match us, hl with | [_], _ => rfl⟩
  have F6 := fun_mk (st := sEno) l6 c6 k6
  have D_is_enough : Dn K mg "is_enough" sEno f6 _ ["kg", "days", "frames", "some"] := ⟨PySem.W.mg_of X G a6, F6, F6.binds (ps := ["kg", "days", "frames", "some"]) fun _ _ _ _ _ _ us hl => match us, hl with | [_, _, _, _], _ => rfl⟩
  have F7 := fun_mk (st := sFewOf) l7 c7 k7
  have D_fewest_of : Dn K mg "fewest_of" sFewOf f7 _ ["kg", "days", "frames"] := ⟨PySem.W.mg_of X G a7, F7, F7.binds (ps := ["kg", "days", "frames"]) fun _ _ _ _ _ _ us hl => match us, hl with | [_, _, _], _ => rfl⟩
  have F8 := fun_mk (st := sFewTold) l8 c8 k8
  have D_fewest_told : Dn K mg "fewest_told" sFewTold f8 _ ["kg", "days", "frames"] := ⟨PySem.W.mg_of X G a8, F8, F8.binds (ps := ["kg", "days", "frames"]) fun _ _ _ _ _ _ us hl => match us, hl with | [_, _, _], _ => rfl⟩
  have F9 := fun_mk (st := sFew) l9 c9 k9
  have D_fewest : Dn K mg "fewest" sFew fa _ ["kg", "days", "frames"] := ⟨PySem.W.mg_of X G a9, F9, F9.binds (ps := ["kg", "days", "frames"]) fun _ _ _ _ _ _ us hl => match us, hl with | [_, _, _], _ => rfl⟩
  refine ⟨PySem.W.fnOf "fewest" "fewest" (defArgs sFew) (defBody sFew) (defScope sFew) .none kV9 dc9 pm9 an9 cd9 ct9, fun s us hu => match us, hu with | [_, _, _], _ => .of_eq rfl, fun base _ _ => ?_⟩
  have GO := ok_fewOf (P := P) (w := w) (base := base) T D_fewest_of D_members D_many_sets D_is_enough
  have GF := ok_wframes (P := P) (w := w) (base := base) T D_want_frames D_want D_are_from
  have GT := ok_fewTold T ⟨_, PySem.W.mg_of X G gMOST_DAYS⟩ D_fewest_told D_want D_want_frames D_fewest_of GF GO
  exact ok_few T D_fewest D_fewest_told GT
/-- a list that may be handed in is one of numbers not below 0 -/
theorem list_in {n : Nat} {l : List Int} (h : (Codec.inLen 0 n l && l.all (Codec.inInt (_root_.Int.ofNat 0) (_root_.Int.ofNat 4294967295))) = true) : ∃ q : List Nat, l = castN q ∧ q.length ≤ n := by
  rw [Bool.and_eq_true] at h
  have h1 := (Codec.inNat_iff.mp h.1).2
  have h2 : ∀ x ∈ l, (0 : Int) ≤ x := fun x hx => (Codec.inInt_iff.mp (List.all_eq_true.mp h.2 x hx)).1
  exact ⟨_, cast_of h2, by rw [List.length_map]; exact h1⟩
theorem int_in {z : Int} (h : Codec.inInt (_root_.Int.ofNat 0) (_root_.Int.ofNat 4294967295) z = true) : ∃ n : Nat, z = (n : Int) ∧ n ≤ 4294967295 := by
  obtain ⟨h1, h2⟩ := Codec.inInt_iff.mp h
  have h1 : (0 : Int) ≤ z := h1
  have h2 : z ≤ 4294967295 := h2
  exact ⟨z.toNat, by omega, by omega⟩
end Fg
open PySem PySem.W PyProof.Rows
set_option maxRecDepth 100000 in
set_option maxHeartbeats 8000000 in
theorem PySem.Challenge.cw_framesgiven_s03_fewest_holds : PySem.Challenge.rw_framesgiven_s03_fewest.Holds := by
  w_on; k_headS; (case hw => exact ⟨[.int 0, .int 0, .list []], by decide +kernel, by decide +kernel⟩)
  k_fillS
  refine L2.walk_specK (r := PySem.Challenge.rw_framesgiven_s03_fewest) (k := 6) (CX := L2.CX0) (ps := ["kg", "days", "frames"]) (sp := Fg.spFew) (by decide +kernel) rfl rfl ⟨rfl, by decide, by decide⟩ (fun w h Y => PySem.W.kIn_of Y) ?F ?S (fun _ _ _ _ z => z)
  case F =>
    intro w mg fa h Y KX G hmg
    refine' Fg.all_mk KX G hmg ?aC ?xL ?sa ?ga ?gg ?nb ?a0 ?t0 ?l0 ?c0 ?k0 ?kC ?eC ?tC ?hC ?iC ?sC ?vV ?a1 ?l1 ?c1 ?k1 ?a2 ?l2 ?c2 ?k2 ?a3 ?l3 ?c3 ?k3 ?a4 ?l4 ?c4 ?k4 ?a5 ?l5 ?c5 ?k5 ?a6 ?l6 ?c6 ?k6 ?a7 ?l7 ?c7 ?k7 ?a8 ?l8 ?c8 ?k8 ?a9 ?l9 ?c9 ?k9 ?zValueError ?zall ?zlen ?zrange ?zsum ?zmax ?zenumerate ?zlist ?gOUT_OF_RANGE ?gCANNOT_BE ?gMOST_FRAMES ?gMOST_A_DAY ?gMOST_KILOGRAMS ?gMOST_DAYS
    (case aC => k_is)
    (case xL => k_is)
    (case sa => k_is)
    (case ga => k_is)
    (case gg => k_is)
    (case nb => k_is)
    (case a0 => k_is)
    (case t0 => k_is)
    (case l0 => k_is)
    (case c0 => k_is)
    (case k0 => k_is)
    (case kC => k_is)
    (case eC => k_is)
    (case tC => k_is)
    (case hC => k_is)
    (case iC => k_is)
    (case sC => first | rfl | k_is)
    (case vV => first | k_is | rfl | decide +kernel)
    (case a1 => k_is)
    (case l1 => k_is)
    (case c1 => k_is)
    (case k1 => k_is)
    (case a2 => k_is)
    (case l2 => k_is)
    (case c2 => k_is)
    (case k2 => k_is)
    (case a3 => k_is)
    (case l3 => k_is)
    (case c3 => k_is)
    (case k3 => k_is)
    (case a4 => k_is)
    (case l4 => k_is)
    (case c4 => k_is)
    (case k4 => k_is)
    (case a5 => k_is)
    (case l5 => k_is)
    (case c5 => k_is)
    (case k5 => k_is)
    (case a6 => k_is)
    (case l6 => k_is)
    (case c6 => k_is)
    (case k6 => k_is)
    (case a7 => k_is)
    (case l7 => k_is)
    (case c7 => k_is)
    (case k7 => k_is)
    (case a8 => k_is)
    (case l8 => k_is)
    (case c8 => k_is)
    (case k8 => k_is)
    (case a9 => k_is)
    (case l9 => k_is)
    (case c9 => k_is)
    (case k9 => k_is)
    (case zValueError => k_is)
    (case zall => k_is)
    (case zlen => k_is)
    (case zrange => k_is)
    (case zsum => k_is)
    (case zmax => k_is)
    (case zenumerate => k_is)
    (case zlist => k_is)
    (case gOUT_OF_RANGE => k_is)
    (case gCANNOT_BE => k_is)
    (case gMOST_FRAMES => k_is)
    (case gMOST_A_DAY => k_is)
    (case gMOST_KILOGRAMS => k_is)
    (case gMOST_DAYS => k_is)
  case S =>
    intro K H xs a hO hwi hask hx
    obtain ⟨kg, days, frames, u⟩ := a
    have q : (Codec.inInt (_root_.Int.ofNat 0) (_root_.Int.ofNat 4294967295) kg && (Codec.inInt (_root_.Int.ofNat 0) (_root_.Int.ofNat 4294967295) days && ((Codec.inLen 0 8 frames && frames.all (Codec.inInt (_root_.Int.ofNat 0) (_root_.Int.ofNat 4294967295))) && true))) = true := hwi
    rw [Bool.and_eq_true, Bool.and_eq_true, Bool.and_eq_true] at q
    obtain ⟨q1, q2, q3, _⟩ := q
    obtain ⟨x, rfl, hx1⟩ := Fg.int_in q1
    obtain ⟨d, rfl, hd1⟩ := Fg.int_in q2
    obtain ⟨r, rfl, hr1⟩ := Fg.list_in q3
    cases hx with
    | cons h1 h2 =>
      cases h1
      cases h2 with
      | cons h2 h3 =>
        cases h2
        cases h3 with
        | cons h3 h4 =>
          cases h4
          cases h3 with
          | lst hs ha =>
            have e := L2.ints_dw (Fg.castN r) _ ha
            subst e
            refine ⟨x, d, _, r, rfl, hs, hr1, hd1, fun H' p hp => ?_⟩
            show L2.Dw K H' (.ref p) (.list ((PyKzd6.fewest (x : Int) (d : Int) (Fg.castN r)).map WData.int))
            rw [Fg.few_ans]
            exact .lst (L2.SqL.of hp) (L2.dw_ints _)
#print axioms PySem.Challenge.cw_framesgiven_s03_fewest_holds
