import PyProof.Rows.All
import Wide.All
import OpenK.AllK
import Wide.FinOn
import PyProof.EqAt
import PyProof.EqKinds
import PyProof.TupleCall
import HandS.ForMost
import HandS.ForExc
import HandS.ExcCtx
import HandS.HotCalls
import HandS.IsInst
import HandS.ExcIs
import HandS.Wide
import HandS.Rev
import HandS.Style
import HandS.Codes
import PySem.Challenge.RW_shortrule_k14_whole_learned_and_far
set_option Elab.async false
set_option linter.all false
set_option maxRecDepth 100000
set_option maxHeartbeats 4000000
/-! Sums, lists by places, divisibility: plain Lean. -/
namespace SR

/-- f 0 + .. + f (n - 1) -/
def sm : Nat → (Nat → Int) → Int
  | 0, _ => 0
  | n + 1, f => sm n f + f n

theorem sm_congr {f g : Nat → Int} : ∀ {n : Nat}, (∀ k, k < n → f k = g k) → sm n f = sm n g
  | 0, _ => rfl
  | n + 1, h => by
    show sm n f + f n = sm n g + g n
    rw [sm_congr (n := n) fun k hk => h k (by omega), h n (by omega)]
theorem sm_add (f g : Nat → Int) : ∀ n, sm n (fun k => f k + g k) = sm n f + sm n g
  | 0 => rfl
  | n + 1 => by
    show sm n _ + (f n + g n) = (sm n f + f n) + (sm n g + g n)
    rw [sm_add f g n]; omega
theorem sm_sub (f g : Nat → Int) : ∀ n, sm n (fun k => f k - g k) = sm n f - sm n g
  | 0 => rfl
  | n + 1 => by
    show sm n _ + (f n - g n) = (sm n f + f n) - (sm n g + g n)
    rw [sm_sub f g n]; omega
theorem sm_mul (c : Int) (f : Nat → Int) : ∀ n, sm n (fun k => c * f k) = c * sm n f
  | 0 => by show (0 : Int) = c * 0; omega
  | n + 1 => by
    show sm n _ + _ = c * (sm n f + f n)
    rw [sm_mul c f n, Int.mul_add]
theorem sm_mulr (c : Int) (f : Nat → Int) : ∀ n, sm n (fun k => f k * c) = sm n f * c
  | 0 => by show (0 : Int) = 0 * c; omega
  | n + 1 => by
    show sm n _ + _ = (sm n f + f n) * c
    rw [sm_mulr c f n, Int.add_mul]
theorem sm_neg (f : Nat → Int) : ∀ n, sm n (fun k => - f k) = - sm n f
  | 0 => rfl
  | n + 1 => by
    show sm n _ + - f n = - (sm n f + f n)
    rw [sm_neg f n]; omega
theorem sm_zero {f : Nat → Int} : ∀ {n : Nat}, (∀ k, k < n → f k = 0) → sm n f = 0
  | 0, _ => rfl
  | n + 1, h => by
    show sm n f + f n = 0
    rw [sm_zero (n := n) fun k hk => h k (by omega), h n (by omega)]; rfl
theorem sm_dvd {p : Int} {f : Nat → Int} : ∀ {n : Nat}, (∀ k, k < n → p ∣ f k) → p ∣ sm n f
  | 0, _ => ⟨0, by show (0 : Int) = p * 0; omega⟩
  | n + 1, h => Int.dvd_add (sm_dvd (n := n) fun k hk => h k (by omega)) (h n (by omega))
theorem sm_split (m : Nat) (f : Nat → Int) : ∀ n, sm (m + n) f = sm m f + sm n (fun k => f (m + k))
  | 0 => by show sm m f = sm m f + 0; omega
  | n + 1 => by
    show sm (m + n) f + f (m + n) = sm m f + (sm n _ + f (m + n))
    rw [sm_split m f n]; omega
theorem sm_head (f : Nat → Int) (n : Nat) : sm (n + 1) f = f 0 + sm n (fun k => f (k + 1)) := by
  have e := sm_split 1 f n
  have e1 : sm 1 f = f 0 := by show (0 : Int) + f 0 = f 0; omega
  rw [Nat.add_comm n 1, e, e1]
  congr 1
  exact sm_congr fun k _ => by rw [Nat.add_comm 1 k]
theorem sm_swap (f : Nat → Nat → Int) (m : Nat) : ∀ n, sm n (fun i => sm m (fun j => f i j)) = sm m (fun j => sm n (fun i => f i j))
  | 0 => (sm_zero fun _ _ => rfl).symm
  | n + 1 => by
    show sm n _ + sm m (fun j => f n j) = sm m (fun j => sm n (fun i => f i j) + f n j)
    rw [sm_swap f m n, sm_add]
theorem sm_more {f : Nat → Int} {n m : Nat} (hnm : n ≤ m) (h : ∀ k, n ≤ k → k < m → f k = 0) : sm m f = sm n f := by
  obtain ⟨d, rfl⟩ : ∃ d, m = n + d := ⟨m - n, by omega⟩
  rw [sm_split, sm_zero (f := fun k => f (n + k)) fun k hk => h (n + k) (by omega) (by omega)]
  omega
/-- one place alone -/
theorem sm_one {f : Nat → Int} {n j : Nat} (hj : j < n) (h : ∀ k, k < n → k ≠ j → f k = 0) : sm n f = f j := by
  induction n with
  | zero => omega
  | succ n ih =>
    show sm n f + f n = f j
    by_cases e : j = n
    · subst e
      rw [sm_zero fun k hk => h k (by omega) (by omega)]; omega
    · rw [ih (by omega) fun k hk => h k (by omega), h n (by omega) (by omega)]; omega

/-! ### lists by places -/
def gd (l : List Int) (k : Nat) : Int := (l[k]?).getD 0
theorem gd_ge {l : List Int} {k : Nat} (h : l.length ≤ k) : gd l k = 0 := by
  unfold gd; rw [List.getElem?_eq_none h]; rfl
theorem gd_some {l : List Int} {k : Nat} {x : Int} (h : l[k]? = some x) : gd l k = x := by
  unfold gd; rw [h]; rfl
theorem get_gd {l : List Int} {k : Nat} (h : k < l.length) : l[k]? = some (gd l k) := by
  unfold gd; rw [List.getElem?_eq_getElem h]; rfl
theorem gd_mem {l : List Int} {k : Nat} (h : k < l.length) : gd l k ∈ l := List.mem_of_getElem? (get_gd h)
theorem gd_nil (k : Nat) : gd [] k = 0 := gd_ge (Nat.zero_le _)
theorem gd_zero (a : Int) (l : List Int) : gd (a :: l) 0 = a := rfl
theorem gd_succ (a : Int) (l : List Int) (k : Nat) : gd (a :: l) (k + 1) = gd l k := rfl
theorem gd_left {l m : List Int} {k : Nat} (h : k < l.length) : gd (l ++ m) k = gd l k := by
  unfold gd; rw [List.getElem?_append_left h]
theorem gd_right {l m : List Int} {k : Nat} (h : l.length ≤ k) : gd (l ++ m) k = gd m (k - l.length) := by
  unfold gd; rw [List.getElem?_append_right h]
theorem gd_last (l : List Int) (x : Int) : gd (l ++ [x]) l.length = x := by
  rw [gd_right (Nat.le_refl _), Nat.sub_self]; rfl
theorem gd_map {f : Int → Int} {l : List Int} {k : Nat} (h : k < l.length) : gd (l.map f) k = f (gd l k) := by
  unfold gd; rw [List.getElem?_map, List.getElem?_eq_getElem h]; rfl
theorem gd_map0 {f : Int → Int} (h0 : f 0 = 0) (l : List Int) (k : Nat) : gd (l.map f) k = f (gd l k) := by
  by_cases h : k < l.length
  · exact gd_map h
  · rw [gd_ge (l := l) (by omega), gd_ge (by rw [List.length_map]; omega), h0]
theorem gd_take {l : List Int} {n k : Nat} (h : k < n) : gd (l.take n) k = gd l k := by
  unfold gd; rw [List.getElem?_take_of_lt h]
theorem gd_drop (l : List Int) (n k : Nat) : gd (l.drop n) k = gd l (n + k) := by
  unfold gd; rw [List.getElem?_drop]
theorem gd_set_self {l : List Int} {j : Nat} {x : Int} (h : j < l.length) : gd (l.set j x) j = x := by
  unfold gd; rw [List.getElem?_set_self h]; rfl
theorem gd_set_ne {l : List Int} {j k : Nat} {x : Int} (h : j ≠ k) : gd (l.set j x) k = gd l k := by
  unfold gd; rw [List.getElem?_set_ne h]
theorem gd_rep (n k : Nat) : gd (List.replicate n 0) k = 0 := by
  unfold gd; rw [List.getElem?_replicate]; split <;> rfl
theorem ext_gd' {l m : List Int} (hl : l.length = m.length) (h : ∀ k, k < l.length → gd l k = gd m k) : l = m := by
  refine List.ext_getElem? fun k => ?_
  by_cases hk : k < l.length
  · rw [get_gd hk, get_gd (by omega), h k hk]
  · rw [List.getElem?_eq_none (by omega), List.getElem?_eq_none (by omega)]
/-- a list by its places -/
def mk (n : Nat) (f : Nat → Int) : List Int := (List.range n).map f
theorem mk_len (n : Nat) (f : Nat → Int) : (mk n f).length = n := by unfold mk; rw [List.length_map, List.length_range]
theorem mk_get {n k : Nat} (f : Nat → Int) (h : k < n) : (mk n f)[k]? = some (f k) := by
  unfold mk; rw [List.getElem?_map, List.getElem?_range h]; rfl
theorem gd_mk {n k : Nat} (f : Nat → Int) (h : k < n) : gd (mk n f) k = f k := gd_some (mk_get f h)
theorem mk_succ (n : Nat) (f : Nat → Int) : mk (n + 1) f = mk n f ++ [f n] := by
  unfold mk; rw [List.range_succ, List.map_append]; rfl
theorem mk_congr {n : Nat} {f g : Nat → Int} (h : ∀ k, k < n → f k = g k) : mk n f = mk n g :=
  ext_gd' (by rw [mk_len, mk_len]) fun k hk => by
    rw [mk_len] at hk
    rw [gd_mk _ hk, gd_mk _ hk, h k hk]
theorem mk_gd (l : List Int) : mk l.length (gd l) = l := ext_gd' (mk_len _ _) fun k hk => by
  rw [mk_len] at hk
  rw [gd_mk _ hk]
theorem take_succ {l : List Int} {i : Nat} (h : i < l.length) : l.take (i + 1) = l.take i ++ [gd l i] := by
  rw [List.take_add_one, get_gd h]; rfl
theorem map_take_succ {l : List Int} {i : Nat} (h : i < l.length) (f : Int → Int) : (l.take (i + 1)).map f = (l.take i).map f ++ [f (gd l i)] := by
  rw [take_succ h, List.map_append]; rfl
theorem take_mk (l : List Int) (n : Nat) (h : n ≤ l.length) : l.take n = mk n (gd l) := by
  refine ext_gd' (by rw [mk_len, List.length_take]; omega) fun k hk => ?_
  rw [List.length_take] at hk
  rw [gd_take (by omega), gd_mk _ (by omega)]

/-! ### rests -/
def Rests (p : Int) (l : List Int) : Prop := ∀ x, x ∈ l → 0 ≤ x ∧ x < p
theorem Rests.nil {p : Int} : Rests p [] := fun _ h => by cases h
theorem Rests.gd {p : Int} {l : List Int} (h : Rests p l) (h0 : 0 < p) (k : Nat) : 0 ≤ SR.gd l k ∧ SR.gd l k < p := by
  by_cases hk : k < l.length
  · exact h _ (gd_mem hk)
  · rw [gd_ge (by omega)]; omega
theorem Rests.app {p : Int} {l m : List Int} (h : Rests p l) (h' : Rests p m) : Rests p (l ++ m) := fun x hx => by
  rcases List.mem_append.mp hx with q | q
  · exact h x q
  · exact h' x q
theorem Rests.one {p x : Int} (h0 : 0 ≤ x) (h1 : x < p) : Rests p [x] := fun y hy => by
  rw [List.mem_singleton] at hy; subst hy; exact ⟨h0, h1⟩
theorem Rests.take {p : Int} {l : List Int} (h : Rests p l) (n : Nat) : Rests p (l.take n) := fun x hx => h x (List.mem_of_mem_take hx)
theorem Rests.mapMod {p : Int} (h0 : 0 < p) (f : Int → Int) (l : List Int) : Rests p (l.map fun x => f x % p) := fun x hx => by
  obtain ⟨y, _, rfl⟩ := List.mem_map.mp hx
  exact ⟨Int.emod_nonneg _ (by omega), Int.emod_lt_of_pos _ h0⟩
theorem Rests.mk {p : Int} {n : Nat} {f : Nat → Int} (h : ∀ k, k < n → 0 ≤ f k ∧ f k < p) : Rests p (SR.mk n f) := fun x hx => by
  obtain ⟨k, hk, rfl⟩ := List.mem_map.mp hx
  exact h k (List.mem_range.mp hk)
theorem rest_eq {p x y : Int} (hx : 0 ≤ x ∧ x < p) (hy : 0 ≤ y ∧ y < p) (h : p ∣ x - y) : x = y := by
  have h3 : x % p = y % p := Int.emod_eq_emod_iff_emod_sub_eq_zero.mpr (Int.emod_eq_zero_of_dvd h)
  rw [Int.emod_eq_of_lt hx.1 hx.2, Int.emod_eq_of_lt hy.1 hy.2] at h3
  exact h3
theorem dvd_emod (p x : Int) : p ∣ x % p - x := by
  have h : p * (x / p) + x % p = x := by first | exact Int.mul_ediv_add_emod x p | exact Int.ediv_add_emod x p
  exact ⟨-(x / p), by rw [Int.mul_neg]; omega⟩
theorem dvd_emod' (p x : Int) : p ∣ x - x % p := by
  obtain ⟨c, h⟩ := dvd_emod p x
  exact ⟨-c, by rw [Int.mul_neg]; omega⟩
theorem emod_rest {p : Int} (h : 0 < p) (x : Int) : 0 ≤ x % p ∧ x % p < p := ⟨Int.emod_nonneg _ (by omega), Int.emod_lt_of_pos _ h⟩
theorem emod_eq_of_dvd {p x y : Int} (h : p ∣ x - y) : x % p = y % p := Int.emod_eq_emod_iff_emod_sub_eq_zero.mpr (Int.emod_eq_zero_of_dvd h)
theorem dvd_of_emod_eq {p x y : Int} (h : x % p = y % p) : p ∣ x - y := Int.dvd_of_emod_eq_zero (Int.emod_eq_emod_iff_emod_sub_eq_zero.mp h)
end SR
/-! The shortest rule: the mirror of the grower and what holds of it. Plain Lean. -/
namespace SR

/-- a prime's two sides: no divisor but 1 and itself -/
def Pr (p : Int) : Prop := 2 ≤ p ∧ ∀ d : Int, 0 < d → d ∣ p → d = 1 ∨ d = p

/-! ### inverses -/
def IsInv (p a x : Int) : Prop := 0 ≤ x ∧ x < p ∧ p ∣ x * a - 1
open Classical in
noncomputable def inv (p a : Int) : Int := if h : ∃ x, IsInv p a x then Classical.choose h else 0
theorem inv_unique {p a x y : Int} (hx : IsInv p a x) (hy : IsInv p a y) : x = y := by
  refine rest_eq ⟨hx.1, hx.2.1⟩ ⟨hy.1, hy.2.1⟩ ?_
  obtain ⟨c, hc⟩ := hx.2.2
  obtain ⟨d, hd⟩ := hy.2.2
  exact ⟨y * c - x * d, by grind⟩
theorem inv_eq {p a x : Int} (hx : IsInv p a x) : inv p a = x := by
  have h : ∃ x, IsInv p a x := ⟨x, hx⟩
  unfold inv
  rw [dif_pos h]
  exact inv_unique (Classical.choose_spec h) hx

/-- the extended Euclid: what stands between two turns of the loop -/
structure Eu (p a left right one two : Int) : Prop where
  l0 : 0 < left
  r0 : 0 ≤ right
  rl : right < left
  lp : left ≤ p
  c1 : p ∣ one * a - left
  c2 : p ∣ two * a - right
  g : ∀ d : Int, d ∣ left → d ∣ right → d ∣ p ∧ d ∣ a
theorem Eu.start {p a : Int} (hp : 2 ≤ p) : Eu p a p (a % p) 0 1 where
  l0 := by omega
  r0 := Int.emod_nonneg _ (by omega)
  rl := Int.emod_lt_of_pos _ (by omega)
  lp := Int.le_refl _
  c1 := ⟨-1, by grind⟩
  c2 := by
    obtain ⟨c, h⟩ := dvd_emod' p a
    exact ⟨c, by rw [← h]; omega⟩
  g := fun d h1 h2 => ⟨h1, by
    have h3 := Int.dvd_sub h2 (Int.dvd_trans h1 (dvd_emod p a))
    have e : a % p - (a % p - a) = a := by omega
    rw [e] at h3; exact h3⟩
theorem Eu.turn {p a left right one two : Int} (h : Eu p a left right one two) (hr : right ≠ 0) :
    Eu p a right (left - left / right * right) two (one - left / right * two) := by
  have e : left - left / right * right = left % right := by
    have := (by first | exact Int.mul_ediv_add_emod left right | exact Int.ediv_add_emod left right : right * (left / right) + left % right = left)
    rw [Int.mul_comm]; omega
  have hr0 : 0 < right := by have := h.r0; omega
  refine ⟨hr0, by rw [e]; exact Int.emod_nonneg _ hr, by rw [e]; exact Int.emod_lt_of_pos _ hr0, by have := h.rl; have := h.lp; omega, h.c2, ?_, fun d h1 h2 => h.g d ?_ h1⟩
  · obtain ⟨c, hc⟩ := h.c1
    obtain ⟨d, hd⟩ := h.c2
    exact ⟨c - left / right * d, by grind⟩
  · obtain ⟨c, hc⟩ := h1
    obtain ⟨x, hx⟩ := h2
    exact ⟨x + left / right * c, by grind⟩
/-- sizes: the products that the loop makes have a small factor -/
theorem Eu.often {p a left right one two : Int} (h : Eu p a left right one two) (hr : right ≠ 0) : 0 ≤ left / right ∧ left / right ≤ p := by
  have h0 := h.r0
  have h1 := h.l0
  refine ⟨Int.ediv_nonneg (by omega) h0, ?_⟩
  have := Int.ediv_le_self (b := right) (a := left) (by omega)
  have := h.lp
  omega
theorem Eu.done {p a left one two : Int} (hp : Pr p) (ha : ¬ p ∣ a) (h : Eu p a left 0 one two) : IsInv p a (one % p) := by
  obtain ⟨hd, hda⟩ := h.g left (Int.dvd_refl _) (Int.dvd_zero _)
  have hl : left = 1 := by
    rcases hp.2 left h.l0 hd with e | e
    · exact e
    · exact absurd (e ▸ hda) ha
  have h2 := hp.1
  refine ⟨Int.emod_nonneg _ (by omega), Int.emod_lt_of_pos _ (by omega), ?_⟩
  obtain ⟨c, hc⟩ := h.c1
  obtain ⟨d, hd⟩ := dvd_emod p one
  rw [hl] at hc
  exact ⟨c + d * a, by grind⟩
theorem inv_ex {p a : Int} (hp : Pr p) (ha : ¬ p ∣ a) : ∃ x, IsInv p a x := by
  have go : ∀ (n : Nat) (left right one two : Int), right.toNat ≤ n → Eu p a left right one two → ∃ x, IsInv p a x := by
    intro n
    induction n with
    | zero =>
      intro left right one two hn h
      have e : right = 0 := by have := h.r0; omega
      subst e
      exact ⟨_, h.done hp ha⟩
    | succ n ih =>
      intro left right one two hn h
      by_cases e : right = 0
      · subst e
        exact ⟨_, h.done hp ha⟩
      · have t := h.turn e
        exact ih _ _ _ _ (by have := t.rl; have := t.r0; omega) t
  exact go _ p (a % p) 0 1 (Nat.le_refl _) (Eu.start hp.1)
theorem inv_is {p a : Int} (hp : Pr p) (ha : ¬ p ∣ a) : IsInv p a (inv p a) := by
  obtain ⟨x, hx⟩ := inv_ex hp ha
  rw [inv_eq hx]; exact hx
/-- the law's own words: an inverse is not nought, and leaves 1 -/
theorem inv_pos {p a x : Int} (hp : Pr p) (h : IsInv p a x) : 1 ≤ x ∧ x * a % p = 1 := by
  have h2 := hp.1
  obtain ⟨h0, h1, h3⟩ := h
  have e : x * a % p = 1 % p := emod_eq_of_dvd h3
  rw [Int.emod_eq_of_lt (by omega) (by omega : (1 : Int) < p)] at e
  refine ⟨?_, e⟩
  by_cases hx : x = 0
  · subst hx
    rw [Int.zero_mul, Int.zero_emod] at e
    omega
  · omega
theorem not_dvd_rest {p x : Int} (h0 : 0 < x) (h1 : x < p) : ¬ p ∣ x := fun h => by
  have := Int.emod_eq_zero_of_dvd h
  rw [Int.emod_eq_of_lt (by omega) h1] at this
  omega
theorem pr_mul {p a b : Int} (hp : Pr p) (h : p ∣ a * b) : p ∣ a ∨ p ∣ b := by
  by_cases ha : p ∣ a
  · exact .inl ha
  · obtain ⟨x, _, _, c, hc⟩ := inv_ex hp ha
    obtain ⟨d, hd⟩ := h
    exact .inr ⟨x * d - c * b, by grind⟩

/-! ### what a rule tells -/
def tellS (rule row : List Int) (i : Nat) : Int := sm rule.length fun k => gd rule k * gd row (i - 1 - k)
def due (p : Int) (rule row : List Int) (i : Nat) : Int := tellS rule row i % p
/-- the numbers at i, i - 1, .., weighed by a -/
def cv (a row : List Int) (i : Nat) : Int := sm a.length fun k => gd a k * gd row (i - k)
def ahead (rule : List Int) : List Int := 1 :: rule.map fun w => -w
theorem ahead_len (rule : List Int) : (ahead rule).length = rule.length + 1 := by unfold ahead; rw [List.length_cons, List.length_map]
theorem cv_ahead (rule row : List Int) (i : Nat) : cv (ahead rule) row i = gd row i - tellS rule row i := by
  unfold cv
  rw [ahead_len, sm_head]
  have e : sm rule.length (fun k => gd (ahead rule) (k + 1) * gd row (i - (k + 1))) = sm rule.length fun k => -(gd rule k * gd row (i - 1 - k)) := sm_congr fun k hk => by
    show gd (rule.map fun w => -w) k * _ = _
    rw [gd_map hk, Nat.sub_sub, Nat.add_comm 1 k, Int.neg_mul]
  rw [e, sm_neg]
  show (1 : Int) * gd row (i - 0) + _ = _
  unfold tellS
  rw [Nat.sub_zero]; omega
def Fol (p : Int) (rule row : List Int) : Prop := ∀ i, rule.length ≤ i → i < row.length → due p rule row i = gd row i
instance {p : Int} {rule row : List Int} : Decidable (Fol p rule row) :=
  decidable_of_iff (∀ i, i < row.length → rule.length ≤ i → due p rule row i = gd row i) ⟨fun h i a b => h i b a, fun h i a b => h i b a⟩
theorem fol_iff {p : Int} {rule row : List Int} (h0 : 0 < p) (hr : Rests p row) : Fol p rule row ↔ ∀ i, rule.length ≤ i → i < row.length → p ∣ cv (ahead rule) row i := by
  refine ⟨fun h i a b => ?_, fun h i a b => ?_⟩
  · rw [cv_ahead]
    have e := h i a b
    unfold due at e
    rw [← e]
    exact dvd_emod _ _
  · have z := h i a b
    rw [cv_ahead] at z
    unfold due
    rw [← emod_eq_of_dvd z]
    exact Int.emod_eq_of_lt (hr.gd h0 i).1 (hr.gd h0 i).2
theorem cv_app {a row m : List Int} {i : Nat} (h : i < row.length) : cv a (row ++ m) i = cv a row i :=
  sm_congr fun k _ => by rw [gd_left (by omega)]
theorem tellS_app {rule row m : List Int} {i : Nat} (h1 : rule.length ≤ i) (h : i ≤ row.length) : tellS rule (row ++ m) i = tellS rule row i :=
  sm_congr fun k hk => by rw [gd_left (by omega)]
theorem due_app {p : Int} {rule row m : List Int} {i : Nat} (h1 : rule.length ≤ i) (h : i ≤ row.length) : due p rule (row ++ m) i = due p rule row i := by
  unfold due; rw [tellS_app h1 h]
theorem due_rest {p : Int} (h0 : 0 < p) (rule row : List Int) (i : Nat) : 0 ≤ due p rule row i ∧ due p rule row i < p := emod_rest h0 _
theorem tellS_take {rule row : List Int} {i n : Nat} (h1 : rule.length ≤ i) (h : i ≤ n) : tellS rule (row.take n) i = tellS rule row i :=
  sm_congr fun k hk => by rw [gd_take (by omega)]

/-! ### the grower -/
structure Gr where
  row : List Int
  rule : List Int
  elder : List Int
  lack : Int
  place : Option Nat
def Gr.new : Gr := ⟨[], [], [1], 1, none⟩
def gapOf (place : Option Nat) (n : Nat) : Nat := match place with | none => n + 1 | some q => n - q
def sizeOf' (l n : Nat) : Nat := if 2 * l ≤ n then n + 1 - l else l
/-- the list of the mending loop behind k turns -/
def mendK (ah : List Int) (size gap : Nat) (often : Int) (el : List Int) (k : Nat) : List Int :=
  mk (size + 1) fun j => gd ah j - (if gap ≤ j ∧ j < gap + k then often * gd el (j - gap) else 0)
noncomputable def Gr.mended (p : Int) (g : Gr) (n : Nat) (lack : Int) : List Int :=
  mendK (ahead g.rule) (sizeOf' g.rule.length n) (gapOf g.place n) (lack * inv p g.lack) g.elder g.elder.length
noncomputable def Gr.mend (p : Int) (g : Gr) (n : Nat) (lack : Int) : Gr :=
  { row := g.row
    rule := ((g.mended p n lack).drop 1).map fun w => -w % p
    elder := if 2 * g.rule.length ≤ n then (ahead g.rule).map fun w => w % p else g.elder
    lack := if 2 * g.rule.length ≤ n then lack else g.lack
    place := if 2 * g.rule.length ≤ n then some n else g.place }
def Gr.dis (p : Int) (g : Gr) (x : Int) : Int := (x - due p g.rule g.row g.row.length) % p
noncomputable def Gr.put (p : Int) (g : Gr) (x : Int) : Gr :=
  if g.dis p x = 0 then { g with row := g.row ++ [x] } else Gr.mend p { g with row := g.row ++ [x] } g.row.length (g.dis p x)
theorem mendK_len (ah : List Int) (size gap : Nat) (often : Int) (el : List Int) (k : Nat) : (mendK ah size gap often el k).length = size + 1 := mk_len _ _
theorem mendK_zero {ah : List Int} {size : Nat} (h : ah.length ≤ size + 1) (gap : Nat) (often : Int) (el : List Int) : mendK ah size gap often el 0 = ah ++ List.replicate (size + 1 - ah.length) 0 := by
  refine ext_gd' (by rw [mendK_len, List.length_append, List.length_replicate]; omega) fun j hj => ?_
  rw [mendK_len] at hj
  unfold mendK
  rw [gd_mk _ hj, if_neg (by omega)]
  by_cases c : j < ah.length
  · rw [gd_left c]; omega
  · rw [gd_right (by omega), gd_rep, gd_ge (by omega)]; rfl
theorem mendK_succ {ah : List Int} {size gap : Nat} {often : Int} {el : List Int} {k : Nat} (h : gap + k < size + 1) :
    (mendK ah size gap often el k).set (gap + k) (gd (mendK ah size gap often el k) (gap + k) - often * gd el k) = mendK ah size gap often el (k + 1) := by
  refine ext_gd' (by rw [List.length_set, mendK_len, mendK_len]) fun j hj => ?_
  rw [List.length_set, mendK_len] at hj
  by_cases c : gap + k = j
  · subst c
    rw [gd_set_self (by rw [mendK_len]; exact h)]
    unfold mendK
    rw [gd_mk _ h, gd_mk _ h, if_neg (by omega), if_pos (by omega), Nat.add_sub_cancel_left]
    omega
  · rw [gd_set_ne c]
    unfold mendK
    rw [gd_mk _ hj, gd_mk _ hj]
    by_cases c2 : gap ≤ j ∧ j < gap + k
    · rw [if_pos c2, if_pos (by omega)]
    · rw [if_neg c2, if_neg (by omega)]

/-- THE INVARIANT of a grower -/
structure BM (p : Int) (g : Gr) : Prop where
  row : Rests p g.row
  rule : Rests p g.rule
  elder : Rests p g.elder
  lack : 0 < g.lack ∧ g.lack < p
  fol : ∀ i, g.rule.length ≤ i → i < g.row.length → p ∣ cv (ahead g.rule) g.row i
  non : g.place = none → g.rule = [] ∧ g.elder = [1]
  som : ∀ q, g.place = some q → g.elder.length + g.rule.length = q + 2 ∧ 1 ≤ g.rule.length ∧ g.rule.length ≤ q + 1 ∧ q < g.row.length ∧ p ∣ cv g.elder g.row q - g.lack ∧
    ∀ i, g.elder.length ≤ i + 1 → i < q → p ∣ cv g.elder g.row i
theorem BM.new {p : Int} (hp : 2 ≤ p) : BM p Gr.new where
  row := Rests.nil
  rule := Rests.nil
  elder := Rests.one (by omega) (by omega)
  lack := ⟨by show (0 : Int) < 1; omega, by show (1 : Int) < p; omega⟩
  fol := fun i _ h => by cases h
  non := fun _ => ⟨rfl, rfl⟩
  som := fun q h => by cases h
/-- the rule is no longer than the row; in fact than the place plus one -/
theorem BM.len {p : Int} {g : Gr} (b : BM p g) : g.rule.length ≤ g.row.length := by
  cases e : g.place with
  | none => rw [(b.non e).1]; exact Nat.zero_le _
  | some q =>
    obtain ⟨_, _, h3, h4, _⟩ := b.som q e
    omega
/-- what the mending loop stores in lies in the list -/
theorem BM.gap {p : Int} {g : Gr} (b : BM p g) : gapOf g.place g.row.length + g.elder.length ≤ sizeOf' g.rule.length g.row.length + 1 ∧ 1 ≤ gapOf g.place g.row.length := by
  cases e : g.place with
  | none =>
    obtain ⟨h1, h2⟩ := b.non e
    rw [h1, h2]
    unfold gapOf sizeOf'
    simp
  | some q =>
    obtain ⟨h1, h2, h3, h4, _⟩ := b.som q e
    have s : g.row.length + 1 - g.rule.length ≤ sizeOf' g.rule.length g.row.length := by unfold sizeOf'; split <;> omega
    show g.row.length - q + g.elder.length ≤ _ ∧ 1 ≤ g.row.length - q
    omega
theorem sizeOf'_ge (l n : Nat) : l ≤ sizeOf' l n := by unfold sizeOf'; split <;> omega
theorem sizeOf'_max {l n : Nat} (h : l ≤ n) : sizeOf' l n = max l (n + 1 - l) := by unfold sizeOf'; split <;> omega
/-- the mended list, weighed -/
theorem cv_mended {ah el row : List Int} {size gap i : Nat} {often : Int} (h1 : ah.length ≤ size + 1) (h2 : gap + el.length ≤ size + 1) :
    cv (mendK ah size gap often el el.length) row i = cv ah row i - often * cv el row (i - gap) := by
  have e1 : cv (mendK ah size gap often el el.length) row i = sm (size + 1) (fun j => gd ah j * gd row (i - j) - (if gap ≤ j ∧ j < gap + el.length then often * gd el (j - gap) else 0) * gd row (i - j)) := by
    unfold cv
    rw [mendK_len]
    refine sm_congr fun j hj => ?_
    unfold mendK
    rw [gd_mk _ hj, Int.sub_mul]
  rw [e1, sm_sub]
  congr 1
  · unfold cv
    exact sm_more h1 fun j hj _ => by rw [gd_ge hj, Int.zero_mul]
  · obtain ⟨d, hd⟩ : ∃ d, size + 1 = gap + (el.length + d) := ⟨size + 1 - gap - el.length, by omega⟩
    rw [hd, sm_split, sm_zero (n := gap) fun j hj => by rw [if_neg (by omega), Int.zero_mul], sm_split, sm_zero (n := d) fun j hj => by rw [if_neg (by omega), Int.zero_mul]]
    unfold cv
    rw [← sm_mul]
    have e2 : sm el.length (fun k => (if gap ≤ gap + k ∧ gap + k < gap + el.length then often * gd el (gap + k - gap) else 0) * gd row (i - (gap + k))) = sm el.length fun k => often * (gd el k * gd row (i - gap - k)) := sm_congr fun k hk => by
      rw [if_pos (by omega), Nat.add_sub_cancel_left, Nat.sub_sub, Int.mul_assoc]
    rw [e2]; omega
/-- a list whose places are the same rests -/
theorem cv_cong {p : Int} {a b row : List Int} {i : Nat} (hl : a.length = b.length) (h : ∀ k, k < a.length → p ∣ gd a k - gd b k) : p ∣ cv a row i - cv b row i := by
  unfold cv
  rw [← hl, ← sm_sub]
  exact sm_dvd fun k hk => by
    obtain ⟨c, e⟩ := h k hk
    exact ⟨c * gd row (i - k), by grind⟩
theorem mendRule_len (m : List Int) (p : Int) : ((m.drop 1).map fun w => -w % p).length = m.length - 1 := by rw [List.length_map, List.length_drop]
/-- the rule that is read off a list whose first place is 1 -/
theorem ahead_of {p : Int} {m : List Int} (h1 : gd m 0 = 1) (hl : 1 ≤ m.length) : (ahead ((m.drop 1).map fun w => -w % p)).length = m.length ∧ ∀ k, k < m.length → p ∣ gd (ahead ((m.drop 1).map fun w => -w % p)) k - gd m k := by
  have hlen : (ahead ((m.drop 1).map fun w => -w % p)).length = m.length := by rw [ahead_len, mendRule_len]; omega
  refine ⟨hlen, fun k hk => ?_⟩
  cases k with
  | zero =>
    rw [h1]
    show p ∣ (1 : Int) - 1
    exact ⟨0, by omega⟩
  | succ k =>
    show p ∣ gd (((m.drop 1).map fun w => -w % p).map fun w => -w) k - _
    rw [gd_map (by rw [mendRule_len]; omega), gd_map (by rw [List.length_drop]; omega), gd_drop, Nat.add_comm 1 k]
    obtain ⟨c, hc⟩ := dvd_emod p (-gd m (k + 1))
    exact ⟨-c, by grind⟩
/-- a number whose difference is d: what the weights ahead come to there -/
theorem cv_new {p x : Int} {g : Gr} (hl : g.rule.length ≤ g.row.length) : p ∣ cv (ahead g.rule) (g.row ++ [x]) g.row.length - g.dis p x := by
  rw [cv_ahead, gd_last, tellS_app hl (Nat.le_refl _)]
  unfold Gr.dis due
  obtain ⟨c, hc⟩ := dvd_emod' p (x - tellS g.rule g.row g.row.length % p)
  obtain ⟨d, hd⟩ := dvd_emod' p (tellS g.rule g.row g.row.length)
  exact ⟨c - d, by grind⟩
theorem mended_first {p : Int} {g : Gr} {d : Int} (b : BM p g) : gd (g.mended p g.row.length d) 0 = 1 := by
  unfold Gr.mended mendK
  rw [gd_mk _ (by omega), if_neg (by have := b.gap.2; omega)]
  show (1 : Int) - 0 = 1
  omega
theorem mended_len (p : Int) (g : Gr) (n : Nat) (d : Int) : (g.mended p n d).length = sizeOf' g.rule.length n + 1 := mendK_len _ _ _ _ _ _
theorem mend_len (p : Int) (g : Gr) (n : Nat) (d : Int) : (g.mend p n d).rule.length = sizeOf' g.rule.length n := by
  show ((((g.mended p n d).drop 1).map fun w => -w % p).length) = _
  rw [mendRule_len, mended_len]; omega
/-- the mended rule gives all numbers, the new one too -/
theorem mend_fol {p x : Int} {g : Gr} (hp : Pr p) (b : BM p g) (i : Nat) (h1 : sizeOf' g.rule.length g.row.length ≤ i) (h2 : i < g.row.length + 1) :
    p ∣ cv (ahead (((g.mended p g.row.length (g.dis p x)).drop 1).map fun w => -w % p)) (g.row ++ [x]) i := by
  have a := ahead_of (p := p) (mended_first (d := g.dis p x) b) (by rw [mended_len]; omega)
  have c1 := cv_cong (p := p) (row := g.row ++ [x]) (i := i) a.1 fun k hk => a.2 k (by rw [← a.1]; exact hk)
  have ll := b.len
  have sz := sizeOf'_ge g.rule.length g.row.length
  have c2 : cv (g.mended p g.row.length (g.dis p x)) (g.row ++ [x]) i = cv (ahead g.rule) (g.row ++ [x]) i - (g.dis p x * inv p g.lack) * cv g.elder (g.row ++ [x]) (i - gapOf g.place g.row.length) :=
    cv_mended (by rw [ahead_len]; omega) b.gap.1
  have c3 : p ∣ cv (g.mended p g.row.length (g.dis p x)) (g.row ++ [x]) i := by
    rw [c2]
    cases e : g.place with
    | none =>
      obtain ⟨h3, _⟩ := b.non e
      have : sizeOf' g.rule.length g.row.length = g.row.length + 1 := by rw [h3]; unfold sizeOf'; simp
      omega
    | some q =>
      obtain ⟨h3, h4, h5, h6, h7, h8⟩ := b.som q e
      have s : g.row.length + 1 - g.rule.length ≤ sizeOf' g.rule.length g.row.length := by unfold sizeOf'; split <;> omega
      show p ∣ _ - _ * cv g.elder (g.row ++ [x]) (i - (g.row.length - q))
      by_cases hi : i = g.row.length
      · subst hi
        have eq : g.row.length - (g.row.length - q) = q := by omega
        rw [eq, cv_app (a := g.elder) h6]
        obtain ⟨k1, e1⟩ := cv_new (p := p) (x := x) ll
        obtain ⟨k2, e2⟩ := h7
        obtain ⟨_, _, k3, e3⟩ := inv_is hp (not_dvd_rest b.lack.1 b.lack.2)
        refine ⟨k1 - g.dis p x * k3 - g.dis p x * inv p g.lack * k2, ?_⟩
        grind
      · have hi2 : i < g.row.length := by omega
        rw [cv_app (a := ahead g.rule) hi2, cv_app (a := g.elder) (by omega)]
        obtain ⟨k1, e1⟩ := b.fol i (by omega) hi2
        obtain ⟨k2, e2⟩ := h8 (i - (g.row.length - q)) (by omega) (by omega)
        exact ⟨k1 - g.dis p x * inv p g.lack * k2, by grind⟩
  obtain ⟨k1, e1⟩ := c1
  obtain ⟨k2, e2⟩ := c3
  exact ⟨k1 + k2, by grind⟩
theorem dis_rest {p : Int} (h0 : 0 < p) (g : Gr) (x : Int) : 0 ≤ g.dis p x ∧ g.dis p x < p := emod_rest h0 _
theorem BM.put {p x : Int} {g : Gr} (hp : Pr p) (b : BM p g) (h0 : 0 ≤ x) (h1 : x < p) : BM p (g.put p x) := by
  have hp0 : 0 < p := by have := hp.1; omega
  have ll := b.len
  have r1 : Rests p (g.row ++ [x]) := b.row.app (Rests.one h0 h1)
  have l1 : (g.row ++ [x]).length = g.row.length + 1 := by rw [List.length_append]; rfl
  unfold Gr.put
  by_cases hd : g.dis p x = 0
  · rw [if_pos hd]
    refine ⟨r1, b.rule, b.elder, b.lack, fun i h2 h3 => ?_, b.non, fun q e => ?_⟩
    · show p ∣ cv (ahead g.rule) (g.row ++ [x]) i
      have h3 : i < (g.row ++ [x]).length := h3
      rw [l1] at h3
      by_cases hi : i < g.row.length
      · rw [cv_app hi]; exact b.fol i h2 hi
      · have e : i = g.row.length := by omega
        subst e
        have z := cv_new (p := p) (x := x) ll
        rw [hd] at z
        simpa using z
    · obtain ⟨h3, h4, h5, h6, h7, h8⟩ := b.som q e
      refine ⟨h3, h4, h5, ?_, ?_, fun i h9 h10 => ?_⟩
      · show q < (g.row ++ [x]).length
        omega
      · show p ∣ cv g.elder (g.row ++ [x]) q - g.lack
        rw [cv_app h6]; exact h7
      · show p ∣ cv g.elder (g.row ++ [x]) i
        rw [cv_app (by omega)]; exact h8 i h9 h10
  · rw [if_neg hd]
    have dr := dis_rest hp0 g x
    have fo : ∀ i, sizeOf' g.rule.length g.row.length ≤ i → i < g.row.length + 1 → p ∣ cv (ahead (((g.mended p g.row.length (g.dis p x)).drop 1).map fun w => -w % p)) (g.row ++ [x]) i := fun i => mend_fol hp b i
    have ml : (((g.mended p g.row.length (g.dis p x)).drop 1).map fun w => -w % p).length = sizeOf' g.rule.length g.row.length := by rw [mendRule_len, mended_len]; omega
    have mr : Rests p (((g.mended p g.row.length (g.dis p x)).drop 1).map fun w => -w % p) := Rests.mapMod hp0 (fun w => -w) _
    unfold Gr.mend
    by_cases c : 2 * g.rule.length ≤ g.row.length
    · have es : sizeOf' g.rule.length g.row.length = g.row.length + 1 - g.rule.length := by unfold sizeOf'; rw [if_pos c]
      refine ⟨r1, mr, ?_, ?_, fun i h2 h3 => ?_, fun e => ?_, fun q e => ?_⟩
      · show Rests p (if 2 * g.rule.length ≤ g.row.length then _ else _)
        rw [if_pos c]
        exact Rests.mapMod hp0 (fun w => w) _
      · show 0 < (if 2 * g.rule.length ≤ g.row.length then g.dis p x else _) ∧ (if 2 * g.rule.length ≤ g.row.length then g.dis p x else _) < p
        rw [if_pos c]
        omega
      · exact fo i (by rw [← ml]; exact h2) (by have h3 : i < (g.row ++ [x]).length := h3; omega)
      · have e : (if 2 * g.rule.length ≤ g.row.length then some g.row.length else g.place) = none := e
        rw [if_pos c] at e; cases e
      · have e : (if 2 * g.rule.length ≤ g.row.length then some g.row.length else g.place) = some q := e
        rw [if_pos c] at e
        have e : g.row.length = q := Option.some.inj e
        subst e
        show (if 2 * g.rule.length ≤ g.row.length then (ahead g.rule).map (fun w => w % p) else g.elder).length + (((g.mended p g.row.length (g.dis p x)).drop 1).map fun w => -w % p).length = _ ∧ 1 ≤ (((g.mended p g.row.length (g.dis p x)).drop 1).map fun w => -w % p).length ∧ (((g.mended p g.row.length (g.dis p x)).drop 1).map fun w => -w % p).length ≤ _ ∧ g.row.length < (g.row ++ [x]).length ∧
          p ∣ cv (if 2 * g.rule.length ≤ g.row.length then (ahead g.rule).map (fun w => w % p) else g.elder) (g.row ++ [x]) g.row.length - (if 2 * g.rule.length ≤ g.row.length then g.dis p x else g.lack) ∧
          ∀ i, (if 2 * g.rule.length ≤ g.row.length then (ahead g.rule).map (fun w => w % p) else g.elder).length ≤ i + 1 → i < g.row.length → p ∣ cv (if 2 * g.rule.length ≤ g.row.length then (ahead g.rule).map (fun w => w % p) else g.elder) (g.row ++ [x]) i
        rw [if_pos c, if_pos c, ml, es, List.length_map, ahead_len]
        have cc : ∀ i, p ∣ cv ((ahead g.rule).map fun w => w % p) (g.row ++ [x]) i - cv (ahead g.rule) (g.row ++ [x]) i := fun i => cv_cong (by rw [List.length_map]) fun k hk => by
          rw [List.length_map] at hk
          rw [gd_map hk]; exact dvd_emod _ _
        refine ⟨by omega, by omega, by omega, by omega, ?_, fun i h2 h3 => ?_⟩
        · obtain ⟨k1, e1⟩ := cc g.row.length
          obtain ⟨k2, e2⟩ := cv_new (p := p) (x := x) ll
          exact ⟨k1 + k2, by grind⟩
        · obtain ⟨k1, e1⟩ := cc i
          obtain ⟨k2, e2⟩ := b.fol i (by omega) h3
          rw [cv_app (a := ahead g.rule) h3] at e1
          exact ⟨k1 + k2, by grind⟩
    · have es : sizeOf' g.rule.length g.row.length = g.rule.length := by unfold sizeOf'; rw [if_neg c]
      refine ⟨r1, mr, ?_, ?_, fun i h2 h3 => ?_, fun e => ?_, fun q e => ?_⟩
      · show Rests p (if 2 * g.rule.length ≤ g.row.length then _ else _)
        rw [if_neg c]
        exact b.elder
      · show 0 < (if 2 * g.rule.length ≤ g.row.length then g.dis p x else g.lack) ∧ (if 2 * g.rule.length ≤ g.row.length then g.dis p x else g.lack) < p
        rw [if_neg c]
        exact b.lack
      · exact fo i (by rw [← ml]; exact h2) (by have h3 : i < (g.row ++ [x]).length := h3; omega)
      · have e : (if 2 * g.rule.length ≤ g.row.length then some g.row.length else g.place) = none := e
        rw [if_neg c] at e
        have := (b.non e).1
        rw [this] at c
        simp at c
      · have e : (if 2 * g.rule.length ≤ g.row.length then some g.row.length else g.place) = some q := e
        rw [if_neg c] at e
        obtain ⟨h3, h4, h5, h6, h7, h8⟩ := b.som q e
        show (if 2 * g.rule.length ≤ g.row.length then (ahead g.rule).map (fun w => w % p) else g.elder).length + (((g.mended p g.row.length (g.dis p x)).drop 1).map fun w => -w % p).length = _ ∧ 1 ≤ (((g.mended p g.row.length (g.dis p x)).drop 1).map fun w => -w % p).length ∧ (((g.mended p g.row.length (g.dis p x)).drop 1).map fun w => -w % p).length ≤ _ ∧ q < (g.row ++ [x]).length ∧
          p ∣ cv (if 2 * g.rule.length ≤ g.row.length then (ahead g.rule).map (fun w => w % p) else g.elder) (g.row ++ [x]) q - (if 2 * g.rule.length ≤ g.row.length then g.dis p x else g.lack) ∧
          ∀ i, (if 2 * g.rule.length ≤ g.row.length then (ahead g.rule).map (fun w => w % p) else g.elder).length ≤ i + 1 → i < q → p ∣ cv (if 2 * g.rule.length ≤ g.row.length then (ahead g.rule).map (fun w => w % p) else g.elder) (g.row ++ [x]) i
        rw [if_neg c, if_neg c, ml, es]
        refine ⟨h3, h4, h5, by omega, by rw [cv_app h6]; exact h7, fun i h9 h10 => ?_⟩
        rw [cv_app (by omega)]; exact h8 i h9 h10
end SR
/-! No rule is shorter; where there is room there is one; a row that a rule carries on is learned. Plain Lean. -/
namespace SR

/-- a showing against all shorter rules -/
structure Shows (p : Int) (row : List Int) (l : Nat) (q : Nat) (w : List Int) : Prop where
  len : w.length + l = q + 2
  pos : 1 ≤ l
  le : l ≤ q + 1
  lt : q < row.length
  not : ¬ p ∣ cv w row q
  zero : ∀ s, 1 ≤ s → s < l → p ∣ cv w row (q - s)
theorem BM.shows {p : Int} {g : Gr} {q : Nat} (b : BM p g) (e : g.place = some q) : Shows p g.row g.rule.length q g.elder := by
  obtain ⟨h3, h4, h5, h6, h7, h8⟩ := b.som q e
  refine ⟨h3, h4, h5, h6, fun h => ?_, fun s h1 h2 => h8 _ (by omega) (by omega)⟩
  have z := Int.dvd_sub h h7
  have e2 : cv g.elder g.row q - (cv g.elder g.row q - g.lack) = g.lack := by omega
  rw [e2] at z
  exact not_dvd_rest b.lack.1 b.lack.2 z
/-- .. so no shorter rule is followed -/
theorem Shows.no_shorter {p : Int} {row w : List Int} {l q : Nat} (h0 : 0 < p) (hr : Rests p row) (s : Shows p row l q w) {rule : List Int} (hl : rule.length < l) : ¬ Fol p rule row := by
  intro f
  rw [fol_iff h0 hr] at f
  have len := s.len
  have le := s.le
  have lt := s.lt
  -- the sum at q, each number told by the rule
  have e1 : p ∣ cv w row q - sm w.length (fun k => gd w k * tellS rule row (q - k)) := by
    unfold cv
    rw [← sm_sub]
    refine sm_dvd fun k hk => ?_
    have z := f (q - k) (by omega) (by omega)
    rw [cv_ahead] at z
    obtain ⟨c, hc⟩ := z
    exact ⟨gd w k * c, by grind⟩
  have e2 : sm w.length (fun k => gd w k * tellS rule row (q - k)) = sm rule.length (fun j => gd rule j * cv w row (q - (j + 1))) := by
    have a : sm w.length (fun k => gd w k * tellS rule row (q - k)) = sm w.length (fun k => sm rule.length fun j => gd w k * (gd rule j * gd row (q - k - 1 - j))) := sm_congr fun k _ => by
      unfold tellS
      rw [sm_mul]
    rw [a, sm_swap]
    refine sm_congr fun j hj => ?_
    unfold cv
    rw [← sm_mul]
    refine sm_congr fun k hk => ?_
    have e : q - k - 1 - j = q - (j + 1) - k := by omega
    rw [e]
    grind
  have e3 : p ∣ sm rule.length (fun j => gd rule j * cv w row (q - (j + 1))) := sm_dvd fun j hj => Int.dvd_trans (s.zero (j + 1) (by omega) (by omega)) ⟨gd rule j, Int.mul_comm _ _⟩
  rw [e2] at e1
  obtain ⟨a, ha⟩ := e1
  obtain ⟨b, hb⟩ := e3
  exact s.not ⟨a + b, by grind⟩
theorem BM.no_shorter {p : Int} {g : Gr} (h0 : 0 < p) (b : BM p g) {rule : List Int} (hl : rule.length < g.rule.length) : ¬ Fol p rule g.row := by
  cases e : g.place with
  | none =>
    rw [(b.non e).1] at hl
    cases hl
  | some q => exact (b.shows e).no_shorter h0 b.row hl
theorem BM.follows {p : Int} {g : Gr} (h0 : 0 < p) (b : BM p g) : Fol p g.rule g.row := (fol_iff h0 b.row).mpr b.fol

/-! ### rows without end -/
/-- f follows the rule from the place n on -/
def FolF (p : Int) (rule : List Int) (f : Nat → Int) (n : Nat) : Prop := ∀ i, p ∣ f (n + rule.length + i) - sm rule.length (fun k => gd rule k * f (n + rule.length + i - 1 - k))
/-- a row that follows a rule and begins with as many noughts is nought -/
theorem FolF.zero {p : Int} {rule : List Int} {f : Nat → Int} {n : Nat} (h : FolF p rule f n) (h0 : ∀ k, k < rule.length → p ∣ f (n + k)) (i : Nat) : p ∣ f (n + i) := by
  induction i using Nat.strongRecOn with
  | ind i ih =>
    by_cases c : i < rule.length
    · exact h0 i c
    · have z := h (i - rule.length)
      have e : n + rule.length + (i - rule.length) = n + i := by omega
      rw [e] at z
      have y : p ∣ sm rule.length (fun k => gd rule k * f (n + i - 1 - k)) := sm_dvd fun k hk => by
        have q := ih (i - 1 - k) (by omega)
        have e2 : n + (i - 1 - k) = n + i - 1 - k := by omega
        rw [e2] at q
        exact Int.dvd_trans q ⟨_, Int.mul_comm _ _⟩
      have := Int.dvd_add z y
      have e3 : f (n + i) - sm rule.length (fun k => gd rule k * f (n + i - 1 - k)) + sm rule.length (fun k => gd rule k * f (n + i - 1 - k)) = f (n + i) := by omega
      rw [e3] at this
      exact this
/-- weights a on the places of a row without end, from i on upward -/
def wv (n : Nat) (a f : Nat → Int) (i : Nat) : Int := sm n fun k => a k * f (i + k)
/-- what follows a rule follows it weighed, too -/
theorem FolF.weigh {p : Int} {rule : List Int} {f : Nat → Int} {n : Nat} (h : FolF p rule f n) (m : Nat) (a : Nat → Int) : FolF p rule (wv m a f) n := by
  intro i
  by_cases hL : rule.length = 0
  · have e : sm rule.length (fun k => gd rule k * wv m a f (n + rule.length + i - 1 - k)) = 0 := by rw [hL]; rfl
    rw [e]
    have z : p ∣ wv m a f (n + rule.length + i) := sm_dvd fun k _ => by
      have q := h (i + k)
      have e2 : sm rule.length (fun j => gd rule j * f (n + rule.length + (i + k) - 1 - j)) = 0 := by rw [hL]; rfl
      rw [e2, Int.sub_zero] at q
      have e3 : n + rule.length + (i + k) = n + rule.length + i + k := by omega
      rw [e3] at q
      exact Int.dvd_trans q ⟨a k, Int.mul_comm _ _⟩
    rw [Int.sub_zero]
    exact z
  have e : sm rule.length (fun j => gd rule j * wv m a f (n + rule.length + i - 1 - j)) = sm m (fun k => a k * sm rule.length fun j => gd rule j * f (n + rule.length + i + k - 1 - j)) := by
    have e1 : sm rule.length (fun j => gd rule j * wv m a f (n + rule.length + i - 1 - j)) = sm rule.length (fun j => sm m fun k => gd rule j * (a k * f (n + rule.length + i - 1 - j + k))) := sm_congr fun j _ => by
      unfold wv
      rw [sm_mul]
    rw [e1, sm_swap]
    refine sm_congr fun k _ => ?_
    rw [← sm_mul]
    refine sm_congr fun j hj => ?_
    have e2 : n + rule.length + i - 1 - j + k = n + rule.length + i + k - 1 - j := by omega
    rw [e2]
    grind
  rw [e]
  unfold wv
  rw [← sm_sub]
  refine sm_dvd fun k _ => ?_
  have q := h (i + k)
  have e3 : n + rule.length + (i + k) = n + rule.length + i + k := by omega
  rw [e3] at q
  obtain ⟨c, hc⟩ := q
  exact ⟨a k * c, by grind⟩

theorem ext_gd_eq {l m : List Int} (hl : l.length = m.length) (h : ∀ k, k < l.length → gd l k = gd m k) : l = m := SR.ext_gd' hl h
theorem sm_rev (f : Nat → Int) : ∀ n, sm n f = sm n (fun k => f (n - 1 - k))
  | 0 => rfl
  | n + 1 => by
    rw [sm_head (fun k => f (n + 1 - 1 - k)) n]
    show sm n f + f n = _
    rw [sm_rev f n]
    have e : sm n (fun k => f (n + 1 - 1 - (k + 1))) = sm n (fun k => f (n - 1 - k)) := sm_congr fun k _ => by
      have : n + 1 - 1 - (k + 1) = n - 1 - k := by omega
      rw [this]
    rw [e]
    have e2 : n + 1 - 1 - 0 = n := by omega
    rw [e2]; omega
theorem weigh_eq (t : List Int) (f : Nat → Int) (k : Nat) : wv (t.length + 1) (fun k => if k = t.length then 1 else - gd t (t.length - 1 - k)) f (0 + k) = f (t.length + k) - sm t.length (fun j => gd t j * f (t.length + k - 1 - j)) := by
  unfold wv
  show sm t.length (fun j => (if j = t.length then 1 else - gd t (t.length - 1 - j)) * f (0 + k + j)) + (if t.length = t.length then 1 else - gd t (t.length - 1 - t.length)) * f (0 + k + t.length) = _
  rw [if_pos rfl]
  have e : sm t.length (fun j => (if j = t.length then 1 else - gd t (t.length - 1 - j)) * f (0 + k + j)) = - sm t.length (fun j => gd t j * f (t.length + k - 1 - j)) := by
    rw [sm_rev, ← sm_neg]
    refine sm_congr fun j hj => ?_
    rw [if_neg (by omega)]
    have e1 : t.length - 1 - (t.length - 1 - j) = j := by omega
    have e2 : 0 + k + (t.length - 1 - j) = t.length + k - 1 - j := by omega
    rw [e1, e2, Int.neg_mul]
  rw [e]
  have e3 : 0 + k + t.length = t.length + k := by omega
  rw [e3]; omega

/-! ### a row that is carried on -/
/-- k more numbers -/
def ext (p : Int) (rule row : List Int) : Nat → List Int
  | 0 => row
  | k + 1 => ext p rule row k ++ [due p rule (ext p rule row k) (ext p rule row k).length]
theorem ext_len (p : Int) (rule row : List Int) : ∀ k, (ext p rule row k).length = row.length + k
  | 0 => rfl
  | k + 1 => by
    show (ext p rule row k ++ [_]).length = _
    rw [List.length_append, ext_len p rule row k]; rfl
theorem ext_rests {p : Int} (h0 : 0 < p) {rule row : List Int} (h : Rests p row) : ∀ k, Rests p (ext p rule row k)
  | 0 => h
  | k + 1 => (ext_rests h0 h k).app (Rests.one (due_rest h0 _ _ _).1 (due_rest h0 _ _ _).2)
theorem ext_gd {p : Int} {rule row : List Int} {i : Nat} : ∀ {k m : Nat}, k ≤ m → i < row.length + k → gd (ext p rule row m) i = gd (ext p rule row k) i := by
  intro k m hkm hi
  obtain ⟨d, rfl⟩ : ∃ d, m = k + d := ⟨m - k, by omega⟩
  clear hkm
  induction d with
  | zero => rfl
  | succ d ih =>
    show gd (ext p rule row (k + d) ++ [_]) i = _
    rw [gd_left (by rw [ext_len]; omega), ih]
/-- the i-th number, however far -/
def at_ (p : Int) (rule row : List Int) (i : Nat) : Int := gd (ext p rule row (i + 1)) i
theorem at_gd {p : Int} {rule row : List Int} {i k : Nat} (h : i < row.length + k) : gd (ext p rule row k) i = at_ p rule row i := by
  unfold at_
  by_cases c : k ≤ i + 1
  · rw [ext_gd c h]
  · rw [ext_gd (k := i + 1) (m := k) (by omega) (by omega)]
theorem at_start {p : Int} {rule row : List Int} {i : Nat} (h : i < row.length) : at_ p rule row i = gd row i := by
  rw [← at_gd (k := 0) (by omega)]; rfl
theorem at_rest {p : Int} (h0 : 0 < p) {rule row : List Int} (h : Rests p row) (i : Nat) : 0 ≤ at_ p rule row i ∧ at_ p rule row i < p := (ext_rests h0 h _).gd h0 _
theorem due_at {p : Int} {rule row : List Int} {i k : Nat} (h1 : rule.length ≤ i) (h : i ≤ row.length + k) : due p rule (ext p rule row k) i = sm rule.length (fun j => gd rule j * at_ p rule row (i - 1 - j)) % p := by
  unfold due tellS
  congr 1
  exact sm_congr fun j hj => by rw [at_gd (by omega)]
theorem at_next {p : Int} {rule row : List Int} {i : Nat} (h : row.length ≤ i) (hl : rule.length ≤ i) : at_ p rule row i = sm rule.length (fun j => gd rule j * at_ p rule row (i - 1 - j)) % p := by
  obtain ⟨d, rfl⟩ : ∃ d, i = row.length + d := ⟨i - row.length, by omega⟩
  rw [← at_gd (k := d + 1) (by omega)]
  show gd (ext p rule row d ++ [due p rule (ext p rule row d) (ext p rule row d).length]) (row.length + d) = _
  have e : row.length + d = (ext p rule row d).length := by rw [ext_len]
  rw [e, gd_last, due_at (by omega) (by rw [ext_len]; omega)]
/-- as a row without end -/
theorem at_folF {p : Int} {rule row : List Int} (hl : row.length ≤ rule.length) : FolF p rule (at_ p rule row) 0 := by
  intro i
  rw [at_next (i := 0 + rule.length + i) (by omega) (by omega)]
  exact dvd_emod _ _
/-- a row that follows the rule is its own beginning carried on -/
theorem at_own {p : Int} {rule row : List Int} (hl : rule.length ≤ row.length) (f : Fol p rule row) : FolF p rule (at_ p rule row) 0 := by
  intro i
  by_cases c : 0 + rule.length + i < row.length
  · have z := f (0 + rule.length + i) (by omega) c
    rw [at_start c, ← z]
    unfold due tellS
    have e : sm rule.length (fun k => gd rule k * gd row (0 + rule.length + i - 1 - k)) = sm rule.length (fun k => gd rule k * at_ p rule row (0 + rule.length + i - 1 - k)) := sm_congr fun k hk => by rw [at_start (by omega)]
    rw [e]
    exact dvd_emod _ _
  · rw [at_next (i := 0 + rule.length + i) (by omega) (by omega)]
    exact dvd_emod _ _
theorem ext_fol {p : Int} {rule row : List Int} (hl : row.length ≤ rule.length) (k : Nat) : Fol p rule (ext p rule row k) := by
  intro i h1 h2
  rw [ext_len] at h2
  rw [due_at h1 (by omega), at_gd h2, at_next (by omega) h1]

/-! ### there is only one -/
/-- two rules of one length that a row of twice as many numbers follows, and none shorter: they are alike -/
theorem only_one {p : Int} (hp : Pr p) {a b row : List Int} (ha : Rests p a) (hb : Rests p b) (hr : Rests p row) (hl : a.length = b.length) (h2 : 2 * a.length ≤ row.length) (fa : Fol p a row) (fb : Fol p b row)
    (ns : ∀ c : List Int, c.length < a.length → Rests p c → ¬ Fol p c row) : a = b := by
  have h0 : 0 < p := by have := hp.1; omega
  refine Classical.byContradiction fun hne => ?_
  -- the row without end, by a
  have F : FolF p a (at_ p a row) 0 := at_own (by omega) fa
  -- the difference, weighed upward: place k of it is for the number L - 1 - k ahead
  have hex : ∃ k, k < a.length ∧ gd a k ≠ gd b k := Classical.byContradiction fun h => hne (ext_gd_eq hl fun k hk => Classical.byContradiction fun h2 => h ⟨k, hk, h2⟩)
  -- the first place of difference
  have hmin : ∃ j, j < a.length ∧ gd a j ≠ gd b j ∧ ∀ k, k < j → gd a k = gd b k := by
    obtain ⟨k, hk⟩ := hex
    induction k using Nat.strongRecOn with
    | ind k ih =>
      by_cases c : ∃ m, m < k ∧ gd a m ≠ gd b m
      · obtain ⟨m, hm, hd⟩ := c
        exact ih m hm ⟨by omega, hd⟩
      · exact ⟨k, hk.1, hk.2, fun m hm => Classical.byContradiction fun h => c ⟨m, hm, h⟩⟩
  obtain ⟨j, hj, hd, hlow⟩ := hmin
  -- u i: the difference weighed at the window that begins at i
  have W : ∀ i, p ∣ wv a.length (fun k => gd a (a.length - 1 - k) - gd b (a.length - 1 - k)) (at_ p a row) (0 + i) := by
    refine (F.weigh a.length _).zero fun i hi => ?_
    have z1 := fa (a.length + i) (by omega) (by omega)
    have z2 := fb (a.length + i) (by omega) (by omega)
    have z3 : tellS a row (a.length + i) % p = tellS b row (a.length + i) % p := z1.trans z2.symm
    have z4 := dvd_of_emod_eq z3
    have e : wv a.length (fun k => gd a (a.length - 1 - k) - gd b (a.length - 1 - k)) (at_ p a row) (0 + i) = tellS a row (a.length + i) - tellS b row (a.length + i) := by
      unfold tellS wv
      rw [← hl, ← sm_sub, sm_rev]
      refine sm_congr fun k hk => ?_
      show (gd a (a.length - 1 - (a.length - 1 - k)) - gd b (a.length - 1 - (a.length - 1 - k))) * at_ p a row (0 + i + (a.length - 1 - k)) = _
      have e1 : a.length - 1 - (a.length - 1 - k) = k := by omega
      have e2 : 0 + i + (a.length - 1 - k) = a.length + i - 1 - k := by omega
      rw [e1, e2, at_start (by omega)]
      grind
    rw [e]
    exact z4
  -- so a shorter rule is followed
  have nz : ¬ p ∣ gd a j - gd b j := fun h => hd (rest_eq (ha.gd h0 j) (hb.gd h0 j) h)
  obtain ⟨x, _, _, hx⟩ := inv_ex hp nz
  obtain ⟨L, hL⟩ : ∃ L, L = a.length - 1 - j := ⟨_, rfl⟩
  refine ns (mk L fun k => (-(x * (gd a (j + 1 + k) - gd b (j + 1 + k)))) % p) (by rw [mk_len]; omega) (Rests.mk fun k _ => emod_rest h0 _) ?_
  rw [fol_iff h0 hr]
  intro i h1 h3
  rw [mk_len] at h1
  rw [cv_ahead]
  have w := W (i - L)
  -- the window begins at i - L: its place L is i
  have e : wv a.length (fun k => gd a (a.length - 1 - k) - gd b (a.length - 1 - k)) (at_ p a row) (0 + (i - L)) = (gd a j - gd b j) * gd row i + sm L (fun k => (gd a (j + 1 + k) - gd b (j + 1 + k)) * gd row (i - 1 - k)) := by
    unfold wv
    obtain ⟨m, hm⟩ : ∃ m, a.length = L + 1 + m := ⟨j, by omega⟩
    rw [hm, sm_split, sm_zero (n := m) fun k hk => by
      have : L + 1 + m - 1 - (L + 1 + k) < j := by omega
      show (gd a (L + 1 + m - 1 - (L + 1 + k)) - gd b (L + 1 + m - 1 - (L + 1 + k))) * at_ p a row (0 + (i - L) + (L + 1 + k)) = 0
      rw [hlow _ this, Int.sub_self, Int.zero_mul]]
    show sm L (fun k => (gd a (L + 1 + m - 1 - k) - gd b (L + 1 + m - 1 - k)) * at_ p a row (0 + (i - L) + k)) + (gd a (L + 1 + m - 1 - L) - gd b (L + 1 + m - 1 - L)) * at_ p a row (0 + (i - L) + L) + 0 = _
    have e1 : L + 1 + m - 1 - L = j := by omega
    have e2 : 0 + (i - L) + L = i := by omega
    rw [e1, e2, at_start h3]
    have e3 : sm L (fun k => (gd a (L + 1 + m - 1 - k) - gd b (L + 1 + m - 1 - k)) * at_ p a row (0 + (i - L) + k)) = sm L (fun k => (gd a (j + 1 + k) - gd b (j + 1 + k)) * gd row (i - 1 - k)) := by
      rw [sm_rev]
      refine sm_congr fun k hk => ?_
      have e4 : L + 1 + m - 1 - (L - 1 - k) = j + 1 + k := by omega
      have e5 : 0 + (i - L) + (L - 1 - k) = i - 1 - k := by omega
      rw [e4, e5, at_start (by omega)]
    rw [e3]; omega
  rw [e] at w
  have e6 : p ∣ tellS (mk L fun k => (-(x * (gd a (j + 1 + k) - gd b (j + 1 + k)))) % p) row i - -(x * sm L (fun k => (gd a (j + 1 + k) - gd b (j + 1 + k)) * gd row (i - 1 - k))) := by
    unfold tellS
    rw [mk_len, ← sm_mul, ← sm_neg, ← sm_sub]
    refine sm_dvd fun k hk => ?_
    rw [gd_mk _ hk]
    obtain ⟨c, hc⟩ := dvd_emod p (-(x * (gd a (j + 1 + k) - gd b (j + 1 + k))))
    exact ⟨c * gd row (i - 1 - k), by grind⟩
  obtain ⟨c1, h1'⟩ := w
  obtain ⟨c2, h2'⟩ := e6
  obtain ⟨c3, h3'⟩ := hx
  exact ⟨x * c1 - c2 - c3 * gd row i, by grind⟩

/-! ### learned -/
/-- a rule that the first 2 m numbers follow, no longer than m, gives all numbers of a row that a rule of m weights carries on -/
theorem learned {p : Int} {rule row t : List Int} (hr : row.length = rule.length) (ht : t.length ≤ rule.length) {n : Nat} (hn : rule.length ≤ n) (f : Fol p t (ext p rule row n)) (i : Nat) (hi : t.length ≤ i) :
    p ∣ at_ p rule row i - sm t.length (fun k => gd t k * at_ p rule row (i - 1 - k)) := by
  have F : FolF p rule (at_ p rule row) 0 := at_folF (by omega)
  -- weighed upward: place t.length for the number itself
  have Z := (F.weigh (t.length + 1) (fun k => if k = t.length then 1 else - gd t (t.length - 1 - k))).zero fun k hk => by
    have z := f (t.length + k) (by omega) (by rw [ext_len]; omega)
    have z0 : due p t (ext p rule row n) (t.length + k) = sm t.length (fun j => gd t j * at_ p rule row (t.length + k - 1 - j)) % p := by
      unfold due tellS
      congr 1
      exact sm_congr fun j hj => by rw [at_gd (by omega)]
    rw [z0, at_gd (by omega)] at z
    have y := dvd_emod' p (sm t.length (fun j => gd t j * at_ p rule row (t.length + k - 1 - j)))
    rw [z] at y
    have e : wv (t.length + 1) (fun k => if k = t.length then 1 else - gd t (t.length - 1 - k)) (at_ p rule row) (0 + k) = at_ p rule row (t.length + k) - sm t.length (fun j => gd t j * at_ p rule row (t.length + k - 1 - j)) := weigh_eq t _ k
    rw [e]
    obtain ⟨c, hc⟩ := y
    exact ⟨-c, by grind⟩
  have z := Z (i - t.length)
  have e := weigh_eq t (at_ p rule row) (i - t.length)
  rw [e] at z
  have e2 : t.length + (i - t.length) = i := by omega
  rw [e2] at z
  exact z
end SR
/-! The primes of the laws: trial, and Lucas' test for the great ones. Plain Lean. -/
namespace SR

def PrN (p : Nat) : Prop := 2 ≤ p ∧ ∀ d : Nat, d ∣ p → d = 1 ∨ d = p
theorem PrN.pr {p : Nat} (h : PrN p) : Pr (p : Int) := by
  refine ⟨by have := h.1; omega, fun d h0 hd => ?_⟩
  obtain ⟨n, rfl⟩ : ∃ n : Nat, d = (n : Int) := ⟨d.toNat, by omega⟩
  rcases h.2 n (Int.ofNat_dvd.mp hd) with e | e
  · exact .inl (by omega)
  · exact .inr (by omega)
/-- no divisor whose square is at most the number -/
theorem prN_of {n : Nat} (h2 : 2 ≤ n) (h : ∀ k, 2 ≤ k → k * k ≤ n → ¬ k ∣ n) : PrN n := by
  refine ⟨h2, fun d hd => ?_⟩
  obtain ⟨e, he⟩ := hd
  by_cases c1 : d = 1
  · exact .inl c1
  by_cases c2 : e = 1
  · subst c2; exact .inr (by omega)
  exfalso
  have hd0 : d ≠ 0 := fun z => by subst z; omega
  have he0 : e ≠ 0 := fun z => by subst z; omega
  rcases Nat.le_total d e with c | c
  · exact h d (by omega) (by rw [he]; exact Nat.mul_le_mul_left d c) ⟨e, he⟩
  · exact h e (by omega) (by rw [he]; exact Nat.mul_le_mul_right e c) ⟨d, by rw [Nat.mul_comm]; exact he⟩
/-- trial of lo, .. lo + 2 ^ k - 1 -/
def trial (n : Nat) : Nat → Nat → Bool
  | 0, lo => decide (n < lo * lo) || n % lo != 0
  | k + 1, lo => trial n k lo && trial n k (lo + 2 ^ k)
theorem trial_ok {n : Nat} : ∀ {k lo : Nat}, trial n k lo = true → ∀ m, lo ≤ m → m < lo + 2 ^ k → m * m ≤ n → ¬ m ∣ n
  | 0, lo, h, m, h1, h2, h3 => by
    have e : m = lo := by simp at h2; omega
    subst e
    unfold trial at h
    rw [Bool.or_eq_true] at h
    rcases h with h | h
    · have := of_decide_eq_true h; omega
    · intro hd
      have := Nat.mod_eq_zero_of_dvd hd
      rw [this] at h
      exact absurd h (by decide)
  | k + 1, lo, h, m, h1, h2, h3 => by
    unfold trial at h
    rw [Bool.and_eq_true] at h
    have e : 2 ^ (k + 1) = 2 ^ k + 2 ^ k := by rw [Nat.pow_succ]; omega
    by_cases c : m < lo + 2 ^ k
    · exact trial_ok h.1 m h1 c h3
    · exact trial_ok h.2 m (by omega) (by omega) h3
theorem prN_trial {n : Nat} (k : Nat) (h2 : 2 ≤ n) (hs : n < (2 + 2 ^ k) * (2 + 2 ^ k)) (h : trial n k 2 = true) : PrN n :=
  prN_of h2 fun m h3 h4 => by
    refine trial_ok h m h3 ?_ h4
    refine Classical.byContradiction fun c => ?_
    have : (2 + 2 ^ k) * (2 + 2 ^ k) ≤ m * m := Nat.mul_le_mul (by omega) (by omega)
    omega

/-! ### powers -/
def powm (m : Nat) : Nat → Nat → Nat → Nat
  | 0, _, _ => 1 % m
  | f + 1, a, e => if e = 0 then 1 % m else if e % 2 = 1 then a * powm m f (a * a % m) (e / 2) % m else powm m f (a * a % m) (e / 2)
theorem powm_eq (m : Nat) : ∀ (f a e : Nat), e < 2 ^ f → powm m f a e = a ^ e % m
  | 0, a, e, h => by
    have e0 : e = 0 := by simp at h; omega
    subst e0; rfl
  | f + 1, a, e, h => by
    have hh : e / 2 < 2 ^ f := by rw [Nat.pow_succ] at h; omega
    have ih := powm_eq m f (a * a % m) (e / 2) hh
    have sq : (a * a % m) ^ (e / 2) % m = a ^ (2 * (e / 2)) % m := by
      rw [Nat.pow_mod, Nat.mod_mod, ← Nat.pow_mod, Nat.pow_mul, Nat.pow_two]
    unfold powm
    by_cases c : e = 0
    · rw [if_pos c, c]; rfl
    · rw [if_neg c, ih, sq]
      by_cases d : e % 2 = 1
      · rw [if_pos d]
        have e2 : e = 2 * (e / 2) + 1 := by omega
        have e3 : a ^ e = a * a ^ (2 * (e / 2)) := by
          rw [Nat.mul_comm, ← Nat.pow_succ]; exact congrArg (a ^ ·) e2
        rw [e3, Nat.mul_mod, Nat.mod_mod, ← Nat.mul_mod]
      · rw [if_neg d]
        have e2 : 2 * (e / 2) = e := by omega
        rw [e2]
/-- one to a common divisor of the exponents -/
theorem pow_gcd {a d : Nat} : ∀ m n : Nat, a ^ m % d = 1 % d → a ^ n % d = 1 % d → a ^ Nat.gcd m n % d = 1 % d := by
  intro m n
  induction m, n using Nat.gcd.induction with
  | H0 n => intro _ h; rw [Nat.gcd_zero_left]; exact h
  | H1 m n hm ih =>
    intro h1 h2
    rw [Nat.gcd_rec]
    refine ih ?_ h1
    have e : n = m * (n / m) + n % m := (Nat.div_add_mod n m).symm
    have e2 : a ^ n % d = a ^ (n % m) % d := by
      have e3 : a ^ n = (a ^ m) ^ (n / m) * a ^ (n % m) := by rw [← Nat.pow_mul, ← Nat.pow_add]; exact congrArg (a ^ ·) e
      rw [e3, Nat.mul_mod, Nat.pow_mod, h1, ← Nat.pow_mod, Nat.one_pow, ← Nat.mul_mod, Nat.one_mul]
    rw [← e2]; exact h2
theorem hole : ∀ (r m : Nat) (f : Nat → Nat), (∀ i, i < m → f i < r) → (∀ i j, i < j → j < m → f i ≠ f j) → m ≤ r
  | 0, m, f, h, _ => by
    cases m with
    | zero => exact Nat.le_refl _
    | succ m => exact absurd (h 0 (by omega)) (by omega)
  | r + 1, m, f, h, hi => by
    cases m with
    | zero => omega
    | succ m =>
      by_cases c : ∃ i0, i0 < m + 1 ∧ f i0 = r
      · obtain ⟨i0, h0, e0⟩ := c
        have inj : ∀ i j, i < m + 1 → j < m + 1 → f i = f j → i = j := fun i j a b e => by
          rcases Nat.lt_trichotomy i j with z | z | z
          · exact absurd e (hi i j z b)
          · exact z
          · exact absurd e.symm (hi j i z a)
        have := hole r m (fun i => if i = i0 then f m else f i) (fun i hm => ?_) (fun i j hij hj => ?_)
        · omega
        · show (if i = i0 then f m else f i) < r
          split
          · have a := h m (by omega)
            have b : f m ≠ r := fun e => by
              have := inj m i0 (by omega) h0 (e.trans e0.symm); omega
            omega
          · have a := h i (by omega)
            have b : f i ≠ r := fun e => by
              have := inj i i0 (by omega) h0 (e.trans e0.symm)
              contradiction
            omega
        · show (if i = i0 then f m else f i) ≠ (if j = i0 then f m else f j)
          intro e
          split at e
          · split at e
            · omega
            · have := inj m j (by omega) (by omega) e; omega
          · split at e
            · have := inj i m (by omega) (by omega) e; omega
            · have := inj i j (by omega) (by omega) e; omega
      · have := hole r (m + 1) f (fun i hm => by
          have a := h i hm
          have b : f i ≠ r := fun e => c ⟨i, hm, e⟩
          omega) hi
        omega
/-- a divisor of a product of primes has one of them -/
theorem has_prime {t : Nat} (ht : t ≠ 1) : ∀ {l : List Nat}, (∀ q ∈ l, PrN q) → t ∣ l.foldr (· * ·) 1 → ∃ q ∈ l, q ∣ t
  | [], _, h => absurd (Nat.dvd_one.mp h) ht
  | q :: l, hp, h => by
    have hq := hp q List.mem_cons_self
    by_cases c : q ∣ t
    · exact ⟨q, List.mem_cons_self, c⟩
    · have cop : Nat.Coprime t q := by
        rcases hq.2 _ (Nat.gcd_dvd_right t q) with e | e
        · exact e
        · exact absurd (e ▸ Nat.gcd_dvd_left t q) c
      obtain ⟨x, hx, d⟩ := has_prime ht (l := l) (fun x hx => hp x (List.mem_cons_of_mem _ hx)) (cop.dvd_of_dvd_mul_left h)
      exact ⟨x, List.mem_cons_of_mem _ hx, d⟩
/-- Lucas: p - 1 is the product of the primes of l, a is of order p - 1 -/
theorem lucas {p a : Nat} (l : List Nat) (h3 : 3 ≤ p) (hl : ∀ q ∈ l, PrN q) (hprod : l.foldr (· * ·) 1 = p - 1) (h1 : a ^ (p - 1) % p = 1) (hq : ∀ q ∈ l, Nat.gcd (a ^ ((p - 1) / q) % p + (p - 1)) p = 1) : PrN p := by
  refine ⟨by omega, fun d hd => ?_⟩
  by_cases c1 : d = 1
  · exact .inl c1
  right
  have hd0 : 0 < d := Nat.pos_of_dvd_of_pos hd (by omega)
  have one : ∀ {x : Nat}, x % p = 1 → x % d = 1 % d := fun {x} h => by
    have : x % p % d = x % d := Nat.mod_mod_of_dvd x hd
    rw [← this, h]
  have u1 : a ^ (p - 1) % d = 1 % d := one h1
  -- a is prime to d
  have cop : Nat.Coprime d a := by
    have g0 : a ∣ a ^ (p - 1) := by
      obtain ⟨k, hk⟩ : ∃ k, p - 1 = k + 1 := ⟨p - 2, by omega⟩
      rw [hk, Nat.pow_succ]
      exact ⟨a ^ k, Nat.mul_comm _ _⟩
    have g1 : Nat.gcd d a ∣ a ^ (p - 1) := Nat.dvd_trans (Nat.gcd_dvd_right d a) g0
    have g2 : Nat.gcd d a ∣ a ^ (p - 1) % d := (Nat.dvd_mod_iff (Nat.gcd_dvd_left d a)).mpr g1
    rw [u1] at g2
    have g3 : Nat.gcd d a ∣ 1 := (Nat.dvd_mod_iff (Nat.gcd_dvd_left d a)).mp g2
    exact Nat.dvd_one.mp g3
  have ne : ∀ k, 0 < k → k < p - 1 → a ^ k % d ≠ 1 % d := fun k hk0 hk h => by
    have g := pow_gcd k (p - 1) h u1
    obtain ⟨t, ht⟩ := Nat.gcd_dvd_right k (p - 1)
    have gk : Nat.gcd k (p - 1) ≤ k := Nat.le_of_dvd hk0 (Nat.gcd_dvd_left k (p - 1))
    have t1 : t ≠ 1 := fun e => by rw [e] at ht; omega
    obtain ⟨q, hm, s, hs⟩ := has_prime t1 hl (by rw [hprod]; exact ⟨Nat.gcd k (p - 1), by rw [Nat.mul_comm]; exact ht⟩)
    have q2 := (hl q hm).1
    have e : (p - 1) / q = Nat.gcd k (p - 1) * s := by
      have e2 : p - 1 = q * (Nat.gcd k (p - 1) * s) := by
        rw [← Nat.mul_assoc, Nat.mul_comm q, Nat.mul_assoc, ← hs]; exact ht
      rw [show (p - 1) / q = q * (Nat.gcd k (p - 1) * s) / q from congrArg (· / q) e2]
      exact Nat.mul_div_cancel_left _ (by omega)
    have v : a ^ ((p - 1) / q) % d = 1 % d := by
      rw [e, Nat.pow_mul, Nat.pow_mod, g, ← Nat.pow_mod, Nat.one_pow]
    have w : d ∣ a ^ ((p - 1) / q) % p + (p - 1) := by
      have m1 : a ^ ((p - 1) / q) % p % d = 1 % d := by rw [Nat.mod_mod_of_dvd _ hd]; exact v
      refine Nat.dvd_of_mod_eq_zero ?_
      rw [Nat.add_mod, m1, ← Nat.add_mod]
      have e5 : 1 + (p - 1) = p := by omega
      rw [e5]
      exact Nat.mod_eq_zero_of_dvd hd
    have z := Nat.dvd_gcd w hd
    rw [hq q hm] at z
    exact c1 (Nat.dvd_one.mp z)
  have inj : ∀ i j, i < j → j < p - 1 → a ^ i % d ≠ a ^ j % d := fun i j hij hj h => by
    refine ne (j - i) (by omega) (by omega) ?_
    have e : a ^ j = a ^ i * a ^ (j - i) := by rw [← Nat.pow_add]; congr 1; omega
    -- d divides a ^ i * (a ^ (j - i) - 1)
    have ha : 1 ≤ a ^ (j - i) := Nat.one_le_iff_ne_zero.mpr fun z => by
      have : a = 0 := by
        refine Classical.byContradiction fun c => ?_
        have := Nat.pow_pos (n := j - i) (Nat.pos_of_ne_zero c)
        omega
      subst this
      rw [Nat.coprime_zero_right] at cop
      exact c1 cop
    have dv : d ∣ a ^ i * (a ^ (j - i) - 1) := by
      have : a ^ i * (a ^ (j - i) - 1) = a ^ j - a ^ i := by rw [Nat.mul_sub, Nat.mul_one, e]
      rw [this]
      have le : a ^ i ≤ a ^ j := by rw [e]; exact Nat.le_mul_of_pos_right _ ha
      exact Nat.dvd_of_mod_eq_zero (Nat.sub_mod_eq_zero_of_mod_eq h.symm)
    have dw : d ∣ a ^ (j - i) - 1 := (Nat.Coprime.pow_right i cop).dvd_of_dvd_mul_left dv
    obtain ⟨c, hc⟩ := dw
    have e4 : a ^ (j - i) = 1 + d * c := by omega
    rw [e4, Nat.add_mul_mod_self_left]
  have big := hole d (p - 1) (fun i => a ^ i % d) (fun i _ => Nat.mod_lt _ hd0) inj
  obtain ⟨e, he⟩ := hd
  have e1 : e = 1 := by
    refine Classical.byContradiction fun c => ?_
    have : e ≠ 0 := fun z => by subst z; omega
    have : d * 2 ≤ d * e := Nat.mul_le_mul_left d (by omega)
    omega
  subst e1; omega
/-- the test, to be run -/
def lucasTest (p a : Nat) (l : List Nat) : Bool :=
  decide (3 ≤ p) && decide (p < 2 ^ 64) && decide (l.foldr (· * ·) 1 = p - 1) && decide (powm p 64 a (p - 1) = 1) && l.all fun q => decide (Nat.gcd (powm p 64 a ((p - 1) / q) + (p - 1)) p = 1)
theorem lucas_test {p a : Nat} {l : List Nat} (h : lucasTest p a l = true) (hl : ∀ q ∈ l, PrN q) : PrN p := by
  unfold lucasTest at h
  simp only [Bool.and_eq_true, decide_eq_true_eq, List.all_eq_true] at h
  obtain ⟨⟨⟨⟨h1, h2⟩, h3⟩, h4⟩, h5⟩ := h
  refine lucas (a := a) l h1 hl h3 ?_ fun q hq => ?_
  · rw [← powm_eq p 64 a (p - 1) (by omega)]; exact h4
  · have := h5 q hq
    rw [powm_eq p 64 a ((p - 1) / q) (Nat.lt_of_le_of_lt (Nat.div_le_self _ _) (by omega))] at this
    exact this
theorem small_pr {l : List Nat} (h : (l.all fun q => decide (2 ≤ q) && decide (q < 66 * 66) && trial q 6 2) = true) : ∀ q ∈ l, PrN q := fun q hq => by
  have z := List.all_eq_true.mp h q hq
  simp only [Bool.and_eq_true, decide_eq_true_eq] at z
  exact prN_trial 6 z.1.1 (by have := z.1.2; show q < _; omega) z.2
theorem q1 : PrN 500000003 := prN_trial 15 (by decide) (by decide) (by decide +kernel)
theorem q2 : PrN 124847 := prN_trial 9 (by decide) (by decide) (by decide +kernel)
theorem q3 : PrN 182041 := prN_trial 9 (by decide) (by decide) (by decide +kernel)
theorem q4 : PrN 26005097 := prN_trial 13 (by decide) (by decide) (by decide +kernel)
theorem q5 : PrN 26209 := prN_trial 8 (by decide) (by decide) (by decide +kernel)
theorem q6 : PrN 32779 := prN_trial 8 (by decide) (by decide) (by decide +kernel)
theorem q7 : PrN 166667 := prN_trial 9 (by decide) (by decide) (by decide +kernel)
theorem all_app {l m : List Nat} (h1 : ∀ q ∈ l, PrN q) (h2 : ∀ q ∈ m, PrN q) : ∀ q ∈ l ++ m, PrN q := fun q h => (List.mem_append.mp h).elim (h1 q) (h2 q)
theorem all_one {q : Nat} (h : PrN q) : ∀ x ∈ [q], PrN x := fun x hx => by rw [List.mem_singleton] at hx; subst hx; exact h
theorem pr2 : PrN 2 := small_pr (l := [2]) (by decide +kernel) 2 (by simp)
theorem pr3 : PrN 3 := small_pr (l := [3]) (by decide +kernel) 3 (by simp)
theorem pr5 : PrN 5 := small_pr (l := [5]) (by decide +kernel) 5 (by simp)
theorem pr7 : PrN 7 := small_pr (l := [7]) (by decide +kernel) 7 (by simp)
theorem prA : PrN 65537 := lucas_test (a := 3) (l := List.replicate 16 2) (by decide +kernel) (small_pr (by decide +kernel))
theorem prB : PrN 998244353 := lucas_test (a := 3) (l := List.replicate 23 2 ++ [7, 17]) (by decide +kernel) (small_pr (by decide +kernel))
theorem prC : PrN 1000000007 := lucas_test (a := 5) (l := [2] ++ [500000003]) (by decide +kernel) (all_app (small_pr (by decide +kernel)) (all_one q1))
theorem prD : PrN 2147483647 := lucas_test (a := 7) (l := [2, 3, 3, 7, 11, 31, 151, 331]) (by decide +kernel) (small_pr (by decide +kernel))
theorem prE : PrN 999999999989 := lucas_test (a := 2) (l := [2, 2, 11] ++ ([124847] ++ [182041])) (by decide +kernel) (all_app (small_pr (by decide +kernel)) (all_app (all_one q2) (all_one q3)))
theorem prF : PrN 1000000000039 := lucas_test (a := 3) (l := [2, 3, 13, 17, 29] ++ [26005097]) (by decide +kernel) (all_app (small_pr (by decide +kernel)) (all_one q4))
theorem prG : PrN 1000000000000000009 := lucas_test (a := 7) (l := [2, 2, 2, 3, 3, 97] ++ ([26209] ++ ([32779] ++ [166667]))) (by decide +kernel) (all_app (small_pr (by decide +kernel)) (all_app (all_one q5) (all_app (all_one q6) (all_one q7))))
theorem prH : PrN 2305843009213693951 := lucas_test (a := 37) (l := [2, 3, 3, 5, 5, 7, 11, 13, 31, 41, 61, 151, 331, 1321]) (by decide +kernel) (small_pr (by decide +kernel))
/-- the search for a prime from below comes to an end here -/
theorem prZ : PrN 1000003 := prN_trial 10 (by decide) (by decide) (by decide +kernel)
/-- what a law's prime is -/
def Law (p : Int) : Prop := Pr p ∧ p ≤ 2305843009213693951
end SR
/-! Far numbers: how often each number of the start is taken. Plain Lean. -/
namespace SR

/-- the list, weighed by a row without end, its first c places -/
def wt (w : List Int) (c : Nat) (f : Nat → Int) : Int := sm c fun i => gd w i * f i
theorem wt_set {w : List Int} {c j : Nat} {v : Int} {f : Nat → Int} (h1 : j < c) (h2 : j < w.length) : wt (w.set j v) c f = wt w c f + (v - gd w j) * f j := by
  have e : wt (w.set j v) c f - wt w c f = (v - gd w j) * f j := by
    unfold wt
    rw [← sm_sub, sm_one h1 fun k hk hne => by rw [gd_set_ne (Ne.symm hne)]; omega]
    rw [gd_set_self h2]
    grind
  omega
theorem wt_mod {p : Int} {w : List Int} {c j : Nat} {v : Int} {f : Nat → Int} (h1 : j < c) (h2 : j < w.length) : p ∣ wt (w.set j ((gd w j + v) % p)) c f - (wt w c f + v * f j) := by
  rw [wt_set h1 h2]
  obtain ⟨k, hk⟩ := dvd_emod p (gd w j + v)
  exact ⟨k * f j, by grind⟩
theorem Rests.set {p : Int} (h0 : 0 < p) {w : List Int} (h : Rests p w) (j : Nat) (v : Int) : Rests p (w.set j (v % p)) := fun x hx => by
  rcases List.mem_or_eq_of_mem_set hx with q | q
  · exact h x q
  · subst q; exact emod_rest h0 _
/-- often stands for the place n -/
structure Rep (p : Int) (rule often : List Int) (n : Nat) : Prop where
  len : often.length = rule.length
  rests : Rests p often
  rep : ∀ f : Nat → Int, FolF p rule f 0 → p ∣ wt often rule.length f - f n
theorem FolF.shift {p : Int} {rule : List Int} {f : Nat → Int} (h : FolF p rule f 0) (hL : rule.length ≠ 0) (t : Nat) : FolF p rule (fun i => f (t + i)) 0 := by
  intro i
  have z := h (t + i)
  have e1 : 0 + rule.length + (t + i) = t + (0 + rule.length + i) := by omega
  rw [e1] at z
  have e2 : sm rule.length (fun k => gd rule k * f (t + (0 + rule.length + i) - 1 - k)) = sm rule.length (fun k => gd rule k * f (t + (0 + rule.length + i - 1 - k))) := sm_congr fun k hk => by
    have : t + (0 + rule.length + i) - 1 - k = t + (0 + rule.length + i - 1 - k) := by omega
    rw [this]
  rw [e2] at z
  exact z
theorem Rep.start {p : Int} (hp : 2 ≤ p) {rule : List Int} (hL : rule.length ≠ 0) : Rep p rule (1 :: List.replicate (rule.length - 1) 0) 0 where
  len := by rw [List.length_cons, List.length_replicate]; omega
  rests := fun x hx => by
    rcases List.mem_cons.mp hx with e | e
    · subst e; omega
    · have := List.eq_of_mem_replicate e
      subst this; omega
  rep := fun f _ => by
    have e : wt (1 :: List.replicate (rule.length - 1) 0) rule.length f = f 0 := by
      unfold wt
      rw [sm_one (j := 0) (by omega) fun k hk hne => by
        obtain ⟨m, rfl⟩ : ∃ m, k = m + 1 := ⟨k - 1, by omega⟩
        rw [gd_succ, gd_rep]; omega]
      show (1 : Int) * f 0 = f 0
      omega
    rw [e, Int.sub_self]
    exact Int.dvd_zero _

/-! ### one step -/
/-- behind k turns of the step's loop -/
structure StepK (p : Int) (rule often found : List Int) (k : Nat) : Prop where
  len : found.length = rule.length
  rests : Rests p found
  rep : ∀ f : Nat → Int, p ∣ wt found rule.length f - (wt (0 :: often.take (rule.length - 1)) rule.length f + gd often (rule.length - 1) * sm k fun j => gd rule j * f (rule.length - 1 - j))
theorem StepK.start {p : Int} (hp : 2 ≤ p) {rule often : List Int} (hL : rule.length ≠ 0) (hl : often.length = rule.length) (hr : Rests p often) : StepK p rule often (0 :: often.take (rule.length - 1)) 0 where
  len := by rw [List.length_cons, List.length_take]; omega
  rests := fun x hx => by
    rcases List.mem_cons.mp hx with e | e
    · subst e; omega
    · exact hr x (List.mem_of_mem_take e)
  rep := fun f => by
    show p ∣ _ - (_ + _ * 0)
    exact ⟨0, by omega⟩
theorem StepK.turn {p : Int} (h0 : 0 < p) {rule often found : List Int} {k : Nat} (h : StepK p rule often found k) (hk : k < rule.length) :
    StepK p rule often (found.set (rule.length - 1 - k) ((gd found (rule.length - 1 - k) + gd often (rule.length - 1) * gd rule k) % p)) (k + 1) where
  len := by rw [List.length_set]; exact h.len
  rests := h.rests.set h0 _ _
  rep := fun f => by
    obtain ⟨a, ha⟩ := h.rep f
    obtain ⟨b, hb⟩ := wt_mod (p := p) (w := found) (c := rule.length) (j := rule.length - 1 - k) (v := gd often (rule.length - 1) * gd rule k) (f := f) (by omega) (by rw [h.len]; omega)
    refine ⟨a + b, ?_⟩
    show _ - (_ + _ * (sm k _ + gd rule k * f (rule.length - 1 - k))) = _
    grind
theorem StepK.done {p : Int} {rule often found : List Int} {n : Nat} (hL : rule.length ≠ 0) (r : Rep p rule often n) (h : StepK p rule often found rule.length) : Rep p rule found (n + 1) where
  len := h.len
  rests := h.rests
  rep := fun f hf => by
    obtain ⟨a, ha⟩ := h.rep f
    obtain ⟨b, hb⟩ := r.rep (fun i => f (1 + i)) (hf.shift hL 1)
    obtain ⟨c, hc⟩ := hf 0
    obtain ⟨L, eL⟩ : ∃ L, rule.length = L + 1 := ⟨rule.length - 1, by omega⟩
    have e1 : wt often rule.length (fun i => f (1 + i)) = wt (0 :: often.take (rule.length - 1)) rule.length f + gd often (rule.length - 1) * f rule.length := by
      unfold wt
      rw [eL, sm_head (fun i => gd (0 :: often.take (L + 1 - 1)) i * f i) L]
      show sm L (fun i => gd often i * f (1 + i)) + gd often L * f (1 + L) = 0 * f 0 + sm L (fun k => gd (often.take (L + 1 - 1)) k * f (k + 1)) + gd often (L + 1 - 1) * f (L + 1)
      have e3 : sm L (fun k => gd (often.take (L + 1 - 1)) k * f (k + 1)) = sm L (fun i => gd often i * f (1 + i)) := sm_congr fun k hk => by
        rw [gd_take (by omega), Nat.add_comm k 1]
      rw [e3, Nat.add_sub_cancel, Nat.add_comm 1 L]; omega
    have e2 : sm rule.length (fun k => gd rule k * f (0 + rule.length + 0 - 1 - k)) = sm rule.length (fun j => gd rule j * f (rule.length - 1 - j)) := sm_congr fun k _ => by
      have : 0 + rule.length + 0 - 1 - k = rule.length - 1 - k := by omega
      rw [this]
    rw [e2] at hc
    have e4 : 0 + rule.length + 0 = rule.length := by omega
    rw [e4] at hc
    have hb : wt often rule.length (fun i => f (1 + i)) - f (1 + n) = p * b := hb
    rw [e1, Nat.add_comm 1 n] at hb
    exact ⟨a + b - gd often (rule.length - 1) * c, by grind⟩

/-! ### twice as far -/
/-- behind k rows and m places of the next of the product's loop -/
structure WideK (p : Int) (often wide : List Int) (size k m : Nat) : Prop where
  len : wide.length = 2 * size - 1
  rests : Rests p wide
  rep : ∀ f : Nat → Int, p ∣ wt wide (2 * size - 1) f - (sm k (fun i => sm size fun j => gd often i * gd often j * f (i + j)) + sm m fun j => gd often k * gd often j * f (k + j))
theorem WideK.start {p : Int} (hp : 2 ≤ p) (often : List Int) (size : Nat) : WideK p often (List.replicate (2 * size - 1) 0) size 0 0 where
  len := List.length_replicate
  rests := fun x hx => by
    have := List.eq_of_mem_replicate hx
    subst this; omega
  rep := fun f => by
    have e : wt (List.replicate (2 * size - 1) 0) (2 * size - 1) f = 0 := sm_zero fun k _ => by rw [gd_rep]; omega
    rw [e]
    show p ∣ (0 : Int) - (0 + 0)
    exact ⟨0, by omega⟩
theorem WideK.turn {p : Int} (h0 : 0 < p) {often wide : List Int} {size k m : Nat} (h : WideK p often wide size k m) (hk : k < size) (hm : m < size) :
    WideK p often (wide.set (k + m) ((gd wide (k + m) + gd often k * gd often m) % p)) size k (m + 1) where
  len := by rw [List.length_set]; exact h.len
  rests := h.rests.set h0 _ _
  rep := fun f => by
    obtain ⟨a, ha⟩ := h.rep f
    obtain ⟨b, hb⟩ := wt_mod (p := p) (w := wide) (c := 2 * size - 1) (j := k + m) (v := gd often k * gd often m) (f := f) (by omega) (by rw [h.len]; omega)
    refine ⟨a + b, ?_⟩
    show _ - (_ + (sm m _ + gd often k * gd often m * f (k + m))) = _
    grind
theorem WideK.next {p : Int} {often wide : List Int} {size k : Nat} (h : WideK p often wide size k size) : WideK p often wide size (k + 1) 0 where
  len := h.len
  rests := h.rests
  rep := fun f => by
    obtain ⟨a, ha⟩ := h.rep f
    refine ⟨a, ?_⟩
    show _ - (sm k _ + sm size _ + 0) = _
    grind
/-- the product stands for twice the place -/
theorem WideK.twice {p : Int} {rule often wide : List Int} {n : Nat} (hL : rule.length ≠ 0) (r : Rep p rule often n) (h : WideK p often wide rule.length rule.length 0) (f : Nat → Int) (hf : FolF p rule f 0) :
    p ∣ wt wide (2 * rule.length - 1) f - f (2 * n) := by
  obtain ⟨a, ha⟩ := h.rep f
  have z1 : p ∣ sm rule.length (fun i => sm rule.length fun j => gd often i * gd often j * f (i + j)) - wt often rule.length (fun i => f (n + i)) := by
    unfold wt
    rw [← sm_sub]
    refine sm_dvd fun i _ => ?_
    obtain ⟨b, hb⟩ := r.rep (fun j => f (i + j)) (hf.shift hL i)
    have e : sm rule.length (fun j => gd often i * gd often j * f (i + j)) = gd often i * wt often rule.length (fun j => f (i + j)) := by
      unfold wt
      rw [← sm_mul]
      exact sm_congr fun j _ => by rw [Int.mul_assoc]
    rw [e]
    show p ∣ _ - gd often i * f (n + i)
    rw [Nat.add_comm n i]
    exact ⟨gd often i * b, by grind⟩
  obtain ⟨b, hb⟩ := z1
  obtain ⟨c, hc⟩ := r.rep (fun j => f (n + j)) (hf.shift hL n)
  have hc : wt often rule.length (fun j => f (n + j)) - f (n + n) = p * c := hc
  have e3 : n + n = 2 * n := by omega
  rw [e3] at hc
  have ha : _ - (_ + (0 : Int)) = p * a := ha
  exact ⟨a + b + c, by grind⟩
/-- the list brought down: places from c on are done with, of place c itself m steps -/
structure DownK (p : Int) (rule wide : List Int) (n c m : Nat) : Prop where
  len : wide.length = 2 * rule.length - 1
  rests : Rests p wide
  rep : ∀ f : Nat → Int, FolF p rule f 0 → p ∣ wt wide c f + gd wide c * (f c - sm m fun j => gd rule j * f (c - 1 - j)) - f (2 * n)
theorem DownK.start {p : Int} {rule often wide : List Int} {n : Nat} (hL : rule.length ≠ 0) (r : Rep p rule often n) (h : WideK p often wide rule.length rule.length 0) : DownK p rule wide n (2 * rule.length - 1) 0 where
  len := h.len
  rests := h.rests
  rep := fun f hf => by
    have z := h.twice hL r f hf
    rw [gd_ge (l := wide) (by rw [h.len]; omega), Int.zero_mul, Int.add_zero]
    exact z
theorem DownK.turn {p : Int} (h0 : 0 < p) {rule wide : List Int} {n c m : Nat} (h : DownK p rule wide n c m) (hc : c < 2 * rule.length - 1) (hc2 : rule.length ≤ c) (hm : m < rule.length) :
    DownK p rule (wide.set (c - 1 - m) ((gd wide (c - 1 - m) + gd wide c * gd rule m) % p)) n c (m + 1) where
  len := by rw [List.length_set]; exact h.len
  rests := h.rests.set h0 _ _
  rep := fun f hf => by
    obtain ⟨a, ha⟩ := h.rep f hf
    obtain ⟨b, hb⟩ := wt_mod (p := p) (w := wide) (c := c) (j := c - 1 - m) (v := gd wide c * gd rule m) (f := f) (by omega) (by rw [h.len]; omega)
    rw [gd_set_ne (by omega : c - 1 - m ≠ c)]
    refine ⟨a + b, ?_⟩
    show _ + gd wide c * (f c - (sm m _ + gd rule m * f (c - 1 - m))) - _ = _
    grind
/-- place c is done with; on to the one below -/
theorem DownK.next {p : Int} {rule wide : List Int} {n c : Nat} (h : DownK p rule wide n (c + 1) rule.length) (hc : rule.length ≤ c + 1) : DownK p rule wide n c 0 where
  len := h.len
  rests := h.rests
  rep := fun f hf => by
    obtain ⟨a, ha⟩ := h.rep f hf
    obtain ⟨b, hb⟩ := hf (c + 1 - rule.length)
    have e1 : 0 + rule.length + (c + 1 - rule.length) = c + 1 := by omega
    rw [e1] at hb
    refine ⟨a - gd wide (c + 1) * b, ?_⟩
    show wt wide c f + gd wide c * (f c - 0) - f (2 * n) = _
    have e2 : wt wide (c + 1) f = wt wide c f + gd wide c * f c := rfl
    rw [e2] at ha
    grind
/-- from the top place: nothing is above it -/
theorem DownK.first {p : Int} {rule wide : List Int} {n c : Nat} (h : DownK p rule wide n (c + 1) 0) (hc : c + 1 = 2 * rule.length - 1) : DownK p rule wide n c 0 where
  len := h.len
  rests := h.rests
  rep := fun f hf => by
    obtain ⟨a, ha⟩ := h.rep f hf
    rw [gd_ge (l := wide) (k := c + 1) (by rw [h.len]; omega), Int.zero_mul, Int.add_zero] at ha
    refine ⟨a, ?_⟩
    show wt wide c f + gd wide c * (f c - 0) - f (2 * n) = _
    have e2 : wt wide (c + 1) f = wt wide c f + gd wide c * f c := rfl
    rw [e2] at ha
    grind
/-- .. down to the rule's length -/
theorem DownK.done {p : Int} {rule wide : List Int} {n c : Nat} (hL : rule.length ≠ 0) (hc : c + 1 = rule.length) (h : DownK p rule wide n c 0) : Rep p rule (wide.take rule.length) (2 * n) where
  len := by rw [List.length_take, h.len]; omega
  rests := h.rests.take _
  rep := fun f hf => by
    obtain ⟨a, ha⟩ := h.rep f hf
    refine ⟨a, ?_⟩
    have e : wt (wide.take rule.length) rule.length f = wt wide c f + gd wide c * f c := by
      have e1 : wt (wide.take rule.length) rule.length f = wt wide (c + 1) f := by
        unfold wt
        rw [hc]
        exact sm_congr fun k hk => by rw [gd_take hk]
      rw [e1]; rfl
    rw [e, ← ha]
    show _ = wt wide c f + gd wide c * (f c - 0) - f (2 * n)
    rw [Int.sub_zero]

/-! ### halves -/
/-- what a list of noughts and ones, the last one first, is worth -/
def val : List Int → Int
  | [] => 0
  | b :: l => b + 2 * val l
def Bits (l : List Int) : Prop := ∀ x ∈ l, x = 0 ∨ x = 1
theorem Bits.val_nonneg : ∀ {l : List Int}, Bits l → 0 ≤ val l
  | [], _ => Int.le_refl _
  | b :: l, h => by
    have z := Bits.val_nonneg (l := l) fun x hx => h x (List.mem_cons_of_mem _ hx)
    rcases h b List.mem_cons_self with e | e <;> (show 0 ≤ b + 2 * val l; omega)
theorem val_app : ∀ (l : List Int) (x : Int), val (l ++ [x]) = val l + 2 ^ l.length * x
  | [], x => by show x + 2 * 0 = 0 + 1 * x; omega
  | b :: l, x => by
    show b + 2 * val (l ++ [x]) = b + 2 * val l + 2 ^ (l.length + 1) * x
    rw [val_app l x, Int.pow_succ]; grind
/-- between two turns of the halving loop -/
structure Halv (n place : Int) (found : List Int) : Prop where
  bits : Bits found
  pl : 0 ≤ place
  eq : val found + 2 ^ found.length * place = n
theorem Halv.turn {n place : Int} {found : List Int} (h : Halv n place found) : Halv n (place / 2) (found ++ [place % 2]) where
  bits := fun x hx => by
    rcases List.mem_append.mp hx with e | e
    · exact h.bits x e
    · rw [List.mem_singleton] at e; subst e; omega
  pl := by have := h.pl; omega
  eq := by
    rw [val_app, List.length_append, ← h.eq]
    show val found + 2 ^ found.length * (place % 2) + 2 ^ (found.length + 1) * (place / 2) = _
    rw [Int.pow_succ]
    have e : place = 2 * (place / 2) + place % 2 := by omega
    have e2 : 2 ^ found.length * place = 2 ^ found.length * (2 * (place / 2) + place % 2) := congrArg (2 ^ found.length * ·) e
    rw [e2]; grind
theorem drop_val {l : List Int} {i : Nat} (h : i < l.length) : val (l.drop i) = gd l i + 2 * val (l.drop (i + 1)) := by
  rw [List.drop_eq_getElem_cons h]
  show l[i] + 2 * val (l.drop (i + 1)) = _
  rw [gd_some (List.getElem?_eq_getElem h)]
/-- the end: the start so often taken is the number at the place -/
theorem Rep.at {p : Int} (h0 : 0 < p) {rule often start : List Int} {n : Nat} (r : Rep p rule often n) (hs : start.length = rule.length) (hr : Rests p start) : wt often rule.length (gd start) % p = at_ p rule start n := by
  have z := r.rep (at_ p rule start) (at_folF (by omega))
  have e : wt often rule.length (gd start) = wt often rule.length (at_ p rule start) := sm_congr fun k hk => by rw [at_start (by omega)]
  rw [e, emod_eq_of_dvd z]
  have := at_rest h0 hr (rule := rule) n
  exact Int.emod_eq_of_lt this.1 this.2
theorem at_nil {p : Int} (i : Nat) : at_ p [] [] i = 0 := by
  rw [at_next (Nat.zero_le _) (Nat.zero_le _)]
  exact Int.zero_emod _
/-- far from far: the numbers from a place on, as many as there are weights, carried on -/
theorem at_at {p : Int} (h0 : 0 < p) {rule start : List Int} (hs : start.length = rule.length) (hr : Rests p start) (n i : Nat) : at_ p rule (mk rule.length fun k => at_ p rule start (n + k)) i = at_ p rule start (n + i) := by
  induction i using Nat.strongRecOn with
  | ind i ih =>
    by_cases c : i < rule.length
    · rw [at_start (by rw [mk_len]; exact c), gd_mk _ c]
    · rw [at_next (by rw [mk_len]; omega) (by omega), at_next (i := n + i) (by omega) (by omega)]
      congr 1
      refine sm_congr fun j hj => ?_
      rw [ih (i - 1 - j) (by omega)]
      have e : n + (i - 1 - j) = n + i - 1 - j := by omega
      rw [e]
end SR
/-! What the walks of all laws share: a callee with its promise, data that is compared, classes. -/
namespace SR
open PySem PySem.Spec PyProof.Rows L2

/-- a def of the top as its callers see it -/
structure Has (P : Program) (w : World) (K : PySem.W.Frag) (mg : Str → Option Value) (base : Heap) (CX : CXT) (k : Nat) (x : Str) (ps : List Str) (sp : Sp) : Prop where
  ex : ∃ f fd, FnOk P w K mg base CX k f fd ps sp ∧ mg x = some (.ref f) ∧ PySem.W.keepIn K (.ref f) = true ∧ Binds K fd ps []
/-- a def of the top as it stands there -/
structure At (K : PySem.W.Frag) (mg : Str → Option Value) (x : Str) (st : Stmt) (ps : List Str) (f : Addr) (fd : FuncData) : Prop where
  fn : Fun K x x st f fd
  mg : mg x = some (.ref f)
  b : Binds K fd ps []
section
variable {P : Program} {w : World} {K : PySem.W.Frag} {mg : Str → Option Value} {base : Heap} {CX : CXT} {k : Nat} {x : Str} {ps : List Str} {sp : Sp} {st : Stmt} {f : Addr} {fd : FuncData}
theorem At.has (a : At K mg x st ps f fd) (F : FnOk P w K mg base CX k f fd ps sp) : Has P w K mg base CX k x ps sp := ⟨f, fd, F, a.mg, a.fn.kp, a.b⟩
theorem Has.imp {sp' : Sp} (h : Has P w K mg base CX k x ps sp) (i : ∀ vs H Q E, sp' vs H Q E → sp vs H Q E) : Has P w K mg base CX k x ps sp' := by
  obtain ⟨f, fd, F, a⟩ := h.ex
  exact ⟨f, fd, F.imp i, a⟩
theorem Has.mono {j : Nat} (h : Has P w K mg base CX j x ps sp) (l : j ≤ k) : Has P w K mg base CX k x ps sp := by
  obtain ⟨f, fd, F, a⟩ := h.ex
  exact ⟨f, fd, F.mono l, a⟩
/-- the body of a def, whatever may leave it -/
theorem okG {qual : Str} {N : List Str} (F : Fun K x qual st f fd) (S : FnScope N ps (defScope st)) (len : ∀ vs H Q E, sp vs H Q E → vs.length = ps.length)
    (hb : ∀ (cdv : Value) (A : Around) (outer : List Env) (s : Shared) (H : Hp) (vs : List V) (Q : VK) (E : XK), Room k (A.deeper (envOfC qual (defScope st) s.heap.objs.size f cdv)) → sp vs H Q E →
      ∃ t, PSs (cxOf CX P w K mg base N qual (defScope st) f cdv A outer s H E) (defBody st) t ∧ t { nx := fun _ H' => Q .non H', rt := Q } (start N vs) H) : FnOk P w K mg base CX (k + 1) f fd ps sp := by
  obtain ⟨_, _, _, _, _, _, _, _, _, rfl, lk, hc⟩ := F.ex
  exact fn_of lk hc S len fun A outer s H vs Q E hr hsp => hb _ A outer s H vs Q E hr hsp
end
section
variable {X : Cx} {CX : CXT} {k : Nat} {x : Str} {ps : List Str} {sp : Sp} {E : XK} {p pos : Pos} {e : Expr} {es : List Expr} {t : TA}
theorem pe_has (F : Has X.prog X.w X.K X.mg X.base CX k x ps sp) (hr : Room k X.A) (hx : Passes CX X E) (ha : PA X (e :: es) t) (hg : Gl X x := by rfl) (hdb : (x == ("__debug__" : Str)) = false := by decide)
    (he : starEach (e :: es) X.env = (false, eval e X.env) :: starEach es X.env := by rfl) (hpl : (backTo pos (starEach es X.env)).any (·.1) = false := by rfl) : PE X (.Call (.Name x p) (e :: es) [] pos) (tCall sp [] E t) := by
  obtain ⟨f, fd, F, hm, hk, hb⟩ := F.ex
  exact pe_call F hr hg hm hk hb .nil hx ha hdb he hpl
/-- .. in a try, its exception wished for at the slots -/
theorem pe_hasS {E : L2.St → XK} (F : Has X.prog X.w X.K X.mg X.base CX k x ps sp) (hr : Room k X.A) (hx : ∀ σ, PassesAt CX X σ (E σ)) (ha : PA X (e :: es) t) (hg : Gl X x := by rfl) (hdb : (x == ("__debug__" : Str)) = false := by decide)
    (he : starEach (e :: es) X.env = (false, eval e X.env) :: starEach es X.env := by rfl) (hpl : (backTo pos (starEach es X.env)).any (·.1) = false := by rfl) : PE X (.Call (.Name x p) (e :: es) [] pos) (tCallS sp E t) := by
  obtain ⟨f, fd, F, hm, hk, hb⟩ := F.ex
  exact pe_callS F hr hg hm hk hb hx ha hdb he hpl
end
/-- nothing is raised: a def that might -/
theorem passN {X : Cx} : Passes (L2N.CX X.prog X.w) X E0 := fun _ _ _ _ _ _ _ h => by
  obtain ⟨_, _, _, _, _, _, _, _, _, _, _, _, z⟩ := h
  exact z.elim

/-! ### rules that name the written part: for the element of a comprehension -/
theorem call_listK {X : Cx} {K : PySem.W.Frag} (h : X.K = K) : CallR X (.type "list") (fun xs H Q => ∃ p ys, xs = [.ref p] ∧ (SqL K H p ys ∨ SqT K H p ys) ∧ ∀ l, H l = none → Q (.ref l) (upd H l (.lst ys))) := by
  subst h
  exact call_list_of
theorem ix_listK {X : Cx} {K : PySem.W.Frag} (h : X.K = K) : IxR X (rIxL K) := by
  subst h
  exact ix_list
theorem pe_fldK {X : Cx} {K : PySem.W.Frag} {e : Expr} {f : Str} {pos : Pos} {ta : TE} (h : X.K = K) (he : PE X e ta) (hb : attributeBase e f X.env (eval e X.env) = eval e X.env) : PE X (.Attribute e f pos) (tFld K ta f) := by
  subst h
  exact pe_fld he hb
/-! ### lists of whole numbers, compared -/
def dInts (ns : List Int) : PyData := .list (ns.map PyData.int)
theorem dpAll_ints {K : PySem.W.Frag} {H : Hp} : ∀ ns : List Int, DpAll K H (ns.map V.int) (ns.map PyData.int)
  | [] => .nil
  | n :: ns => .cons (.int n) (dpAll_ints ns)
theorem dp_ints {K : PySem.W.Frag} {H : Hp} {a : Addr} {ns : List Int} (h : SqL K H a (ns.map V.int)) : Dp K H (.ref a) (dInts ns) := .lst h (dpAll_ints ns)
theorem canLay_ints : ∀ ns : List Int, PyData.canLayAll0 (ns.map PyData.int) = true
  | [] => by simp [PyData.canLayAll0]
  | n :: ns => by simp [PyData.canLayAll0, PyData.canLay0, canLay_ints ns]
theorem eqvAll_ints : ∀ ns ms : List Int, PyData.eqvAll (ns.map PyData.int) (ms.map PyData.int) = decide (ns = ms)
  | [], [] => by simp [PyData.eqvAll]
  | [], m :: ms => by simp [PyData.eqvAll]
  | n :: ns, [] => by simp [PyData.eqvAll]
  | n :: ns, m :: ms => by
    simp only [List.map_cons, PyData.eqvAll, PyData.eqv, eqvAll_ints ns ms]
    by_cases h1 : n = m <;> by_cases h2 : ns = ms <;> simp [h1, h2]
theorem eqv_ints (ns ms : List Int) : PyData.eqv (dInts ns) (dInts ms) = decide (ns = ms) := by
  unfold dInts
  simp only [PyData.eqv]
  exact eqvAll_ints ns ms
theorem depthAll_ints : ∀ ns : List Int, (PyData.list (ns.map PyData.int)).depth ≤ 2 := by
  intro ns
  induction ns with
  | nil => simp [PyData.depth, PyData.depthAll]
  | cons n ns ih =>
    simp only [List.map_cons, PyData.depth, PyData.depthAll] at ih ⊢
    omega
theorem shaped_ints (ns : List Int) : SeqAt.shaped (dInts ns) = true := by
  unfold SeqAt.shaped dInts
  rw [Bool.and_eq_true]
  refine ⟨?_, decide_eq_true (Nat.le_trans (depthAll_ints ns) (by decide))⟩
  simp only [PyData.canLay0]
  exact canLay_ints ns
/-- lists of truth values -/
def dBls (ns : List Bool) : PyData := .list (ns.map PyData.bool)
theorem dpAll_bls {K : PySem.W.Frag} {H : Hp} : ∀ ns : List Bool, DpAll K H (ns.map V.bl) (ns.map PyData.bool)
  | [] => .nil
  | n :: ns => .cons (.bl n) (dpAll_bls ns)
theorem dp_bls {K : PySem.W.Frag} {H : Hp} {a : Addr} {ns : List Bool} (h : SqL K H a (ns.map V.bl)) : Dp K H (.ref a) (dBls ns) := .lst h (dpAll_bls ns)

/-! ### small words -/
theorem get_map {ns : List Int} {j : Nat} (h : j < ns.length) : (ns.map V.int)[j]? = some (V.int (gd ns j)) := by
  rw [List.getElem?_map, get_gd h]; rfl
theorem at_map {ns : List Int} {z : Int} {j : Nat} (e : z = (j : Int)) (h : j < ns.length) : atI (ns.map V.int) z = some (V.int (gd ns j)) := at_of e (get_map h)
theorem bound64 {p x : Int} (h0 : 0 ≤ x) (h : x < p) (hp : p ≤ 2305843009213693951) : -(2 ^ 64) < x ∧ x < 2 ^ 64 := by
  refine ⟨?_, ?_⟩ <;> omega
theorem sizeLine_big : 1000000 ≤ sizeLine := by decide
/-- a new list -/
theorem Same.new {H : Hp} {q : Addr} {o : HO} (h : H q = none) : Same H (upd H q o) := fun b u e => by rw [upd_ne (ne_of_none e h)]; exact e
theorem Same.upd_new {H H' : Hp} {q : Addr} {o : HO} (s : Same H H') (h : H q = none) : Same H (upd H' q o) := fun b u e => by rw [upd_ne (ne_of_none e h)]; exact s b u e
/-- a turn of a comprehension without a test -/
theorem lc_turn {te : TE} {σ : L2.St} {H : Hp} {D : Addr} {Nx : Hp → Prop} (h : te σ H fun y H4 => ∃ acc, H4 D = some (.lst acc) ∧ acc.length < sizeLine ∧ Nx (upd H4 D (.lst (acc ++ [y])))) :
    tYes σ H fun b H3 => if b = true then te σ H3 fun y H4 => ∃ acc, H4 D = some (.lst acc) ∧ acc.length < sizeLine ∧ Nx (upd H4 D (.lst (acc ++ [y]))) else Nx H3 := by
  show if true = true then te σ H fun y H4 => ∃ acc, H4 D = some (.lst acc) ∧ acc.length < sizeLine ∧ Nx (upd H4 D (.lst (acc ++ [y]))) else Nx H
  rw [if_pos rfl]
  exact h
/-- a new object that is stored in -/
theorem Same.upd_back {H H' : Hp} {q : Addr} {o : HO} (s : Same H H') (h : H q = none) : Same H (upd H' q o) := fun b u e => by rw [upd_ne (ne_of_none e h)]; exact s b u e
theorem arg3 {l : Addr} {a b p : Int} (h : a = b) : ([V.ref l, V.int a, V.int p] : List V) = [V.ref l, V.int b, V.int p] := by rw [h]
theorem argR {a b p : V} {x y : Int} (h : x = y) : ([a, b, V.int x, p] : List V) = [a, b, V.int y, p] := by rw [h]
theorem arg2i {a x y : Int} (h : x = y) : ([V.int a, V.int x] : List V) = [V.int a, V.int y] := by rw [h]
theorem arg2 {l : Addr} {a b : Int} (h : a = b) : ([V.ref l, V.int a] : List V) = [V.ref l, V.int b] := by rw [h]
theorem map_app1 {ns : List Int} {x : Int} : ns.map V.int ++ [V.int x] = (ns ++ [x]).map V.int := by rw [List.map_append]; rfl
theorem cut_take (ns : List Int) (k : Nat) : cutV (ns.map V.int) none (some (k : Int)) = (ns.take k).map V.int := by
  have e : ((ns.map V.int).drop 0).take (min k (ns.map V.int).length - 0) = (ns.take k).map V.int := by
    rw [List.drop_zero, Nat.sub_zero, List.length_map, ← List.map_take]
    by_cases c : k ≤ ns.length
    · rw [Nat.min_eq_left c]
    · rw [Nat.min_eq_right (by omega), List.take_of_length_le (Nat.le_refl _), List.take_of_length_le (by omega)]
  rw [← e]
  unfold cutV
  rw [HT.sIx_none, HT.sIx_nat]
theorem cut_drop (ns : List Int) (k : Nat) : cutV (ns.map V.int) (some (k : Int)) none = (ns.drop k).map V.int := by
  have e : ((ns.map V.int).drop (min k (ns.map V.int).length)).take ((ns.map V.int).length - min k (ns.map V.int).length) = (ns.drop k).map V.int := by
    rw [List.take_of_length_le (by rw [List.length_drop]; exact Nat.le_refl _), List.length_map, ← List.map_drop]
    by_cases c : k ≤ ns.length
    · rw [Nat.min_eq_left c]
    · rw [Nat.min_eq_right (by omega), List.drop_of_length_le (Nat.le_refl _), List.drop_of_length_le (by omega)]
  rw [← e]
  unfold cutV
  rw [HT.sIx_none, HT.sIx_nat]
theorem ixN_at {n j : Nat} {z : Int} (e : z = (j : Int)) (h : j < n) : ixN n z = some j := by
  subst e
  unfold ixN
  rw [if_pos (by omega), if_pos (by omega)]
  rfl
theorem map_set1 {ns : List Int} {j : Nat} {x : Int} : (ns.map V.int).set j (V.int x) = (ns.set j x).map V.int := List.map_set.symm
theorem rep_zero : ∀ n : Nat, (List.replicate n [V.int 0]).flatten = (List.replicate n (0 : Int)).map V.int
  | 0 => rfl
  | n + 1 => by
    rw [List.replicate_succ, List.flatten_cons, rep_zero n, List.replicate_succ]
    rfl
theorem len_small {n : Nat} (h : n ≤ 1000000) : n ≤ sizeLine := Nat.le_trans h sizeLine_big
theorem len_lt {n : Nat} (h : n < 1000000) : n < sizeLine := Nat.lt_of_lt_of_le h sizeLine_big
end SR
/-! Own errors: raised, caught, handed to a def within the suite that holds them. -/
namespace SR
open PySem PySem.Spec PyProof.Rows L2

/-- what a class of errors must say -/
structure XC (K : PySem.W.Frag) (mg : Str → Option Value) (x : Str) (C : Addr) : Prop where
  g : mg x = some (.ref C)
  x : PySem.W.excIn K C [.type "ValueError", .type "Exception", .type "BaseException", .type "object"] "ValueError.__new__" = true
  k : PySem.W.keepIn K (.ref C) = true
  b : PySem.W.subIn K (.ref C) (.type "BaseException") = some true
  t : PySem.W.typeIn K (.ref C) = some (.type "type")
  e : ExcC K C
  v : PySem.W.kitOne K (.ref C) (.type "ValueError") = some true
theorem takesN0 {X : Cx} : L2N.Takes X (fun _ _ _ _ => False) := fun _ _ ⟨_, _, _, _, _, _, _, _, _, _, _, _, _, _, _, _, z⟩ => z.elim

/-! ### a def that is given the error that its caller handles -/
/-- the promise: for each class C and error a -/
structure FnE (P : Program) (w : World) (K : PySem.W.Frag) (mg : Str → Option Value) (base : Heap) (k : Nat) (f : Addr) (fd : FuncData) (ps : List Str) (sp : Addr → Addr → Sp) : Prop where
  len : ∀ C a vs H Q E, sp C a vs H Q E → vs.length = ps.length
  run : ∀ (C : Addr) (p : Addr × Obj), L2N.Zn (.ref C) none p.2 → (∃ fs, p.2.data = .fields fs) → ∀ (A : Around) (outer : List Env) (s : Shared) (H : Hp) (us : List Value) (vs : List V) (Q : VK) (E : XK), L2H.RoomH k A → L2H.PinOk outer H s p →
    Env0 P w K mg base A outer s H → BindsTo s fd ⟨us, []⟩ (ps.zip us) → Vals vs us → sp C p.1 vs H Q E → codeAny (model P w) A (.call (.ref f) ⟨us, []⟩) (CR CX0 outer P w H s Q E) s
section
variable {P : Program} {w : World} {K : PySem.W.Frag} {mg : Str → Option Value} {base : Heap} {k : Nat} {x : Str} {ps : List Str} {sp : Addr → Addr → Sp} {st : Stmt} {f : Addr} {fd : FuncData}
theorem okE {qual : Str} {N : List Str} (F : Fun K x qual st f fd) (S : FnScope N ps (defScope st)) (len : ∀ C a vs H Q E, sp C a vs H Q E → vs.length = ps.length)
    (hb : ∀ (C : Addr) (p : Addr × Obj), L2N.Zn (.ref C) none p.2 → (∃ fs, p.2.data = .fields fs) → ∀ (cdv : Value) (A : Around) (outer : List Env) (s : Shared) (H : Hp) (vs : List V) (Q : VK) (E : XK),
      L2H.RoomH k (A.deeper (envOfC qual (defScope st) s.heap.objs.size f cdv)) → sp C p.1 vs H Q E →
      ∃ t, PSs (L2H.cxH CX0 P w K mg base N qual (defScope st) f cdv A outer s H E p) (defBody st) t ∧ t { nx := fun _ H' => Q .non H', rt := Q } (start N vs) H) : FnE P w K mg base (k + 1) f fd ps sp := by
  obtain ⟨_, _, _, _, _, _, cdv, _, _, rfl, lk, hc⟩ := F.ex
  refine ⟨len, fun C p hz hfs A outer s H us vs Q E hr hpin e0 hbd rv hsp => ?_⟩
  have hl := len _ _ _ _ _ _ hsp
  have kin : K.In s.heap := e0.mod.kin.keeps fun b o e => (e0.bs b o e).1
  have nol : s.heap.NoLimit := e0.mod.nolimit.keeps fun b o e => (e0.bs b o e).1
  refine codeAny_call_function hr.depth (kin _ _ lk) rfl S.co S.gen rfl (PySem.W.codeRec_of kin hc) (hbd _ _ _ _ ?_)
  refine wpAny_newFunctionEnv_cells S.kind (fun y hy => ?_) fun env he s1 ic => ?_
  · rcases S.par y.1 (List.of_mem_zip (show (y.1, y.2) ∈ ps.zip us from hy)).1 with q | q
    · exact Or.inl q
    · exact Or.inr ⟨q, PySem.W.cellsFrom_some _ _ _ (.inl q)⟩
  · subst he
    refine ⟨nol.keeps ic.toInCall.keep, codeAny_func ?_⟩
    obtain ⟨t, ht, hq⟩ := hb C p hz hfs cdv A outer s H vs Q E (hr.deeper _) hsp
    refine wpAny_mono (ht.run [] s1 (start N vs) H _ (L2H.inv_startH S hpin e0 hl rv ic) hq) (fun fl s' hs => ?_) fun _ _ z => z
    cases fl with
    | ret u =>
      obtain ⟨v, σ', H', J, r, q⟩ := hs
      exact ⟨v, H', J.os, J.bare, J.base, J.hok, r, q⟩
    | next =>
      obtain ⟨σ', H', J, q⟩ := hs
      exact ⟨.non, H', J.os, J.bare, J.base, J.hok, rfl, q⟩
    | brk => exact hs.choose_spec.choose_spec.2.elim
    | cont => exact hs.choose_spec.choose_spec.2.elim
end
/-- .. as its callers see it -/
structure HasE (P : Program) (w : World) (K : PySem.W.Frag) (mg : Str → Option Value) (base : Heap) (k : Nat) (x : Str) (ps : List Str) (sp : Addr → Addr → Sp) : Prop where
  ex : ∃ f fd, FnE P w K mg base k f fd ps sp ∧ mg x = some (.ref f) ∧ PySem.W.keepIn K (.ref f) = true ∧ Binds K fd ps []
theorem At.hasE {P : Program} {w : World} {K : PySem.W.Frag} {mg : Str → Option Value} {base : Heap} {k : Nat} {x : Str} {ps : List Str} {sp : Addr → Addr → Sp} {st : Stmt} {f : Addr} {fd : FuncData}
    (a : At K mg x st ps f fd) (F : FnE P w K mg base k f fd ps sp) : HasE P w K mg base k x ps sp := ⟨f, fd, F, a.mg, a.fn.kp, a.b⟩
/-- the error at a, of the class cls: C is its address -/
def tCallE (sp : Addr → Addr → Sp) (cls : Value) (d : Option Addr) (a : Addr) (t : TA) : TE := fun σ H Q => t σ H fun vs H1 => ∃ C, cls = .ref C ∧ d = none ∧ sp C a vs H1 Q E0
/-- isinstance(e, c), e the error that is handled -/
def rIsP (K : PySem.W.Frag) (cls : Value) (d : Option Addr) (a : Addr) : List V → Hp → VK → Prop := fun xs H Q => ∃ (C : Addr) (c : V) (cv : Value) (b : Bool), cls = .ref C ∧ d = none ∧ ExcC K C ∧ xs = [.ref a, c] ∧ (∀ u, RelV c u → u = cv) ∧ PySem.W.kitOne K (.ref C) cv = some b ∧ Q (.bl b) H
theorem room_mark {k : Nat} {A : Around} {v : Option Value} (r : Room k A) : L2H.RoomH k (A.mark v) := ⟨r.dp, r.un⟩
section
variable {X : Cx} {k : Nat} {x : Str} {ps : List Str} {sp : Addr → Addr → Sp} {pos pp : Pos} {e : Expr} {es : List Expr} {t : TA} {cls : Value} {d : Option Addr} {a : Addr} {oe : Obj}
theorem pe_hasE (F : HasE X.prog X.w X.K X.mg X.base k x ps sp) (hr : L2H.RoomH k X.A) (hp : (a, oe) ∈ X.pn) (hz : L2N.Zn cls d oe) (hf : ∃ fs, oe.data = .fields fs) (ha : PA X (e :: es) t) (hg : Gl X x := by rfl)
    (hdb : (x == ("__debug__" : Str)) = false := by decide) (he : starEach (e :: es) X.env = (false, eval e X.env) :: starEach es X.env := by rfl) (hpl : (backTo pos (starEach es X.env)).any (·.1) = false := by rfl) :
    PE X (.Call (.Name x pp) (e :: es) [] pos) (tCallE sp cls d a t) := by
  obtain ⟨f, fd, F, hm, hk, hb⟩ := F.ex
  refine ⟨fun pins s σ H Q I h => wpAny_Call_Name_kw (ld_glob I hg hm ?_ hdb)⟩
  refine PySem.W.callWith_K (h₀ := X.base) I.ok.mod.kin hk (thn (ha.run pos pins s σ H _ I h) fun us s1 ⟨vs, H1, I1, r, q⟩ => ⟨I1.kIn, ?_⟩) he hpl
  obtain ⟨C, rfl, rfl, q⟩ := q
  have hl : us.length = ps.length := by rw [← r.length]; exact F.len _ _ _ _ _ _ q
  have b := hb s1 us I1.kIn (by rw [List.append_nil]; exact hl)
  rw [List.append_nil] at b
  have at1 := I1.pin (a, oe) (List.mem_append_left _ hp)
  have pin : L2H.PinOk X.stack H1 s1 (a, oe) := ⟨at1.1, at1.2.1, fun hm => (List.mem_cons.mp (I1.stkSub a hm)).elim at1.2.2.1 at1.2.2.2.1, at1.2.2.2.2⟩
  refine wpAny_call (codeAny_mono (F.run C (a, oe) hz hf X.A X.stack s1 H1 us vs Q E0 hr pin I1.env0 b r q) fun r s' hq => ?_)
  rcases r with _ | (_ | _ | _ | u)
  · exact False.elim hq
  · exact False.elim hq
  · exact False.elim hq
  · exact False.elim hq
  · exact I1.after hq
theorem call_isP (hp : (a, oe) ∈ X.pn) (hz : L2N.Zn cls d oe) (hf : ∃ fs, oe.data = .fields fs) : CallR X (.builtin "isinstance") (rIsP X.K cls d a) := by
  intro pins s σ H xs us Q I r h
  obtain ⟨C, c, cv, b, rfl, rfl, hc, rfl, hcv, e, q⟩ := h
  rcases r with _ | ⟨rx, _ | ⟨rt, _ | _⟩⟩
  cases rx
  cases hcv _ rt
  obtain ⟨hget, _⟩ := I.pin (a, oe) (List.mem_append.mpr (.inl hp))
  obtain ⟨fs, hv⟩ := hf
  obtain ⟨oc, od, oda, osl⟩ := oe
  obtain ⟨h1, h2, _⟩ := hz
  dsimp only at h1 h2 hv
  subst h1 h2 hv
  have J : PySem.W.InstAt s.heap a ⟨.ref C, none, .fields fs, osl⟩ C none := ⟨hget, rfl, rfl, trivial⟩
  exact PySem.W.kia_one (PySem.W.handS_kitx_exc hc.hg hc.hk hc.hs hc.hd hc.ha hc.hn hc.ht hc.hm) I.kIn J e (fun z => nomatch z) fun tk => ⟨.bl b, H, I.kept (t' := tk) fun _ _ z => z, rfl, q⟩
end
/-! ### the facts about classes, from what is read off the top -/
theorem kit_other {K : PySem.W.Frag} {C D : Addr} (hd : PySem.W.hasDictIn K D = true) (ht : PySem.W.typeIn K (.ref D) = some (.type "type")) (s : PySem.W.subIn K (.ref C) (.ref D) = some false) (s2 : PySem.W.subIn K (.ref D) (.ref D) = some true) : PySem.W.kitOne K (.ref C) (.ref D) = some false := by
  have ne : (Value.ref C == Value.ref D) = false := by
    refine Bool.eq_false_iff.mpr fun q => ?_
    have e : C = D := Value.ref.inj (beq_iff_eq.mp q)
    subst e
    rw [s] at s2
    cases s2
  obtain ⟨cd, hc, _⟩ := PySem.W.any_some hd
  have e2 : ((PySem.W.clsIn K D).isSome && PySem.W.typeIn K (.ref D) == some (.type "type")) = true := by rw [hc, ht] <;> rfl
  show (if (Value.ref C == Value.ref D) = true then some true else if ((PySem.W.clsIn K D).isSome && PySem.W.typeIn K (.ref D) == some (.type "type")) = true then PySem.W.subIn K (.ref C) (.ref D) else none) = some false
  rw [ne, if_neg Bool.false_ne_true, if_pos e2]
  exact s
theorem kit_self {K : PySem.W.Frag} {C : Addr} : PySem.W.kitOne K (.ref C) (.ref C) = some true := by
  show (if (Value.ref C == Value.ref C) = true then some true else PySem.W.kitCls K (.ref C) (.ref C)) = some true
  rw [if_pos (by simp)]
theorem kit_ve {K : PySem.W.Frag} {C : Addr} (s : PySem.W.subIn K (.ref C) (.type "ValueError") = some true) : PySem.W.kitOne K (.ref C) (.type "ValueError") = some true := by
  have h : PySem.W.kitMeta "ValueError" = true := by decide +kernel
  show (if (Value.ref C == Value.type "ValueError") = true then some true else if PySem.W.kitMeta "ValueError" = true then PySem.W.subIn K (.ref C) (.type "ValueError") else none) = some true
  rw [if_neg (fun q => by cases beq_iff_eq.mp q), if_pos h]
  exact s
end SR
/-! Methods as their callers see them; the grower's fields. -/
namespace SR
open PySem PySem.Spec PyProof.Rows L2

/-! ### methods -/
structure HasM (P : Program) (w : World) (K : PySem.W.Frag) (mg : Str → Option Value) (base : Heap) (CX : CXT) (k : Nat) (C : Addr) (m : Str) (ps : List Str) (sp : Sp) : Prop where
  ex : ∃ f fd, FnOk P w K mg base CX k f fd ps sp ∧ Meth K C m f ∧ Binds K fd ps []
/-- a method as it stands in its class -/
structure AtM (K : PySem.W.Frag) (C : Addr) (m qual : Str) (st : Stmt) (ps : List Str) (f : Addr) (fd : FuncData) : Prop where
  fn : Fun K m qual st f fd
  at_ : Meth K C m f
  b : Binds K fd ps []
theorem AtM.has {P : Program} {w : World} {K : PySem.W.Frag} {mg : Str → Option Value} {base : Heap} {CX : CXT} {k : Nat} {C : Addr} {m qual : Str} {ps : List Str} {sp : Sp} {st : Stmt} {f : Addr} {fd : FuncData}
    (a : AtM K C m qual st ps f fd) (F : FnOk P w K mg base CX k f fd ps sp) : HasM P w K mg base CX k C m ps sp := ⟨f, fd, F, a.at_, a.b⟩
theorem HasM.imp {P : Program} {w : World} {K : PySem.W.Frag} {mg : Str → Option Value} {base : Heap} {CX : CXT} {k : Nat} {C : Addr} {m : Str} {ps : List Str} {sp sp' : Sp} (h : HasM P w K mg base CX k C m ps sp) (i : ∀ vs H Q E, sp' vs H Q E → sp vs H Q E) : HasM P w K mg base CX k C m ps sp' := by
  obtain ⟨f, fd, F, a⟩ := h.ex
  exact ⟨f, fd, F.imp i, a⟩
section
variable {X : Cx} {CX : CXT} {k : Nat} {C : Addr} {m : Str} {ps : List Str} {sp : Sp} {E : XK} {pos apos : Pos} {o e : Expr} {es : List Expr} {ta : TE} {t : TA}
theorem pe_hasM {pl : Sem Bool} (he : PE X o ta) (c : Cls X.K C) (F : HasM X.prog X.w X.K X.mg X.base CX k C m ps sp) (hr : Room k X.A) (hx : Passes CX X E) (ha : PA X (e :: es) t)
    (hst : starEach (e :: es) X.env = (false, eval e X.env) :: starEach es X.env := by rfl) (hpl : (backTo pos (starEach es X.env)).any (·.1) = false := by rfl)
    (ht : eval (.Call (.Attribute o m apos) (e :: es) [] pos) X.env = (do
      let ov ← eval o X.env
      standAt apos.atName
      let (f, first) ← holding [ov] (getMethod ov m pl)
      callWith pos f first (backTo pos (starEach (e :: es) X.env)) (backToKw pos (keywordEach [] X.env))) := by rfl) : PE X (.Call (.Attribute o m apos) (e :: es) [] pos) (tMeth C m sp [] E ta t) := by
  obtain ⟨f, fd, F, hm, hb⟩ := F.ex
  exact pe_meth he c hm F hr hb .nil hx ha hst hpl ht
theorem pe_hasM0 {pl : Sem Bool} (he : PE X o ta) (c : Cls X.K C) (F : HasM X.prog X.w X.K X.mg X.base CX k C m ps sp) (hr : Room k X.A) (hx : Passes CX X E)
    (ht : eval (.Call (.Attribute o m apos) [] [] pos) X.env = (do
      let ov ← eval o X.env
      standAt apos.atName
      let (f, first) ← holding [ov] (getMethod ov m pl)
      callWith pos f first (backTo pos (starEach [] X.env)) (backToKw pos (keywordEach [] X.env))) := by rfl) : PE X (.Call (.Attribute o m apos) [] [] pos) (tMeth C m sp [] E ta tNil) := by
  obtain ⟨f, fd, F, hm, hb⟩ := F.ex
  exact pe_meth0 he c hm F hr hb .nil hx ht
/-- o.m(e), what it raises wished for at the slots -/
def tMethE (C : Addr) (m : Str) (sp : Sp) (E : L2.St → XK) (ta : TE) (t : TA) : TE := fun σ H Q => ta σ H fun x H1 => ∃ a dx fs, x = .ref a ∧ H1 a = some (.ins C dx fs) ∧ fs.lookup m = none ∧ t σ H1 fun vs H2 => sp (x :: vs) H2 Q (E σ)
theorem pe_hasMS {E : L2.St → XK} {pl : Sem Bool} (he : PE X o ta) (c : Cls X.K C) (F : HasM X.prog X.w X.K X.mg X.base CX k C m ps sp) (hr : Room k X.A) (hx : ∀ σ, PassesAt CX X σ (E σ)) (ha : PA X (e :: es) t)
    (hst : starEach (e :: es) X.env = (false, eval e X.env) :: starEach es X.env := by rfl) (hpl : (backTo pos (starEach es X.env)).any (·.1) = false := by rfl)
    (ht : eval (.Call (.Attribute o m apos) (e :: es) [] pos) X.env = (do
      let ov ← eval o X.env
      standAt apos.atName
      let (f, first) ← holding [ov] (getMethod ov m pl)
      callWith pos f first (backTo pos (starEach (e :: es) X.env)) (backToKw pos (keywordEach [] X.env))) := by rfl) : PE X (.Call (.Attribute o m apos) (e :: es) [] pos) (tMethE C m sp E ta t) := by
  obtain ⟨f, fd, F, hm, hb⟩ := F.ex
  refine ⟨fun pins s σ H Q I h => PySem.W.methodCall_KW (pl := pl) (thn (he.run pins s σ H _ I h) fun u s1 ⟨x, H1, I1, rx, a, dx, fs, ex, ea, l, q⟩ => ?_) ht⟩
  subst ex
  obtain rfl : u = Value.ref a := rx
  refine getmeth_ok I1 ea c hm l (PySem.W.callWith_K (first := [.ref a]) (h₀ := X.base) I.ok.mod.kin hm.kp (thn (ha.run pos pins s1 σ H1 _ I1 q) fun us s2 ⟨vs, H2, I2, r, q2⟩ => ⟨I2.kIn, ?_⟩) hst hpl)
  exact run_fnS (us := .ref a :: us) (vs := .ref a :: vs) F hr hb (hx σ) I2 (.cons rfl r) q2
/-- C(e, ..) -/
structure HasC (P : Program) (w : World) (K : PySem.W.Frag) (mg : Str → Option Value) (base : Heap) (CX : CXT) (k : Nat) (C : Addr) (x : Str) (ps : List Str) (sp : Sp) : Prop where
  ex : ∃ f fd, Mk K C f ∧ FnOk P w K mg base CX k f fd ps sp ∧ Binds K fd ps []
  mg : mg x = some (.ref C)
theorem pe_hasC {x : Str} {p : Pos} (F : HasC X.prog X.w X.K X.mg X.base CX k C x ps sp) (hr : Room (k + 1) X.A) (hx : Passes CX X E) (ha : PA X (e :: es) t) (hg : Gl X x := by rfl) (hdb : (x == ("__debug__" : Str)) = false := by decide)
    (he : starEach (e :: es) X.env = (false, eval e X.env) :: starEach es X.env := by rfl) (hpl : (backTo pos (starEach es X.env)).any (·.1) = false := by rfl) : PE X (.Call (.Name x p) (e :: es) [] pos) (tMake C sp [] E t) := by
  obtain ⟨f, fd, M, F2, hb⟩ := F.ex
  exact pe_make M F2 hr hg F.mg hb .nil hx ha hdb he hpl
end

/-! ### a grower's fields -/
theorem putF_ne {f g : Str} {x v : V} {r : List (Str × V)} (h : ¬ g = f) : putF f v ((g, x) :: r) = (g, x) :: putF f v r := by
  show (if g = f then _ else _) = _
  rw [if_neg h]
theorem putF_eq {f : Str} {x v : V} {r : List (Str × V)} : putF f v ((f, x) :: r) = (f, v) :: r := by
  show (if f = f then _ else _) = _
  rw [if_pos rfl]
theorem look_ne {f g : Str} {x : V} {r : List (Str × V)} (h : ¬ f = g) : List.lookup f ((g, x) :: r) = List.lookup f r := by
  have e : (f == g) = false := beq_eq_false_iff_ne.mpr h
  simp only [List.lookup, e]
theorem look_eq {f : Str} {x : V} {r : List (Str × V)} : List.lookup f ((f, x) :: r) = some x := by simp [List.lookup]
def plV : Option Nat → V
  | none => .non
  | some n => .int (n : Int)
def gl (p : Int) (lr lu le : Addr) (lack : Int) (place : Option Nat) : List (Str × V) :=
  [("prime", .int p), ("row", .ref lr), ("rule", .ref lu), ("elder", .ref le), ("lack", .int lack), ("place", plV place)]
section
variable (p lack : Int) (lr lu le : Addr) (place : Option Nat)
theorem gl_len : (gl p lr lu le lack place).length < 1000 := by show 6 < 1000; decide
theorem gl_prime : (gl p lr lu le lack place).lookup ("prime" : Str) = some (V.int p) := look_eq
theorem gl_row : (gl p lr lu le lack place).lookup ("row" : Str) = some (V.ref lr) := by
  unfold gl
  rw [look_ne (by decide +kernel)]; exact look_eq
theorem gl_rule : (gl p lr lu le lack place).lookup ("rule" : Str) = some (V.ref lu) := by
  unfold gl
  rw [look_ne (by decide +kernel), look_ne (by decide +kernel)]; exact look_eq
theorem gl_elder : (gl p lr lu le lack place).lookup ("elder" : Str) = some (V.ref le) := by
  unfold gl
  rw [look_ne (by decide +kernel), look_ne (by decide +kernel), look_ne (by decide +kernel)]; exact look_eq
theorem gl_lack : (gl p lr lu le lack place).lookup ("lack" : Str) = some (V.int lack) := by
  unfold gl
  rw [look_ne (by decide +kernel), look_ne (by decide +kernel), look_ne (by decide +kernel), look_ne (by decide +kernel)]; exact look_eq
theorem gl_place : (gl p lr lu le lack place).lookup ("place" : Str) = some (plV place) := by
  unfold gl
  rw [look_ne (by decide +kernel), look_ne (by decide +kernel), look_ne (by decide +kernel), look_ne (by decide +kernel), look_ne (by decide +kernel)]; exact look_eq
theorem gl_no {m : Str} (h : (["prime", "row", "rule", "elder", "lack", "place"] : List Str).all (fun f => decide (¬ m = f)) = true) : (gl p lr lu le lack place).lookup m = none := by
  simp only [List.all_cons, List.all_nil, Bool.and_eq_true, decide_eq_true_eq] at h
  obtain ⟨h1, h2, h3, h4, h5, h6, _⟩ := h
  unfold gl
  rw [look_ne h1, look_ne h2, look_ne h3, look_ne h4, look_ne h5, look_ne h6]
  rfl
theorem gl_put_rule (a : Addr) : putF "rule" (.ref a) (gl p lr lu le lack place) = gl p lr a le lack place := by
  unfold gl
  rw [putF_ne (by decide +kernel), putF_ne (by decide +kernel), putF_eq]
theorem gl_put_elder (a : Addr) : putF "elder" (.ref a) (gl p lr lu le lack place) = gl p lr lu a lack place := by
  unfold gl
  rw [putF_ne (by decide +kernel), putF_ne (by decide +kernel), putF_ne (by decide +kernel), putF_eq]
theorem gl_put_lack (x : Int) : putF "lack" (.int x) (gl p lr lu le lack place) = gl p lr lu le x place := by
  unfold gl
  rw [putF_ne (by decide +kernel), putF_ne (by decide +kernel), putF_ne (by decide +kernel), putF_ne (by decide +kernel), putF_eq]
theorem gl_put_place (n : Nat) : putF "place" (.int (n : Int)) (gl p lr lu le lack place) = gl p lr lu le lack (some n) := by
  unfold gl
  rw [putF_ne (by decide +kernel), putF_ne (by decide +kernel), putF_ne (by decide +kernel), putF_ne (by decide +kernel), putF_ne (by decide +kernel), putF_eq]
  rfl
end
theorem gl_made (p : Int) (lr lu le : Addr) : putF "place" .non (putF "lack" (.int 1) (putF "elder" (.ref le) (putF "rule" (.ref lu) (putF "row" (.ref lr) (putF "prime" (.int p) []))))) = gl p lr lu le 1 none := by
  have e1 : putF "prime" (.int p) [] = ([("prime", .int p)] : List (Str × V)) := rfl
  have e2 : putF "row" (.ref lr) [("prime", .int p)] = ([("prime", .int p), ("row", .ref lr)] : List (Str × V)) := by rw [putF_ne (by decide +kernel)]; rfl
  have e3 : putF "rule" (.ref lu) [("prime", .int p), ("row", .ref lr)] = ([("prime", .int p), ("row", .ref lr), ("rule", .ref lu)] : List (Str × V)) := by rw [putF_ne (by decide +kernel), putF_ne (by decide +kernel)]; rfl
  have e4 : putF "elder" (.ref le) [("prime", .int p), ("row", .ref lr), ("rule", .ref lu)] = ([("prime", .int p), ("row", .ref lr), ("rule", .ref lu), ("elder", .ref le)] : List (Str × V)) := by
    rw [putF_ne (by decide +kernel), putF_ne (by decide +kernel), putF_ne (by decide +kernel)]; rfl
  have e5 : putF "lack" (.int 1) [("prime", .int p), ("row", .ref lr), ("rule", .ref lu), ("elder", .ref le)] = ([("prime", .int p), ("row", .ref lr), ("rule", .ref lu), ("elder", .ref le), ("lack", .int 1)] : List (Str × V)) := by
    rw [putF_ne (by decide +kernel), putF_ne (by decide +kernel), putF_ne (by decide +kernel), putF_ne (by decide +kernel)]; rfl
  rw [e1, e2, e3, e4, e5, putF_ne (by decide +kernel), putF_ne (by decide +kernel), putF_ne (by decide +kernel), putF_ne (by decide +kernel), putF_ne (by decide +kernel)]
  rfl
theorem len_put {f : Str} {v : V} {fs : List (Str × V)} {n : Nat} (h : fs.length ≤ n) : (putF f v fs).length ≤ n + 1 := Nat.le_trans (length_putF _ _ _) (Nat.succ_le_succ h)
/-- what the class says of the fields -/
structure GT (K : PySem.W.Frag) (C : Addr) : Prop where
  cl : Cls K C
  prime : NoAttr K C "prime"
  row : NoAttr K C "row"
  rule : NoAttr K C "rule"
  elder : NoAttr K C "elder"
  lack : NoAttr K C "lack"
  place : NoAttr K C "place"
/-- a grower stands at g: its row at lr, its rule at lu, its elder at le -/
structure GrowAt (C : Addr) (H : Hp) (p : Int) (g lr lu le : Addr) (st : Gr) : Prop where
  ob : ∃ dx, H g = some (.ins C dx (gl p lr lu le st.lack st.place))
  row : H lr = some (.lst (st.row.map V.int))
  rule : H lu = some (.lst (st.rule.map V.int))
  elder : H le = some (.lst (st.elder.map V.int))
  n1 : lr ≠ lu
  n2 : lr ≠ le
theorem GrowAt.same {C : Addr} {H H' : Hp} {p : Int} {g lr lu le : Addr} {st : Gr} (h : GrowAt C H p g lr lu le st) (s : Same H H') : GrowAt C H' p g lr lu le st := by
  obtain ⟨⟨dx, h1⟩, h2, h3, h4, n1, n2⟩ := h
  exact ⟨⟨dx, s _ _ h1⟩, s _ _ h2, s _ _ h3, s _ _ h4, n1, n2⟩
/-- another grower's storing leaves this one as it is -/
theorem GrowAt.keep {C : Addr} {H H' : Hp} {p : Int} {g lr lu le : Addr} {st : Gr} {g2 lr2 : Addr} (h : GrowAt C H p g lr lu le st) (k : ∀ b o, H b = some o → b ≠ g2 → b ≠ lr2 → H' b = some o) (hg2 : ∃ dx fs, H g2 = some (.ins C dx fs)) (hl2 : ∃ xs, H lr2 = some (.lst xs))
    (m1 : g ≠ g2) (m2 : lr ≠ lr2) (m3 : lu ≠ lr2) (m4 : le ≠ lr2) : GrowAt C H' p g lr lu le st := by
  obtain ⟨⟨dx, h1⟩, h2, h3, h4, n1, n2⟩ := h
  obtain ⟨_, _, e2⟩ := hg2
  obtain ⟨xs, el⟩ := hl2
  have ne : ∀ {b : Addr} {ys : List V}, H b = some (.lst ys) → b ≠ g2 := fun hb => ne_of hb e2 (by intro z; cases z)
  exact ⟨⟨dx, k _ _ h1 m1 (ne_of h1 el (by intro z; cases z))⟩, k _ _ h2 (ne h2) m2, k _ _ h3 (ne h3) m3, k _ _ h4 (ne h4) m4, n1, n2⟩
end SR
namespace SR
open PySem PySem.Spec PyProof.Rows L2
/-! ### the text by places -/
def top (i : Nat) : Stmt := PySem.Challenge.pw_shortrule_k14_whole_learned_and_far.main.body.getD i (.Pass ⟨0, 0, 0, 0⟩)
abbrev s__wall : Stmt := top 0
abbrev s_stepped : Stmt := top 8
abbrev s_doubled : Stmt := top 9
abbrev s_halves : Stmt := top 10
abbrev s_far : Stmt := top 11
abbrev s_inverse : Stmt := top 13
abbrev s_due : Stmt := top 14
abbrev s_Grower___init__ : Stmt := inClass (top 16) 0
abbrev s_Grower_put : Stmt := inClass (top 16) 1
abbrev s_Grower_mend : Stmt := inClass (top 16) 2
abbrev s_Grower_told : Stmt := inClass (top 16) 3
abbrev s_Grower_many : Stmt := inClass (top 16) 4
abbrev s_Grower_why : Stmt := inClass (top 16) 5
abbrev s_taken : Stmt := top 17
abbrev s_shortest : Stmt := top 18
abbrev s_missed : Stmt := top 20
abbrev s_follows : Stmt := top 21
abbrev s_carried : Stmt := top 22
abbrev s__law_whole : Stmt := top 24
abbrev s__law_cell_at : Stmt := top 25
abbrev s__law_mixed : Stmt := top 26
abbrev s__law_is_prime : Stmt := top 27
abbrev s__law_wide : Stmt := top 28
abbrev s__law_prime : Stmt := top 29
abbrev s__law_rest : Stmt := top 30
abbrev s__law_tells : Stmt := top 31
abbrev s_law : Stmt := top 32
theorem sc__wall : FnScope ["k"] ["k"] (defScope s__wall) := ⟨rfl, rfl, rfl, by decide +kernel, rfl, by decide +kernel, by decide +kernel⟩
theorem sc_stepped : FnScope ["often", "rule", "prime", "size", "top", "found", "k"] ["often", "rule", "prime"] (defScope s_stepped) := ⟨rfl, rfl, rfl, by decide +kernel, rfl, by decide +kernel, by decide +kernel⟩
theorem sc_doubled : FnScope ["often", "rule", "prime", "size", "wide", "k", "m"] ["often", "rule", "prime"] (defScope s_doubled) := ⟨rfl, rfl, rfl, by decide +kernel, rfl, by decide +kernel, by decide +kernel⟩
theorem sc_halves : FnScope ["place", "found"] ["place"] (defScope s_halves) := ⟨rfl, rfl, rfl, by decide +kernel, rfl, by decide +kernel, by decide +kernel⟩
theorem sc_far : FnScope ["rule", "start", "place", "prime", "often", "one", "total", "k"] ["rule", "start", "place", "prime"] (defScope s_far) := ⟨rfl, rfl, rfl, by decide +kernel, rfl, by decide +kernel, by decide +kernel⟩
theorem sc_inverse : FnScope ["number", "prime", "left", "right", "one", "two", "often", "rest", "step"] ["number", "prime"] (defScope s_inverse) := ⟨rfl, rfl, rfl, by decide +kernel, rfl, by decide +kernel, by decide +kernel⟩
theorem sc_due : FnScope ["rule", "row", "place", "prime", "total", "k"] ["rule", "row", "place", "prime"] (defScope s_due) := ⟨rfl, rfl, rfl, by decide +kernel, rfl, by decide +kernel, by decide +kernel⟩
theorem sc_Grower___init__ : FnScope ["self", "prime"] ["self", "prime"] (defScope s_Grower___init__) := ⟨rfl, rfl, rfl, by decide +kernel, rfl, by decide +kernel, by decide +kernel⟩
theorem sc_Grower_put : FnScope ["self", "number", "place", "lack"] ["self", "number"] (defScope s_Grower_put) := ⟨rfl, rfl, rfl, by decide +kernel, rfl, by decide +kernel, by decide +kernel⟩
theorem sc_Grower_mend : FnScope ["self", "place", "lack", "often", "gap", "ahead", "size", "mended", "k", "weight"] ["self", "place", "lack"] (defScope s_Grower_mend) := ⟨rfl, rfl, rfl, by decide +kernel, rfl, by decide +kernel, by decide +kernel⟩
theorem sc_Grower_told : FnScope ["self"] ["self"] (defScope s_Grower_told) := ⟨rfl, rfl, rfl, by decide +kernel, rfl, by decide +kernel, by decide +kernel⟩
theorem sc_Grower_many : FnScope ["self"] ["self"] (defScope s_Grower_many) := ⟨rfl, rfl, rfl, by decide +kernel, rfl, by decide +kernel, by decide +kernel⟩
theorem sc_Grower_why : FnScope ["self"] ["self"] (defScope s_Grower_why) := ⟨rfl, rfl, rfl, by decide +kernel, rfl, by decide +kernel, by decide +kernel⟩
theorem sc_taken : FnScope ["row", "prime", "grower", "number"] ["row", "prime"] (defScope s_taken) := ⟨rfl, rfl, rfl, by decide +kernel, rfl, by decide +kernel, by decide +kernel⟩
theorem sc_shortest : FnScope ["row", "prime"] ["row", "prime"] (defScope s_shortest) := ⟨rfl, rfl, rfl, by decide +kernel, rfl, by decide +kernel, by decide +kernel⟩
theorem sc_missed : FnScope ["rule", "row", "prime", "place"] ["rule", "row", "prime"] (defScope s_missed) := ⟨rfl, rfl, rfl, by decide +kernel, rfl, by decide +kernel, by decide +kernel⟩
theorem sc_follows : FnScope ["rule", "row", "prime"] ["rule", "row", "prime"] (defScope s_follows) := ⟨rfl, rfl, rfl, by decide +kernel, rfl, by decide +kernel, by decide +kernel⟩
theorem sc_carried : FnScope ["rule", "start", "many", "prime", "row"] ["rule", "start", "many", "prime"] (defScope s_carried) := ⟨rfl, rfl, rfl, by decide +kernel, rfl, by decide +kernel, by decide +kernel⟩
theorem sc__law_whole : FnScope ["_law_found"] ["_law_found"] (defScope s__law_whole) := ⟨rfl, rfl, rfl, by decide +kernel, rfl, by decide +kernel, by decide +kernel⟩
theorem sc__law_cell_at : FnScope ["_law_script", "_law_k"] ["_law_script", "_law_k"] (defScope s__law_cell_at) := ⟨rfl, rfl, rfl, by decide +kernel, rfl, by decide +kernel, by decide +kernel⟩
theorem sc__law_mixed : FnScope ["_law_cell", "_law_k"] ["_law_cell", "_law_k"] (defScope s__law_mixed) := ⟨rfl, rfl, rfl, by decide +kernel, rfl, by decide +kernel, by decide +kernel⟩
theorem sc__law_is_prime : FnScope ["_law_number", "_law_k"] ["_law_number"] (defScope s__law_is_prime) := ⟨rfl, rfl, rfl, by decide +kernel, rfl, by decide +kernel, by decide +kernel⟩
theorem sc__law_wide : FnScope ["_law_cell"] ["_law_cell"] (defScope s__law_wide) := ⟨rfl, rfl, rfl, by decide +kernel, rfl, by decide +kernel, by decide +kernel⟩
theorem sc__law_prime : FnScope ["_law_cell", "_law_number"] ["_law_cell"] (defScope s__law_prime) := ⟨rfl, rfl, rfl, by decide +kernel, rfl, by decide +kernel, by decide +kernel⟩
theorem sc__law_rest : FnScope ["_law_script", "_law_k", "_law_prime_here"] ["_law_script", "_law_k", "_law_prime_here"] (defScope s__law_rest) := ⟨rfl, rfl, rfl, by decide +kernel, rfl, by decide +kernel, by decide +kernel⟩
theorem sc__law_tells : FnScope ["_law_rule", "_law_row", "_law_place", "_law_prime_here", "_law_total", "_law_k"] ["_law_rule", "_law_row", "_law_place", "_law_prime_here"] (defScope s__law_tells) := ⟨rfl, rfl, rfl, by decide +kernel, rfl, by decide +kernel, by decide +kernel⟩
theorem sc_law : FnScope ["_law_script", "_law_prime_here", "_law_long", "_law_place", "_law_rule", "_law_row", "_law_told", "_law_found", "_law_walked", "_law_k"] ["_law_script"] (defScope s_law) := ⟨rfl, rfl, rfl, by decide +kernel, rfl, by decide +kernel, by decide +kernel⟩
/-- the names of the built-ins are not the text's own -/
structure Bt (mg : Str → Option Value) : Prop where
  b_len : mg "len" = none
  b_range : mg "range" = none
  b_isinstance : mg "isinstance" = none
  b_int : mg "int" = none
  b_bool : mg "bool" = none
  b_list : mg "list" = none
  b_tuple : mg "tuple" = none
  b_max : mg "max" = none
  b_min : mg "min" = none
  b_reversed : mg "reversed" = none
  b_ValueError : mg "ValueError" = none
theorem ifD {c A B : Prop} [Decidable c] (h1 : c → A) (h2 : ¬ c → B) : if decide c = true then A else B := by
  by_cases h : c
  · rw [if_pos (decide_eq_true h)]; exact h1 h
  · rw [if_neg (by rw [decide_eq_false h]; decide)]; exact h2 h
theorem ifDN {c A B : Prop} [Decidable c] (h1 : ¬ c → A) (h2 : c → B) : if (!decide c) = true then A else B := by
  by_cases h : c
  · rw [if_neg (by rw [decide_eq_true h]; decide)]; exact h2 h
  · rw [if_pos (by rw [decide_eq_false h]; decide)]; exact h1 h
theorem ifB {b : Bool} {A B : Prop} (h1 : b = true → A) (h2 : b = false → B) : if b = true then A else B := by
  cases b with
  | true => exact h1 rfl
  | false => exact h2 rfl
theorem vint {a b : Int} : V.int a = V.int b ↔ a = b := ⟨fun h => V.int.inj h, fun h => by rw [h]⟩
section
variable {P : Program} {w : World} {K : PySem.W.Frag} {mg : Str → Option Value} {base : Heap}
/-! ### a cell of the script, the primes -/
def spCell (K : PySem.W.Frag) : Sp := fun vs H Q _ => ∃ (a : Addr) (ns : List Int) (j : Nat), vs = [.ref a, .int (j : Int)] ∧ SqL K H a (ns.map V.int) ∧ Q (.int (gd ns j)) H
theorem ok_cell {f : Addr} {fd : FuncData} (T : Bt mg) (a : At K mg "_law_cell_at" s__law_cell_at ["_law_script", "_law_k"] f fd) : Has P w K mg base CX0 1 "_law_cell_at" ["_law_script", "_law_k"] (spCell K) := by
  refine a.has (okG a.fn sc__law_cell_at (fun vs H Q E h => ?_) (fun cdv A outer s H vs Q E hr h => ?_))
  · obtain ⟨_, _, _, rfl, _⟩ := h
    rfl
  · obtain ⟨l, ns, j, rfl, hs, q⟩ := h
    refine ⟨_, (pss_cons (ps_if (pt_cmpR op_lt (pv 1) (pe_callB call_len_seq (by rfl) T.b_len PySem.boot_len (pa_cons (pv 0) pa_nil)) (nomark _)) (pss_one (ps_ret (pe_ix ix_list (pv 0) (pv 1) (fun _ _ => rfl)))) pss_nil)
      (pss_one (ps_ret pe_int))), ?_⟩
    refine ⟨_, rfl, _, rfl, l, _, rfl, .inl hs, _, _, rfl, rfl, _, rfl, ?_⟩
    rw [List.length_map]
    refine ifD (fun c => ?_) (fun c => ?_)
    · exact ⟨_, rfl, _, rfl, l, _, _, _, rfl, rfl, hs, at_map rfl (by omega), q⟩
    · rw [gd_ge (by omega)] at q
      exact q
/-- no divisor below, so far as it was tried -/
def isPr (n : Int) : Bool := decide (∀ k : Nat, k < n.toNat + 1 → 2 ≤ k → (k : Int) * k ≤ n → n % (k : Int) ≠ 0)
theorem isPr_iff {n : Int} (h : 2 ≤ n) : isPr n = true ↔ Pr n := by
  unfold isPr
  rw [decide_eq_true_iff]
  refine ⟨fun z => ?_, fun z k _ h2 h3 h4 => ?_⟩
  · obtain ⟨m, rfl⟩ : ∃ m : Nat, n = (m : Int) := ⟨n.toNat, by omega⟩
    refine (prN_of (by omega) fun k h2 h3 hd => ?_).pr
    have h5 : k ≤ k * k := Nat.le_mul_of_pos_right k (by omega)
    refine z k (by omega) h2 (by exact_mod_cast h3) ?_
    obtain ⟨c, hc⟩ := hd
    rw [hc]
    push_cast
    exact Int.mul_emod_right _ _
  · have hd : (k : Int) ∣ n := Int.dvd_of_emod_eq_zero h4
    rcases z.2 k (by omega) hd with e | e
    · omega
    · rw [← e] at h3
      have : (k : Int) * 2 ≤ k * k := Int.mul_le_mul_of_nonneg_left (by omega) (by omega)
      omega
def spIsPr : Sp := fun vs H Q _ => ∃ n : Int, vs = [.int n] ∧ 2 ≤ n ∧ n ≤ 1000003 ∧ Q (.bl (isPr n)) H
theorem sq_le {k n : Int} (h0 : 0 ≤ k) (h : k * k ≤ n) (hn : n ≤ 1000003) : k ≤ 1000003 := by
  refine Classical.byContradiction fun c => ?_
  have : k * 1 ≤ k * k := Int.mul_le_mul_of_nonneg_left (by omega) h0
  omega
theorem ok_isPr {f : Addr} {fd : FuncData} (a : At K mg "_law_is_prime" s__law_is_prime ["_law_number"] f fd) : Has P w K mg base CX0 1 "_law_is_prime" ["_law_number"] spIsPr := by
  refine a.has (okG a.fn sc__law_is_prime (fun vs H Q E h => ?_) (fun cdv A outer s H vs Q E hr h => ?_))
  · obtain ⟨_, rfl, _⟩ := h
    rfl
  · obtain ⟨n, rfl, h2, hn, q⟩ := h
    refine ⟨_, (pss_cons (ps_set (i := 1) sc__law_is_prime.nd rfl (Or.inl rfl) pe_int)
      (pss_cons (ps_while (passes_of rfl) (pt_cmpR op_le (pe_op op_mul (pv 1) (pv 1)) (pv 0) (nomark _)) (pss_cons (ps_if (pt_cmpR op_eq (pe_op op_mod (pv 0) (pv 1)) pe_int (nomark _)) (pss_one (ps_ret pe_bl)) pss_nil)
      (pss_one (ps_set (i := 1) sc__law_is_prime.nd rfl (Or.inl rfl) (pe_op op_add (pv 1) pe_int)))))
      (pss_one (ps_ret pe_bl)))), ?_⟩
    refine ⟨fun m σ H' => ∃ k : Int, σ = [some (.int n), some (.int k)] ∧ H = H' ∧ 2 ≤ k ∧ k ≤ 1000004 ∧ m = (1000004 - k).toNat ∧ ∀ j : Nat, 2 ≤ j → (j : Int) < k → n % (j : Int) ≠ 0, ⟨_, 2, rfl, rfl, by omega, by omega, rfl, fun j h3 h4 => by omega⟩, ?_⟩
    rintro m σ H' ⟨k, rfl, rfl, hk, hk2, rfl, tried⟩
    refine ⟨_, rfl, _, rfl, _, _, rfl, rfl, .inl ⟨by omega, by omega⟩, _, rfl, _, _, rfl, rfl, _, rfl, ?_⟩
    refine ifD (fun c => ?_) (fun c => ?_)
    · have c3 := sq_le (by omega) c hn
      refine ⟨fun σ' H' => σ' = [some (.int n), some (.int (k + 1))] ∧ H = H' ∧ n % k ≠ 0, ?_, ?_⟩
      · rintro σ' H' ⟨rfl, rfl, z⟩
        refine ⟨_, ?_, k + 1, rfl, rfl, by omega, by omega, rfl, fun j h3 h4 => ?_⟩
        · omega
        · by_cases e : (j : Int) = k
          · rw [e]; exact z
          · exact tried j h3 (by omega)
      · refine ⟨_, rfl, _, rfl, _, _, rfl, rfl, (by omega), rfl, _, rfl, ?_⟩
        refine ifD (fun e => ?_) (fun e => ?_)
        · have e := vint.mp e
          have z : isPr n = false := by
            unfold isPr
            refine decide_eq_false fun h => ?_
            refine h k.toNat ?_ (by omega) ?_ ?_
            · have : k * 1 ≤ k * k := Int.mul_le_mul_of_nonneg_left (by omega) (by omega)
              omega
            · rw [Int.toNat_of_nonneg (by omega)]; exact c
            · rw [Int.toNat_of_nonneg (by omega)]; exact e
          rw [z] at q
          exact q
        · exact ⟨_, rfl, _, _, rfl, rfl, rfl, rfl, fun z => e (vint.mpr z)⟩
    · have z : isPr n = true := by
        unfold isPr
        refine decide_eq_true fun j h3 h4 h5 => ?_
        refine tried j h4 ?_
        refine Classical.byContradiction fun d => c ?_
        have h6 : k * k ≤ (j : Int) * j := Int.mul_le_mul (by omega) (by omega) (by omega) (by omega)
        omega
      rw [z] at q
      exact q
def wideOf (c : Int) : Int := (c + 1) * 742938285 % 2147483647 % 1000000
def spWide : Sp := fun vs H Q _ => ∃ n : Int, vs = [.int n] ∧ Q (.int (wideOf n)) H
theorem ok_wide {f : Addr} {fd : FuncData} (a : At K mg "_law_wide" s__law_wide ["_law_cell"] f fd) : Has P w K mg base CX0 1 "_law_wide" ["_law_cell"] spWide := by
  refine a.has (okG a.fn sc__law_wide (fun vs H Q E h => ?_) (fun cdv A outer s H vs Q E hr h => ?_))
  · obtain ⟨_, rfl, _⟩ := h
    rfl
  · obtain ⟨n, rfl, q⟩ := h
    refine ⟨_, (pss_one (ps_ret (pe_op op_mod (pe_op op_mod (pe_op op_mul (pe_op op_add (pv 0) pe_int) pe_int) pe_int) pe_int))), ?_⟩
    exact ⟨_, rfl, _, _, rfl, rfl, _, _, rfl, rfl, .inr ⟨by decide, by decide⟩, _, _, rfl, rfl, (by show (0 : Int) < 2147483647; decide), _, _, rfl, rfl, (by show (0 : Int) < 1000000; decide), q⟩
/-- the prime that a cell names: one of the twelve, or the first from a number on -/
def spPrime : Sp := fun vs H Q _ => ∃ n : Int, vs = [.int n] ∧ ∀ (p : Int) (H' : Hp), Law p → Same H H' → Q (.int p) H'
theorem pr_items {l : List Int} (h : ∀ x, x ∈ l → Law x) {j : Nat} (hj : j < l.length) : Law (gd l j) := h _ (gd_mem hj)
theorem law_of {p : Nat} (h : PrN p) (hl : p ≤ 2305843009213693951) : Law (p : Int) := ⟨h.pr, by omega⟩
theorem pr_first : ∀ x, x ∈ ([2, 3, 5, 7] : List Int) → Law x := by
  intro x hx
  simp only [List.mem_cons, List.not_mem_nil, or_false] at hx
  rcases hx with rfl | rfl | rfl | rfl
  · exact law_of pr2 (by decide)
  · exact law_of pr3 (by decide)
  · exact law_of pr5 (by decide)
  · exact law_of pr7 (by decide)
theorem pr_great : ∀ x, x ∈ ([65537, 998244353, 1000000007, 2147483647, 999999999989, 1000000000039, 1000000000000000009, 2305843009213693951] : List Int) → Law x := by
  intro x hx
  simp only [List.mem_cons, List.not_mem_nil, or_false] at hx
  rcases hx with rfl | rfl | rfl | rfl | rfl | rfl | rfl | rfl
  · exact law_of prA (by decide)
  · exact law_of prB (by decide)
  · exact law_of prC (by decide)
  · exact law_of prD (by decide)
  · exact law_of prE (by decide)
  · exact law_of prF (by decide)
  · exact law_of prG (by decide)
  · exact law_of prH (by decide)
theorem ok_prime {f : Addr} {fd : FuncData} (a : At K mg "_law_prime" s__law_prime ["_law_cell"] f fd) (h__law_wide : Has P w K mg base CX0 1 "_law_wide" ["_law_cell"] spWide) (h__law_is_prime : Has P w K mg base CX0 1 "_law_is_prime" ["_law_number"] spIsPr) :
    Has P w K mg base CX0 2 "_law_prime" ["_law_cell"] spPrime := by
  refine a.has (okG a.fn sc__law_prime (fun vs H Q E h => ?_) (fun cdv A outer s H vs Q E hr h => ?_))
  · obtain ⟨_, rfl, _⟩ := h
    rfl
  · obtain ⟨n, rfl, q⟩ := h
    refine ⟨_, (pss_cons (ps_if (pt_cmpR op_eq (pe_op op_mod (pv 0) pe_int) pe_int (nomark _)) (pss_one (ps_ret (pe_ix ix_list (pe_lst (pa_cons pe_int (pa_cons pe_int (pa_cons pe_int (pa_cons pe_int pa_nil))))) (pe_op op_mod (pe_op op_fdiv (pv 0) pe_int) pe_int) (fun _ _ => rfl)))) pss_nil)
      (pss_cons (ps_if (pt_cmpR op_eq (pe_op op_mod (pv 0) pe_int) pe_int (nomark _)) (pss_one (ps_ret (pe_ix ix_list (pe_lst (pa_cons pe_int (pa_cons pe_int (pa_cons pe_int (pa_cons pe_int (pa_cons pe_int (pa_cons pe_int (pa_cons pe_int (pa_cons pe_int pa_nil))))))))) (pe_op op_mod (pe_op op_fdiv (pv 0) pe_int) pe_int) (fun _ _ => rfl)))) pss_nil)
      (pss_cons (ps_set (i := 1) sc__law_prime.nd rfl (Or.inl rfl) (pe_op op_add pe_int (pe_op op_mod (pe_op op_fdiv (pv 0) pe_int) pe_int)))
      (pss_cons (ps_if (pt_cmpR op_eq (pe_op op_mod (pv 0) pe_int) pe_int (nomark _)) (pss_one (ps_set (i := 1) sc__law_prime.nd rfl (Or.inl rfl) (pe_op op_add pe_int (pe_has h__law_wide (hr.mono (by decide)) pass0 (pa_cons (pv 0) pa_nil))))) pss_nil)
      (pss_cons (ps_while (passes_of rfl) (pt_not (pt_val (pe_has h__law_is_prime (hr.mono (by decide)) pass0 (pa_cons (pv 1) pa_nil)))) (pss_one (ps_set (i := 1) sc__law_prime.nd rfl (Or.inl rfl) (pe_op op_add (pv 1) pe_int))))
      (pss_one (ps_ret (pv 1)))))))), ?_⟩
    have six : (0 : Int) < 6 := by decide
    have dsix : (0 : Int) < 6 ∧ (6 : Int) < 1073741824 := by decide
    refine ⟨_, rfl, _, _, rfl, rfl, six, rfl, _, rfl, ?_⟩
    refine ifD (fun _ => ?_) (fun _ => ?_)
    · refine ⟨(by show 4 ≤ sizeLine; decide), fun l hl => ?_⟩
      refine ⟨_, rfl, _, _, rfl, rfl, dsix, _, _, rfl, rfl, (by show (0 : Int) < 4; decide), l, [2, 3, 5, 7].map V.int, _, _, rfl, rfl, SqL.of upd_same, at_map (j := (n / 6 % 4).toNat) (by omega) (by show _ < 4; omega), ?_⟩
      exact q _ _ (pr_items pr_first (by show _ < 4; omega)) (Same.new hl)
    refine ⟨_, rfl, _, _, rfl, rfl, six, rfl, _, rfl, ?_⟩
    refine ifD (fun _ => ?_) (fun _ => ?_)
    · refine ⟨(by show 8 ≤ sizeLine; decide), fun l hl => ?_⟩
      refine ⟨_, rfl, _, _, rfl, rfl, dsix, _, _, rfl, rfl, (by show (0 : Int) < 8; decide), l, [65537, 998244353, 1000000007, 2147483647, 999999999989, 1000000000039, 1000000000000000009, 2305843009213693951].map V.int, _, _, rfl, rfl, SqL.of upd_same, at_map (j := (n / 6 % 8).toNat) (by omega) (by show _ < 8; omega), ?_⟩
      exact q _ _ (pr_items pr_great (by show _ < 8; omega)) (Same.new hl)
    -- the search
    have search : ∀ m0 : Int, 2 ≤ m0 → m0 ≤ 1000003 → ∀ D : Ends, (∀ (m : Int) (σ : L2.St), σ = [some (.int n), some (.int m)] → Law m → D.nx σ H) →
        tWhile (tNot (tB (tCall spIsPr [] E0 (tCons (tVar 1) tNil)))) (tAsg (tOp (rI0 fun i j => .int (i + j)) (tVar 1) (tC (.int 1))) (gName 1)) D [some (.int n), some (.int m0)] H := by
      intro m0 h2 h3 D hD
      refine ⟨fun m σ H' => ∃ k : Int, σ = [some (.int n), some (.int k)] ∧ H = H' ∧ 2 ≤ k ∧ k ≤ 1000003 ∧ m = (1000003 - k).toNat, ⟨_, m0, rfl, rfl, h2, h3, rfl⟩, ?_⟩
      rintro m σ H' ⟨k, rfl, rfl, hk, hk2, rfl⟩
      refine ⟨_, rfl, k, rfl, hk, hk2, _, rfl, ?_⟩
      refine ifB (fun c => ?_) (fun c => ?_)
      · have c : isPr k = false := by
          cases e : isPr k with
          | false => rfl
          | true => rw [e] at c; exact absurd c (by decide)
        have hz : k ≠ 1000003 := fun e => by
          have := (isPr_iff hk).mpr (by rw [e]; exact prZ.pr)
          rw [c] at this; exact absurd this (by decide)
        refine ⟨fun σ' H' => σ' = [some (.int n), some (.int (k + 1))] ∧ H = H', ?_, ?_⟩
        · rintro σ' H' ⟨rfl, rfl⟩
          exact ⟨_, by omega, k + 1, rfl, rfl, by omega, by omega, rfl⟩
        · exact ⟨_, rfl, _, _, rfl, rfl, rfl, rfl⟩
      · have c : isPr k = true := by
          cases e : isPr k with
          | true => rfl
          | false => rw [e] at c; exact absurd c (by decide)
        exact hD k _ rfl ⟨(isPr_iff hk).mp c, by omega⟩
    refine ⟨_, rfl, _, _, rfl, rfl, dsix, _, _, rfl, rfl, (by show (0 : Int) < 1200; decide), _, _, rfl, rfl, ?_⟩
    refine ⟨_, rfl, _, _, rfl, rfl, six, rfl, _, rfl, ?_⟩
    refine ifD (fun _ => ?_) (fun _ => ?_)
    · refine ⟨_, rfl, n, rfl, _, _, rfl, rfl, ?_⟩
      have w0 : 0 ≤ wideOf n ∧ wideOf n < 1000000 := by unfold wideOf; omega
      refine search (2 + wideOf n) (by omega) (by omega) _ fun m σ e hm => ?_
      subst e
      exact ⟨_, rfl, q _ _ hm fun _ _ z => z⟩
    · refine search (2 + n / 6 % 1200) (by omega) (by omega) _ fun m σ e hm => ?_
      subst e
      exact ⟨_, rfl, q _ _ hm fun _ _ z => z⟩
/-! ### numbers drawn from the script -/
def mixedOf (c : Int) (k : Nat) : Int := (c + 1) * gd [48271, 69621, 16807, 39373] k % 2147483647
theorem mixedOf_nonneg (c : Int) (k : Nat) : 0 ≤ mixedOf c k := Int.emod_nonneg _ (by decide)
def spMixed : Sp := fun vs H Q _ => ∃ (c : Int) (k : Nat), vs = [.int c, .int (k : Int)] ∧ k < 4 ∧ ∀ H', Same H H' → Q (.int (mixedOf c k)) H'
theorem mixed_bound : ∀ k : Nat, k < 4 → -(2 ^ 64) < gd [48271, 69621, 16807, 39373] k ∧ gd [48271, 69621, 16807, 39373] k < 2 ^ 64 := by decide
theorem ok_mixed {f : Addr} {fd : FuncData} (a : At K mg "_law_mixed" s__law_mixed ["_law_cell", "_law_k"] f fd) : Has P w K mg base CX0 1 "_law_mixed" ["_law_cell", "_law_k"] spMixed := by
  refine a.has (okG a.fn sc__law_mixed (fun vs H Q E h => ?_) (fun cdv A outer s H vs Q E hr h => ?_))
  · obtain ⟨_, _, rfl, _⟩ := h
    rfl
  · obtain ⟨c, k, rfl, hk, q⟩ := h
    refine ⟨_, (pss_one (ps_ret (pe_op op_mod (pe_op op_mul (pe_op op_add (pv 0) pe_int) (pe_ix ix_list (pe_lst (pa_cons pe_int (pa_cons pe_int (pa_cons pe_int (pa_cons pe_int pa_nil))))) (pv 1) (fun _ _ => rfl))) pe_int))), ?_⟩
    refine ⟨_, rfl, _, _, rfl, rfl, (by show 4 ≤ sizeLine; decide), fun l hl => ?_⟩
    refine ⟨_, rfl, l, [48271, 69621, 16807, 39373].map V.int, _, _, rfl, rfl, SqL.of upd_same, at_map (j := k) rfl hk, ?_⟩
    exact ⟨_, _, rfl, rfl, .inr (mixed_bound k hk), _, _, rfl, rfl, (by show (0 : Int) < 2147483647; decide), q _ (Same.new hl)⟩
/-! ### what a rule tells, walked by the law -/
def spTells (K : PySem.W.Frag) : Sp := fun vs H Q _ => ∃ (a b : Addr) (rule row : List Int) (n : Nat) (p : Int), vs = [.ref a, .ref b, .int (n : Int), .int p] ∧ SqL K H a (rule.map V.int) ∧ SqL K H b (row.map V.int) ∧ Law p ∧ Rests p rule ∧ rule.length ≤ 1000 ∧ rule.length ≤ n ∧ n ≤ row.length ∧ Q (.int (due p rule row n)) H
theorem ok_tells {f : Addr} {fd : FuncData} (T : Bt mg) (a : At K mg "_law_tells" s__law_tells ["_law_rule", "_law_row", "_law_place", "_law_prime_here"] f fd) : Has P w K mg base CX0 1 "_law_tells" ["_law_rule", "_law_row", "_law_place", "_law_prime_here"] (spTells K) := by
  refine a.has (okG a.fn sc__law_tells (fun vs H Q E h => ?_) (fun cdv A outer s H vs Q E hr h => ?_))
  · obtain ⟨_, _, _, _, _, _, rfl, _⟩ := h
    rfl
  · obtain ⟨la, lb, rule, row, n, p, rfl, ha, hb, ⟨hp, hpl⟩, hrr, h1000, hn1, hn2, q⟩ := h
    have p0 : (0 : Int) < p := by have := hp.1; omega
    refine ⟨_, (pss_cons (ps_set (i := 4) sc__law_tells.nd rfl (Or.inl rfl) pe_int)
      (pss_cons (ps_for (passes_of rfl) rfl (pi_range1 rfl T.b_range (pa_cons (pe_callB call_len_seq (by rfl) T.b_len PySem.boot_len (pa_cons (pv 0) pa_nil)) pa_nil)) (pg_name (i := 5) sc__law_tells.nd rfl (Or.inl rfl)) (pss_one (ps_set (i := 4) sc__law_tells.nd rfl (Or.inl rfl) (pe_op op_add (pv 4) (pe_op op_mul (pe_ix ix_list (pv 0) (pv 5) (fun _ _ => rfl)) (pe_ix ix_list (pv 1) (pe_op op_sub (pe_op op_sub (pv 2) pe_int) (pv 5)) (fun _ _ => rfl)))))))
      (pss_one (ps_ret (pe_op op_mod (pv 4) (pv 3)))))), ?_⟩
    refine ⟨_, rfl, la, _, rfl, .inl ha, _, rfl, (by rw [List.length_map]; omega), (by rw [List.length_map]; omega), for_range (n := (rule.map V.int).length) (fun i σ H' => ∃ v : Option V, σ = [some (.ref la), some (.ref lb), some (.int (n : Int)), some (.int p), some (.int (sm i fun k => gd rule k * gd row (n - 1 - k))), v] ∧ H = H') ⟨none, rfl, rfl⟩ ?_ ?_⟩
    · rintro i σ H' hi ⟨v, rfl, rfl⟩
      rw [List.length_map] at hi
      refine ⟨_, rfl, _, rfl, _, rfl, la, _, _, _, rfl, rfl, ha, at_map (j := i) (by omega) hi, ?_⟩
      refine ⟨_, rfl, _, rfl, _, _, rfl, rfl, _, rfl, _, _, rfl, rfl, lb, _, _, _, rfl, rfl, hb, at_map (j := n - 1 - i) (by omega) (by omega), ?_⟩
      refine ⟨_, _, rfl, rfl, .inl (bound64 (hrr.gd p0 i).1 (hrr.gd p0 i).2 hpl), _, _, rfl, rfl, ?_⟩
      exact ⟨_, rfl, rfl⟩
    · rintro σ H' ⟨v, rfl, rfl⟩
      rw [List.length_map]
      exact ⟨_, rfl, _, rfl, _, _, rfl, rfl, p0, q⟩
/-! ### is it a whole number -/
def whole : V → Bool
  | .int _ => true
  | _ => false
def spWhole : Sp := fun vs H Q _ => ∃ v : V, vs = [v] ∧ (v = .non ∨ (∃ i, v = .int i) ∨ ∃ b, v = .bl b) ∧ Q (.bl (whole v)) H
theorem ok_whole {f : Addr} {fd : FuncData} (T : Bt mg) (a : At K mg "_law_whole" s__law_whole ["_law_found"] f fd) : Has P w K mg base CX0 1 "_law_whole" ["_law_found"] spWhole := by
  refine a.has (okG a.fn sc__law_whole (fun vs H Q E h => ?_) (fun cdv A outer s H vs Q E hr h => ?_))
  · obtain ⟨_, rfl, _⟩ := h
    rfl
  · obtain ⟨v, rfl, hv, q⟩ := h
    refine ⟨_, (pss_one (ps_ret (pe_and (pe_callB call_isi (by rfl) T.b_isinstance (by decide +kernel) (pa_cons (pv 0) (pa_cons (pe_bltn (v := .ty "int") (by rfl) T.b_int (by decide +kernel) rfl) pa_nil))) (pe_one (pe_not (pe_callB call_isi (by rfl) T.b_isinstance (by decide +kernel) (pa_cons (pv 0) (pa_cons (pe_bltn (v := .ty "bool") (by rfl) T.b_bool (by decide +kernel) rfl) pa_nil)))))))), ?_⟩
    rcases hv with rfl | ⟨i, rfl⟩ | ⟨b, rfl⟩
    · refine ⟨_, rfl, _, _, _, _, false, rfl, .ty "int", .base .non, kit_ty (by decide +kernel), _, rfl, ?_⟩
      exact q
    · refine ⟨_, rfl, _, _, _, _, true, rfl, .ty "int", .base (.int _), kit_ty (by decide +kernel), _, rfl, ?_⟩
      exact ⟨_, rfl, _, _, _, _, false, rfl, .ty "bool", .base (.int _), kit_ty (by decide +kernel), _, rfl, q⟩
    · refine ⟨_, rfl, _, _, _, _, true, rfl, .ty "int", .base (.bl _), kit_ty (by decide +kernel), _, rfl, ?_⟩
      exact ⟨_, rfl, _, _, _, _, true, rfl, .ty "bool", .base (.bl _), kit_ty (by decide +kernel), _, rfl, q⟩
/-- a rest by the cells, then by its place -/
def restOf (ns : List Int) (k : Nat) (p : Int) : Int := if k < ns.length then gd ns k % p else ((k : Int) * k * 48271 + k * 11 + gd ns 0) % 2147483647 % p
theorem restOf_rest {p : Int} (h : 0 < p) (ns : List Int) (k : Nat) : 0 ≤ restOf ns k p ∧ restOf ns k p < p := by
  unfold restOf
  split <;> exact emod_rest h _
def spRest (K : PySem.W.Frag) : Sp := fun vs H Q _ => ∃ (l : Addr) (ns : List Int) (k : Nat) (p : Int), vs = [.ref l, .int (k : Int), .int p] ∧ SqL K H l (ns.map V.int) ∧ k ≤ 1000 ∧ 0 < p ∧ Q (.int (restOf ns k p)) H
theorem ok_rest {f : Addr} {fd : FuncData} (T : Bt mg) (a : At K mg "_law_rest" s__law_rest ["_law_script", "_law_k", "_law_prime_here"] f fd) (h__law_cell_at : Has P w K mg base CX0 1 "_law_cell_at" ["_law_script", "_law_k"] (spCell K)) : Has P w K mg base CX0 2 "_law_rest" ["_law_script", "_law_k", "_law_prime_here"] (spRest K) := by
  refine a.has (okG a.fn sc__law_rest (fun vs H Q E h => ?_) (fun cdv A outer s H vs Q E hr h => ?_))
  · obtain ⟨_, _, _, _, rfl, _⟩ := h
    rfl
  · obtain ⟨l, ns, k, p, rfl, hs, hk, p0, q⟩ := h
    refine ⟨_, (pss_cons (ps_if (pt_cmpR op_lt (pv 1) (pe_callB call_len_seq (by rfl) T.b_len PySem.boot_len (pa_cons (pv 0) pa_nil)) (nomark _)) (pss_one (ps_ret (pe_op op_mod (pe_ix ix_list (pv 0) (pv 1) (fun _ _ => rfl)) (pv 2)))) pss_nil)
      (pss_one (ps_ret (pe_op op_mod (pe_op op_mod (pe_op op_add (pe_op op_add (pe_op op_mul (pe_op op_mul (pv 1) (pv 1)) pe_int) (pe_op op_mul (pv 1) pe_int)) (pe_has h__law_cell_at (hr.mono (by decide)) pass0 (pa_cons (pv 0) (pa_cons pe_int pa_nil)))) pe_int) (pv 2))))), ?_⟩
    refine ⟨_, rfl, _, rfl, l, _, rfl, .inl hs, _, _, rfl, rfl, _, rfl, ?_⟩
    rw [List.length_map]
    refine ifD (fun c => ?_) (fun c => ?_)
    · have e : restOf ns k p = gd ns k % p := if_pos (by omega)
      rw [e] at q
      exact ⟨_, rfl, _, rfl, l, _, _, _, rfl, rfl, hs, at_map rfl (by omega), _, rfl, _, _, rfl, rfl, p0, q⟩
    · have e : restOf ns k p = ((k : Int) * k * 48271 + k * 11 + gd ns 0) % 2147483647 % p := if_neg (by omega)
      rw [e] at q
      refine ⟨_, rfl, _, rfl, _, _, rfl, rfl, .inl ⟨by omega, by omega⟩, _, _, rfl, rfl, .inr ⟨by decide, by decide⟩, _, rfl, _, _, rfl, rfl, .inr ⟨by decide, by decide⟩, _, _, rfl, rfl, ?_⟩
      exact ⟨_, rfl, l, ns, 0, rfl, hs, _, _, rfl, rfl, _, _, rfl, rfl, (by show (0 : Int) < 2147483647; decide), _, rfl, _, _, rfl, rfl, p0, q⟩
/-! ### inverse -/
def spInv (C : Addr) : Sp := fun vs H Q E => ∃ a p : Int, vs = [.int a, .int p] ∧ Law p ∧ (p ∣ a → E (.ref C) none H) ∧ (¬ p ∣ a → Q (.int (inv p a)) H)
theorem ok_inverse {f C : Addr} {fd : FuncData} (a : At K mg "inverse" s_inverse ["number", "prime"] f fd) (XT_NoInverse : XC K mg "NoInverse" C) : Has P w K mg base (L2N.CX P w) 1 "inverse" ["number", "prime"] (spInv C) := by
  refine a.has (okG a.fn sc_inverse (fun vs H Q E h => ?_) (fun cdv A outer s H vs Q E hr h => ?_))
  · obtain ⟨_, _, rfl, _⟩ := h
    rfl
  · obtain ⟨x, p, rfl, ⟨hp, hpl⟩, kE, kQ⟩ := h
    have h2 := hp.1
    have p0 : (0 : Int) < p := by omega
    refine ⟨_, (pss_cons (ps_if (pt_cmpR op_eq (pe_op op_mod (pv 0) (pv 1)) pe_int (nomark _)) (pss_one (L2N.ps_raise rfl (L2N.takes_of rfl rfl rfl rfl) (L2N.pmk_own PySem.F.excBase_ValueError XT_NoInverse.x XT_NoInverse.g XT_NoInverse.k (raises_own XT_NoInverse.b XT_NoInverse.t) rfl))) pss_nil)
      (pss_cons (ps_set (i := 2) sc_inverse.nd rfl (Or.inl rfl) (pv 1))
      (pss_cons (ps_set (i := 3) sc_inverse.nd rfl (Or.inl rfl) (pe_op op_mod (pv 0) (pv 1)))
      (pss_cons (ps_set (i := 4) sc_inverse.nd rfl (Or.inl rfl) pe_int)
      (pss_cons (ps_set (i := 5) sc_inverse.nd rfl (Or.inl rfl) pe_int)
      (pss_cons (ps_while (passes_of rfl) (pt_cmpR op_ne (pv 3) pe_int (nomark _)) (pss_cons (ps_set (i := 6) sc_inverse.nd rfl (Or.inl rfl) (pe_op op_fdivW (pv 2) (pv 3)))
      (pss_cons (ps_set (i := 7) sc_inverse.nd rfl (Or.inl rfl) (pe_op op_sub (pv 2) (pe_op op_mul (pv 6) (pv 3))))
      (pss_cons (ps_set (i := 2) sc_inverse.nd rfl (Or.inl rfl) (pv 3))
      (pss_cons (ps_set (i := 3) sc_inverse.nd rfl (Or.inl rfl) (pv 7))
      (pss_cons (ps_set (i := 8) sc_inverse.nd rfl (Or.inl rfl) (pe_op op_sub (pv 4) (pe_op op_mul (pv 6) (pv 5))))
      (pss_cons (ps_set (i := 4) sc_inverse.nd rfl (Or.inl rfl) (pv 5))
      (pss_one (ps_set (i := 5) sc_inverse.nd rfl (Or.inl rfl) (pv 8))))))))))
      (pss_one (ps_ret (pe_op op_mod (pv 4) (pv 1)))))))))), ?_⟩
    refine ⟨_, rfl, _, rfl, _, _, rfl, rfl, p0, rfl, _, rfl, ?_⟩
    refine ifD (fun c => ?_) (fun c => ?_)
    · exact kE (Int.dvd_of_emod_eq_zero (vint.mp c))
    have nd : ¬ p ∣ x := fun h => c (vint.mpr (Int.emod_eq_zero_of_dvd h))
    refine ⟨_, rfl, _, rfl, _, rfl, _, _, rfl, rfl, p0, ?_⟩
    refine ⟨fun m σ H' => ∃ (left right one two : Int) (v6 v7 v8 : Option V), σ = [some (.int x), some (.int p), some (.int left), some (.int right), some (.int one), some (.int two), v6, v7, v8] ∧ H = H' ∧ Eu p x left right one two ∧ m = right.toNat,
      ⟨_, p, x % p, 0, 1, none, none, none, rfl, rfl, Eu.start h2, rfl⟩, ?_⟩
    rintro m σ H' ⟨left, right, one, two, v6, v7, v8, rfl, rfl, eu, rfl⟩
    have r0 := eu.r0
    have rl := eu.rl
    have lp := eu.lp
    refine ⟨_, rfl, rfl, _, rfl, ?_⟩
    refine ifDN (fun c => ?_) (fun c => ?_)
    · have c : right ≠ 0 := fun z => c (vint.mpr z)
      have t := eu.turn c
      have of := eu.often c
      refine ⟨fun σ' H' => ∃ (v6 v7 v8 : Option V), σ' = [some (.int x), some (.int p), some (.int right), some (.int (left - left / right * right)), some (.int two), some (.int (one - left / right * two)), v6, v7, v8] ∧ H = H', ?_, ?_⟩
      · rintro σ' H' ⟨v6, v7, v8, rfl, rfl⟩
        exact ⟨_, by have := t.rl; have := t.r0; omega, _, _, _, _, v6, v7, v8, rfl, rfl, t, rfl⟩
      · refine ⟨_, rfl, _, rfl, _, _, rfl, rfl, wide_div (b := 64) (by omega) (by omega) (by decide) (by decide), _, rfl, _, rfl, _, rfl, _, _, rfl, rfl, .inl ⟨by omega, by omega⟩, _, _, rfl, rfl, _, rfl, _, rfl, _, rfl, _, rfl, _, rfl, _, _, rfl, rfl, .inl ⟨by omega, by omega⟩, _, _, rfl, rfl, ?_⟩
        exact ⟨_, rfl, _, rfl, _, _, _, rfl, rfl⟩
    · have e : right = 0 := vint.mp c
      subst e
      have z := eu.done hp nd
      refine ⟨_, rfl, _, rfl, _, _, rfl, rfl, p0, ?_⟩
      have q := kQ nd
      rw [inv_eq z] at q
      exact q
/-! ### due -/
def spDue (K : PySem.W.Frag) (C : Addr) : Sp := fun vs H Q E => ∃ (a b : Addr) (rule row : List Int) (i p : Int), vs = [.ref a, .ref b, .int i, .int p] ∧ SqL K H a (rule.map V.int) ∧ SqL K H b (row.map V.int) ∧ Law p ∧ Rests p rule ∧ rule.length ≤ 1000 ∧
  ((i < rule.length ∨ (row.length : Int) < i) → E (.ref C) none H) ∧ (∀ n : Nat, i = (n : Int) → rule.length ≤ n → n ≤ row.length → Q (.int (due p rule row n)) H)
theorem ok_due {f C : Addr} {fd : FuncData} (T : Bt mg) (a : At K mg "due" s_due ["rule", "row", "place", "prime"] f fd) (XT_NoPlace : XC K mg "NoPlace" C) : Has P w K mg base (L2N.CX P w) 1 "due" ["rule", "row", "place", "prime"] (spDue K C) := by
  refine a.has (okG a.fn sc_due (fun vs H Q E h => ?_) (fun cdv A outer s H vs Q E hr h => ?_))
  · obtain ⟨_, _, _, _, _, _, rfl, _⟩ := h
    rfl
  · obtain ⟨la, lb, rule, row, ii, p, rfl, ha, hb, ⟨hp, hpl⟩, hrr, h1000, kE, kQ⟩ := h
    have p0 : (0 : Int) < p := by have := hp.1; omega
    refine ⟨_, (pss_cons (ps_if (PW.pt (pw_or (pt_cmpR op_lt (pv 2) (pe_callB call_len_seq (by rfl) T.b_len PySem.boot_len (pa_cons (pv 0) pa_nil)) (nomark _)) (pw_or1 (pt_cmpR op_gt (pv 2) (pe_callB call_len_seq (by rfl) T.b_len PySem.boot_len (pa_cons (pv 1) pa_nil)) (nomark _))))) (pss_one (L2N.ps_raise rfl (L2N.takes_of rfl rfl rfl rfl) (L2N.pmk_own PySem.F.excBase_ValueError XT_NoPlace.x XT_NoPlace.g XT_NoPlace.k (raises_own XT_NoPlace.b XT_NoPlace.t) rfl))) pss_nil)
      (pss_cons (ps_set (i := 4) sc_due.nd rfl (Or.inl rfl) pe_int)
      (pss_cons (ps_for (passes_of rfl) rfl (pi_range1 rfl T.b_range (pa_cons (pe_callB call_len_seq (by rfl) T.b_len PySem.boot_len (pa_cons (pv 0) pa_nil)) pa_nil)) (pg_name (i := 5) sc_due.nd rfl (Or.inl rfl)) (pss_one (ps_set (i := 4) sc_due.nd rfl (Or.inl rfl) (pe_op op_add (pv 4) (pe_op op_mul (pe_ix ix_list (pv 0) (pv 5) (fun _ _ => rfl)) (pe_ix ix_list (pv 1) (pe_op op_sub (pe_op op_sub (pv 2) pe_int) (pv 5)) (fun _ _ => rfl)))))))
      (pss_one (ps_ret (pe_op op_mod (pv 4) (pv 3))))))), ?_⟩
    refine ⟨_, rfl, _, rfl, la, _, rfl, .inl ha, _, _, rfl, rfl, _, rfl, ?_⟩
    rw [List.length_map]
    refine ifD (fun c => iteT (kE (.inl c))) (fun c => ?_)
    refine ⟨_, rfl, _, rfl, lb, _, rfl, .inl hb, _, _, rfl, rfl, _, rfl, ?_⟩
    rw [List.length_map]
    refine ifD (fun c2 => kE (.inr c2)) (fun c2 => ?_)
    obtain ⟨n, rfl⟩ : ∃ n : Nat, ii = (n : Int) := ⟨ii.toNat, by omega⟩
    have hn1 : rule.length ≤ n := by omega
    have hn2 : n ≤ row.length := by omega
    refine ⟨_, rfl, la, _, rfl, .inl ha, _, rfl, (by rw [List.length_map]; omega), (by rw [List.length_map]; omega), for_range (n := (rule.map V.int).length) (fun i σ H' => ∃ v : Option V, σ = [some (.ref la), some (.ref lb), some (.int (n : Int)), some (.int p), some (.int (sm i fun k => gd rule k * gd row (n - 1 - k))), v] ∧ H = H') ⟨none, rfl, rfl⟩ ?_ ?_⟩
    · rintro i σ H' hi ⟨v, rfl, rfl⟩
      rw [List.length_map] at hi
      refine ⟨_, rfl, _, rfl, _, rfl, la, _, _, _, rfl, rfl, ha, at_map (j := i) (by omega) hi, ?_⟩
      refine ⟨_, rfl, _, rfl, _, _, rfl, rfl, _, rfl, _, _, rfl, rfl, lb, _, _, _, rfl, rfl, hb, at_map (j := n - 1 - i) (by omega) (by omega), ?_⟩
      refine ⟨_, _, rfl, rfl, .inl (bound64 (hrr.gd p0 i).1 (hrr.gd p0 i).2 hpl), _, _, rfl, rfl, ?_⟩
      exact ⟨_, rfl, rfl⟩
    · rintro σ H' ⟨v, rfl, rfl⟩
      rw [List.length_map]
      exact ⟨_, rfl, _, rfl, _, _, rfl, rfl, p0, kQ n rfl hn1 hn2⟩
/-! ### the grower's methods -/
def spInit (C : Addr) : Sp := fun vs H Q _ => ∃ (g dx : Addr) (p : Int), vs = [.ref g, .int p] ∧ H g = some (.ins C dx []) ∧
  ∀ (lr lu le : Addr) (H' : Hp), GrowAt C H' p g lr lu le Gr.new → H lr = none → H lu = none → H le = none → (∀ b o, H b = some o → b ≠ g → H' b = some o) → Q .non H'
theorem ok_init {f C : Addr} {fd : FuncData} (G : GT K C) (F : Fun K "__init__" "Grower.__init__" s_Grower___init__ f fd) : FnOk P w K mg base CX0 1 f fd ["self", "prime"] (spInit C) := by
  refine okG F sc_Grower___init__ (fun vs H Q E h => ?_) (fun cdv A outer s H vs Q E hr h => ?_)
  · obtain ⟨_, _, _, rfl, _⟩ := h
    rfl
  · obtain ⟨g, dx, p, rfl, hg, q⟩ := h
    refine ⟨_, (pss_cons (ps_fld (pv 0) (pv 1) rfl)
      (pss_cons (ps_fld (pv 0) (pe_lst pa_nil) rfl)
      (pss_cons (ps_fld (pv 0) (pe_lst pa_nil) rfl)
      (pss_cons (ps_fld (pv 0) (pe_lst (pa_cons pe_int pa_nil)) rfl)
      (pss_cons (ps_fld (pv 0) pe_int rfl)
      (pss_one (ps_fld (pv 0) pe_non rfl))))))), ?_⟩
    refine ⟨_, rfl, _, rfl, g, C, dx, [], rfl, hg, G.cl, G.prime, (by show 0 < 1000; decide), ?_⟩
    have b1 : (putF "prime" (.int p) ([] : List (Str × V))).length ≤ 1 := len_put (Nat.le_refl 0)
    refine ⟨(by show 0 ≤ sizeLine; decide), fun lr hlr => ?_⟩
    have n1 : g ≠ lr := ne_of_none upd_same hlr
    refine ⟨_, rfl, g, C, dx, _, rfl, (by rw [upd_ne n1]; exact upd_same), G.cl, G.row, (by omega), ?_⟩
    have b2 := len_put (f := "row") (v := .ref lr) b1
    refine ⟨(by show 0 ≤ sizeLine; decide), fun lu hlu => ?_⟩
    have n2 : g ≠ lu := ne_of_none upd_same hlu
    have n3 : lr ≠ lu := ne_of_none (by rw [upd_ne n1.symm]; exact upd_same) hlu
    refine ⟨_, rfl, g, C, dx, _, rfl, (by rw [upd_ne n2]; exact upd_same), G.cl, G.rule, (by omega), ?_⟩
    have b3 := len_put (f := "rule") (v := .ref lu) b2
    refine ⟨(by show 1 ≤ sizeLine; decide), fun le hle => ?_⟩
    have n4 : g ≠ le := ne_of_none upd_same hle
    have n5 : lu ≠ le := ne_of_none (by rw [upd_ne n2.symm]; exact upd_same) hle
    have n6 : lr ≠ le := ne_of_none (by rw [upd_ne n1.symm, upd_ne n3, upd_ne n1.symm]; exact upd_same) hle
    refine ⟨_, rfl, g, C, dx, _, rfl, (by rw [upd_ne n4]; exact upd_same), G.cl, G.elder, (by omega), ?_⟩
    have b4 := len_put (f := "elder") (v := .ref le) b3
    refine ⟨_, rfl, g, C, dx, _, rfl, upd_same, G.cl, G.lack, (by omega), ?_⟩
    have b5 := len_put (f := "lack") (v := .int 1) b4
    refine ⟨_, rfl, g, C, dx, _, rfl, upd_same, G.cl, G.place, (by omega), ?_⟩
    rw [gl_made]
    refine q lr lu le _ ⟨⟨dx, upd_same⟩, ?_, ?_, ?_, n3, n6⟩ ?_ ?_ ?_ fun b o hb hne => ?_
    · rw [upd_ne n1.symm, upd_ne n1.symm, upd_ne n1.symm, upd_ne n6, upd_ne n1.symm, upd_ne n3, upd_ne n1.symm]; exact upd_same
    · rw [upd_ne n2.symm, upd_ne n2.symm, upd_ne n2.symm, upd_ne n5, upd_ne n2.symm]; exact upd_same
    · rw [upd_ne n4.symm, upd_ne n4.symm, upd_ne n4.symm]; exact upd_same
    · rw [upd_ne n1.symm] at hlr
      exact hlr
    · rw [upd_ne n2.symm, upd_ne n3.symm, upd_ne n2.symm] at hlu
      exact hlu
    · rw [upd_ne n4.symm, upd_ne n5.symm, upd_ne n4.symm, upd_ne n6.symm, upd_ne n4.symm] at hle
      exact hle
    · have m1 : b ≠ lr := fun e => by
        rw [e] at hb hne
        rw [upd_ne hne] at hlr
        rw [hb] at hlr; cases hlr
      have m2 : b ≠ lu := fun e => by
        rw [e] at hb hne m1
        rw [upd_ne hne, upd_ne m1, upd_ne hne] at hlu
        rw [hb] at hlu; cases hlu
      have m3 : b ≠ le := fun e => by
        rw [e] at hb hne m1 m2
        rw [upd_ne hne, upd_ne m2, upd_ne hne, upd_ne m1, upd_ne hne] at hle
        rw [hb] at hle; cases hle
      rw [upd_ne hne, upd_ne hne, upd_ne hne, upd_ne m3, upd_ne hne, upd_ne m2, upd_ne hne, upd_ne m1, upd_ne hne]
      exact hb
def spTold (C : Addr) : Sp := fun vs H Q _ => ∃ (g lr lu le : Addr) (p : Int) (st : Gr), vs = [.ref g] ∧ GrowAt C H p g lr lu le st ∧ ∀ (H' : Hp) (q : Addr), H q = none → Same H H' → H' q = some (.lst (st.rule.map V.int)) → Q (.ref q) H'
theorem ok_told {f C : Addr} {fd : FuncData} (T : Bt mg) (G : GT K C) (a : AtM K C "told" "Grower.told" s_Grower_told ["self"] f fd) : HasM P w K mg base CX0 1 C "told" ["self"] (spTold C) := by
  refine a.has (okG a.fn sc_Grower_told (fun vs H Q E h => ?_) (fun cdv A outer s H vs Q E hr h => ?_))
  · obtain ⟨_, _, _, _, _, _, rfl, _⟩ := h
    rfl
  · obtain ⟨g, lr, lu, le, p, st, rfl, ⟨⟨dx, ob⟩, h1, h2, h3, n1, n2⟩, q⟩ := h
    refine ⟨_, (pss_one (ps_ret (pe_callTy (T := "list") call_list_of (by rfl) T.b_list (by decide +kernel) (pa_cons (pe_fld (pv 0) rfl) pa_nil)))), ?_⟩
    exact ⟨_, rfl, g, C, dx, _, _, rfl, ob, G.cl, G.rule, gl_rule _ _ _ _ _ _, lu, _, rfl, .inl (SqL.of h2), fun l hl => q _ l hl (Same.new hl) upd_same⟩
def spMend (C : Addr) : Sp := fun vs H Q _ => ∃ (g lr lu le : Addr) (p x : Int) (st : Gr), vs = [.ref g, .int (st.row.length : Int), .int (st.dis p x)] ∧ GrowAt C H p g lr lu le { st with row := st.row ++ [x] } ∧ Law p ∧ BM p st ∧ st.row.length ≤ 1000 ∧ st.dis p x ≠ 0 ∧
  ∀ (H' : Hp) (lu' le' : Addr), GrowAt C H' p g lr lu' le' (st.put p x) → H lu' = none → (le' = le ∨ H le' = none) → (∀ b o, H b = some o → b ≠ g → H' b = some o) → Q .non H'
theorem ok_mend {f C Ci : Addr} {fd : FuncData} (T : Bt mg) (G : GT K C) (a : AtM K C "mend" "Grower.mend" s_Grower_mend ["self", "place", "lack"] f fd) (h_inverse : Has P w K mg base (L2N.CX P w) 1 "inverse" ["number", "prime"] (spInv Ci)) : HasM P w K mg base CX0 2 C "mend" ["self", "place", "lack"] (spMend C) := by
  refine a.has (okG a.fn sc_Grower_mend (fun vs H Q E h => ?_) (fun cdv A outer s H vs Q E hr h => ?_))
  · obtain ⟨_, _, _, _, _, _, _, rfl, _⟩ := h
    rfl
  · obtain ⟨g, lr, lu, le, p, x, st, rfl, ⟨⟨dx, ob⟩, h1, h2, h3, n1, n2⟩, lw, bm, hlen, hd, q⟩ := h
    have ob : H g = some (.ins C dx (gl p lr lu le st.lack st.place)) := ob
    have h1 : H lr = some (.lst ((st.row ++ [x]).map V.int)) := h1
    have h2 : H lu = some (.lst (st.rule.map V.int)) := h2
    have h3 : H le = some (.lst (st.elder.map V.int)) := h3
    obtain ⟨hp, hpl⟩ := id lw
    have hp2 := hp.1
    have p0 : (0 : Int) < p := by omega
    have dr := dis_rest p0 st x
    have lk := bm.lack
    have il := inv_is hp (not_dvd_rest lk.1 lk.2)
    have bl := bm.len
    have bg := bm.gap
    have be := bm.elder
    refine ⟨_, (pss_cons (ps_set (i := 3) sc_Grower_mend.nd rfl (Or.inl rfl) (pe_op op_mul (pv 2) (pe_has h_inverse (hr.mono (by decide)) passN (pa_cons (pe_fld (pv 0) rfl) (pa_cons (pe_fld (pv 0) rfl) pa_nil)))))
      (pss_cons (ps_set (i := 4) sc_Grower_mend.nd rfl (Or.inl rfl) (pe_op op_add (pv 1) pe_int))
      (C8.pss_cut (ps_if (pt_cmpR op_notN (pe_fld (pv 0) rfl) pe_non (nomark _)) (pss_one (ps_set (i := 4) sc_Grower_mend.nd rfl (Or.inl rfl) (pe_op op_sub (pv 1) (pe_fld (pv 0) rfl)))) pss_nil)
      (pss_cons (ps_set (i := 5) sc_Grower_mend.nd rfl (Or.inl rfl) (pe_op op_cat (pe_lst (pa_cons pe_int pa_nil)) (pe_lc (own := [("weight", 9)]) (g := gName 9) (tt := tYes) rfl sc_Grower_mend.nd (pi_list (pe_fld (pv 0) rfl)) (blkOk_by (N := ["self", "place", "lack", "often", "gap", "ahead", "size", "mended", "k", "weight"]) (sc := defScope s_Grower_mend) (by decide +kernel)) (fun _ _ _ _ _ => pg_name (i := 9) sc_Grower_mend.nd rfl (Or.inl rfl)) (fun _ _ _ _ _ => pts_nil) (fun _ _ _ _ _ => (pe_un un_neg (pv 9))))))
      (pss_cons (ps_set (i := 6) sc_Grower_mend.nd rfl (Or.inl rfl) (pe_callB call_len_seq (by rfl) T.b_len PySem.boot_len (pa_cons (pe_fld (pv 0) rfl) pa_nil)))
      (C8.pss_cut (ps_if (pt_cmpR op_le (pe_op op_mul pe_int (pv 6)) (pv 1) (nomark _)) (pss_one (ps_set (i := 6) sc_Grower_mend.nd rfl (Or.inl rfl) (pe_op op_sub (pe_op op_add (pv 1) pe_int) (pv 6)))) pss_nil)
      (pss_cons (ps_set (i := 7) sc_Grower_mend.nd rfl (Or.inl rfl) (pe_op op_cat (pv 5) (pe_op op_rep (pe_lst (pa_cons pe_int pa_nil)) (pe_op op_sub (pe_op op_add (pv 6) pe_int) (pe_callB call_len_seq (by rfl) T.b_len PySem.boot_len (pa_cons (pv 5) pa_nil))))))
      (pss_cons (ps_for (passes_of rfl) rfl (pi_range1 rfl T.b_range (pa_cons (pe_callB call_len_seq (by rfl) T.b_len PySem.boot_len (pa_cons (pe_fld (pv 0) rfl) pa_nil)) pa_nil)) (pg_name (i := 8) sc_Grower_mend.nd rfl (Or.inl rfl)) (pss_one (ps_asg (pe_op op_sub (pe_ix ix_list (pv 7) (pe_op op_add (pv 4) (pv 8)) (fun _ _ => rfl)) (pe_op op_mul (pv 3) (pe_ix ix_list (pe_fld (pv 0) rfl) (pv 8) (fun _ _ => rfl)))) (pg_sub (pv 7) (pe_op op_add (pv 4) (pv 8)) set_list))))
      (C8.pss_cut (ps_if (pt_cmpR op_gt (pv 6) (pe_callB call_len_seq (by rfl) T.b_len PySem.boot_len (pa_cons (pe_fld (pv 0) rfl) pa_nil)) (nomark _)) (pss_cons (ps_fld (pv 0) (pe_lc (own := [("weight", 9)]) (g := gName 9) (tt := tYes) rfl sc_Grower_mend.nd (pi_list (pv 5)) (blkOk_by (N := ["self", "place", "lack", "often", "gap", "ahead", "size", "mended", "k", "weight"]) (sc := defScope s_Grower_mend) (by decide +kernel)) (fun _ _ _ _ _ => pg_name (i := 9) sc_Grower_mend.nd rfl (Or.inl rfl)) (fun _ _ _ _ _ => pts_nil) (fun _ _ _ _ _ => (pe_op op_mod (pv 9) (pe_fldK (K := K) rfl (pv 0) rfl)))) rfl)
      (pss_cons (ps_fld (pv 0) (pv 2) rfl)
      (pss_one (ps_fld (pv 0) (pv 1) rfl)))) pss_nil)
      (pss_one (ps_fld (pv 0) (pe_lc (own := [("weight", 9)]) (g := gName 9) (tt := tYes) rfl sc_Grower_mend.nd (pi_list (pe_slice sl_list (pv 7) (po_some pe_int) po_none)) (blkOk_by (N := ["self", "place", "lack", "often", "gap", "ahead", "size", "mended", "k", "weight"]) (sc := defScope s_Grower_mend) (by decide +kernel)) (fun _ _ _ _ _ => pg_name (i := 9) sc_Grower_mend.nd rfl (Or.inl rfl)) (fun _ _ _ _ _ => pts_nil) (fun _ _ _ _ _ => (pe_op op_mod (pe_un un_neg (pv 9)) (pe_fldK (K := K) rfl (pv 0) rfl)))) rfl))))))))))), ?_⟩
    -- often
    refine ⟨_, rfl, _, rfl, g, C, dx, _, _, rfl, ob, G.cl, G.lack, gl_lack _ _ _ _ _ _, _, rfl, g, C, dx, _, _, rfl, ob, G.cl, G.prime, gl_prime _ _ _ _ _ _, st.lack, p, rfl, lw, fun z => absurd z (not_dvd_rest lk.1 lk.2), fun _ => ⟨_, _, rfl, rfl, .inl ⟨by omega, by omega⟩, ?_⟩⟩
    -- gap
    refine ⟨_, rfl, _, _, rfl, rfl, ?_⟩
    refine ⟨fun σ H' => H = H' ∧ σ = [some (.ref g), some (.int (st.row.length : Int)), some (.int (st.dis p x)), some (.int (st.dis p x * inv p st.lack)), some (.int (gapOf st.place st.row.length : Int)), none, none, none, none, none], ?_, ?_⟩
    · refine ⟨_, rfl, g, C, dx, _, _, rfl, ob, G.cl, G.place, gl_place _ _ _ _ _ _, rfl, _, rfl, ?_⟩
      cases e : st.place with
      | none => exact iteF ⟨rfl, rfl⟩
      | some n =>
        have som := bm.som n e
        refine iteT ⟨_, rfl, _, rfl, g, C, dx, _, _, rfl, ob, G.cl, G.place, (by rw [gl_place, e]; rfl), _, _, rfl, rfl, rfl, ?_⟩
        have z : ((gapOf (some n) st.row.length : Nat) : Int) = (st.row.length : Int) - n := by
          show ((st.row.length - n : Nat) : Int) = _
          omega
        rw [z]
        rfl
    rintro σ H' ⟨rfl, rfl⟩
    -- ahead
    refine ⟨(by show 1 ≤ sizeLine; decide), fun l1 hl1 => ?_⟩
    have s1 : Same H (upd H l1 (.lst [V.int 1])) := Same.new hl1
    refine ⟨_, rfl, g, C, dx, _, _, rfl, s1 _ _ ob, G.cl, G.rule, gl_rule _ _ _ _ _ _, lu, rfl, ⟨_, SqL.of (s1 _ _ h2)⟩, fun l2 hl2 => lc_list (K := K) (a := lu) (xs := st.rule.map V.int) (fun i H' => Same (upd H l1 (.lst [V.int 1])) H' ∧ H' l2 = some (.lst (((st.rule.take i).map fun w => -w).map V.int))) ⟨Same.new hl2, upd_same⟩
      (fun i H' _ ⟨s2, _⟩ => SqL.of (s2 _ _ (s1 _ _ h2))) ?_ ?_⟩
    · rintro i y H' hy ⟨s2, k2⟩
      have hi : i < st.rule.length := by
        have := (List.getElem?_eq_some_iff.mp hy).1
        rw [List.length_map] at this
        exact this
      rw [get_map hi] at hy
      obtain rfl := (Option.some.inj hy).symm
      refine ⟨rfl, lc_turn ⟨_, rfl, _, rfl, _, k2, ?_, ?_, ?_⟩⟩
      · rw [List.length_map, List.length_map, List.length_take]; exact len_lt (by omega)
      · exact Same.upd_back s2 hl2
      · rw [upd_same, map_app1, map_take_succ hi]
    rintro H1 ⟨s2, k2⟩
    rw [List.length_map, List.take_length] at k2
    have n12 : l1 ≠ l2 := ne_of_none upd_same hl2
    refine ⟨l1, l2, [V.int 1], _, rfl, rfl, s2 _ _ upd_same, k2, ?_, fun la hla => ?_⟩
    · rw [List.length_map, List.length_map]; exact len_small (by show 1 + _ ≤ _; omega)
    have s3 : Same H (upd H1 la (.lst ([V.int 1] ++ (st.rule.map fun w => -w).map V.int))) := (s1.trans s2).trans (Same.new hla)
    have k3 : (upd H1 la (.lst ([V.int 1] ++ (st.rule.map fun w => -w).map V.int))) la = some (.lst ((ahead st.rule).map V.int)) := upd_same
    have hla0 : H la = none := (s1.trans s2).free hla
    generalize (upd H1 la (.lst ([V.int 1] ++ (st.rule.map fun w => -w).map V.int))) = H2 at s3 k3 ⊢
    -- size
    refine ⟨_, rfl, g, C, dx, _, _, rfl, s3 _ _ ob, G.cl, G.rule, gl_rule _ _ _ _ _ _, lu, _, rfl, .inl (SqL.of (s3 _ _ h2)), ?_⟩
    rw [List.length_map]
    refine ⟨fun σ H' => H2 = H' ∧ σ = [some (.ref g), some (.int (st.row.length : Int)), some (.int (st.dis p x)), some (.int (st.dis p x * inv p st.lack)), some (.int (gapOf st.place st.row.length : Int)), some (.ref la), some (.int (sizeOf' st.rule.length st.row.length : Int)), none, none, none], ?_, ?_⟩
    · refine ⟨_, rfl, _, _, rfl, rfl, .inl ⟨by decide, by decide⟩, _, rfl, _, _, rfl, rfl, _, rfl, ifD (fun c => ?_) (fun c => ?_)⟩
      · have c : 2 * (st.rule.length : Int) ≤ st.row.length := c
        refine ⟨_, rfl, _, _, rfl, rfl, _, rfl, _, _, rfl, rfl, rfl, ?_⟩
        have z : ((sizeOf' st.rule.length st.row.length : Nat) : Int) = (st.row.length : Int) + 1 - st.rule.length := by
          unfold sizeOf'
          rw [if_pos (by omega)]
          omega
        rw [z]
        rfl
      · have c : ¬ 2 * (st.rule.length : Int) ≤ st.row.length := c
        refine ⟨rfl, ?_⟩
        have z : sizeOf' st.rule.length st.row.length = st.rule.length := by
          unfold sizeOf'
          rw [if_neg (by omega)]
        rw [z]
        rfl
    rintro σ H' ⟨rfl, rfl⟩
    have sg := sizeOf'_ge st.rule.length st.row.length
    have sm1000 : sizeOf' st.rule.length st.row.length ≤ 1001 := by unfold sizeOf'; split <;> omega
    have al := ahead_len st.rule
    -- mended
    refine ⟨_, rfl, (by show 1 ≤ sizeLine; decide), fun l3 hl3 => ?_⟩
    have s4 : Same H2 (upd H2 l3 (.lst [V.int 0])) := Same.new hl3
    refine ⟨_, rfl, _, _, rfl, rfl, _, rfl, la, _, rfl, .inl (SqL.of (s4 _ _ k3)), _, _, rfl, rfl, l3, _, [V.int 0], rfl, rfl, upd_same, (by rw [List.length_map]; omega), (by rw [List.length_map]; omega), (by rw [List.length_map]; exact len_small (by show 1 * _ ≤ _; omega)), fun l4 hl4 => ?_⟩
    have e0 : ((sizeOf' st.rule.length st.row.length : Int) + 1 - ((ahead st.rule).map V.int).length).toNat = sizeOf' st.rule.length st.row.length + 1 - (ahead st.rule).length := by rw [List.length_map]; omega
    rw [e0, rep_zero]
    have s5 := s4.trans (Same.new hl4 (o := .lst ((List.replicate (sizeOf' st.rule.length st.row.length + 1 - (ahead st.rule).length) (0 : Int)).map V.int)))
    refine ⟨la, l4, _, _, rfl, rfl, s5 _ _ k3, upd_same, (by rw [List.length_map, List.length_map, List.length_replicate]; exact len_small (by omega)), fun lm hlm => ?_⟩
    have s6 := s5.trans (Same.new hlm (o := .lst ((ahead st.rule).map V.int ++ (List.replicate (sizeOf' st.rule.length st.row.length + 1 - (ahead st.rule).length) (0 : Int)).map V.int)))
    have k4 : (upd (upd (upd H2 l3 (.lst [V.int 0])) l4 (.lst ((List.replicate (sizeOf' st.rule.length st.row.length + 1 - (ahead st.rule).length) (0 : Int)).map V.int))) lm (.lst ((ahead st.rule).map V.int ++ (List.replicate (sizeOf' st.rule.length st.row.length + 1 - (ahead st.rule).length) (0 : Int)).map V.int))) lm =
        some (.lst ((mendK (ahead st.rule) (sizeOf' st.rule.length st.row.length) (gapOf st.place st.row.length) (st.dis p x * inv p st.lack) st.elder 0).map V.int)) := by
      rw [upd_same, mendK_zero (by omega), List.map_append]
    have hlm2 : H2 lm = none := s5.free hlm
    generalize (upd (upd (upd H2 l3 (.lst [V.int 0])) l4 (.lst ((List.replicate (sizeOf' st.rule.length st.row.length + 1 - (ahead st.rule).length) (0 : Int)).map V.int))) lm (.lst ((ahead st.rule).map V.int ++ (List.replicate (sizeOf' st.rule.length st.row.length + 1 - (ahead st.rule).length) (0 : Int)).map V.int))) = H3 at s6 k4 ⊢
    have s7 := s3.trans s6
    -- the mending loop
    refine ⟨_, rfl, g, C, dx, _, _, rfl, s7 _ _ ob, G.cl, G.elder, gl_elder _ _ _ _ _ _, le, _, rfl, .inl (SqL.of (s7 _ _ h3)), _, rfl, (by rw [List.length_map]; omega), (by rw [List.length_map]; omega), for_range (n := (st.elder.map V.int).length)
      (fun i σ H' => ∃ v : Option V, σ = [some (.ref g), some (.int (st.row.length : Int)), some (.int (st.dis p x)), some (.int (st.dis p x * inv p st.lack)), some (.int (gapOf st.place st.row.length : Int)), some (.ref la), some (.int (sizeOf' st.rule.length st.row.length : Int)), some (.ref lm), v, none] ∧ Same H2 H' ∧
        H' lm = some (.lst ((mendK (ahead st.rule) (sizeOf' st.rule.length st.row.length) (gapOf st.place st.row.length) (st.dis p x * inv p st.lack) st.elder i).map V.int))) ⟨none, rfl, s6, k4⟩ ?_ ?_⟩
    · rintro i σ H' hi ⟨v, rfl, s8, k5⟩
      rw [List.length_map] at hi
      have s9 := s3.trans s8
      have j1 : ((gapOf st.place st.row.length : Int) + (0 + i)) = ((gapOf st.place st.row.length + i : Nat) : Int) := by omega
      have ml := mendK_len (ahead st.rule) (sizeOf' st.rule.length st.row.length) (gapOf st.place st.row.length) (st.dis p x * inv p st.lack) st.elder i
      refine ⟨_, rfl, _, rfl, _, rfl, _, _, rfl, rfl, lm, _, _, _, rfl, rfl, SqL.of k5, at_map (j := gapOf st.place st.row.length + i) j1 (by omega), ?_⟩
      refine ⟨_, rfl, _, rfl, g, C, dx, _, _, rfl, s9 _ _ ob, G.cl, G.elder, gl_elder _ _ _ _ _ _, _, rfl, le, _, _, _, rfl, rfl, SqL.of (s9 _ _ h3), at_map (j := i) (by omega) hi, _, _, rfl, rfl, .inr (bound64 (be.gd p0 i).1 (be.gd p0 i).2 hpl), _, _, rfl, rfl, ?_⟩
      refine ⟨_, rfl, _, rfl, _, rfl, _, _, rfl, rfl, lm, _, _, gapOf st.place st.row.length + i, rfl, rfl, k5, ixN_at j1 (by rw [List.length_map]; omega), ?_⟩
      refine ⟨_, rfl, Same.upd_back s8 hlm2, ?_⟩
      rw [upd_same, map_set1, mendK_succ (by omega)]
    rintro σ H4 ⟨v, rfl, s8, k5⟩
    rw [List.length_map] at k5
    have s9 := s3.trans s8
    -- the elder, if it has grown
    refine ⟨fun σ H' => ∃ le', σ = [some (.ref g), some (.int (st.row.length : Int)), some (.int (st.dis p x)), some (.int (st.dis p x * inv p st.lack)), some (.int (gapOf st.place st.row.length : Int)), some (.ref la), some (.int (sizeOf' st.rule.length st.row.length : Int)), some (.ref lm), v, none] ∧
      H' g = some (.ins C dx (gl p lr lu le' (st.put p x).lack (st.put p x).place)) ∧ H' le' = some (.lst ((st.put p x).elder.map V.int)) ∧ (le' = le ∨ H le' = none) ∧ lr ≠ le' ∧ (∀ b o, H4 b = some o → b ≠ g → H' b = some o), ?_, ?_⟩
    · have pe : (st.put p x).elder = if 2 * st.rule.length ≤ st.row.length then (ahead st.rule).map (fun w => w % p) else st.elder := by unfold Gr.put; rw [if_neg hd]; rfl
      have pl : (st.put p x).lack = if 2 * st.rule.length ≤ st.row.length then st.dis p x else st.lack := by unfold Gr.put; rw [if_neg hd]; rfl
      have pp : (st.put p x).place = if 2 * st.rule.length ≤ st.row.length then some st.row.length else st.place := by unfold Gr.put; rw [if_neg hd]; rfl
      refine ⟨_, rfl, _, rfl, g, C, dx, _, _, rfl, s9 _ _ ob, G.cl, G.rule, gl_rule _ _ _ _ _ _, lu, _, rfl, .inl (SqL.of (s9 _ _ h2)), _, _, rfl, rfl, _, rfl, ?_⟩
      rw [List.length_map]
      refine ifD (fun c => ?_) (fun c => ?_)
      · have c : (st.rule.length : Int) < sizeOf' st.rule.length st.row.length := c
        have c2 : 2 * st.rule.length ≤ st.row.length := by
          unfold sizeOf' at c
          split at c <;> omega
        rw [if_pos c2] at pe pl pp
        refine ⟨_, rfl, la, rfl, ⟨_, SqL.of (s8 _ _ k3)⟩, fun l5 hl5 => lc_list (K := K) (a := la) (xs := (ahead st.rule).map V.int) (fun i H' => Same H4 H' ∧ H' l5 = some (.lst ((((ahead st.rule).take i).map fun w => w % p).map V.int))) ⟨Same.new hl5, upd_same⟩
          (fun i H' _ ⟨s10, _⟩ => SqL.of (s10 _ _ (s8 _ _ k3))) ?_ ?_⟩
        · rintro i y H' hy ⟨s10, k6⟩
          have hi : i < (ahead st.rule).length := by
            have := (List.getElem?_eq_some_iff.mp hy).1
            rw [List.length_map] at this
            exact this
          rw [get_map hi] at hy
          obtain rfl := (Option.some.inj hy).symm
          refine ⟨rfl, lc_turn ⟨_, rfl, _, rfl, g, C, dx, _, _, rfl, s10 _ _ (s9 _ _ ob), G.cl, G.prime, gl_prime _ _ _ _ _ _, _, _, rfl, rfl, p0, _, k6, ?_, ?_, ?_⟩⟩
          · rw [List.length_map, List.length_map, List.length_take]; exact len_lt (by omega)
          · exact Same.upd_back s10 hl5
          · rw [upd_same, map_app1, map_take_succ hi]
        rintro H5 ⟨s10, k6⟩
        rw [List.length_map, List.take_length] at k6
        have h5o := s10 _ _ (s9 _ _ ob)
        have n5g : l5 ≠ g := (ne_of_none (s9 _ _ ob) hl5).symm
        refine ⟨_, rfl, g, C, dx, _, rfl, h5o, G.cl, G.elder, gl_len _ _ _ _ _ _, ?_⟩
        rw [gl_put_elder]
        refine ⟨_, rfl, _, rfl, g, C, dx, _, rfl, upd_same, G.cl, G.lack, gl_len _ _ _ _ _ _, ?_⟩
        rw [gl_put_lack]
        refine ⟨_, rfl, _, rfl, g, C, dx, _, rfl, upd_same, G.cl, G.place, gl_len _ _ _ _ _ _, ?_⟩
        rw [gl_put_place]
        refine ⟨l5, rfl, ?_, ?_, .inr (s9.free hl5), ne_of_none (s9 _ _ h1) hl5, fun b o hb hne => ?_⟩
        · rw [upd_same, pl, pp]
        · rw [upd_ne n5g, upd_ne n5g, upd_ne n5g, k6, pe]
        · rw [upd_ne hne, upd_ne hne, upd_ne hne]; exact s10 _ _ hb
      · have c : ¬ (st.rule.length : Int) < sizeOf' st.rule.length st.row.length := c
        have c2 : ¬ 2 * st.rule.length ≤ st.row.length := fun z => by
          unfold sizeOf' at c
          rw [if_pos z] at c
          omega
        rw [if_neg c2] at pe pl pp
        refine ⟨le, rfl, ?_, ?_, .inl rfl, n2, fun b o hb _ => hb⟩
        · rw [pl, pp]; exact s9 _ _ ob
        · rw [pe]; exact s9 _ _ h3
    rintro σ H5 ⟨le', rfl, ob5, e5, hle, nle, kp⟩
    -- the rule
    have nlm : lm ≠ g := ne_of k5 (s9 _ _ ob) (by intro z; cases z)
    have k7 := kp _ _ k5 nlm
    have em : mendK (ahead st.rule) (sizeOf' st.rule.length st.row.length) (gapOf st.place st.row.length) (st.dis p x * inv p st.lack) st.elder st.elder.length = st.mended p st.row.length (st.dis p x) := rfl
    rw [em] at k7
    have lm1 := mended_len p st st.row.length (st.dis p x)
    refine ⟨_, rfl, _, rfl, lm, _, rfl, SqL.of k7, fun l6 hl6 => ?_⟩
    have s10 : Same H5 (upd H5 l6 (.lst (cutV ((st.mended p st.row.length (st.dis p x)).map V.int) (some 1) none))) := Same.new hl6
    have k8 : (upd H5 l6 (.lst (cutV ((st.mended p st.row.length (st.dis p x)).map V.int) (some 1) none))) l6 = some (.lst (((st.mended p st.row.length (st.dis p x)).drop 1).map V.int)) := by rw [upd_same]; exact congrArg (fun z => some (HO.lst z)) (cut_drop _ 1)
    generalize (upd H5 l6 (.lst (cutV ((st.mended p st.row.length (st.dis p x)).map V.int) (some 1) none))) = H6 at s10 k8 ⊢
    obtain ⟨md, emd⟩ : ∃ md, md = (st.mended p st.row.length (st.dis p x)).drop 1 := ⟨_, rfl⟩
    rw [← emd] at k8
    have lmd : md.length ≤ 1001 := by rw [emd, List.length_drop]; omega
    refine ⟨_, rfl, ⟨_, SqL.of k8⟩, fun l7 hl7 => lc_list (K := K) (a := l6) (xs := md.map V.int) (fun i H' => Same H6 H' ∧ H' l7 = some (.lst (((md.take i).map fun w => -w % p).map V.int))) ⟨Same.new hl7, upd_same⟩ (fun i H' _ ⟨s11, _⟩ => SqL.of (s11 _ _ k8)) ?_ ?_⟩
    · rintro i y H' hy ⟨s11, k9⟩
      have hi : i < md.length := by
        have := (List.getElem?_eq_some_iff.mp hy).1
        rw [List.length_map] at this
        exact this
      rw [get_map hi] at hy
      obtain rfl := (Option.some.inj hy).symm
      refine ⟨rfl, lc_turn ⟨_, rfl, _, rfl, _, rfl, g, C, dx, _, _, rfl, s11 _ _ (s10 _ _ ob5), G.cl, G.prime, gl_prime _ _ _ _ _ _, _, _, rfl, rfl, p0, _, k9, ?_, ?_, ?_⟩⟩
      · rw [List.length_map, List.length_map, List.length_take]; exact len_lt (by omega)
      · exact Same.upd_back s11 hl7
      · rw [upd_same, map_app1, map_take_succ hi]
    rintro H7 ⟨s11, k9⟩
    rw [List.length_map, List.take_length, emd] at k9
    have s12 := s10.trans s11
    have ob7 := s12 _ _ ob5
    have pr : (st.put p x).rule = ((st.mended p st.row.length (st.dis p x)).drop 1).map fun w => -w % p := by unfold Gr.put; rw [if_neg hd]; rfl
    have prow : (st.put p x).row = st.row ++ [x] := by unfold Gr.put; rw [if_neg hd]; rfl
    refine ⟨_, rfl, g, C, dx, _, rfl, ob7, G.cl, G.rule, gl_len _ _ _ _ _ _, ?_⟩
    rw [gl_put_rule]
    have h5r := kp _ _ (s9 _ _ h1) (ne_of (s9 _ _ h1) (s9 _ _ ob) (by intro z; cases z))
    have n7 : l7 ≠ g := (ne_of_none (s10 _ _ ob5) hl7).symm
    have n7r : lr ≠ l7 := ne_of_none (s10 _ _ h5r) hl7
    have nrg : lr ≠ g := ne_of h1 ob (by intro z; cases z)
    have neg : le' ≠ g := ne_of e5 ob5 (by intro z; cases z)
    refine q _ l7 le' ⟨⟨dx, upd_same⟩, ?_, ?_, ?_, n7r, nle⟩ ?_ hle fun b o hb hne => ?_
    · rw [upd_ne nrg, prow]; exact s12 _ _ h5r
    · rw [upd_ne n7, k9, pr]
    · rw [upd_ne neg]; exact s12 _ _ e5
    · cases z : H l7 with
      | none => rfl
      | some o =>
        have y := s10 _ _ (kp _ _ (s9 _ _ z) n7)
        rw [hl7] at y; cases y
    · rw [upd_ne hne]; exact s12 _ _ (kp _ _ (s9 _ _ hb) hne)
theorem put_zero {p x : Int} {st : Gr} (h : st.dis p x = 0) : st.put p x = { st with row := st.row ++ [x] } := if_pos h
theorem put_row {p x : Int} {st : Gr} : (st.put p x).row = st.row ++ [x] := by
  unfold Gr.put
  split <;> rfl
def spPut (C Cr : Addr) : Sp := fun vs H Q E => ∃ (g lr lu le : Addr) (p x : Int) (st : Gr), vs = [.ref g, .int x] ∧ GrowAt C H p g lr lu le st ∧ Law p ∧ BM p st ∧ st.row.length ≤ 999 ∧ ((x < 0 ∨ p ≤ x) → E (.ref Cr) none H) ∧
  (0 ≤ x → x < p → ∀ (H' : Hp) (lu' le' : Addr), GrowAt C H' p g lr lu' le' (st.put p x) → (lu' = lu ∨ H lu' = none) → (le' = le ∨ H le' = none) → (∀ b o, H b = some o → b ≠ g → b ≠ lr → H' b = some o) → Q (.bl (decide (st.dis p x ≠ 0))) H')
theorem ok_put {f C Cr Cp : Addr} {fd : FuncData} (T : Bt mg) (G : GT K C) (a : AtM K C "put" "Grower.put" s_Grower_put ["self", "number"] f fd) (XT_NoRest : XC K mg "NoRest" Cr) (h_due : Has P w K mg base (L2N.CX P w) 1 "due" ["rule", "row", "place", "prime"] (spDue K Cp)) (h_mend : HasM P w K mg base CX0 2 C "mend" ["self", "place", "lack"] (spMend C)) :
    HasM P w K mg base (L2N.CX P w) 3 C "put" ["self", "number"] (spPut C Cr) := by
  refine a.has (okG a.fn sc_Grower_put (fun vs H Q E h => ?_) (fun cdv A outer s H vs Q E hr h => ?_))
  · obtain ⟨_, _, _, _, _, _, _, rfl, _⟩ := h
    rfl
  · obtain ⟨g, lr, lu, le, p, x, st, rfl, ⟨⟨dx, ob⟩, h1, h2, h3, n1, n2⟩, lw, bm, hlen, kE, kQ⟩ := h
    have hp2 := lw.1.1
    have p0 : (0 : Int) < p := by omega
    have bl := bm.len
    have nrg : lr ≠ g := ne_of h1 ob (by intro z; cases z)
    refine ⟨_, (pss_cons (ps_if (PW.pt (pw_or (pt_cmpR op_lt (pv 1) pe_int (nomark _)) (pw_or1 (pt_cmpR op_ge (pv 1) (pe_fld (pv 0) rfl) (nomark _))))) (pss_one (L2N.ps_raise rfl (L2N.takes_of rfl rfl rfl rfl) (L2N.pmk_own PySem.F.excBase_ValueError XT_NoRest.x XT_NoRest.g XT_NoRest.k (raises_own XT_NoRest.b XT_NoRest.t) rfl))) pss_nil)
      (pss_cons (ps_set (i := 2) sc_Grower_put.nd rfl (Or.inl rfl) (pe_callB call_len_seq (by rfl) T.b_len PySem.boot_len (pa_cons (pe_fld (pv 0) rfl) pa_nil)))
      (pss_cons (ps_set (i := 3) sc_Grower_put.nd rfl (Or.inl rfl) (pe_op op_mod (pe_op op_sub (pv 1) (pe_has h_due (hr.mono (by decide)) passN (pa_cons (pe_fld (pv 0) rfl) (pa_cons (pe_fld (pv 0) rfl) (pa_cons (pv 2) (pa_cons (pe_fld (pv 0) rfl) pa_nil)))))) (pe_fld (pv 0) rfl)))
      (pss_cons (ps_expr (pe_bm PySem.F.plainAttrs_list PySem.F.slot_list_append PySem.F.type_list_append mt_append (pe_fld (pv 0) rfl) (pa_cons (pv 1) pa_nil)))
      (pss_cons (ps_if (pt_cmpR op_eq (pv 3) pe_int (nomark _)) (pss_one (ps_ret pe_bl)) pss_nil)
      (pss_cons (ps_expr (pe_hasM (pv 0) G.cl h_mend (hr.mono (by decide)) pass0 (pa_cons (pv 2) (pa_cons (pv 3) pa_nil))))
      (pss_one (ps_ret pe_bl)))))))), ?_⟩
    refine ⟨_, rfl, _, _, rfl, rfl, _, rfl, ifD (fun c => iteT (kE (.inl c))) (fun c => ?_)⟩
    refine ⟨_, rfl, _, rfl, g, C, dx, _, _, rfl, ob, G.cl, G.prime, gl_prime _ _ _ _ _ _, _, _, rfl, rfl, _, rfl, ifD (fun c2 => kE (.inr c2)) (fun c2 => ?_)⟩
    have c : ¬ x < 0 := c
    have c2 : ¬ p ≤ x := c2
    have kQ := kQ (by omega) (by omega)
    refine ⟨_, rfl, g, C, dx, _, _, rfl, ob, G.cl, G.row, gl_row _ _ _ _ _ _, lr, _, rfl, .inl (SqL.of h1), ?_⟩
    rw [List.length_map]
    refine ⟨_, rfl, _, rfl, g, C, dx, _, _, rfl, ob, G.cl, G.rule, gl_rule _ _ _ _ _ _, _, rfl, g, C, dx, _, _, rfl, ob, G.cl, G.row, gl_row _ _ _ _ _ _, _, rfl, _, rfl, g, C, dx, _, _, rfl, ob, G.cl, G.prime, gl_prime _ _ _ _ _ _, lu, lr, st.rule, st.row, _, p, rfl, SqL.of h2, SqL.of h1, lw, bm.rule, by omega, fun c => by omega, fun n en _ _ => ?_⟩
    obtain rfl : n = st.row.length := by omega
    refine ⟨_, _, rfl, rfl, _, rfl, g, C, dx, _, _, rfl, ob, G.cl, G.prime, gl_prime _ _ _ _ _ _, _, _, rfl, rfl, p0, ?_⟩
    -- the number is taken
    refine ⟨_, rfl, g, C, dx, _, _, rfl, ob, G.cl, G.row, gl_row _ _ _ _ _ _, .inl ⟨rfl, _, SqL.of h1⟩, _, rfl, lr, _, _, rfl, rfl, h1, ?_, ?_⟩
    · rw [List.length_map]; exact len_lt (by omega)
    rw [map_app1]
    have g1 : GrowAt C (upd H lr (.lst ((st.row ++ [x]).map V.int))) p g lr lu le { st with row := st.row ++ [x] } :=
      ⟨⟨dx, by rw [upd_ne nrg.symm]; exact ob⟩, upd_same, by rw [upd_ne n1.symm]; exact h2, by rw [upd_ne n2.symm]; exact h3, n1, n2⟩
    refine ⟨_, rfl, rfl, _, rfl, ifD (fun c => ?_) (fun c => ?_)⟩
    · have c : st.dis p x = 0 := vint.mp c
      have z := kQ (upd H lr (.lst ((st.row ++ [x]).map V.int))) lu le (by rw [put_zero c]; exact g1) (.inl rfl) (.inl rfl) fun b o hb _ hne => by rw [upd_ne hne]; exact hb
      rw [decide_eq_false (fun z => z c)] at z
      exact z
    · have c : st.dis p x ≠ 0 := fun z => c (vint.mpr z)
      obtain ⟨dx', ob'⟩ := g1.ob
      refine ⟨_, rfl, g, dx', _, rfl, ob', gl_no _ _ _ _ _ _ (by decide +kernel), _, rfl, _, rfl, g, lr, lu, le, p, x, st, rfl, g1, lw, bm, by omega, c, fun H' lu' le' gr hlu hle kp => ?_⟩
      have z := kQ H' lu' le' gr (.inr ?_) ?_ fun b o hb hne hne2 => kp b o (by rw [upd_ne hne2]; exact hb) hne
      · rw [decide_eq_true c] at z
        exact z
      · have ne : lu' ≠ lr := (ne_of_none upd_same hlu).symm
        rw [upd_ne ne] at hlu
        exact hlu
      · rcases hle with e | e
        · exact .inl e
        · have ne : le' ≠ lr := (ne_of_none upd_same e).symm
          rw [upd_ne ne] at e
          exact .inr e
/-! ### a whole row -/
noncomputable def growAll (p : Int) (row : List Int) : Gr := row.foldl (Gr.put p) Gr.new
theorem growAll_app (p : Int) (row : List Int) (x : Int) : growAll p (row ++ [x]) = (growAll p row).put p x := by
  unfold growAll
  rw [List.foldl_append]; rfl
theorem growAll_bm {p : Int} (hp : Pr p) : ∀ (n : Nat) (row : List Int), row.length = n → Rests p row → BM p (growAll p row) ∧ (growAll p row).row = row
  | 0, row, h, _ => by
    have e : row = [] := List.length_eq_zero_iff.mp h
    subst e
    exact ⟨BM.new hp.1, rfl⟩
  | n + 1, row, h, hr => by
    have e : row = row.take n ++ [gd row n] := by
      have := take_succ (l := row) (i := n) (by omega)
      rw [← this, List.take_of_length_le (by omega)]
    obtain ⟨ih1, ih2⟩ := growAll_bm hp n (row.take n) (by rw [List.length_take]; omega) (hr.take n)
    have hx := hr _ (gd_mem (l := row) (k := n) (by omega))
    rw [e, growAll_app]
    refine ⟨ih1.put hp hx.1 hx.2, ?_⟩
    rw [put_row, ih2]
theorem growAll_ok {p : Int} (hp : Pr p) {row : List Int} (hr : Rests p row) : BM p (growAll p row) := (growAll_bm hp _ row rfl hr).1
theorem growAll_row {p : Int} (hp : Pr p) {row : List Int} (hr : Rests p row) : (growAll p row).row = row := (growAll_bm hp _ row rfl hr).2
def spTaken (K : PySem.W.Frag) (C Cr : Addr) : Sp := fun vs H Q E => ∃ (a : Addr) (row : List Int) (p : Int), vs = [.ref a, .int p] ∧ SqL K H a (row.map V.int) ∧ Law p ∧ row.length ≤ 900 ∧ (¬ Rests p row → ∀ H', Same H H' → E (.ref Cr) none H') ∧
  (Rests p row → ∀ (H' : Hp) (g lr lu le : Addr), GrowAt C H' p g lr lu le (growAll p row) → Same H H' → H g = none → H lr = none → H lu = none → H le = none → Q (.ref g) H')
theorem ok_taken {f C Cr : Addr} {fd : FuncData} (G : GT K C) (a : At K mg "taken" s_taken ["row", "prime"] f fd) (h_Grower : HasC P w K mg base CX0 1 C "Grower" ["self", "prime"] (spInit C)) (h_put : HasM P w K mg base (L2N.CX P w) 3 C "put" ["self", "number"] (spPut C Cr)) :
    Has P w K mg base (L2N.CX P w) 4 "taken" ["row", "prime"] (spTaken K C Cr) := by
  refine a.has (okG a.fn sc_taken (fun vs H Q E h => ?_) (fun cdv A outer s H vs Q E hr h => ?_))
  · obtain ⟨_, _, _, rfl, _⟩ := h
    rfl
  · obtain ⟨l, row, p, rfl, hs, lw, hlen, kE, kQ⟩ := h
    refine ⟨_, (pss_cons (ps_set (i := 2) sc_taken.nd rfl (Or.inl rfl) (pe_hasC h_Grower (hr.mono (by decide)) pass0 (pa_cons (pv 1) pa_nil)))
      (pss_cons (ps_for (passes_of rfl) rfl (pi_list (pv 0)) (pg_name (i := 3) sc_taken.nd rfl (Or.inl rfl)) (pss_one (ps_expr (pe_hasM (pv 2) G.cl h_put (hr.mono (by decide)) (L2N.passes_call (W := fun c d _ H => E c d H) (L2N.takes_of rfl rfl rfl rfl) (fun _ _ _ _ z => z)) (pa_cons (pv 3) pa_nil)))))
      (pss_one (ps_ret (pv 2))))), ?_⟩
    refine ⟨_, rfl, fun g dx hg hdx ndx => ⟨g, dx, p, rfl, upd_same, fun lr lu le H1 g1 e1 e2 e3 kp => ⟨rfl, ?_⟩⟩⟩
    have s0 : Same H (upd (upd H dx (.own g)) g (.ins C dx [])) := fun b o hb => by rw [upd_ne (ne_of_none hb hg), upd_ne (ne_of_none hb hdx)]; exact hb
    have s1 : Same H H1 := fun b o hb => kp b o (s0 b o hb) (ne_of_none hb hg)
    have f1 := s0.free e1
    have f2 := s0.free e2
    have f3 := s0.free e3
    refine ⟨_, rfl, l, rfl, ⟨_, s1.seq hs⟩, for_list (K := K) (a := l) (xs := row.map V.int) (fun i σ H' => ∃ (v : Option V) (lu le : Addr), σ = [some (.ref l), some (.int p), some (.ref g), v] ∧ Same H H' ∧ Rests p (row.take i) ∧ GrowAt C H' p g lr lu le (growAll p (row.take i)) ∧ H lu = none ∧ H le = none)
      ⟨none, lu, le, rfl, s1, Rests.nil, g1, f2, f3⟩ (fun i σ H' _ ⟨_, _, _, _, s2, _⟩ => s2.seq hs) ?_ ?_⟩
    · rintro i y σ H' hy ⟨v, lu, le, rfl, s2, rt, g2, j2, j3⟩
      have hi : i < row.length := by
        have := (List.getElem?_eq_some_iff.mp hy).1
        rw [List.length_map] at this
        exact this
      rw [get_map hi] at hy
      obtain rfl := (Option.some.inj hy).symm
      obtain ⟨dx', ob⟩ := g2.ob
      have er := growAll_row lw.1 rt
      refine ⟨_, rfl, g, dx', _, rfl, ob, gl_no _ _ _ _ _ _ (by decide +kernel), _, rfl, g, lr, lu, le, p, gd row i, _, rfl, g2, lw, growAll_ok lw.1 rt, by rw [er, List.length_take]; omega, fun c => kE (fun z => ?_) _ s2, fun h0 h1 H2 lu' le' g3 hlu hle kp => ?_⟩
      · have := z _ (gd_mem hi)
        omega
      · refine ⟨_, lu', le', rfl, fun b o hb => kp b o (s2 b o hb) (ne_of_none hb hg) (ne_of_none hb f1), ?_, ?_, ?_, ?_⟩
        · rw [take_succ hi]; exact rt.app (Rests.one h0 h1)
        · rw [take_succ hi, growAll_app]; exact g3
        · rcases hlu with e | e
          · rw [e]; exact j2
          · exact s2.free e
        · rcases hle with e | e
          · rw [e]; exact j3
          · exact s2.free e
    · rintro σ H' ⟨v, lu, le, rfl, s2, rt, g2, j2, j3⟩
      rw [List.length_map, List.take_length] at rt g2
      exact ⟨_, rfl, kQ rt _ g lr lu le g2 s2 hg f1 j2 j3⟩
def spShortest (K : PySem.W.Frag) (Cr : Addr) : Sp := fun vs H Q E => ∃ (a : Addr) (row : List Int) (p : Int), vs = [.ref a, .int p] ∧ SqL K H a (row.map V.int) ∧ Law p ∧ row.length ≤ 900 ∧ (¬ Rests p row → ∀ H', Same H H' → E (.ref Cr) none H') ∧
  (Rests p row → ∀ (H' : Hp) (q : Addr), H q = none → Same H H' → H' q = some (.lst ((growAll p row).rule.map V.int)) → Q (.ref q) H')
theorem ok_shortest {f C Cr : Addr} {fd : FuncData} (G : GT K C) (a : At K mg "shortest" s_shortest ["row", "prime"] f fd) (h_taken : Has P w K mg base (L2N.CX P w) 4 "taken" ["row", "prime"] (spTaken K C Cr)) (h_told : HasM P w K mg base CX0 1 C "told" ["self"] (spTold C)) :
    Has P w K mg base (L2N.CX P w) 5 "shortest" ["row", "prime"] (spShortest K Cr) := by
  refine a.has (okG a.fn sc_shortest (fun vs H Q E h => ?_) (fun cdv A outer s H vs Q E hr h => ?_))
  · obtain ⟨_, _, _, rfl, _⟩ := h
    rfl
  · obtain ⟨l, row, p, rfl, hs, lw, hlen, kE, kQ⟩ := h
    refine ⟨_, (pss_one (ps_ret (pe_hasM0 (pe_has h_taken (hr.mono (by decide)) (L2N.passes_call (W := fun c d _ H => E c d H) (L2N.takes_of rfl rfl rfl rfl) (fun _ _ _ _ z => z)) (pa_cons (pv 0) (pa_cons (pv 1) pa_nil))) G.cl h_told (hr.mono (by decide)) pass0))), ?_⟩
    refine ⟨_, rfl, _, rfl, l, row, p, rfl, hs, lw, hlen, kE, fun rt H1 g lr lu le g1 s1 _ _ _ _ => ?_⟩
    obtain ⟨dx, ob⟩ := g1.ob
    exact ⟨g, dx, _, rfl, ob, gl_no _ _ _ _ _ _ (by decide +kernel), g, lr, lu, le, p, _, rfl, g1, fun H2 q hq s2 h2 => kQ rt H2 q (s1.free hq) (s1.trans s2) h2⟩
/-! ### what is learned of a row that was carried on -/
theorem emod_same {p a b : Int} (h0 : 0 ≤ b) (hb : b < p) (h : p ∣ b - a) : a % p = b := by
  have e : b % p = a % p := Int.emod_eq_emod_iff_emod_sub_eq_zero.mpr (Int.emod_eq_zero_of_dvd h)
  rw [← e]
  exact Int.emod_eq_of_lt h0 hb
theorem ext_take {p : Int} {rule start : List Int} {m k : Nat} (h1 : start.length ≤ m) (h2 : m ≤ start.length + k) : (ext p rule start k).take m = ext p rule start (m - start.length) := by
  refine ext_gd' (by rw [List.length_take, ext_len, ext_len]; omega) fun j hj => ?_
  rw [List.length_take, ext_len] at hj
  rw [gd_take (by omega), at_gd (by omega), at_gd (by omega)]
theorem learned_due {p : Int} (h0 : 0 < p) {rule start t : List Int} (rs : Rests p start) (hr : start.length = rule.length) (ht : t.length ≤ rule.length) {n : Nat} (hn : rule.length ≤ n) (f : Fol p t (ext p rule start n)) {k i : Nat} (hi : t.length ≤ i) (hk : i ≤ start.length + k) :
    due p t (ext p rule start k) i = at_ p rule start i := by
  have z : due p t (ext p rule start k) i = sm t.length (fun j => gd t j * at_ p rule start (i - 1 - j)) % p := by
    unfold due tellS
    congr 1
    exact sm_congr fun j hj => by rw [at_gd (by omega)]
  rw [z]
  exact emod_same (at_rest h0 rs i).1 (at_rest h0 rs i).2 (learned hr ht hn f i hi)
/-- the rule behind the first numbers, twice as many as there are weights -/
structure Learnt (p : Int) (rule row t : List Int) : Prop where
  few : t.length ≤ rule.length
  same : t.length = rule.length → t = rule
  stays : ∀ i, 2 * rule.length + i ≤ row.length → (growAll p (row.take (2 * rule.length + i))).rule = t ∧ (2 * rule.length + i < row.length → (growAll p (row.take (2 * rule.length + i))).dis p (gd row (2 * rule.length + i)) = 0)
  fol : Fol p t row
theorem learnt {p : Int} (lw : Law p) {rule start row : List Int} {k : Nat} (rr : Rests p rule) (rs : Rests p start) (hr : start.length = rule.length) (hk : rule.length ≤ k) (e : row = ext p rule start k) : Learnt p rule row (growAll p (row.take (2 * rule.length))).rule := by
  have hp2 := lw.1.1
  have h0 : (0 : Int) < p := by omega
  have hrow : Rests p row := e ▸ ext_rests h0 rs k
  have hlen : row.length = start.length + k := by rw [e, ext_len]
  have rt := hrow.take (2 * rule.length)
  have bm := growAll_ok lw.1 rt
  have er := growAll_row lw.1 rt
  have tk : ∀ m, start.length ≤ m → m ≤ row.length → row.take m = ext p rule start (m - start.length) := fun m a b => by rw [e]; exact ext_take a (by omega)
  have t2 : row.take (2 * rule.length) = ext p rule start rule.length := by rw [tk _ (by omega) (by omega)]; congr 1; omega
  obtain ⟨st, est⟩ : ∃ st, st = growAll p (row.take (2 * rule.length)) := ⟨_, rfl⟩
  rw [← est] at bm er ⊢
  have fr : Fol p rule st.row := by rw [er, t2]; exact ext_fol (by omega) _
  have few : st.rule.length ≤ rule.length := by
    refine Nat.le_of_not_lt fun c => ?_
    exact bm.no_shorter h0 c fr
  have ft : Fol p st.rule (ext p rule start rule.length) := by
    have := bm.follows h0
    rw [er, t2] at this
    exact this
  have dz : ∀ i, 2 * rule.length + i < row.length → (growAll p (row.take (2 * rule.length + i))).rule = st.rule → (growAll p (row.take (2 * rule.length + i))).dis p (gd row (2 * rule.length + i)) = 0 := fun i hi ei => by
    unfold Gr.dis
    rw [ei, growAll_row lw.1 (hrow.take _), tk _ (by omega) (by omega), ext_len]
    have e1 : start.length + (2 * rule.length + i - start.length) = 2 * rule.length + i := by omega
    rw [e1, learned_due h0 rs hr few (Nat.le_refl _) ft (by omega) (by omega), e, at_gd (by omega), Int.sub_self, Int.zero_emod]
  refine ⟨few, fun el => ?_, fun i => ?_, fun i h1 h2 => ?_⟩
  · refine only_one lw.1 bm.rule rr bm.row el (by rw [er, List.length_take]; omega) (bm.follows h0) fr fun c hc _ => bm.no_shorter h0 hc
  · induction i with
    | zero => exact fun hi => ⟨by rw [est]; rfl, fun h => dz 0 h (by rw [est]; rfl)⟩
    | succ i ih =>
      intro hi
      obtain ⟨a, b⟩ := ih (by omega)
      have ee : (growAll p (row.take (2 * rule.length + (i + 1)))).rule = st.rule := by
        rw [show 2 * rule.length + (i + 1) = (2 * rule.length + i) + 1 by omega, take_succ (by omega), growAll_app, put_zero (b (by omega))]
        exact a
      exact ⟨ee, fun h => dz (i + 1) h ee⟩
  · rw [e, ext_len] at h2
    rw [e, learned_due h0 rs hr few (Nat.le_refl _) ft h1 (by omega), at_gd h2]
/-- a row that follows a rule is its own beginning carried on -/
theorem at_follows {p : Int} (h0 : 0 < p) {t row : List Int} (hrow : Rests p row) (f : Fol p t row) (hl : t.length ≤ row.length) (i : Nat) (hi : i < row.length) : at_ p t (row.take t.length) i = gd row i := by
  induction i using Nat.strongRecOn with
  | ind i ih =>
    have el : (row.take t.length).length = t.length := by rw [List.length_take]; omega
    by_cases c : i < t.length
    · rw [at_start (by omega), gd_take c]
    · rw [at_next (by omega) (by omega), ← f i (by omega) hi]
      unfold due tellS
      congr 1
      exact sm_congr fun j hj => by rw [ih (i - 1 - j) (by omega) (by omega)]
/-! ### missed, follows -/
/-- the first place that is missed among the first j places from the rule's length on -/
def missTo (p : Int) (rule row : List Int) : Nat → Option Nat
  | 0 => none
  | j + 1 => match missTo p rule row j with
    | some x => some x
    | none => if due p rule row (rule.length + j) = gd row (rule.length + j) then none else some (rule.length + j)
theorem missTo_stay {p : Int} {rule row : List Int} {i n x : Nat} (h : missTo p rule row i = some x) (hi : i ≤ n) : missTo p rule row n = some x := by
  obtain ⟨d, rfl⟩ : ∃ d, n = i + d := ⟨n - i, by omega⟩
  clear hi
  induction d with
  | zero => exact h
  | succ d ih =>
    show (match missTo p rule row (i + d) with | some x => some x | none => _) = some x
    rw [ih]
theorem missTo_none {p : Int} {rule row : List Int} {i : Nat} (h : missTo p rule row i = none) (e : due p rule row (rule.length + i) = gd row (rule.length + i)) : missTo p rule row (i + 1) = none := by
  show (match missTo p rule row i with | some x => some x | none => _) = none
  rw [h]
  exact if_pos e
theorem missTo_some {p : Int} {rule row : List Int} {i : Nat} (h : missTo p rule row i = none) (e : ¬ due p rule row (rule.length + i) = gd row (rule.length + i)) : missTo p rule row (i + 1) = some (rule.length + i) := by
  show (match missTo p rule row i with | some x => some x | none => _) = _
  rw [h]
  exact if_neg e
theorem missTo_fol {p : Int} {rule row : List Int} {i : Nat} : missTo p rule row i = none ↔ ∀ j, j < i → due p rule row (rule.length + j) = gd row (rule.length + j) := by
  induction i with
  | zero => exact ⟨fun _ j h => by omega, fun _ => rfl⟩
  | succ i ih =>
    refine ⟨fun h j hj => ?_, fun h => missTo_none (ih.mpr fun j hj => h j (by omega)) (h i (by omega))⟩
    have h1 : missTo p rule row i = none := by
      cases e : missTo p rule row i with
      | none => rfl
      | some x => rw [missTo_stay e (Nat.le_succ i)] at h; cases h
    by_cases c : j = i
    · subst c
      refine Classical.byContradiction fun d => ?_
      rw [missTo_some h1 d] at h
      cases h
    · exact ih.mp h1 j (by omega)
def miss (p : Int) (rule row : List Int) : Option Nat := missTo p rule row (row.length - rule.length)
theorem miss_fol {p : Int} {rule row : List Int} : miss p rule row = none ↔ Fol p rule row := by
  unfold miss Fol
  rw [missTo_fol]
  refine ⟨fun h i h1 h2 => ?_, fun h j hj => h _ (by omega) (by omega)⟩
  have := h (i - rule.length) (by omega)
  rw [show rule.length + (i - rule.length) = i by omega] at this
  exact this
def optV : Option Nat → V
  | none => .non
  | some n => .int (n : Int)
def spMissed (K : PySem.W.Frag) : Sp := fun vs H Q _ => ∃ (a b : Addr) (rule row : List Int) (p : Int), vs = [.ref a, .ref b, .int p] ∧ SqL K H a (rule.map V.int) ∧ SqL K H b (row.map V.int) ∧ Law p ∧ Rests p rule ∧ rule.length ≤ 1000 ∧ row.length ≤ 1000 ∧ Q (optV (miss p rule row)) H
theorem ok_missed {f C : Addr} {fd : FuncData} (T : Bt mg) (a : At K mg "missed" s_missed ["rule", "row", "prime"] f fd) (h_due : Has P w K mg base (L2N.CX P w) 1 "due" ["rule", "row", "place", "prime"] (spDue K C)) : Has P w K mg base CX0 2 "missed" ["rule", "row", "prime"] (spMissed K) := by
  refine a.has (okG a.fn sc_missed (fun vs H Q E h => ?_) (fun cdv A outer s H vs Q E hr h => ?_))
  · obtain ⟨_, _, _, _, _, rfl, _⟩ := h
    rfl
  · obtain ⟨la, lb, rule, row, p, rfl, ha, hb, lw, hrr, h1, h2, q⟩ := h
    refine ⟨_, (pss_cons (ps_for (passes_of rfl) rfl (pi_range2 rfl T.b_range (pa_cons (pe_callB call_len_seq (by rfl) T.b_len PySem.boot_len (pa_cons (pv 0) pa_nil)) (pa_cons (pe_callB call_len_seq (by rfl) T.b_len PySem.boot_len (pa_cons (pv 1) pa_nil)) pa_nil))) (pg_name (i := 3) sc_missed.nd rfl (Or.inl rfl)) (pss_one (ps_if (pt_cmpR op_ne (pe_has h_due (hr.mono (by decide)) passN (pa_cons (pv 0) (pa_cons (pv 1) (pa_cons (pv 3) (pa_cons (pv 2) pa_nil))))) (pe_ix ix_list (pv 1) (pv 3) (fun _ _ => rfl)) (nomark _)) (pss_one (ps_ret (pv 3))) pss_nil)))
      (pss_one (ps_ret pe_non))), ?_⟩
    refine ⟨_, rfl, la, _, rfl, .inl ha, _, rfl, lb, _, rfl, .inl hb, _, _, rfl, (by rw [List.length_map, List.length_map]; omega), ?_⟩
    rw [List.length_map, List.length_map]
    refine for_range (n := ((row.length : Int) - rule.length).toNat) (fun i σ H' => ∃ v : Option V, σ = [some (.ref la), some (.ref lb), some (.int p), v] ∧ H = H' ∧ missTo p rule row i = none) ⟨none, rfl, rfl, rfl⟩ ?_ ?_
    · rintro i σ H' hi ⟨v, rfl, rfl, hm⟩
      refine ⟨_, rfl, _, rfl, _, rfl, _, rfl, la, lb, rule, row, _, p, rfl, ha, hb, lw, hrr, h1, fun c => by omega, fun n e h3 h4 => ?_⟩
      obtain rfl : n = rule.length + i := by omega
      refine ⟨_, rfl, _, rfl, lb, _, _, _, rfl, rfl, hb, at_map (j := rule.length + i) (by omega) (by omega), rfl, _, rfl, ?_⟩
      refine ifDN (fun c => ?_) (fun c => ?_)
      · have z : miss p rule row = some (rule.length + i) := missTo_stay (missTo_some hm fun e => c (vint.mpr e)) (by omega)
        rw [z] at q
        refine ⟨_, rfl, ?_⟩
        have e2 : (rule.length : Int) + i = ((rule.length + i : Nat) : Int) := by omega
        rw [e2]
        exact q
      · exact ⟨_, rfl, rfl, missTo_none hm (vint.mp c)⟩
    · rintro σ H' ⟨v, rfl, rfl, hm⟩
      have z : miss p rule row = none := by
        unfold miss
        rw [← hm]
        congr 1
        omega
      rw [z] at q
      exact q
def spFollows (K : PySem.W.Frag) : Sp := fun vs H Q _ => ∃ (a b : Addr) (rule row : List Int) (p : Int), vs = [.ref a, .ref b, .int p] ∧ SqL K H a (rule.map V.int) ∧ SqL K H b (row.map V.int) ∧ Law p ∧ Rests p rule ∧ rule.length ≤ 1000 ∧ row.length ≤ 1000 ∧ Q (.bl (decide (miss p rule row = none))) H
theorem ok_follows {f : Addr} {fd : FuncData} (a : At K mg "follows" s_follows ["rule", "row", "prime"] f fd) (h_missed : Has P w K mg base CX0 2 "missed" ["rule", "row", "prime"] (spMissed K)) : Has P w K mg base CX0 3 "follows" ["rule", "row", "prime"] (spFollows K) := by
  refine a.has (okG a.fn sc_follows (fun vs H Q E h => ?_) (fun cdv A outer s H vs Q E hr h => ?_))
  · obtain ⟨_, _, _, _, _, rfl, _⟩ := h
    rfl
  · obtain ⟨la, lb, rule, row, p, rfl, ha, hb, lw, hrr, h1, h2, q⟩ := h
    refine ⟨_, (pss_one (ps_ret (pe_cmpR op_isN (pe_has h_missed (hr.mono (by decide)) pass0 (pa_cons (pv 0) (pa_cons (pv 1) (pa_cons (pv 2) pa_nil)))) pe_non (nomark _)))), ?_⟩
    refine ⟨_, rfl, _, rfl, _, rfl, la, lb, rule, row, p, rfl, ha, hb, lw, hrr, h1, h2, rfl, ?_⟩
    cases e : miss p rule row with
    | none => rw [e] at q; exact q
    | some n => rw [e] at q; exact q
/-! ### carried -/
def carriedL (p : Int) (rule start : List Int) (m : Nat) : List Int := (ext p rule start (m - start.length)).take m
def spCarried (K : PySem.W.Frag) (Cs Cp : Addr) : Sp := fun vs H Q E => ∃ (a b : Addr) (rule start : List Int) (many p : Int), vs = [.ref a, .ref b, .int many, .int p] ∧ SqL K H a (rule.map V.int) ∧ SqL K H b (start.map V.int) ∧ Law p ∧ Rests p rule ∧ rule.length ≤ 1000 ∧ many ≤ 1000 ∧
  (start.length ≠ rule.length → E (.ref Cs) none H) ∧ (start.length = rule.length → many < 0 → E (.ref Cp) none H) ∧
  (start.length = rule.length → ∀ m : Nat, many = (m : Int) → ∀ (H' : Hp) (q : Addr), H q = none → Same H H' → H' q = some (.lst ((carriedL p rule start m).map V.int)) → Q (.ref q) H')
theorem ok_carried {f C Cs : Addr} {fd : FuncData} (T : Bt mg) (a : At K mg "carried" s_carried ["rule", "start", "many", "prime"] f fd) (XT_NoStart : XC K mg "NoStart" Cs) (XT_NoPlace : XC K mg "NoPlace" C) (h_due : Has P w K mg base (L2N.CX P w) 1 "due" ["rule", "row", "place", "prime"] (spDue K C)) :
    Has P w K mg base (L2N.CX P w) 2 "carried" ["rule", "start", "many", "prime"] (spCarried K Cs C) := by
  refine a.has (okG a.fn sc_carried (fun vs H Q E h => ?_) (fun cdv A outer s H vs Q E hr h => ?_))
  · obtain ⟨_, _, _, _, _, _, rfl, _⟩ := h
    rfl
  · obtain ⟨la, lb, rule, start, many, p, rfl, ha, hb, lw, hrr, h1000, hm1000, kS, kP, kQ⟩ := h
    refine ⟨_, (pss_cons (ps_if (pt_cmpR op_ne (pe_callB call_len_seq (by rfl) T.b_len PySem.boot_len (pa_cons (pv 1) pa_nil)) (pe_callB call_len_seq (by rfl) T.b_len PySem.boot_len (pa_cons (pv 0) pa_nil)) (nomark _)) (pss_one (L2N.ps_raise rfl (L2N.takes_of rfl rfl rfl rfl) (L2N.pmk_own PySem.F.excBase_ValueError XT_NoStart.x XT_NoStart.g XT_NoStart.k (raises_own XT_NoStart.b XT_NoStart.t) rfl))) pss_nil)
      (pss_cons (ps_if (pt_cmpR op_lt (pv 2) pe_int (nomark _)) (pss_one (L2N.ps_raise rfl (L2N.takes_of rfl rfl rfl rfl) (L2N.pmk_own PySem.F.excBase_ValueError XT_NoPlace.x XT_NoPlace.g XT_NoPlace.k (raises_own XT_NoPlace.b XT_NoPlace.t) rfl))) pss_nil)
      (pss_cons (ps_set (i := 4) sc_carried.nd rfl (Or.inl rfl) (pe_callTy (T := "list") call_list_of (by rfl) T.b_list (by decide +kernel) (pa_cons (pv 1) pa_nil)))
      (pss_cons (ps_while (passes_of rfl) (pt_cmpR op_lt (pe_callB call_len_seq (by rfl) T.b_len PySem.boot_len (pa_cons (pv 4) pa_nil)) (pv 2) (nomark _)) (pss_one (ps_expr (pe_bm PySem.F.plainAttrs_list PySem.F.slot_list_append PySem.F.type_list_append mt_append (pv 4) (pa_cons (pe_has h_due (hr.mono (by decide)) passN (pa_cons (pv 0) (pa_cons (pv 4) (pa_cons (pe_callB call_len_seq (by rfl) T.b_len PySem.boot_len (pa_cons (pv 4) pa_nil)) (pa_cons (pv 3) pa_nil))))) pa_nil)))))
      (pss_one (ps_ret (pe_slice sl_list (pv 4) po_none (po_some (pv 2))))))))), ?_⟩
    refine ⟨_, rfl, lb, _, rfl, .inl hb, _, rfl, la, _, rfl, .inl ha, rfl, _, rfl, ?_⟩
    rw [List.length_map, List.length_map]
    refine ifDN (fun c => kS fun e => c (by rw [e])) (fun c => ?_)
    have el : start.length = rule.length := by have := vint.mp c; omega
    refine ⟨_, rfl, _, _, rfl, rfl, _, rfl, ifD (fun c => kP el c) (fun c => ?_)⟩
    obtain ⟨m, rfl⟩ : ∃ m : Nat, many = (m : Int) := ⟨many.toNat, by omega⟩
    refine ⟨_, rfl, lb, _, rfl, .inl hb, fun r hr1 => ?_⟩
    refine ⟨fun d σ H' => ∃ k : Nat, σ = [some (.ref la), some (.ref lb), some (.int (m : Int)), some (.int p), some (.ref r)] ∧ Same H H' ∧ H' r = some (.lst ((ext p rule start k).map V.int)) ∧ d = m - (start.length + k) ∧ k ≤ m - start.length,
      ⟨_, 0, rfl, Same.new hr1, upd_same, rfl, Nat.zero_le _⟩, ?_⟩
    rintro d σ H' ⟨k, rfl, s1, h1, rfl, hk⟩
    refine ⟨_, rfl, r, _, rfl, .inl (SqL.of h1), _, rfl, _, _, rfl, rfl, _, rfl, ?_⟩
    rw [List.length_map, ext_len]
    refine ifD (fun c => ?_) (fun c => ?_)
    · refine ⟨fun σ' H2 => σ' = [some (.ref la), some (.ref lb), some (.int (m : Int)), some (.int p), some (.ref r)] ∧ Same H H2 ∧ H2 r = some (.lst ((ext p rule start (k + 1)).map V.int)), ?_, ?_⟩
      · rintro σ' H2 ⟨rfl, s2, h2⟩
        exact ⟨_, by omega, k + 1, rfl, s2, h2, rfl, by omega⟩
      · refine ⟨_, rfl, .inl ⟨rfl, _, SqL.of h1⟩, _, rfl, _, rfl, _, rfl, r, _, rfl, .inl (SqL.of h1), _, rfl, la, r, rule, ext p rule start k, _, p, rfl, s1.seq ha, SqL.of h1, lw, hrr, h1000, fun c => ?_, fun n e h3 h4 => ?_⟩
        · rw [List.length_map, ext_len] at c
          omega
        · rw [List.length_map] at e
          obtain rfl : n = (ext p rule start k).length := by omega
          refine ⟨r, _, _, rfl, rfl, h1, ?_, rfl, Same.upd_back s1 hr1, ?_⟩
          · rw [List.length_map, ext_len]; exact len_lt (by omega)
          · rw [upd_same, map_app1]; rfl
    · refine ⟨_, rfl, _, rfl, _, rfl, r, _, rfl, SqL.of h1, fun q' hq => ?_⟩
      have ek : k = m - start.length := by omega
      refine kQ el m rfl _ q' (s1.free hq) (s1.trans (Same.new hq)) ?_
      rw [upd_same, cut_take, ek]
      rfl
/-! ### stepped, doubled, halves -/
def spStepped (K : PySem.W.Frag) : Sp := fun vs H Q _ => ∃ (a b : Addr) (often rule : List Int) (p : Int) (n : Nat), vs = [.ref a, .ref b, .int p] ∧ SqL K H a (often.map V.int) ∧ SqL K H b (rule.map V.int) ∧ Law p ∧ Rests p rule ∧ rule.length ≠ 0 ∧ rule.length ≤ 100 ∧ Rep p rule often n ∧
  ∀ (found : List Int) (H' : Hp) (q : Addr), Rep p rule found (n + 1) → H q = none → Same H H' → H' q = some (.lst (found.map V.int)) → Q (.ref q) H'
theorem ok_stepped {f : Addr} {fd : FuncData} (T : Bt mg) (a : At K mg "stepped" s_stepped ["often", "rule", "prime"] f fd) : Has P w K mg base CX0 1 "stepped" ["often", "rule", "prime"] (spStepped K) := by
  refine a.has (okG a.fn sc_stepped (fun vs H Q E h => ?_) (fun cdv A outer s H vs Q E hr h => ?_))
  · obtain ⟨_, _, _, _, _, _, rfl, _⟩ := h
    rfl
  · obtain ⟨la, lb, often, rule, p, n, rfl, ha, hb, ⟨hp, hpl⟩, hrr, h0, h100, rep, q⟩ := h
    have hp2 := hp.1
    have p0 : (0 : Int) < p := by omega
    have ro := rep.rests
    have lo := rep.len
    refine ⟨_, (pss_cons (ps_set (i := 3) sc_stepped.nd rfl (Or.inl rfl) (pe_callB call_len_seq (by rfl) T.b_len PySem.boot_len (pa_cons (pv 1) pa_nil)))
      (pss_cons (ps_set (i := 4) sc_stepped.nd rfl (Or.inl rfl) (pe_ix ix_list (pv 0) (pe_op op_sub (pv 3) pe_int) (fun _ _ => rfl)))
      (pss_cons (ps_set (i := 5) sc_stepped.nd rfl (Or.inl rfl) (pe_op op_cat (pe_lst (pa_cons pe_int pa_nil)) (pe_slice sl_list (pv 0) po_none (po_some (pe_op op_sub (pv 3) pe_int)))))
      (pss_cons (ps_for (passes_of rfl) rfl (pi_range1 rfl T.b_range (pa_cons (pv 3) pa_nil)) (pg_name (i := 6) sc_stepped.nd rfl (Or.inl rfl)) (pss_one (ps_asg (pe_op op_mod (pe_op op_add (pe_ix ix_list (pv 5) (pe_op op_sub (pe_op op_sub (pv 3) pe_int) (pv 6)) (fun _ _ => rfl)) (pe_op op_mul (pv 4) (pe_ix ix_list (pv 1) (pv 6) (fun _ _ => rfl)))) (pv 2)) (pg_sub (pv 5) (pe_op op_sub (pe_op op_sub (pv 3) pe_int) (pv 6)) set_list))))
      (pss_one (ps_ret (pv 5))))))), ?_⟩
    refine ⟨_, rfl, lb, _, rfl, .inl hb, ?_⟩
    refine ⟨_, rfl, _, rfl, _, _, rfl, rfl, la, _, _, _, rfl, rfl, ha, at_map (j := rule.length - 1) (by rw [List.length_map]; omega) (by omega), ?_⟩
    refine ⟨(by show 1 ≤ sizeLine; decide), fun l1 hl1 => ?_⟩
    have s1 : Same H (upd H l1 (.lst [V.int 0])) := Same.new hl1
    refine ⟨_, rfl, _, rfl, _, _, rfl, rfl, _, rfl, la, _, rfl, s1.seq ha, fun l2 hl2 => ?_⟩
    have e : cutV (often.map V.int) none (some (((rule.map V.int).length : Int) - 1)) = (often.take (rule.length - 1)).map V.int := by
      rw [List.length_map, show ((rule.length : Int) - 1) = ((rule.length - 1 : Nat) : Int) by omega, cut_take]
    rw [e]
    have n12 : l1 ≠ l2 := ne_of_none upd_same hl2
    refine ⟨l1, l2, [V.int 0], _, rfl, rfl, (by rw [upd_ne n12]; exact upd_same), upd_same, (by rw [List.length_map, List.length_take]; exact len_small (by show 1 + _ ≤ _; omega)), fun r hr1 => ?_⟩
    have s2 := (s1.trans (Same.new hl2 (o := .lst ((often.take (rule.length - 1)).map V.int)))).trans (Same.new hr1 (o := .lst ([V.int 0] ++ (often.take (rule.length - 1)).map V.int)))
    have hr0 : H r = none := (s1.trans (Same.new hl2)).free hr1
    rw [List.length_map]
    refine ⟨_, rfl, _, rfl, (by omega), (by omega), for_range (n := rule.length) (fun i σ H' => ∃ (v : Option V) (found : List Int), σ = [some (.ref la), some (.ref lb), some (.int p), some (.int (rule.length : Int)), some (.int (gd often (rule.length - 1))), some (.ref r), v] ∧ Same H H' ∧ H' r = some (.lst (found.map V.int)) ∧ StepK p rule often found i)
      ⟨none, _, rfl, s2, (by rw [upd_same]; rfl), StepK.start hp2 h0 lo ro⟩ ?_ ?_⟩
    · rintro i σ H' hi ⟨v, found, rfl, s3, h3, st⟩
      have lf := st.len
      have j1 : ((rule.length : Int) - 1 - (0 + i)) = ((rule.length - 1 - i : Nat) : Int) := by omega
      refine ⟨_, rfl, _, rfl, _, _, rfl, rfl, _, rfl, _, _, rfl, rfl, r, _, _, _, rfl, rfl, SqL.of h3, at_map (j := rule.length - 1 - i) j1 (by omega), ?_⟩
      refine ⟨_, rfl, _, rfl, _, rfl, lb, _, _, _, rfl, rfl, s3.seq hb, at_map (j := i) (by omega) hi, _, _, rfl, rfl, .inl (bound64 (ro.gd p0 _).1 (ro.gd p0 _).2 hpl), _, _, rfl, rfl, _, rfl, _, _, rfl, rfl, p0, ?_⟩
      refine ⟨_, rfl, _, rfl, _, _, rfl, rfl, _, rfl, _, _, rfl, rfl, r, _, _, rule.length - 1 - i, rfl, rfl, h3, ixN_at j1 (by rw [List.length_map]; omega), ?_⟩
      refine ⟨_, _, rfl, Same.upd_back s3 hr0, ?_, st.turn p0 hi⟩
      rw [upd_same, map_set1]
    rintro σ H' ⟨v, found, rfl, s3, h3, st⟩
    exact ⟨_, rfl, q found H' r (st.done h0 rep) hr0 s3 h3⟩
def spDoubled (K : PySem.W.Frag) : Sp := fun vs H Q _ => ∃ (a b : Addr) (often rule : List Int) (p : Int) (n : Nat), vs = [.ref a, .ref b, .int p] ∧ SqL K H a (often.map V.int) ∧ SqL K H b (rule.map V.int) ∧ Law p ∧ Rests p rule ∧ rule.length ≠ 0 ∧ rule.length ≤ 100 ∧ Rep p rule often n ∧
  ∀ (found : List Int) (H' : Hp) (q : Addr), Rep p rule found (2 * n) → H q = none → Same H H' → H' q = some (.lst (found.map V.int)) → Q (.ref q) H'
theorem ok_doubled {f : Addr} {fd : FuncData} (T : Bt mg) (a : At K mg "doubled" s_doubled ["often", "rule", "prime"] f fd) : Has P w K mg base CX0 1 "doubled" ["often", "rule", "prime"] (spDoubled K) := by
  refine a.has (okG a.fn sc_doubled (fun vs H Q E h => ?_) (fun cdv A outer s H vs Q E hr h => ?_))
  · obtain ⟨_, _, _, _, _, _, rfl, _⟩ := h
    rfl
  · obtain ⟨la, lb, often, rule, p, n, rfl, ha, hb, ⟨hp, hpl⟩, hrr, h0, h100, rep, q⟩ := h
    have hp2 := hp.1
    have p0 : (0 : Int) < p := by omega
    have ro := rep.rests
    have lo := rep.len
    refine ⟨_, (pss_cons (ps_set (i := 3) sc_doubled.nd rfl (Or.inl rfl) (pe_callB call_len_seq (by rfl) T.b_len PySem.boot_len (pa_cons (pv 1) pa_nil)))
      (pss_cons (ps_set (i := 4) sc_doubled.nd rfl (Or.inl rfl) (pe_op op_rep (pe_lst (pa_cons pe_int pa_nil)) (pe_op op_sub (pe_op op_mul pe_int (pv 3)) pe_int)))
      (pss_cons (ps_for (passes_of rfl) rfl (pi_range1 rfl T.b_range (pa_cons (pv 3) pa_nil)) (pg_name (i := 5) sc_doubled.nd rfl (Or.inl rfl)) (pss_one (ps_for (passes_of rfl) rfl (pi_range1 rfl T.b_range (pa_cons (pv 3) pa_nil)) (pg_name (i := 6) sc_doubled.nd rfl (Or.inl rfl)) (pss_one (ps_asg (pe_op op_mod (pe_op op_add (pe_ix ix_list (pv 4) (pe_op op_add (pv 5) (pv 6)) (fun _ _ => rfl)) (pe_op op_mul (pe_ix ix_list (pv 0) (pv 5) (fun _ _ => rfl)) (pe_ix ix_list (pv 0) (pv 6) (fun _ _ => rfl)))) (pv 2)) (pg_sub (pv 4) (pe_op op_add (pv 5) (pv 6)) set_list))))))
      (pss_cons (ps_for (passes_of rfl) rfl (pi_range3 rfl T.b_range (pa_cons (pe_op op_sub (pe_op op_mul pe_int (pv 3)) pe_int) (pa_cons (pe_op op_sub (pv 3) pe_int) (pa_cons (pe_un un_neg pe_int) pa_nil)))) (pg_name (i := 5) sc_doubled.nd rfl (Or.inl rfl)) (pss_one (ps_for (passes_of rfl) rfl (pi_range1 rfl T.b_range (pa_cons (pv 3) pa_nil)) (pg_name (i := 6) sc_doubled.nd rfl (Or.inl rfl)) (pss_one (ps_asg (pe_op op_mod (pe_op op_add (pe_ix ix_list (pv 4) (pe_op op_sub (pe_op op_sub (pv 5) pe_int) (pv 6)) (fun _ _ => rfl)) (pe_op op_mul (pe_ix ix_list (pv 4) (pv 5) (fun _ _ => rfl)) (pe_ix ix_list (pv 1) (pv 6) (fun _ _ => rfl)))) (pv 2)) (pg_sub (pv 4) (pe_op op_sub (pe_op op_sub (pv 5) pe_int) (pv 6)) set_list))))))
      (pss_one (ps_ret (pe_slice sl_list (pv 4) po_none (po_some (pv 3))))))))), ?_⟩
    refine ⟨_, rfl, lb, _, rfl, .inl hb, ?_⟩
    refine ⟨(by show 1 ≤ sizeLine; decide), fun l1 hl1 => ?_⟩
    refine ⟨_, rfl, _, _, rfl, rfl, .inl ⟨by decide, by decide⟩, _, _, rfl, rfl, l1, _, [V.int 0], rfl, rfl, upd_same, (by rw [List.length_map]; omega), (by rw [List.length_map]; omega), (by rw [List.length_map]; exact len_small (by show 1 * _ ≤ _; omega)), fun r hr1 => ?_⟩
    have s2 := (Same.new hl1 (o := .lst [V.int 0])).trans (Same.new hr1 (o := .lst (List.replicate (2 * ((rule.map V.int).length : Int) - 1).toNat [V.int 0]).flatten))
    have hr0 : H r = none := (Same.new hl1).free hr1
    have e0 : (2 * ((rule.map V.int).length : Int) - 1).toNat = 2 * rule.length - 1 := by rw [List.length_map]; omega
    have k0 : (upd (upd H l1 (.lst [V.int 0])) r (.lst (List.replicate (2 * ((rule.map V.int).length : Int) - 1).toNat [V.int 0]).flatten)) r = some (.lst ((List.replicate (2 * rule.length - 1) 0).map V.int)) := by rw [upd_same, e0, rep_zero]
    generalize (upd (upd H l1 (.lst [V.int 0])) r (.lst (List.replicate (2 * ((rule.map V.int).length : Int) - 1).toNat [V.int 0]).flatten)) = H1 at s2 k0 ⊢
    rw [List.length_map]
    -- the product
    refine ⟨_, rfl, _, rfl, (by omega), (by omega), for_range (n := rule.length) (fun i σ H' => ∃ (v5 v6 : Option V) (wide : List Int), σ = [some (.ref la), some (.ref lb), some (.int p), some (.int (rule.length : Int)), some (.ref r), v5, v6] ∧ Same H H' ∧ H' r = some (.lst (wide.map V.int)) ∧ WideK p often wide rule.length i 0)
      ⟨none, none, _, rfl, s2, k0, WideK.start hp2 often rule.length⟩ ?_ ?_⟩
    · rintro i σ H' hi ⟨v5, v6, wide, rfl, s3, h3, wk⟩
      refine ⟨_, rfl, _, rfl, (by omega), (by omega), for_range (n := rule.length) (fun j σ H' => ∃ (v6 : Option V) (wide : List Int), σ = [some (.ref la), some (.ref lb), some (.int p), some (.int (rule.length : Int)), some (.ref r), some (.int (0 + i)), v6] ∧ Same H H' ∧ H' r = some (.lst (wide.map V.int)) ∧ WideK p often wide rule.length i j)
        ⟨_, _, rfl, s3, h3, wk⟩ ?_ ?_⟩
      · rintro j σ H2 hj ⟨v6, wide, rfl, s4, h4, wk⟩
        have lw := wk.len
        have j1 : ((0 : Int) + i + (0 + j)) = ((i + j : Nat) : Int) := by omega
        refine ⟨_, rfl, _, rfl, _, rfl, _, _, rfl, rfl, r, _, _, _, rfl, rfl, SqL.of h4, at_map (j := i + j) j1 (by omega), ?_⟩
        refine ⟨_, rfl, _, rfl, la, _, _, _, rfl, rfl, s4.seq ha, at_map (j := i) (by omega) (by omega), _, rfl, _, rfl, la, _, _, _, rfl, rfl, s4.seq ha, at_map (j := j) (by omega) (by omega), _, _, rfl, rfl, .inl (bound64 (ro.gd p0 _).1 (ro.gd p0 _).2 hpl), _, _, rfl, rfl, _, rfl, _, _, rfl, rfl, p0, ?_⟩
        refine ⟨_, rfl, _, rfl, _, rfl, _, _, rfl, rfl, r, _, _, i + j, rfl, rfl, h4, ixN_at j1 (by rw [List.length_map]; omega), ?_⟩
        refine ⟨_, _, rfl, Same.upd_back s4 hr0, ?_, wk.turn p0 hi hj⟩
        rw [upd_same, map_set1]
      · rintro σ H2 ⟨v6, wide, rfl, s4, h4, wk⟩
        exact ⟨_, _, _, rfl, s4, h4, wk.next⟩
    rintro σ H2 ⟨v5, v6, wide, rfl, s3, h3, wk⟩
    -- brought down
    have dk : DownK p rule wide n (2 * rule.length - 2) 0 := DownK.first (by rw [show 2 * rule.length - 2 + 1 = 2 * rule.length - 1 by omega]; exact DownK.start h0 rep wk) (by omega)
    refine ⟨_, rfl, _, _, rfl, rfl, .inl ⟨by decide, by decide⟩, _, _, rfl, rfl, _, rfl, _, _, rfl, rfl, _, rfl, _, _, _, _, rfl, RgC.neg (by omega) (by omega) (by omega) (by omega), ?_⟩
    have en : (2 * (rule.length : Int) - 2 - ((rule.length : Int) - 1)).toNat = rule.length - 1 := by omega
    rw [en]
    refine for_rangeC (n := rule.length - 1) (fun i σ H' => ∃ (v5 v6 : Option V) (wide : List Int), σ = [some (.ref la), some (.ref lb), some (.int p), some (.int (rule.length : Int)), some (.ref r), v5, v6] ∧ Same H H' ∧ H' r = some (.lst (wide.map V.int)) ∧ DownK p rule wide n (2 * rule.length - 2 - i) 0)
      ⟨_, _, _, rfl, s3, h3, dk⟩ ?_ ?_
    · rintro i σ H' hi ⟨v5, v6, wide, rfl, s3, h3, dk⟩
      obtain ⟨c, hc⟩ : ∃ c, c = 2 * rule.length - 2 - i := ⟨_, rfl⟩
      rw [← hc] at dk
      have ec : (2 * (rule.length : Int) - 2 + (i : Nat) * (-1)) = (c : Int) := by omega
      rw [ec]
      refine ⟨_, rfl, _, rfl, (by omega), (by omega), for_range (n := rule.length) (fun j σ H' => ∃ (v6 : Option V) (wide : List Int), σ = [some (.ref la), some (.ref lb), some (.int p), some (.int (rule.length : Int)), some (.ref r), some (.int (c : Int)), v6] ∧ Same H H' ∧ H' r = some (.lst (wide.map V.int)) ∧ DownK p rule wide n c j)
        ⟨_, _, rfl, s3, h3, dk⟩ ?_ ?_⟩
      · rintro j σ H2 hj ⟨v6, wide, rfl, s4, h4, dk⟩
        have lw := dk.len
        have j1 : ((c : Int) - 1 - (0 + j)) = ((c - 1 - j : Nat) : Int) := by omega
        refine ⟨_, rfl, _, rfl, _, _, rfl, rfl, _, rfl, _, _, rfl, rfl, r, _, _, _, rfl, rfl, SqL.of h4, at_map (j := c - 1 - j) j1 (by omega), ?_⟩
        refine ⟨_, rfl, _, rfl, r, _, _, _, rfl, rfl, SqL.of h4, at_map (j := c) rfl (by omega), _, rfl, _, rfl, lb, _, _, _, rfl, rfl, s4.seq hb, at_map (j := j) (by omega) (by omega), _, _, rfl, rfl, .inl (bound64 (dk.rests.gd p0 _).1 (dk.rests.gd p0 _).2 hpl), _, _, rfl, rfl, _, rfl, _, _, rfl, rfl, p0, ?_⟩
        refine ⟨_, rfl, _, rfl, _, _, rfl, rfl, _, rfl, _, _, rfl, rfl, r, _, _, c - 1 - j, rfl, rfl, h4, ixN_at j1 (by rw [List.length_map]; omega), ?_⟩
        refine ⟨_, _, rfl, Same.upd_back s4 hr0, ?_, dk.turn p0 (by omega) (by omega) hj⟩
        rw [upd_same, map_set1]
      · rintro σ H2 ⟨v6, wide, rfl, s4, h4, dk⟩
        refine ⟨_, _, _, rfl, s4, h4, ?_⟩
        obtain ⟨c', rfl⟩ : ∃ c', c = c' + 1 := ⟨c - 1, by omega⟩
        have z := dk.next (by omega)
        rw [show 2 * rule.length - 2 - (i + 1) = c' by omega]
        exact z
    rintro σ H' ⟨v5, v6, wide, rfl, s4, h4, dk⟩
    refine ⟨_, rfl, _, rfl, _, rfl, r, _, rfl, SqL.of h4, fun q' hq => ?_⟩
    refine q (wide.take rule.length) _ q' ?_ (s4.free hq) (s4.trans (Same.new hq)) ?_
    · exact dk.done h0 (by omega)
    · rw [upd_same, cut_take]
def spHalves : Sp := fun vs H Q _ => ∃ n : Int, vs = [.int n] ∧ 0 ≤ n ∧ n < 2 ^ 200 ∧ ∀ (l : List Int) (H' : Hp) (q : Addr), Bits l → val l = n → l.length ≤ 1000 → H q = none → Same H H' → H' q = some (.lst (l.map V.int)) → Q (.ref q) H'
theorem halv_len {n place : Int} {found : List Int} (h : Halv n place found) (h1 : 0 < place) (hn : n < 2 ^ 200) : found.length < 200 := by
  refine Classical.byContradiction fun c => ?_
  have v := h.bits.val_nonneg
  have e := h.eq
  have h2 : (2 : Int) ^ 200 ≤ 2 ^ found.length := by
    have : (2 : Nat) ^ 200 ≤ 2 ^ found.length := Nat.pow_le_pow_right (by decide) (by omega)
    exact_mod_cast this
  have h3 : (2 : Int) ^ found.length * 1 ≤ 2 ^ found.length * place := Int.mul_le_mul_of_nonneg_left (by omega) (by omega)
  omega
theorem ok_halves {f : Addr} {fd : FuncData} (a : At K mg "halves" s_halves ["place"] f fd) : Has P w K mg base CX0 1 "halves" ["place"] spHalves := by
  refine a.has (okG a.fn sc_halves (fun vs H Q E h => ?_) (fun cdv A outer s H vs Q E hr h => ?_))
  · obtain ⟨_, rfl, _⟩ := h
    rfl
  · obtain ⟨n, rfl, h0, h200, q⟩ := h
    refine ⟨_, (pss_cons (ps_set (i := 1) sc_halves.nd rfl (Or.inl rfl) (pe_lst pa_nil))
      (pss_cons (ps_while (passes_of rfl) (pt_cmpR op_gt (pv 0) pe_int (nomark _)) (pss_cons (ps_expr (pe_bm PySem.F.plainAttrs_list PySem.F.slot_list_append PySem.F.type_list_append mt_append (pv 1) (pa_cons (pe_op op_mod (pv 0) pe_int) pa_nil)))
      (pss_one (ps_set (i := 0) sc_halves.nd rfl (Or.inl rfl) (pe_op op_fdiv (pv 0) pe_int)))))
      (pss_one (ps_ret (pv 1))))), ?_⟩
    refine ⟨(by show 0 ≤ sizeLine; decide), fun r hr1 => ?_⟩
    refine ⟨fun d σ H' => ∃ (place : Int) (found : List Int), σ = [some (.int place), some (.ref r)] ∧ Same H H' ∧ H' r = some (.lst (found.map V.int)) ∧ Halv n place found ∧ found.length ≤ 200 ∧ d = place.toNat,
      ⟨_, n, [], rfl, Same.new hr1, upd_same, ⟨fun _ h => (by cases h), h0, by show (0 : Int) + 1 * n = n; omega⟩, Nat.zero_le _, rfl⟩, ?_⟩
    rintro d σ H' ⟨place, found, rfl, s1, h1, hv, hl, rfl⟩
    refine ⟨_, rfl, _, _, rfl, rfl, _, rfl, ifD (fun c => ?_) (fun c => ?_)⟩
    · have c : 0 < place := c
      have l2 := halv_len hv c h200
      refine ⟨fun σ' H2 => σ' = [some (.int (place / 2)), some (.ref r)] ∧ Same H H2 ∧ H2 r = some (.lst ((found ++ [place % 2]).map V.int)), ?_, ?_⟩
      · rintro σ' H2 ⟨rfl, s2, h2⟩
        exact ⟨_, by omega, _, _, rfl, s2, h2, hv.turn, by rw [List.length_append]; show found.length + 1 ≤ 200; omega, rfl⟩
      · refine ⟨_, rfl, .inl ⟨rfl, _, SqL.of h1⟩, _, rfl, _, _, rfl, rfl, (by show (0 : Int) < 2; decide), r, _, _, rfl, rfl, h1, ?_, ?_⟩
        · rw [List.length_map]; exact len_lt (by omega)
        · refine ⟨_, rfl, _, _, rfl, rfl, ⟨by decide, by decide⟩, rfl, Same.upd_back s1 hr1, ?_⟩
          rw [upd_same, map_app1]
    · have c : ¬ 0 < place := c
      have z : place = 0 := by have := hv.pl; omega
      have e := hv.eq
      rw [z, Int.mul_zero, Int.add_zero] at e
      exact ⟨_, rfl, q found H' r hv.bits e (by omega) hr1 s1 h1⟩
/-! ### far -/
def spFar (K : PySem.W.Frag) (Cs Cp : Addr) : Sp := fun vs H Q E => ∃ (a b : Addr) (rule start : List Int) (place p : Int), vs = [.ref a, .ref b, .int place, .int p] ∧ SqL K H a (rule.map V.int) ∧ SqL K H b (start.map V.int) ∧ Law p ∧ Rests p rule ∧ Rests p start ∧ rule.length ≤ 100 ∧ place < 2 ^ 200 ∧
  (start.length ≠ rule.length → E (.ref Cs) none H) ∧ (start.length = rule.length → place < 0 → E (.ref Cp) none H) ∧ (start.length = rule.length → ∀ n : Nat, place = (n : Int) → ∀ H' : Hp, Same H H' → Q (.int (at_ p rule start n)) H')
theorem ok_far {f Cp Cs : Addr} {fd : FuncData} (T : Bt mg) (a : At K mg "far" s_far ["rule", "start", "place", "prime"] f fd) (XT_NoStart : XC K mg "NoStart" Cs) (XT_NoPlace : XC K mg "NoPlace" Cp) (h_stepped : Has P w K mg base CX0 1 "stepped" ["often", "rule", "prime"] (spStepped K)) (h_doubled : Has P w K mg base CX0 1 "doubled" ["often", "rule", "prime"] (spDoubled K)) (h_halves : Has P w K mg base CX0 1 "halves" ["place"] spHalves) :
    Has P w K mg base (L2N.CX P w) 2 "far" ["rule", "start", "place", "prime"] (spFar K Cs Cp) := by
  refine a.has (okG a.fn sc_far (fun vs H Q E h => ?_) (fun cdv A outer s H vs Q E hr h => ?_))
  · obtain ⟨_, _, _, _, _, _, rfl, _⟩ := h
    rfl
  · obtain ⟨la, lb, rule, start, place, p, rfl, ha, hb, lw, hrr, hrs, h100, hpl200, kS, kP, kQ⟩ := h
    obtain ⟨hp, hpl⟩ := id lw
    have hp2 := hp.1
    have p0 : (0 : Int) < p := by omega
    refine ⟨_, (pss_cons (ps_if (pt_cmpR op_ne (pe_callB call_len_seq (by rfl) T.b_len PySem.boot_len (pa_cons (pv 1) pa_nil)) (pe_callB call_len_seq (by rfl) T.b_len PySem.boot_len (pa_cons (pv 0) pa_nil)) (nomark _)) (pss_one (L2N.ps_raise rfl (L2N.takes_of rfl rfl rfl rfl) (L2N.pmk_own PySem.F.excBase_ValueError XT_NoStart.x XT_NoStart.g XT_NoStart.k (raises_own XT_NoStart.b XT_NoStart.t) rfl))) pss_nil)
      (pss_cons (ps_if (pt_cmpR op_lt (pv 2) pe_int (nomark _)) (pss_one (L2N.ps_raise rfl (L2N.takes_of rfl rfl rfl rfl) (L2N.pmk_own PySem.F.excBase_ValueError XT_NoPlace.x XT_NoPlace.g XT_NoPlace.k (raises_own XT_NoPlace.b XT_NoPlace.t) rfl))) pss_nil)
      (pss_cons (ps_if (pt_cmpR op_eq (pe_callB call_len_seq (by rfl) T.b_len PySem.boot_len (pa_cons (pv 0) pa_nil)) pe_int (nomark _)) (pss_one (ps_ret pe_int)) pss_nil)
      (pss_cons (ps_set (i := 4) sc_far.nd rfl (Or.inl rfl) (pe_op op_cat (pe_lst (pa_cons pe_int pa_nil)) (pe_op op_rep (pe_lst (pa_cons pe_int pa_nil)) (pe_op op_sub (pe_callB call_len_seq (by rfl) T.b_len PySem.boot_len (pa_cons (pv 0) pa_nil)) pe_int))))
      (pss_cons (ps_for (passes_of rfl) rfl (pi_reversed (by rfl) T.b_reversed (pa_cons (pe_has h_halves (hr.mono (by decide)) pass0 (pa_cons (pv 2) pa_nil)) pa_nil)) (pg_name (i := 5) sc_far.nd rfl (Or.inl rfl)) (pss_cons (ps_set (i := 4) sc_far.nd rfl (Or.inl rfl) (pe_has h_doubled (hr.mono (by decide)) pass0 (pa_cons (pv 4) (pa_cons (pv 0) (pa_cons (pv 3) pa_nil)))))
      (pss_one (ps_if (pt_cmpR op_eq (pv 5) pe_int (nomark _)) (pss_one (ps_set (i := 4) sc_far.nd rfl (Or.inl rfl) (pe_has h_stepped (hr.mono (by decide)) pass0 (pa_cons (pv 4) (pa_cons (pv 0) (pa_cons (pv 3) pa_nil)))))) pss_nil))))
      (pss_cons (ps_set (i := 6) sc_far.nd rfl (Or.inl rfl) pe_int)
      (pss_cons (ps_for (passes_of rfl) rfl (pi_range1 rfl T.b_range (pa_cons (pe_callB call_len_seq (by rfl) T.b_len PySem.boot_len (pa_cons (pv 0) pa_nil)) pa_nil)) (pg_name (i := 7) sc_far.nd rfl (Or.inl rfl)) (pss_one (ps_set (i := 6) sc_far.nd rfl (Or.inl rfl) (pe_op op_add (pv 6) (pe_op op_mul (pe_ix ix_list (pv 4) (pv 7) (fun _ _ => rfl)) (pe_ix ix_list (pv 1) (pv 7) (fun _ _ => rfl)))))))
      (pss_one (ps_ret (pe_op op_mod (pv 6) (pv 3))))))))))), ?_⟩
    refine ⟨_, rfl, lb, _, rfl, .inl hb, _, rfl, la, _, rfl, .inl ha, rfl, _, rfl, ?_⟩
    rw [List.length_map, List.length_map]
    refine ifDN (fun c => kS fun e => c (by rw [e])) (fun c => ?_)
    have el : start.length = rule.length := by have := vint.mp c; omega
    refine ⟨_, rfl, _, _, rfl, rfl, _, rfl, ifD (fun c => kP el c) (fun c => ?_)⟩
    obtain ⟨n, rfl⟩ : ∃ n : Nat, place = (n : Int) := ⟨place.toNat, by omega⟩
    refine ⟨_, rfl, la, _, rfl, .inl ha, rfl, _, rfl, ?_⟩
    rw [List.length_map]
    refine ifD (fun c => ?_) (fun c => ?_)
    · have c := vint.mp c
      have e1 : rule = [] := List.length_eq_zero_iff.mp (by omega)
      have e2 : start = [] := List.length_eq_zero_iff.mp (by omega)
      have z := kQ el n rfl H fun _ _ z => z
      rw [e1, e2, at_nil] at z
      exact z
    have h0 : rule.length ≠ 0 := fun e => c (by rw [e]; rfl)
    -- the start taken once at place nought
    refine ⟨(by show 1 ≤ sizeLine; decide), fun l1 hl1 => ⟨(by show 1 ≤ sizeLine; decide), fun l2 hl2 => ?_⟩⟩
    have s1 : Same H (upd (upd H l1 (.lst [V.int 1])) l2 (.lst [V.int 0])) := (Same.new hl1).trans (Same.new hl2)
    refine ⟨_, rfl, la, _, rfl, .inl (s1.seq ha), _, _, rfl, rfl, l2, _, [V.int 0], rfl, rfl, upd_same, (by rw [List.length_map]; omega), (by rw [List.length_map]; omega), (by rw [List.length_map]; exact len_small (by show 1 * _ ≤ _; omega)), fun l3 hl3 => ?_⟩
    have e0 : (((rule.map V.int).length : Int) - 1).toNat = rule.length - 1 := by rw [List.length_map]; omega
    rw [e0, rep_zero]
    have n12 : l1 ≠ l2 := ne_of_none upd_same hl2
    have k1 : (upd (upd H l1 (.lst [V.int 1])) l2 (.lst [V.int 0])) l1 = some (.lst [V.int 1]) := by rw [upd_ne n12]; exact upd_same
    have n13 : l1 ≠ l3 := ne_of_none k1 hl3
    refine ⟨l1, l3, [V.int 1], _, rfl, rfl, (by rw [upd_ne n13]; exact k1), upd_same, (by rw [List.length_map, List.length_replicate]; exact len_small (by show 1 + _ ≤ _; omega)), fun o1 ho1 => ?_⟩
    have s2 := (s1.trans (Same.new hl3 (o := .lst ((List.replicate (rule.length - 1) (0 : Int)).map V.int)))).trans (Same.new ho1 (o := .lst ([V.int 1] ++ (List.replicate (rule.length - 1) (0 : Int)).map V.int)))
    have k2 : (upd (upd (upd (upd H l1 (.lst [V.int 1])) l2 (.lst [V.int 0])) l3 (.lst ((List.replicate (rule.length - 1) (0 : Int)).map V.int))) o1 (.lst ([V.int 1] ++ (List.replicate (rule.length - 1) (0 : Int)).map V.int))) o1 = some (.lst ((1 :: List.replicate (rule.length - 1) 0).map V.int)) := by rw [upd_same]; rfl
    generalize (upd (upd (upd (upd H l1 (.lst [V.int 1])) l2 (.lst [V.int 0])) l3 (.lst ((List.replicate (rule.length - 1) (0 : Int)).map V.int))) o1 (.lst ([V.int 1] ++ (List.replicate (rule.length - 1) (0 : Int)).map V.int))) = H1 at s2 k2 ⊢
    -- by the halves
    refine ⟨_, rfl, n, rfl, by omega, hpl200, fun bits H2 d bt ev bl hd s3 hd2 => ?_⟩
    have s4 := s2.trans s3
    refine ⟨d, bits.map V.int, rfl, SqL.of hd2, RT.for_Itv (K := K) (a := d) (xs := bits.map V.int) (fun i σ H' => ∃ (o : Addr) (often : List Int) (v : Option V), σ = [some (.ref la), some (.ref lb), some (.int (n : Int)), some (.int p), some (.ref o), v, none, none] ∧ Same H2 H' ∧ H' o = some (.lst (often.map V.int)) ∧ i ≤ bits.length ∧ Rep p rule often (val (bits.drop (bits.length - i))).toNat)
      ⟨o1, _, none, rfl, fun _ _ z => z, s3 _ _ k2, Nat.zero_le _, ?_⟩ (fun i σ H' ⟨_, _, _, _, s5, _⟩ => SqL.of (s5 _ _ hd2)) ?_ ?_⟩
    · rw [Nat.sub_zero, List.drop_length]
      exact Rep.start hp2 h0
    · rintro i x σ H' hi hx ⟨o, often, v, rfl, s5, ho, hib, rep⟩
      rw [List.length_map] at hi hx
      rw [get_map (by omega)] at hx
      obtain rfl := (Option.some.inj hx).symm
      have s6 := s4.trans s5
      have bnn : Bits (bits.drop (bits.length - i)) := fun y hy => bt y (List.mem_of_mem_drop hy)
      have vnn := bnn.val_nonneg
      have dv : val (bits.drop (bits.length - (i + 1))) = gd bits (bits.length - 1 - i) + 2 * val (bits.drop (bits.length - i)) := by
        have := drop_val (l := bits) (i := bits.length - 1 - i) (by omega)
        rw [show bits.length - 1 - i + 1 = bits.length - i by omega] at this
        rw [show bits.length - (i + 1) = bits.length - 1 - i by omega]
        exact this
      refine ⟨_, rfl, _, rfl, _, rfl, o, la, often, rule, p, _, rfl, SqL.of ho, s6.seq ha, lw, hrr, h0, h100, rep, fun o2 H3 q2 rep2 hq2 s7 h7 => ?_⟩
      refine ⟨_, rfl, rfl, _, rfl, ifD (fun c => ?_) (fun c => ?_)⟩
      · have c := vint.mp c
        refine ⟨_, rfl, _, rfl, _, rfl, q2, la, o2, rule, p, _, rfl, SqL.of h7, s7.seq (s6.seq ha), lw, hrr, h0, h100, rep2, fun o3 H4 q3 rep3 hq3 s8 h8 => ?_⟩
        refine ⟨q3, o3, _, rfl, (s5.trans s7).trans s8, h8, by omega, ?_⟩
        rw [dv, c]
        rw [show (1 + 2 * val (bits.drop (bits.length - i))).toNat = 2 * (val (bits.drop (bits.length - i))).toNat + 1 by omega]
        exact rep3
      · have c : gd bits (bits.length - 1 - i) = 0 := by
          rcases bt _ (gd_mem (l := bits) (k := bits.length - 1 - i) (by omega)) with e | e
          · exact e
          · exact absurd (vint.mpr e) c
        refine ⟨q2, o2, _, rfl, s5.trans s7, h7, by omega, ?_⟩
        rw [dv, c]
        rw [show (0 + 2 * val (bits.drop (bits.length - i))).toNat = 2 * (val (bits.drop (bits.length - i))).toNat by omega]
        exact rep2
    rintro σ H3 ⟨o, often, v, rfl, s5, ho, _, rep⟩
    rw [List.length_map, Nat.sub_self, List.drop_zero, ev] at rep
    have rep : Rep p rule often n := rep
    have s6 := s4.trans s5
    have ro := rep.rests
    have lo := rep.len
    -- summed up
    refine ⟨_, rfl, la, _, rfl, .inl (s6.seq ha), _, rfl, (by rw [List.length_map]; omega), (by rw [List.length_map]; omega), for_range (n := (rule.map V.int).length) (fun i σ H' => ∃ v2 : Option V, σ = [some (.ref la), some (.ref lb), some (.int (n : Int)), some (.int p), some (.ref o), v, some (.int (wt often i (gd start))), v2] ∧ H3 = H') ⟨none, rfl, rfl⟩ ?_ ?_⟩
    · rintro i σ H' hi ⟨v', rfl, rfl⟩
      rw [List.length_map] at hi
      refine ⟨_, rfl, _, rfl, _, rfl, o, _, _, _, rfl, rfl, SqL.of ho, at_map (j := i) (by omega) (by omega), _, rfl, _, rfl, lb, _, _, _, rfl, rfl, s6.seq hb, at_map (j := i) (by omega) (by omega), _, _, rfl, rfl, .inl (bound64 (ro.gd p0 _).1 (ro.gd p0 _).2 hpl), _, _, rfl, rfl, ?_⟩
      exact ⟨_, rfl, rfl⟩
    · rintro σ H' ⟨v', rfl, rfl⟩
      rw [List.length_map]
      refine ⟨_, rfl, _, rfl, _, _, rfl, rfl, p0, ?_⟩
      have z := kQ el n rfl _ s6
      rw [← rep.at p0 el hrs] at z
      exact z
/-! ### the law -/
def spLaw (K : PySem.W.Frag) : Sp := fun vs H Q _ => ∃ (a : Addr) (ns : List Int), vs = [.ref a] ∧ SqL K H a (ns.map V.int) ∧ ns.length ≤ 63 ∧ ∀ H', Q (.bl true) H'
def fewOf (c i : Nat) (x m : Int) : Int := x * (if decide (V.int (((0 : Int) + (i : Nat)) % (2 + m)) = V.int (c : Nat)) then 1 else 0)
theorem fewOf_rest {p x m : Int} {i : Nat} (h0 : 0 < p) (h : 0 ≤ x ∧ x < p) : 0 ≤ x * (if decide (V.int (((0 : Int) + (i : Nat)) % (2 + m)) = V.int 1) then 1 else 0) ∧ x * (if decide (V.int (((0 : Int) + (i : Nat)) % (2 + m)) = V.int 1) then 1 else 0) < p := by
  split
  · rw [Int.mul_one]; exact h
  · rw [Int.mul_zero]; exact ⟨Int.le_refl 0, h0⟩
theorem carriedL_len {p : Int} {rule start : List Int} (h : start.length = rule.length) (m : Nat) : (carriedL p rule start m).length = m := by
  unfold carriedL
  rw [List.length_take, ext_len]; omega
theorem carriedL_last {p : Int} {rule start : List Int} (m : Nat) : atI ((carriedL p rule start (m + 1)).map V.int) (-1) = some (V.int (at_ p rule start m)) := by
  have hl : (carriedL p rule start (m + 1)).length = m + 1 := by
    unfold carriedL
    rw [List.length_take, ext_len]; omega
  have e : carriedL p rule start (m + 1) = (carriedL p rule start (m + 1)).take m ++ [gd (carriedL p rule start (m + 1)) m] := by
    rw [← take_succ (by omega), List.take_of_length_le (by omega)]
  have g : gd (carriedL p rule start (m + 1)) m = at_ p rule start m := by
    unfold carriedL
    rw [gd_take (by omega), at_gd (by omega)]
  rw [e, List.map_append, g]
  exact atI_last _ _
theorem ok_law {f Cr Cs Cp : Addr} {fd : FuncData} (T : Bt mg) (a : At K mg "law" s_law ["_law_script"] f fd)
    (h__law_prime : Has P w K mg base CX0 2 "_law_prime" ["_law_cell"] spPrime) (h__law_cell_at : Has P w K mg base CX0 1 "_law_cell_at" ["_law_script", "_law_k"] (spCell K)) (h__law_mixed : Has P w K mg base CX0 1 "_law_mixed" ["_law_cell", "_law_k"] spMixed)
    (h__law_rest : Has P w K mg base CX0 2 "_law_rest" ["_law_script", "_law_k", "_law_prime_here"] (spRest K)) (h__law_tells : Has P w K mg base CX0 1 "_law_tells" ["_law_rule", "_law_row", "_law_place", "_law_prime_here"] (spTells K)) (h__law_whole : Has P w K mg base CX0 1 "_law_whole" ["_law_found"] spWhole)
    (h_shortest : Has P w K mg base (L2N.CX P w) 5 "shortest" ["row", "prime"] (spShortest K Cr)) (h_follows : Has P w K mg base CX0 3 "follows" ["rule", "row", "prime"] (spFollows K)) (h_far : Has P w K mg base (L2N.CX P w) 2 "far" ["rule", "start", "place", "prime"] (spFar K Cs Cp)) (h_carried : Has P w K mg base (L2N.CX P w) 2 "carried" ["rule", "start", "many", "prime"] (spCarried K Cs Cp)) : FnOk P w K mg base CX0 6 f fd ["_law_script"] (spLaw K) := by
  refine okG a.fn sc_law (fun vs H Q E h => ?_) (fun cdv A outer s H vs Q E hr h => ?_)
  · obtain ⟨_, _, rfl, _⟩ := h
    rfl
  · obtain ⟨l, ns, rfl, hs, hlen, q⟩ := h
    have hu := hr.units
    refine ⟨_, (pss_cons (ps_set (i := 1) sc_law.nd rfl (Or.inr rfl) (pe_has h__law_prime (hr.mono (by decide)) pass0 (pa_cons (pe_has h__law_cell_at (hr.mono (by decide)) pass0 (pa_cons (pv 0) (pa_cons pe_int pa_nil))) pa_nil)))
      (pss_cons (ps_set (i := 2) sc_law.nd rfl (Or.inl rfl) (pe_op op_mod (pe_has h__law_cell_at (hr.mono (by decide)) pass0 (pa_cons (pv 0) (pa_cons pe_int pa_nil))) pe_int))
      (C8.pss_cut (ps_if (pt_cmpR op_eq (pe_op op_mod (pe_has h__law_mixed (hr.mono (by decide)) pass0 (pa_cons (pe_has h__law_cell_at (hr.mono (by decide)) pass0 (pa_cons (pv 0) (pa_cons pe_int pa_nil))) (pa_cons pe_int pa_nil))) pe_int) pe_int (nomark _)) (pss_one (ps_set (i := 2) sc_law.nd rfl (Or.inl rfl) (pe_op op_mod (pe_has h__law_mixed (hr.mono (by decide)) pass0 (pa_cons (pe_has h__law_cell_at (hr.mono (by decide)) pass0 (pa_cons (pv 0) (pa_cons pe_int pa_nil))) (pa_cons pe_int pa_nil))) pe_int))) pss_nil)
      (pss_cons (ps_set (i := 3) sc_law.nd rfl (Or.inl rfl) (pe_op op_mod (pe_has h__law_cell_at (hr.mono (by decide)) pass0 (pa_cons (pv 0) (pa_cons pe_int pa_nil))) pe_int))
      (C8.pss_cut (ps_if (pt_cmpR op_eq (pe_op op_mod (pe_has h__law_mixed (hr.mono (by decide)) pass0 (pa_cons (pe_has h__law_cell_at (hr.mono (by decide)) pass0 (pa_cons (pv 0) (pa_cons pe_int pa_nil))) (pa_cons pe_int pa_nil))) pe_int) pe_int (nomark _)) (pss_one (ps_set (i := 3) sc_law.nd rfl (Or.inl rfl) (pe_op op_mod (pe_has h__law_mixed (hr.mono (by decide)) pass0 (pa_cons (pe_has h__law_cell_at (hr.mono (by decide)) pass0 (pa_cons (pv 0) (pa_cons pe_int pa_nil))) (pa_cons pe_int pa_nil))) pe_int))) pss_nil)
      (pss_cons (ps_setLc (i := 4) (own := [("_law_k", 9)]) (g := gName 9) (tt := tYes) rfl sc_law.nd rfl rfl (sw_true rfl rfl rfl (by decide +kernel)) (pi_range1 rfl T.b_range (pa_cons (pv 2) pa_nil)) (blkOk_by (N := ["_law_script", "_law_prime_here", "_law_long", "_law_place", "_law_rule", "_law_row", "_law_told", "_law_found", "_law_walked", "_law_k"]) (sc := defScope s_law) (by decide +kernel)) (fun _ _ _ _ _ => pg_name (i := 9) sc_law.nd rfl (Or.inl rfl)) (fun _ _ _ _ _ => pts_nil) (fun _ _ _ _ _ => (pe_has h__law_rest (hr.mono (by decide)) pass0 (pa_cons (pv 0) (pa_cons (pe_op op_add pe_int (pe_op op_mul pe_int (pv 9))) (pa_cons (pv 1) pa_nil))))))
      (pss_cons (ps_set (i := 5) sc_law.nd rfl (Or.inr rfl) (pe_lc (own := [("_law_k", 9)]) (g := gName 9) (tt := tYes) rfl sc_law.nd (pi_range1 rfl T.b_range (pa_cons (pv 2) pa_nil)) (blkOk_by (N := ["_law_script", "_law_prime_here", "_law_long", "_law_place", "_law_rule", "_law_row", "_law_told", "_law_found", "_law_walked", "_law_k"]) (sc := defScope s_law) (by decide +kernel)) (fun _ _ _ _ _ => pg_name (i := 9) sc_law.nd rfl (Or.inl rfl)) (fun _ _ _ _ _ => pts_nil) (fun _ _ _ _ _ => (pe_has h__law_rest (hr.mono (by decide)) pass0 (pa_cons (pv 0) (pa_cons (pe_op op_add pe_int (pe_op op_mul pe_int (pv 9))) (pa_cons (pv 1) pa_nil)))))))
      (C8.pss_cut (ps_if (pt_cmpR op_eq (pe_op op_mod (pe_has h__law_cell_at (hr.mono (by decide)) pass0 (pa_cons (pv 0) (pa_cons pe_int pa_nil))) pe_int) pe_int (nomark _)) (pss_one (ps_set (i := 5) sc_law.nd rfl (Or.inr rfl) (pe_lc (own := [("_law_k", 9)]) (g := gName 9) (tt := tYes) rfl sc_law.nd (pi_range1 rfl T.b_range (pa_cons (pv 2) pa_nil)) (blkOk_by (N := ["_law_script", "_law_prime_here", "_law_long", "_law_place", "_law_rule", "_law_row", "_law_told", "_law_found", "_law_walked", "_law_k"]) (sc := defScope s_law) (by decide +kernel)) (fun _ _ _ _ _ => pg_name (i := 9) sc_law.nd rfl (Or.inl rfl)) (fun _ _ _ _ _ => pts_nil) (fun _ _ _ _ _ => (pe_op op_mul (pe_ix (ix_listK (K := K) rfl) (pv 5) (pv 9) (fun _ _ => rfl)) (pe_callTy (T := "int") call_int1 (by rfl) T.b_int (by decide +kernel) (pa_cons (pe_cmpR op_eq (pe_op op_mod (pv 9) (pe_op op_add pe_int (pe_op op_mod (pe_op op_fdiv (pe_has h__law_cell_at (hr.mono (by decide)) pass0 (pa_cons (pv 0) (pa_cons pe_int pa_nil))) pe_int) pe_int))) pe_int (nomark _)) pa_nil))))))) pss_nil)
      (pss_cons (ps_while (passes_of rfl) (pt_cmpR op_lt (pe_callB call_len_seq (by rfl) T.b_len PySem.boot_len (pa_cons (pv 5) pa_nil)) (pe_callB (call_max2 rfl) (by rfl) T.b_max (by decide +kernel) (pa_cons (pe_op op_mul pe_int (pv 2)) (pa_cons (pe_op op_add (pv 3) pe_int) pa_nil))) (nomark _)) (pss_one (ps_expr (pe_bm PySem.F.plainAttrs_list PySem.F.slot_list_append PySem.F.type_list_append mt_append (pv 5) (pa_cons (pe_has h__law_tells (hr.mono (by decide)) pass0 (pa_cons (pv 4) (pa_cons (pv 5) (pa_cons (pe_callB call_len_seq (by rfl) T.b_len PySem.boot_len (pa_cons (pv 5) pa_nil)) (pa_cons (pv 1) pa_nil))))) pa_nil)))))
      (pss_cons (ps_set (i := 6) sc_law.nd rfl (Or.inl rfl) (pe_has h_shortest (hr.mono (by decide)) passN (pa_cons (pe_slice sl_list (pv 5) po_none (po_some (pe_op op_mul pe_int (pv 2)))) (pa_cons (pv 1) pa_nil))))
      (pss_cons (ps_if (PW.pt (pw_or (pt_not (pt_val (pe_callB call_isi (by rfl) T.b_isinstance (by decide +kernel) (pa_cons (pv 6) (pa_cons (pe_bltn (v := .ty "list") (by rfl) T.b_list (by decide +kernel) rfl) pa_nil))))) (pw_or (pt_cmpR op_gt (pe_callB call_len_seq (by rfl) T.b_len PySem.boot_len (pa_cons (pv 6) pa_nil)) (pv 2) (nomark _)) (pw_or1 (pt_cmpR op_notBl (pe_has h_follows (hr.mono (by decide)) pass0 (pa_cons (pe_callTy (T := "list") call_list_of (by rfl) T.b_list (by decide +kernel) (pa_cons (pv 6) pa_nil)) (pa_cons (pe_callTy (T := "list") call_list_of (by rfl) T.b_list (by decide +kernel) (pa_cons (pv 5) pa_nil)) (pa_cons (pv 1) pa_nil)))) pe_bl (nomark _)))))) (pss_one (ps_ret pe_bl)) pss_nil)
      (pss_cons (ps_set (i := 7) sc_law.nd rfl (Or.inl rfl) (pe_has h_far (hr.mono (by decide)) passN (pa_cons (pe_callTy (T := "list") call_list_of (by rfl) T.b_list (by decide +kernel) (pa_cons (pv 6) pa_nil)) (pa_cons (pe_slice sl_list (pv 5) po_none (po_some (pe_callB call_len_seq (by rfl) T.b_len PySem.boot_len (pa_cons (pv 6) pa_nil)))) (pa_cons (pv 3) (pa_cons (pv 1) pa_nil))))))
      (pss_cons (ps_set (i := 8) sc_law.nd rfl (Or.inl rfl) (pe_has h_carried (hr.mono (by decide)) passN (pa_cons (pe_callTy (T := "list") call_list_of (by rfl) T.b_list (by decide +kernel) (pa_cons (pv 6) pa_nil)) (pa_cons (pe_slice sl_list (pv 5) po_none (po_some (pe_callB call_len_seq (by rfl) T.b_len PySem.boot_len (pa_cons (pv 6) pa_nil)))) (pa_cons (pe_op op_add (pv 3) pe_int) (pa_cons (pv 1) pa_nil))))))
      (pss_cons (ps_if (PW.pt (pw_or (pt_not (pt_val (pe_has h__law_whole (hr.mono (by decide)) pass0 (pa_cons (pv 7) pa_nil)))) (pw_or1 (pt_cmpR op_ne (pv 7) (pe_ix ix_list (pv 5) (pv 3) (fun _ _ => rfl)) (nomark _))))) (pss_one (ps_ret pe_bl)) pss_nil)
      (pss_one (ps_ret (pe_and (pe_callB call_isi (by rfl) T.b_isinstance (by decide +kernel) (pa_cons (pv 8) (pa_cons (pe_bltn (v := .ty "list") (by rfl) T.b_list (by decide +kernel) rfl) pa_nil))) (pe_and (pe_cmpR op_eq (pe_callB call_len_seq (by rfl) T.b_len PySem.boot_len (pa_cons (pv 8) pa_nil)) (pe_op op_add (pv 3) pe_int) (nomark _)) (pe_one (pe_cmpR op_eq (pe_ix ix_list (pv 8) (pe_un un_neg pe_int) (fun _ _ => rfl)) (pe_ix ix_list (pv 5) (pv 3) (fun _ _ => rfl)) (nomark _))))))))))))))))))))), ?_⟩
    refine ⟨_, rfl, l, ns, 0, rfl, hs, _, rfl, fun p H1 lw s1 => ?_⟩
    have hp2 := lw.1.1
    have p0 : (0 : Int) < p := by omega
    have hpl := lw.2
    have hs1 : SqL K H1 l (ns.map V.int) := s1.seq hs
    refine ⟨_, rfl, l, ns, 1, rfl, hs1, _, _, rfl, rfl, (by show (0 : Int) < 7; decide), ?_⟩
    refine ⟨fun σ H' => ∃ long : Nat, long ≤ 12 ∧ σ = [some (.ref l), some (.int p), some (.int (long : Int)), none, none, none, none, none, none, none] ∧ Same H1 H', ?_, ?_⟩
    · refine ⟨_, rfl, l, ns, 1, rfl, hs1, _, 0, rfl, by decide, fun H2 s2 => ⟨_, _, rfl, rfl, (by show (0 : Int) < 4; decide), rfl, _, rfl, ifD (fun _ => ?_) (fun _ => ?_)⟩⟩
      · refine ⟨_, rfl, l, ns, 1, rfl, s2.seq hs1, _, 1, rfl, by decide, fun H3 s3 => ⟨_, _, rfl, rfl, (by show (0 : Int) < 13; decide), ?_⟩⟩
        exact ⟨(mixedOf (gd ns 1) 1 % 13).toNat, by omega, by rw [Int.toNat_of_nonneg (by omega)] <;> rfl, s2.trans s3⟩
      · exact ⟨(gd ns 1 % 7).toNat, by omega, by rw [Int.toNat_of_nonneg (by omega)] <;> rfl, s2⟩
    rintro σ H2 ⟨long, hlong, rfl, s2⟩
    have hs2 := s2.seq hs1
    refine ⟨_, rfl, l, ns, 2, rfl, hs2, _, _, rfl, rfl, (by show (0 : Int) < 30; decide), ?_⟩
    refine ⟨fun σ H' => ∃ place : Nat, place ≤ 300 ∧ σ = [some (.ref l), some (.int p), some (.int (long : Int)), some (.int (place : Int)), none, none, none, none, none, none] ∧ Same H2 H', ?_, ?_⟩
    · refine ⟨_, rfl, l, ns, 2, rfl, hs2, _, 0, rfl, by decide, fun H3 s3 => ⟨_, _, rfl, rfl, (by show (0 : Int) < 3; decide), rfl, _, rfl, ifD (fun _ => ?_) (fun _ => ?_)⟩⟩
      · refine ⟨_, rfl, l, ns, 2, rfl, s3.seq hs2, _, 1, rfl, by decide, fun H4 s4 => ⟨_, _, rfl, rfl, (by show (0 : Int) < 201; decide), ?_⟩⟩
        exact ⟨(mixedOf (gd ns 2) 1 % 201).toNat, by omega, by rw [Int.toNat_of_nonneg (by omega)] <;> rfl, s3.trans s4⟩
      · exact ⟨(gd ns 2 % 30).toNat, by omega, by rw [Int.toNat_of_nonneg (by omega)] <;> rfl, s3⟩
    rintro σ H5 ⟨place, hplace, rfl, s5⟩
    have hs5 : SqL K H5 l (ns.map V.int) := s5.seq hs2
    -- the rule, the start
    refine ⟨_, rfl, _, rfl, (by omega), (by omega), fun d1 hd1 => lc_range (n := long) (fun i H' => Same H5 H' ∧ H' d1 = some (.lst ((mk i fun k => restOf ns (4 + 2 * k) p).map V.int))) ⟨Same.new hd1, upd_same⟩ ?_ ?_⟩
    · rintro i H' hi ⟨s6, h6⟩
      refine ⟨rfl, lc_turn ⟨_, rfl, _, rfl, _, _, rfl, rfl, .inl ⟨by decide, by decide⟩, _, _, rfl, rfl, _, rfl, l, ns, 4 + 2 * i, p, arg3 (by omega), s6.seq hs5, by omega, p0, _, h6, ?_, ?_, ?_⟩⟩
      · rw [List.length_map, mk_len]; exact len_lt (by omega)
      · exact Same.upd_back s6 hd1
      · rw [upd_same, map_app1, mk_succ]
    rintro H6 ⟨s6, h6⟩
    have hs6 := s6.seq hs5
    refine ⟨_, rfl, _, rfl, (by omega), (by omega), fun d2 hd2 => lc_range (n := long) (fun i H' => Same H6 H' ∧ H' d2 = some (.lst ((mk i fun k => restOf ns (5 + 2 * k) p).map V.int))) ⟨Same.new hd2, upd_same⟩ ?_ ?_⟩
    · rintro i H' hi ⟨s6, h6⟩
      refine ⟨rfl, lc_turn ⟨_, rfl, _, rfl, _, _, rfl, rfl, .inl ⟨by decide, by decide⟩, _, _, rfl, rfl, _, rfl, l, ns, 5 + 2 * i, p, arg3 (by omega), s6.seq hs6, by omega, p0, _, h6, ?_, ?_, ?_⟩⟩
      · rw [List.length_map, mk_len]; exact len_lt (by omega)
      · exact Same.upd_back s6 hd2
      · rw [upd_same, map_app1, mk_succ]
    rintro H7 ⟨s7, h7⟩
    have hs7 := s7.seq hs6
    obtain ⟨rule, erule⟩ : ∃ rule, rule = mk long fun k => restOf ns (4 + 2 * k) p := ⟨_, rfl⟩
    obtain ⟨start0, estart⟩ : ∃ row, row = mk long fun k => restOf ns (5 + 2 * k) p := ⟨_, rfl⟩
    have lrule : rule.length = long := by rw [erule, mk_len]
    have lstart0 : start0.length = long := by rw [estart, mk_len]
    have rr : Rests p rule := by rw [erule]; exact Rests.mk fun k _ => restOf_rest p0 _ _
    have rs0 : Rests p start0 := by rw [estart]; exact Rests.mk fun k _ => restOf_rest p0 _ _
    rw [← erule] at h6
    rw [← estart] at h7
    refine ⟨fun σ H' => ∃ (d : Addr) (start : List Int), σ = [some (.ref l), some (.int p), some (.int (long : Int)), some (.int (place : Int)), some (.ref d1), some (.ref d), none, none, none, none] ∧ Same H6 H' ∧ H6 d = none ∧ H' d = some (.lst (start.map V.int)) ∧ start.length = long ∧ Rests p start, ?_, ?_⟩
    · refine ⟨_, rfl, l, ns, 3, rfl, hs7, _, _, rfl, rfl, (by show (0 : Int) < 3; decide), rfl, _, rfl, ifD (fun _ => ?_) (fun _ => ⟨d2, start0, rfl, s7, hd2, h7, lstart0, rs0⟩)⟩
      refine ⟨_, rfl, _, rfl, (by omega), (by omega), fun d3 hd3 => lc_range (n := long) (fun i H' => Same H7 H' ∧ H' d3 = some (.lst ((mk i fun k => gd start0 k * (if decide (V.int (((0 : Int) + (k : Nat)) % (2 + gd ns 3 / 3 % 5)) = V.int 1) then 1 else 0)).map V.int))) ⟨Same.new hd3, upd_same⟩ ?_ ?_⟩
      · rintro i H' hi ⟨s8, h8⟩
        refine ⟨rfl, lc_turn ⟨_, rfl, _, rfl, d2, _, _, _, rfl, rfl, SqL.of (s8 _ _ h7), at_map (j := i) (by omega) (by omega), ?_⟩⟩
        refine ⟨_, rfl, _, rfl, l, ns, 3, rfl, s8.seq hs7, _, _, rfl, rfl, ⟨by decide, by decide⟩, _, _, rfl, rfl, (by show (0 : Int) < 5; decide), _, _, rfl, rfl, _, _, rfl, rfl, (by show (0 : Int) < 2 + gd ns 3 / 3 % 5; omega), rfl, .inr ⟨_, rfl, ?_⟩⟩
        refine ⟨_, _, rfl, rfl, .inl (bound64 (rs0.gd p0 i).1 (rs0.gd p0 i).2 hpl), _, h8, ?_, ?_, ?_⟩
        · rw [List.length_map, mk_len]; exact len_lt (by omega)
        · exact Same.upd_back s8 hd3
        · rw [upd_same, map_app1, mk_succ]
      rintro H8 ⟨s8, h8⟩
      exact ⟨d3, _, rfl, s7.trans s8, s7.free hd3, h8, mk_len _ _, Rests.mk fun k _ => fewOf_rest p0 (rs0.gd p0 k)⟩
    rintro σ H8 ⟨d, start, rfl, s8, hd, h8, lstart, rs⟩
    obtain ⟨more, emore⟩ : ∃ m : Nat, m = max (2 * long) (place + 1) := ⟨_, rfl⟩
    have emax : (if (place : Int) + 1 > 2 * (long : Int) then (place : Int) + 1 else 2 * (long : Int)) = (more : Int) := by
      rw [emore]
      split <;> omega
    have emore2 : more ≤ 301 := by omega
    -- carried on
    refine ⟨fun e σ H' => ∃ k : Nat, σ = [some (.ref l), some (.int p), some (.int (long : Int)), some (.int (place : Int)), some (.ref d1), some (.ref d), none, none, none, none] ∧ Same H6 H' ∧ H' d = some (.lst ((ext p rule start k).map V.int)) ∧ e = more - k ∧ k ≤ more,
      ⟨_, 0, rfl, s8, h8, rfl, Nat.zero_le _⟩, ?_⟩
    rintro e σ H9 ⟨k, rfl, s9, h9, rfl, hk⟩
    refine ⟨_, rfl, d, _, rfl, .inl (SqL.of h9), _, rfl, _, _, rfl, rfl, .inl ⟨by decide, by decide⟩, _, rfl, _, _, rfl, rfl, _, _, rfl, ?_⟩
    refine ⟨_, _, rfl, rfl, _, rfl, ?_⟩
    rw [List.length_map, ext_len]
    refine ifD (fun c => ?_) (fun c => ?_)
    · have c : ((start.length + k : Nat) : Int) < (if (place : Int) + 1 > 2 * (long : Int) then (place : Int) + 1 else 2 * (long : Int)) := c
      rw [emax] at c
      refine ⟨fun σ' H2 => σ' = [some (.ref l), some (.int p), some (.int (long : Int)), some (.int (place : Int)), some (.ref d1), some (.ref d), none, none, none, none] ∧ Same H6 H2 ∧ H2 d = some (.lst ((ext p rule start (k + 1)).map V.int)), ?_, ?_⟩
      · rintro σ' H2 ⟨rfl, s2, h2⟩
        exact ⟨_, by omega, k + 1, rfl, s2, h2, rfl, by omega⟩
      · refine ⟨_, rfl, .inl ⟨rfl, _, SqL.of h9⟩, _, rfl, _, rfl, _, rfl, d, _, rfl, .inl (SqL.of h9), _, rfl, d1, d, rule, ext p rule start k, (ext p rule start k).length, p, argR (by rw [List.length_map]), SqL.of (s9 _ _ h6), SqL.of h9, lw, rr, by omega, by rw [ext_len]; omega, Nat.le_refl _, ?_⟩
        refine ⟨d, _, _, rfl, rfl, h9, ?_, rfl, Same.upd_back s9 hd, ?_⟩
        · rw [List.length_map, ext_len]; exact len_lt (by omega)
        · rw [upd_same, map_app1]; rfl
    have c : ¬ ((start.length + k : Nat) : Int) < (if (place : Int) + 1 > 2 * (long : Int) then (place : Int) + 1 else 2 * (long : Int)) := c
    rw [emax] at c
    obtain ⟨row, erow⟩ : ∃ row, row = ext p rule start k := ⟨_, rfl⟩
    have lrow : row.length = long + k := by rw [erow, ext_len, lstart]
    have rrow : Rests p row := erow ▸ ext_rests p0 rs k
    have L := learnt lw rr rs (lstart.trans lrule.symm) (by omega) erow
    rw [← erow] at h9
    subst lrule
    clear s2 s5 s6 s7 s8 hs5 hs6 hs7 hs1 hs2 h7 h8 estart
    obtain ⟨t, et⟩ : ∃ t, t = (growAll p (row.take (2 * rule.length))).rule := ⟨_, rfl⟩
    rw [← et] at L
    have rt : Rests p t := et ▸ (growAll_ok lw.1 (rrow.take _)).rule
    have lf := L.few
    -- the shortest rule
    refine ⟨_, rfl, _, rfl, _, _, rfl, rfl, .inl ⟨by decide, by decide⟩, _, rfl, d, _, rfl, SqL.of h9, fun c1 hc1 => ?_⟩
    have ec : cutV (row.map V.int) none (some (2 * (rule.length : Int))) = (row.take (2 * rule.length)).map V.int := by rw [show 2 * (rule.length : Int) = ((2 * rule.length : Nat) : Int) by omega, cut_take]
    rw [ec]
    have s10 : Same H9 (upd H9 c1 (.lst ((row.take (2 * rule.length)).map V.int))) := Same.new hc1
    refine ⟨_, rfl, c1, row.take (2 * rule.length), p, rfl, SqL.of upd_same, lw, by rw [List.length_take]; omega, fun z => absurd (rrow.take _) z, fun _ H11 r _ s11 h11 => ?_⟩
    rw [← et] at h11
    have s911 := s10.trans s11
    have h119 := s911 _ _ h9
    -- it is followed
    refine ⟨_, rfl, _, _, _, _, true, rfl, .ty "list", .base (.lst h11), kit_ty (by decide +kernel), _, rfl, iteF ⟨_, rfl, r, _, rfl, .inl (SqL.of h11), _, rfl, _, _, rfl, rfl, _, rfl, ?_⟩⟩
    rw [List.length_map]
    refine ifD (fun z => ?_) (fun _ => ?_)
    · have z : (rule.length : Int) < (t.length : Int) := z
      omega
    refine ⟨_, rfl, r, _, rfl, .inl (SqL.of h11), fun c2 hc2 => ?_⟩
    have s12 : Same H11 (upd H11 c2 (.lst (t.map V.int))) := Same.new hc2
    have k2 : (upd H11 c2 (.lst (t.map V.int))) c2 = some (.lst (t.map V.int)) := upd_same
    generalize (upd H11 c2 (.lst (t.map V.int))) = H12 at s12 k2 ⊢
    refine ⟨_, rfl, d, _, rfl, .inl (SqL.of (s12 _ _ h119)), fun c3 hc3 => ?_⟩
    have s13 : Same H12 (upd H12 c3 (.lst (row.map V.int))) := Same.new hc3
    have k3 : (upd H12 c3 (.lst (row.map V.int))) c3 = some (.lst (row.map V.int)) := upd_same
    generalize (upd H12 c3 (.lst (row.map V.int))) = H13 at s13 k3 ⊢
    refine ⟨_, rfl, c2, c3, t, row, p, rfl, SqL.of (s13 _ _ k2), SqL.of k3, lw, rt, by omega, by omega, ?_⟩
    rw [decide_eq_true (miss_fol.mpr L.fol)]
    refine ⟨_, _, rfl, rfl, _, rfl, iteF ?_⟩
    have s1113 := s12.trans s13
    have h13 := s1113 _ _ h11
    have h139 := s1113 _ _ h119
    -- far
    have el : cutV (row.map V.int) none (some ((t.length : Nat) : Int)) = (row.take t.length).map V.int := cut_take _ _
    have lt' : (row.take t.length).length = t.length := by rw [List.length_take]; omega
    have ea := at_follows p0 rrow L.fol (by omega) place (by omega)
    refine ⟨_, rfl, r, _, rfl, .inl (SqL.of h13), fun c4 hc4 => ?_⟩
    have s14 : Same H13 (upd H13 c4 (.lst (t.map V.int))) := Same.new hc4
    have k4 : (upd H13 c4 (.lst (t.map V.int))) c4 = some (.lst (t.map V.int)) := upd_same
    generalize (upd H13 c4 (.lst (t.map V.int))) = H14 at s14 k4 ⊢
    refine ⟨_, rfl, _, rfl, r, _, rfl, .inl (SqL.of (s14 _ _ h13)), _, rfl, d, _, rfl, SqL.of (s14 _ _ h139), fun c5 hc5 => ?_⟩
    rw [List.length_map, el]
    have s15 : Same H14 (upd H14 c5 (.lst ((row.take t.length).map V.int))) := Same.new hc5
    have k5 : (upd H14 c5 (.lst ((row.take t.length).map V.int))) c5 = some (.lst ((row.take t.length).map V.int)) := upd_same
    generalize (upd H14 c5 (.lst ((row.take t.length).map V.int))) = H15 at s15 k5 ⊢
    refine ⟨_, rfl, _, rfl, c4, c5, t, row.take t.length, place, p, rfl, SqL.of (s15 _ _ k4), SqL.of k5, lw, rt, rrow.take _, by omega, by omega, fun ne => absurd lt' ne, fun _ ne => by omega, fun _ m em H16 s16 => ?_⟩
    obtain rfl : place = m := by omega
    rw [ea]
    have s1316 := (s14.trans s15).trans s16
    have h16 := s1316 _ _ h13
    have h169 := s1316 _ _ h139
    -- carried
    refine ⟨_, rfl, r, _, rfl, .inl (SqL.of h16), fun c6 hc6 => ?_⟩
    have s17 : Same H16 (upd H16 c6 (.lst (t.map V.int))) := Same.new hc6
    have k6 : (upd H16 c6 (.lst (t.map V.int))) c6 = some (.lst (t.map V.int)) := upd_same
    generalize (upd H16 c6 (.lst (t.map V.int))) = H17 at s17 k6 ⊢
    refine ⟨_, rfl, _, rfl, r, _, rfl, .inl (SqL.of (s17 _ _ h16)), _, rfl, d, _, rfl, SqL.of (s17 _ _ h169), fun c7 hc7 => ?_⟩
    rw [List.length_map, el]
    have s18 : Same H17 (upd H17 c7 (.lst ((row.take t.length).map V.int))) := Same.new hc7
    have k7 : (upd H17 c7 (.lst ((row.take t.length).map V.int))) c7 = some (.lst ((row.take t.length).map V.int)) := upd_same
    generalize (upd H17 c7 (.lst ((row.take t.length).map V.int))) = H18 at s18 k7 ⊢
    refine ⟨_, rfl, _, _, rfl, rfl, _, rfl, c6, c7, t, row.take t.length, (place : Int) + 1, p, rfl, SqL.of (s18 _ _ k6), SqL.of k7, lw, rt, by omega, by omega, fun ne => absurd lt' ne, fun _ ne => by omega, fun _ m em H19 u _ s19 h19 => ?_⟩
    obtain rfl : m = place + 1 := by omega
    have h199 := s19 _ _ (s18 _ _ (s17 _ _ h169))
    -- what they tell
    refine ⟨_, rfl, _, rfl, .inr (.inl ⟨_, rfl⟩), true, rfl, iteF ⟨_, rfl, _, rfl, _, rfl, d, _, _, _, rfl, rfl, SqL.of h199, at_map (j := place) rfl (by omega), rfl, _, rfl, ifDN (fun z => absurd rfl z) (fun _ => ?_)⟩⟩
    refine ⟨_, rfl, _, _, _, _, true, rfl, .ty "list", .base (.lst h19), kit_ty (by decide +kernel), true, rfl, iteT ⟨_, rfl, u, _, rfl, .inl (SqL.of h19), _, rfl, _, _, rfl, rfl, rfl, _, rfl, ?_⟩⟩
    rw [List.length_map, carriedL_len lt']
    refine ifD (fun _ => ?_) (fun z => absurd (vint.mpr (by omega)) z)
    refine ⟨_, rfl, _, rfl, u, _, _, _, rfl, rfl, SqL.of h19, carriedL_last place, _, rfl, _, rfl, d, _, _, _, rfl, rfl, SqL.of h199, at_map (j := place) rfl (by omega), rfl, ?_⟩
    rw [ea, decide_eq_true rfl]
    exact q _
end
/-! ### what the top has written, and the law from it -/
theorem all_mk {P : Program} {w : World} {K : PySem.W.Frag} {h : Heap} {mg : Str → Option Value} {fa : Addr} (X : K.In h) (G : h.Ns mainGlobals mg) (hfa : mg "law" = some (.ref fa))
    {f__wall : Addr} {od__wall an__wall : Option Addr} {sl__wall : Array (Option Value)} {oc__wall kV__wall dc__wall pm__wall cd__wall ct__wall : Value}
    {f_stepped : Addr} {od_stepped an_stepped : Option Addr} {sl_stepped : Array (Option Value)} {oc_stepped kV_stepped dc_stepped pm_stepped cd_stepped ct_stepped : Value}
    {f_doubled : Addr} {od_doubled an_doubled : Option Addr} {sl_doubled : Array (Option Value)} {oc_doubled kV_doubled dc_doubled pm_doubled cd_doubled ct_doubled : Value}
    {f_halves : Addr} {od_halves an_halves : Option Addr} {sl_halves : Array (Option Value)} {oc_halves kV_halves dc_halves pm_halves cd_halves ct_halves : Value}
    {f_far : Addr} {od_far an_far : Option Addr} {sl_far : Array (Option Value)} {oc_far kV_far dc_far pm_far cd_far ct_far : Value}
    {f_inverse : Addr} {od_inverse an_inverse : Option Addr} {sl_inverse : Array (Option Value)} {oc_inverse kV_inverse dc_inverse pm_inverse cd_inverse ct_inverse : Value}
    {f_due : Addr} {od_due an_due : Option Addr} {sl_due : Array (Option Value)} {oc_due kV_due dc_due pm_due cd_due ct_due : Value}
    {f_Grower___init__ : Addr} {od_Grower___init__ an_Grower___init__ : Option Addr} {sl_Grower___init__ : Array (Option Value)} {oc_Grower___init__ kV_Grower___init__ dc_Grower___init__ pm_Grower___init__ cd_Grower___init__ ct_Grower___init__ : Value}
    {f_Grower_put : Addr} {od_Grower_put an_Grower_put : Option Addr} {sl_Grower_put : Array (Option Value)} {oc_Grower_put kV_Grower_put dc_Grower_put pm_Grower_put cd_Grower_put ct_Grower_put : Value}
    {f_Grower_mend : Addr} {od_Grower_mend an_Grower_mend : Option Addr} {sl_Grower_mend : Array (Option Value)} {oc_Grower_mend kV_Grower_mend dc_Grower_mend pm_Grower_mend cd_Grower_mend ct_Grower_mend : Value}
    {f_Grower_told : Addr} {od_Grower_told an_Grower_told : Option Addr} {sl_Grower_told : Array (Option Value)} {oc_Grower_told kV_Grower_told dc_Grower_told pm_Grower_told cd_Grower_told ct_Grower_told : Value}
    {f_Grower_many : Addr} {od_Grower_many an_Grower_many : Option Addr} {sl_Grower_many : Array (Option Value)} {oc_Grower_many kV_Grower_many dc_Grower_many pm_Grower_many cd_Grower_many ct_Grower_many : Value}
    {f_Grower_why : Addr} {od_Grower_why an_Grower_why : Option Addr} {sl_Grower_why : Array (Option Value)} {oc_Grower_why kV_Grower_why dc_Grower_why pm_Grower_why cd_Grower_why ct_Grower_why : Value}
    {f_taken : Addr} {od_taken an_taken : Option Addr} {sl_taken : Array (Option Value)} {oc_taken kV_taken dc_taken pm_taken cd_taken ct_taken : Value}
    {f_shortest : Addr} {od_shortest an_shortest : Option Addr} {sl_shortest : Array (Option Value)} {oc_shortest kV_shortest dc_shortest pm_shortest cd_shortest ct_shortest : Value}
    {f_missed : Addr} {od_missed an_missed : Option Addr} {sl_missed : Array (Option Value)} {oc_missed kV_missed dc_missed pm_missed cd_missed ct_missed : Value}
    {f_follows : Addr} {od_follows an_follows : Option Addr} {sl_follows : Array (Option Value)} {oc_follows kV_follows dc_follows pm_follows cd_follows ct_follows : Value}
    {f_carried : Addr} {od_carried an_carried : Option Addr} {sl_carried : Array (Option Value)} {oc_carried kV_carried dc_carried pm_carried cd_carried ct_carried : Value}
    {f__law_whole : Addr} {od__law_whole an__law_whole : Option Addr} {sl__law_whole : Array (Option Value)} {oc__law_whole kV__law_whole dc__law_whole pm__law_whole cd__law_whole ct__law_whole : Value}
    {f__law_cell_at : Addr} {od__law_cell_at an__law_cell_at : Option Addr} {sl__law_cell_at : Array (Option Value)} {oc__law_cell_at kV__law_cell_at dc__law_cell_at pm__law_cell_at cd__law_cell_at ct__law_cell_at : Value}
    {f__law_mixed : Addr} {od__law_mixed an__law_mixed : Option Addr} {sl__law_mixed : Array (Option Value)} {oc__law_mixed kV__law_mixed dc__law_mixed pm__law_mixed cd__law_mixed ct__law_mixed : Value}
    {f__law_is_prime : Addr} {od__law_is_prime an__law_is_prime : Option Addr} {sl__law_is_prime : Array (Option Value)} {oc__law_is_prime kV__law_is_prime dc__law_is_prime pm__law_is_prime cd__law_is_prime ct__law_is_prime : Value}
    {f__law_wide : Addr} {od__law_wide an__law_wide : Option Addr} {sl__law_wide : Array (Option Value)} {oc__law_wide kV__law_wide dc__law_wide pm__law_wide cd__law_wide ct__law_wide : Value}
    {f__law_prime : Addr} {od__law_prime an__law_prime : Option Addr} {sl__law_prime : Array (Option Value)} {oc__law_prime kV__law_prime dc__law_prime pm__law_prime cd__law_prime ct__law_prime : Value}
    {f__law_rest : Addr} {od__law_rest an__law_rest : Option Addr} {sl__law_rest : Array (Option Value)} {oc__law_rest kV__law_rest dc__law_rest pm__law_rest cd__law_rest ct__law_rest : Value}
    {f__law_tells : Addr} {od__law_tells an__law_tells : Option Addr} {sl__law_tells : Array (Option Value)} {oc__law_tells kV__law_tells dc__law_tells pm__law_tells cd__law_tells ct__law_tells : Value}
    {f_law : Addr} {od_law an_law : Option Addr} {sl_law : Array (Option Value)} {oc_law kV_law dc_law pm_law cd_law ct_law : Value}
    {C_Grower : Addr}
    {C_RuleError : Addr}
    {C_NoInverse : Addr}
    {C_NoRest : Addr}
    {C_NoStart : Addr}
    {C_NoPlace : Addr}
    (a_Grower : PySem.W.nsIn K mainGlobals "Grower" = some (some (.ref C_Grower)))
    (a_RuleError : PySem.W.nsIn K mainGlobals "RuleError" = some (some (.ref C_RuleError)))
    (a_NoInverse : PySem.W.nsIn K mainGlobals "NoInverse" = some (some (.ref C_NoInverse)))
    (a_NoRest : PySem.W.nsIn K mainGlobals "NoRest" = some (some (.ref C_NoRest)))
    (a_NoStart : PySem.W.nsIn K mainGlobals "NoStart" = some (some (.ref C_NoStart)))
    (a_NoPlace : PySem.W.nsIn K mainGlobals "NoPlace" = some (some (.ref C_NoPlace)))
    (a__wall : PySem.W.nsIn K mainGlobals "_wall" = some (some (.ref f__wall)))
    (l__wall : K.lookup f__wall = some ⟨oc__wall, od__wall, .func (PySem.W.fnOf "_wall" "_wall" (defArgs s__wall) (defBody s__wall) (defScope s__wall) .none kV__wall dc__wall pm__wall an__wall cd__wall ct__wall), sl__wall⟩)
    (c__wall : PySem.W.codeIn K cd__wall "_wall" = true)
    (k__wall : PySem.W.keepIn K (.ref f__wall) = true)
    (a_stepped : PySem.W.nsIn K mainGlobals "stepped" = some (some (.ref f_stepped)))
    (l_stepped : K.lookup f_stepped = some ⟨oc_stepped, od_stepped, .func (PySem.W.fnOf "stepped" "stepped" (defArgs s_stepped) (defBody s_stepped) (defScope s_stepped) .none kV_stepped dc_stepped pm_stepped an_stepped cd_stepped ct_stepped), sl_stepped⟩)
    (c_stepped : PySem.W.codeIn K cd_stepped "stepped" = true)
    (k_stepped : PySem.W.keepIn K (.ref f_stepped) = true)
    (a_doubled : PySem.W.nsIn K mainGlobals "doubled" = some (some (.ref f_doubled)))
    (l_doubled : K.lookup f_doubled = some ⟨oc_doubled, od_doubled, .func (PySem.W.fnOf "doubled" "doubled" (defArgs s_doubled) (defBody s_doubled) (defScope s_doubled) .none kV_doubled dc_doubled pm_doubled an_doubled cd_doubled ct_doubled), sl_doubled⟩)
    (c_doubled : PySem.W.codeIn K cd_doubled "doubled" = true)
    (k_doubled : PySem.W.keepIn K (.ref f_doubled) = true)
    (a_halves : PySem.W.nsIn K mainGlobals "halves" = some (some (.ref f_halves)))
    (l_halves : K.lookup f_halves = some ⟨oc_halves, od_halves, .func (PySem.W.fnOf "halves" "halves" (defArgs s_halves) (defBody s_halves) (defScope s_halves) .none kV_halves dc_halves pm_halves an_halves cd_halves ct_halves), sl_halves⟩)
    (c_halves : PySem.W.codeIn K cd_halves "halves" = true)
    (k_halves : PySem.W.keepIn K (.ref f_halves) = true)
    (a_far : PySem.W.nsIn K mainGlobals "far" = some (some (.ref f_far)))
    (l_far : K.lookup f_far = some ⟨oc_far, od_far, .func (PySem.W.fnOf "far" "far" (defArgs s_far) (defBody s_far) (defScope s_far) .none kV_far dc_far pm_far an_far cd_far ct_far), sl_far⟩)
    (c_far : PySem.W.codeIn K cd_far "far" = true)
    (k_far : PySem.W.keepIn K (.ref f_far) = true)
    (a_inverse : PySem.W.nsIn K mainGlobals "inverse" = some (some (.ref f_inverse)))
    (l_inverse : K.lookup f_inverse = some ⟨oc_inverse, od_inverse, .func (PySem.W.fnOf "inverse" "inverse" (defArgs s_inverse) (defBody s_inverse) (defScope s_inverse) .none kV_inverse dc_inverse pm_inverse an_inverse cd_inverse ct_inverse), sl_inverse⟩)
    (c_inverse : PySem.W.codeIn K cd_inverse "inverse" = true)
    (k_inverse : PySem.W.keepIn K (.ref f_inverse) = true)
    (a_due : PySem.W.nsIn K mainGlobals "due" = some (some (.ref f_due)))
    (l_due : K.lookup f_due = some ⟨oc_due, od_due, .func (PySem.W.fnOf "due" "due" (defArgs s_due) (defBody s_due) (defScope s_due) .none kV_due dc_due pm_due an_due cd_due ct_due), sl_due⟩)
    (c_due : PySem.W.codeIn K cd_due "due" = true)
    (k_due : PySem.W.keepIn K (.ref f_due) = true)
    (a_Grower___init__ : PySem.W.findIn K (.ref C_Grower) "__init__" = some (some (.ref f_Grower___init__)))
    (i_Grower___init__ : PySem.W.isFn K (.ref f_Grower___init__) = true)
    (l_Grower___init__ : K.lookup f_Grower___init__ = some ⟨oc_Grower___init__, od_Grower___init__, .func (PySem.W.fnOf "__init__" "Grower.__init__" (defArgs s_Grower___init__) (defBody s_Grower___init__) (defScope s_Grower___init__) .none kV_Grower___init__ dc_Grower___init__ pm_Grower___init__ an_Grower___init__ cd_Grower___init__ ct_Grower___init__), sl_Grower___init__⟩)
    (c_Grower___init__ : PySem.W.codeIn K cd_Grower___init__ "Grower.__init__" = true)
    (k_Grower___init__ : PySem.W.keepIn K (.ref f_Grower___init__) = true)
    (a_Grower_put : PySem.W.findIn K (.ref C_Grower) "put" = some (some (.ref f_Grower_put)))
    (i_Grower_put : PySem.W.isFn K (.ref f_Grower_put) = true)
    (l_Grower_put : K.lookup f_Grower_put = some ⟨oc_Grower_put, od_Grower_put, .func (PySem.W.fnOf "put" "Grower.put" (defArgs s_Grower_put) (defBody s_Grower_put) (defScope s_Grower_put) .none kV_Grower_put dc_Grower_put pm_Grower_put an_Grower_put cd_Grower_put ct_Grower_put), sl_Grower_put⟩)
    (c_Grower_put : PySem.W.codeIn K cd_Grower_put "Grower.put" = true)
    (k_Grower_put : PySem.W.keepIn K (.ref f_Grower_put) = true)
    (a_Grower_mend : PySem.W.findIn K (.ref C_Grower) "mend" = some (some (.ref f_Grower_mend)))
    (i_Grower_mend : PySem.W.isFn K (.ref f_Grower_mend) = true)
    (l_Grower_mend : K.lookup f_Grower_mend = some ⟨oc_Grower_mend, od_Grower_mend, .func (PySem.W.fnOf "mend" "Grower.mend" (defArgs s_Grower_mend) (defBody s_Grower_mend) (defScope s_Grower_mend) .none kV_Grower_mend dc_Grower_mend pm_Grower_mend an_Grower_mend cd_Grower_mend ct_Grower_mend), sl_Grower_mend⟩)
    (c_Grower_mend : PySem.W.codeIn K cd_Grower_mend "Grower.mend" = true)
    (k_Grower_mend : PySem.W.keepIn K (.ref f_Grower_mend) = true)
    (a_Grower_told : PySem.W.findIn K (.ref C_Grower) "told" = some (some (.ref f_Grower_told)))
    (i_Grower_told : PySem.W.isFn K (.ref f_Grower_told) = true)
    (l_Grower_told : K.lookup f_Grower_told = some ⟨oc_Grower_told, od_Grower_told, .func (PySem.W.fnOf "told" "Grower.told" (defArgs s_Grower_told) (defBody s_Grower_told) (defScope s_Grower_told) .none kV_Grower_told dc_Grower_told pm_Grower_told an_Grower_told cd_Grower_told ct_Grower_told), sl_Grower_told⟩)
    (c_Grower_told : PySem.W.codeIn K cd_Grower_told "Grower.told" = true)
    (k_Grower_told : PySem.W.keepIn K (.ref f_Grower_told) = true)
    (a_Grower_many : PySem.W.findIn K (.ref C_Grower) "many" = some (some (.ref f_Grower_many)))
    (i_Grower_many : PySem.W.isFn K (.ref f_Grower_many) = true)
    (l_Grower_many : K.lookup f_Grower_many = some ⟨oc_Grower_many, od_Grower_many, .func (PySem.W.fnOf "many" "Grower.many" (defArgs s_Grower_many) (defBody s_Grower_many) (defScope s_Grower_many) .none kV_Grower_many dc_Grower_many pm_Grower_many an_Grower_many cd_Grower_many ct_Grower_many), sl_Grower_many⟩)
    (c_Grower_many : PySem.W.codeIn K cd_Grower_many "Grower.many" = true)
    (k_Grower_many : PySem.W.keepIn K (.ref f_Grower_many) = true)
    (a_Grower_why : PySem.W.findIn K (.ref C_Grower) "why" = some (some (.ref f_Grower_why)))
    (i_Grower_why : PySem.W.isFn K (.ref f_Grower_why) = true)
    (l_Grower_why : K.lookup f_Grower_why = some ⟨oc_Grower_why, od_Grower_why, .func (PySem.W.fnOf "why" "Grower.why" (defArgs s_Grower_why) (defBody s_Grower_why) (defScope s_Grower_why) .none kV_Grower_why dc_Grower_why pm_Grower_why an_Grower_why cd_Grower_why ct_Grower_why), sl_Grower_why⟩)
    (c_Grower_why : PySem.W.codeIn K cd_Grower_why "Grower.why" = true)
    (k_Grower_why : PySem.W.keepIn K (.ref f_Grower_why) = true)
    (a_taken : PySem.W.nsIn K mainGlobals "taken" = some (some (.ref f_taken)))
    (l_taken : K.lookup f_taken = some ⟨oc_taken, od_taken, .func (PySem.W.fnOf "taken" "taken" (defArgs s_taken) (defBody s_taken) (defScope s_taken) .none kV_taken dc_taken pm_taken an_taken cd_taken ct_taken), sl_taken⟩)
    (c_taken : PySem.W.codeIn K cd_taken "taken" = true)
    (k_taken : PySem.W.keepIn K (.ref f_taken) = true)
    (a_shortest : PySem.W.nsIn K mainGlobals "shortest" = some (some (.ref f_shortest)))
    (l_shortest : K.lookup f_shortest = some ⟨oc_shortest, od_shortest, .func (PySem.W.fnOf "shortest" "shortest" (defArgs s_shortest) (defBody s_shortest) (defScope s_shortest) .none kV_shortest dc_shortest pm_shortest an_shortest cd_shortest ct_shortest), sl_shortest⟩)
    (c_shortest : PySem.W.codeIn K cd_shortest "shortest" = true)
    (k_shortest : PySem.W.keepIn K (.ref f_shortest) = true)
    (a_missed : PySem.W.nsIn K mainGlobals "missed" = some (some (.ref f_missed)))
    (l_missed : K.lookup f_missed = some ⟨oc_missed, od_missed, .func (PySem.W.fnOf "missed" "missed" (defArgs s_missed) (defBody s_missed) (defScope s_missed) .none kV_missed dc_missed pm_missed an_missed cd_missed ct_missed), sl_missed⟩)
    (c_missed : PySem.W.codeIn K cd_missed "missed" = true)
    (k_missed : PySem.W.keepIn K (.ref f_missed) = true)
    (a_follows : PySem.W.nsIn K mainGlobals "follows" = some (some (.ref f_follows)))
    (l_follows : K.lookup f_follows = some ⟨oc_follows, od_follows, .func (PySem.W.fnOf "follows" "follows" (defArgs s_follows) (defBody s_follows) (defScope s_follows) .none kV_follows dc_follows pm_follows an_follows cd_follows ct_follows), sl_follows⟩)
    (c_follows : PySem.W.codeIn K cd_follows "follows" = true)
    (k_follows : PySem.W.keepIn K (.ref f_follows) = true)
    (a_carried : PySem.W.nsIn K mainGlobals "carried" = some (some (.ref f_carried)))
    (l_carried : K.lookup f_carried = some ⟨oc_carried, od_carried, .func (PySem.W.fnOf "carried" "carried" (defArgs s_carried) (defBody s_carried) (defScope s_carried) .none kV_carried dc_carried pm_carried an_carried cd_carried ct_carried), sl_carried⟩)
    (c_carried : PySem.W.codeIn K cd_carried "carried" = true)
    (k_carried : PySem.W.keepIn K (.ref f_carried) = true)
    (a__law_whole : PySem.W.nsIn K mainGlobals "_law_whole" = some (some (.ref f__law_whole)))
    (l__law_whole : K.lookup f__law_whole = some ⟨oc__law_whole, od__law_whole, .func (PySem.W.fnOf "_law_whole" "_law_whole" (defArgs s__law_whole) (defBody s__law_whole) (defScope s__law_whole) .none kV__law_whole dc__law_whole pm__law_whole an__law_whole cd__law_whole ct__law_whole), sl__law_whole⟩)
    (c__law_whole : PySem.W.codeIn K cd__law_whole "_law_whole" = true)
    (k__law_whole : PySem.W.keepIn K (.ref f__law_whole) = true)
    (a__law_cell_at : PySem.W.nsIn K mainGlobals "_law_cell_at" = some (some (.ref f__law_cell_at)))
    (l__law_cell_at : K.lookup f__law_cell_at = some ⟨oc__law_cell_at, od__law_cell_at, .func (PySem.W.fnOf "_law_cell_at" "_law_cell_at" (defArgs s__law_cell_at) (defBody s__law_cell_at) (defScope s__law_cell_at) .none kV__law_cell_at dc__law_cell_at pm__law_cell_at an__law_cell_at cd__law_cell_at ct__law_cell_at), sl__law_cell_at⟩)
    (c__law_cell_at : PySem.W.codeIn K cd__law_cell_at "_law_cell_at" = true)
    (k__law_cell_at : PySem.W.keepIn K (.ref f__law_cell_at) = true)
    (a__law_mixed : PySem.W.nsIn K mainGlobals "_law_mixed" = some (some (.ref f__law_mixed)))
    (l__law_mixed : K.lookup f__law_mixed = some ⟨oc__law_mixed, od__law_mixed, .func (PySem.W.fnOf "_law_mixed" "_law_mixed" (defArgs s__law_mixed) (defBody s__law_mixed) (defScope s__law_mixed) .none kV__law_mixed dc__law_mixed pm__law_mixed an__law_mixed cd__law_mixed ct__law_mixed), sl__law_mixed⟩)
    (c__law_mixed : PySem.W.codeIn K cd__law_mixed "_law_mixed" = true)
    (k__law_mixed : PySem.W.keepIn K (.ref f__law_mixed) = true)
    (a__law_is_prime : PySem.W.nsIn K mainGlobals "_law_is_prime" = some (some (.ref f__law_is_prime)))
    (l__law_is_prime : K.lookup f__law_is_prime = some ⟨oc__law_is_prime, od__law_is_prime, .func (PySem.W.fnOf "_law_is_prime" "_law_is_prime" (defArgs s__law_is_prime) (defBody s__law_is_prime) (defScope s__law_is_prime) .none kV__law_is_prime dc__law_is_prime pm__law_is_prime an__law_is_prime cd__law_is_prime ct__law_is_prime), sl__law_is_prime⟩)
    (c__law_is_prime : PySem.W.codeIn K cd__law_is_prime "_law_is_prime" = true)
    (k__law_is_prime : PySem.W.keepIn K (.ref f__law_is_prime) = true)
    (a__law_wide : PySem.W.nsIn K mainGlobals "_law_wide" = some (some (.ref f__law_wide)))
    (l__law_wide : K.lookup f__law_wide = some ⟨oc__law_wide, od__law_wide, .func (PySem.W.fnOf "_law_wide" "_law_wide" (defArgs s__law_wide) (defBody s__law_wide) (defScope s__law_wide) .none kV__law_wide dc__law_wide pm__law_wide an__law_wide cd__law_wide ct__law_wide), sl__law_wide⟩)
    (c__law_wide : PySem.W.codeIn K cd__law_wide "_law_wide" = true)
    (k__law_wide : PySem.W.keepIn K (.ref f__law_wide) = true)
    (a__law_prime : PySem.W.nsIn K mainGlobals "_law_prime" = some (some (.ref f__law_prime)))
    (l__law_prime : K.lookup f__law_prime = some ⟨oc__law_prime, od__law_prime, .func (PySem.W.fnOf "_law_prime" "_law_prime" (defArgs s__law_prime) (defBody s__law_prime) (defScope s__law_prime) .none kV__law_prime dc__law_prime pm__law_prime an__law_prime cd__law_prime ct__law_prime), sl__law_prime⟩)
    (c__law_prime : PySem.W.codeIn K cd__law_prime "_law_prime" = true)
    (k__law_prime : PySem.W.keepIn K (.ref f__law_prime) = true)
    (a__law_rest : PySem.W.nsIn K mainGlobals "_law_rest" = some (some (.ref f__law_rest)))
    (l__law_rest : K.lookup f__law_rest = some ⟨oc__law_rest, od__law_rest, .func (PySem.W.fnOf "_law_rest" "_law_rest" (defArgs s__law_rest) (defBody s__law_rest) (defScope s__law_rest) .none kV__law_rest dc__law_rest pm__law_rest an__law_rest cd__law_rest ct__law_rest), sl__law_rest⟩)
    (c__law_rest : PySem.W.codeIn K cd__law_rest "_law_rest" = true)
    (k__law_rest : PySem.W.keepIn K (.ref f__law_rest) = true)
    (a__law_tells : PySem.W.nsIn K mainGlobals "_law_tells" = some (some (.ref f__law_tells)))
    (l__law_tells : K.lookup f__law_tells = some ⟨oc__law_tells, od__law_tells, .func (PySem.W.fnOf "_law_tells" "_law_tells" (defArgs s__law_tells) (defBody s__law_tells) (defScope s__law_tells) .none kV__law_tells dc__law_tells pm__law_tells an__law_tells cd__law_tells ct__law_tells), sl__law_tells⟩)
    (c__law_tells : PySem.W.codeIn K cd__law_tells "_law_tells" = true)
    (k__law_tells : PySem.W.keepIn K (.ref f__law_tells) = true)
    (a_law : PySem.W.nsIn K mainGlobals "law" = some (some (.ref f_law)))
    (l_law : K.lookup f_law = some ⟨oc_law, od_law, .func (PySem.W.fnOf "law" "law" (defArgs s_law) (defBody s_law) (defScope s_law) .none kV_law dc_law pm_law an_law cd_law ct_law), sl_law⟩)
    (c_law : PySem.W.codeIn K cd_law "law" = true)
    (k_law : PySem.W.keepIn K (.ref f_law) = true)
    (ex_RuleError : PySem.W.excIn K C_RuleError [.type "ValueError", .type "Exception", .type "BaseException", .type "object"] "ValueError.__new__" = true)
    (ke_RuleError : PySem.W.keepIn K (.ref C_RuleError) = true)
    (be_RuleError : PySem.W.subIn K (.ref C_RuleError) (.type "BaseException") = some true)
    (ty_RuleError : PySem.W.typeIn K (.ref C_RuleError) = some (.type "type"))
    (ga_RuleError : PySem.W.findIn K (.ref C_RuleError) "__getattribute__" = some (some (.builtin "BaseException.__getattribute__")))
    (gg_RuleError : PySem.W.findIn K (.ref C_RuleError) "__getattr__" = some none)
    (hd_RuleError : PySem.W.hasDictIn K C_RuleError = true)
    (ca_RuleError : PySem.W.findIn K (.ref C_RuleError) "__class__" = some (some (.builtin "object.__class__")))
    (mo_RuleError : PySem.W.mroIn K C_RuleError (.type "object") = some true)
    (ve_RuleError : PySem.W.subIn K (.ref C_RuleError) (.type "ValueError") = some true)
    (ex_NoInverse : PySem.W.excIn K C_NoInverse [.type "ValueError", .type "Exception", .type "BaseException", .type "object"] "ValueError.__new__" = true)
    (ke_NoInverse : PySem.W.keepIn K (.ref C_NoInverse) = true)
    (be_NoInverse : PySem.W.subIn K (.ref C_NoInverse) (.type "BaseException") = some true)
    (ty_NoInverse : PySem.W.typeIn K (.ref C_NoInverse) = some (.type "type"))
    (ga_NoInverse : PySem.W.findIn K (.ref C_NoInverse) "__getattribute__" = some (some (.builtin "BaseException.__getattribute__")))
    (gg_NoInverse : PySem.W.findIn K (.ref C_NoInverse) "__getattr__" = some none)
    (hd_NoInverse : PySem.W.hasDictIn K C_NoInverse = true)
    (ca_NoInverse : PySem.W.findIn K (.ref C_NoInverse) "__class__" = some (some (.builtin "object.__class__")))
    (mo_NoInverse : PySem.W.mroIn K C_NoInverse (.type "object") = some true)
    (ve_NoInverse : PySem.W.subIn K (.ref C_NoInverse) (.type "ValueError") = some true)
    (ex_NoRest : PySem.W.excIn K C_NoRest [.type "ValueError", .type "Exception", .type "BaseException", .type "object"] "ValueError.__new__" = true)
    (ke_NoRest : PySem.W.keepIn K (.ref C_NoRest) = true)
    (be_NoRest : PySem.W.subIn K (.ref C_NoRest) (.type "BaseException") = some true)
    (ty_NoRest : PySem.W.typeIn K (.ref C_NoRest) = some (.type "type"))
    (ga_NoRest : PySem.W.findIn K (.ref C_NoRest) "__getattribute__" = some (some (.builtin "BaseException.__getattribute__")))
    (gg_NoRest : PySem.W.findIn K (.ref C_NoRest) "__getattr__" = some none)
    (hd_NoRest : PySem.W.hasDictIn K C_NoRest = true)
    (ca_NoRest : PySem.W.findIn K (.ref C_NoRest) "__class__" = some (some (.builtin "object.__class__")))
    (mo_NoRest : PySem.W.mroIn K C_NoRest (.type "object") = some true)
    (ve_NoRest : PySem.W.subIn K (.ref C_NoRest) (.type "ValueError") = some true)
    (ex_NoStart : PySem.W.excIn K C_NoStart [.type "ValueError", .type "Exception", .type "BaseException", .type "object"] "ValueError.__new__" = true)
    (ke_NoStart : PySem.W.keepIn K (.ref C_NoStart) = true)
    (be_NoStart : PySem.W.subIn K (.ref C_NoStart) (.type "BaseException") = some true)
    (ty_NoStart : PySem.W.typeIn K (.ref C_NoStart) = some (.type "type"))
    (ga_NoStart : PySem.W.findIn K (.ref C_NoStart) "__getattribute__" = some (some (.builtin "BaseException.__getattribute__")))
    (gg_NoStart : PySem.W.findIn K (.ref C_NoStart) "__getattr__" = some none)
    (hd_NoStart : PySem.W.hasDictIn K C_NoStart = true)
    (ca_NoStart : PySem.W.findIn K (.ref C_NoStart) "__class__" = some (some (.builtin "object.__class__")))
    (mo_NoStart : PySem.W.mroIn K C_NoStart (.type "object") = some true)
    (ve_NoStart : PySem.W.subIn K (.ref C_NoStart) (.type "ValueError") = some true)
    (ex_NoPlace : PySem.W.excIn K C_NoPlace [.type "ValueError", .type "Exception", .type "BaseException", .type "object"] "ValueError.__new__" = true)
    (ke_NoPlace : PySem.W.keepIn K (.ref C_NoPlace) = true)
    (be_NoPlace : PySem.W.subIn K (.ref C_NoPlace) (.type "BaseException") = some true)
    (ty_NoPlace : PySem.W.typeIn K (.ref C_NoPlace) = some (.type "type"))
    (ga_NoPlace : PySem.W.findIn K (.ref C_NoPlace) "__getattribute__" = some (some (.builtin "BaseException.__getattribute__")))
    (gg_NoPlace : PySem.W.findIn K (.ref C_NoPlace) "__getattr__" = some none)
    (hd_NoPlace : PySem.W.hasDictIn K C_NoPlace = true)
    (ca_NoPlace : PySem.W.findIn K (.ref C_NoPlace) "__class__" = some (some (.builtin "object.__class__")))
    (mo_NoPlace : PySem.W.mroIn K C_NoPlace (.type "object") = some true)
    (ve_NoPlace : PySem.W.subIn K (.ref C_NoPlace) (.type "ValueError") = some true)
    (sg : PySem.W.specialIn K (.builtin "object.__class__") "__get__" = some (some (.builtin "getset_descriptor.__get__")))
    (tk : PySem.W.takesIn K (.builtin "object.__class__") = some true)
    (sub_RuleError_RuleError : PySem.W.subIn K (.ref C_RuleError) (.ref C_RuleError) = some true)
    (sub_RuleError_NoInverse : PySem.W.subIn K (.ref C_RuleError) (.ref C_NoInverse) = some false)
    (sub_RuleError_NoRest : PySem.W.subIn K (.ref C_RuleError) (.ref C_NoRest) = some false)
    (sub_RuleError_NoStart : PySem.W.subIn K (.ref C_RuleError) (.ref C_NoStart) = some false)
    (sub_RuleError_NoPlace : PySem.W.subIn K (.ref C_RuleError) (.ref C_NoPlace) = some false)
    (sub_NoInverse_RuleError : PySem.W.subIn K (.ref C_NoInverse) (.ref C_RuleError) = some true)
    (sub_NoInverse_NoInverse : PySem.W.subIn K (.ref C_NoInverse) (.ref C_NoInverse) = some true)
    (sub_NoInverse_NoRest : PySem.W.subIn K (.ref C_NoInverse) (.ref C_NoRest) = some false)
    (sub_NoInverse_NoStart : PySem.W.subIn K (.ref C_NoInverse) (.ref C_NoStart) = some false)
    (sub_NoInverse_NoPlace : PySem.W.subIn K (.ref C_NoInverse) (.ref C_NoPlace) = some false)
    (sub_NoRest_RuleError : PySem.W.subIn K (.ref C_NoRest) (.ref C_RuleError) = some true)
    (sub_NoRest_NoInverse : PySem.W.subIn K (.ref C_NoRest) (.ref C_NoInverse) = some false)
    (sub_NoRest_NoRest : PySem.W.subIn K (.ref C_NoRest) (.ref C_NoRest) = some true)
    (sub_NoRest_NoStart : PySem.W.subIn K (.ref C_NoRest) (.ref C_NoStart) = some false)
    (sub_NoRest_NoPlace : PySem.W.subIn K (.ref C_NoRest) (.ref C_NoPlace) = some false)
    (sub_NoStart_RuleError : PySem.W.subIn K (.ref C_NoStart) (.ref C_RuleError) = some true)
    (sub_NoStart_NoInverse : PySem.W.subIn K (.ref C_NoStart) (.ref C_NoInverse) = some false)
    (sub_NoStart_NoRest : PySem.W.subIn K (.ref C_NoStart) (.ref C_NoRest) = some false)
    (sub_NoStart_NoStart : PySem.W.subIn K (.ref C_NoStart) (.ref C_NoStart) = some true)
    (sub_NoStart_NoPlace : PySem.W.subIn K (.ref C_NoStart) (.ref C_NoPlace) = some false)
    (sub_NoPlace_RuleError : PySem.W.subIn K (.ref C_NoPlace) (.ref C_RuleError) = some true)
    (sub_NoPlace_NoInverse : PySem.W.subIn K (.ref C_NoPlace) (.ref C_NoInverse) = some false)
    (sub_NoPlace_NoRest : PySem.W.subIn K (.ref C_NoPlace) (.ref C_NoRest) = some false)
    (sub_NoPlace_NoStart : PySem.W.subIn K (.ref C_NoPlace) (.ref C_NoStart) = some false)
    (sub_NoPlace_NoPlace : PySem.W.subIn K (.ref C_NoPlace) (.ref C_NoPlace) = some true)
    (pg : PySem.W.plainGet K C_Grower Str.empty = true)
    (hdi : PySem.W.hasDictIn K C_Grower = true)
    (po : PySem.W.plainOver K C_Grower = true)
    (sa : PySem.W.findIn K (.ref C_Grower) "__setattr__" = some (some (.builtin "object.__setattr__")))
    (mkc : PySem.W.makesIn K C_Grower = true)
    (kcc : PySem.W.keepIn K (.ref C_Grower) = true)
    (n_prime : PySem.W.findIn K (.ref C_Grower) "prime" = some none)
    (n_row : PySem.W.findIn K (.ref C_Grower) "row" = some none)
    (n_rule : PySem.W.findIn K (.ref C_Grower) "rule" = some none)
    (n_elder : PySem.W.findIn K (.ref C_Grower) "elder" = some none)
    (n_lack : PySem.W.findIn K (.ref C_Grower) "lack" = some none)
    (n_place : PySem.W.findIn K (.ref C_Grower) "place" = some none)
    (z_len : PySem.W.nsIn K mainGlobals "len" = some none)
    (z_range : PySem.W.nsIn K mainGlobals "range" = some none)
    (z_isinstance : PySem.W.nsIn K mainGlobals "isinstance" = some none)
    (z_int : PySem.W.nsIn K mainGlobals "int" = some none)
    (z_bool : PySem.W.nsIn K mainGlobals "bool" = some none)
    (z_list : PySem.W.nsIn K mainGlobals "list" = some none)
    (z_tuple : PySem.W.nsIn K mainGlobals "tuple" = some none)
    (z_max : PySem.W.nsIn K mainGlobals "max" = some none)
    (z_min : PySem.W.nsIn K mainGlobals "min" = some none)
    (z_reversed : PySem.W.nsIn K mainGlobals "reversed" = some none)
    (z_ValueError : PySem.W.nsIn K mainGlobals "ValueError" = some none) :
    ∃ fd : FuncData, (∀ (s : Shared) (v : Value), BindsTo s fd ⟨[v], []⟩ [("_law_script", v)]) ∧ ∀ base : Heap, K.In base → base.Ns mainGlobals mg → FnOk P w K mg base CX0 6 fa fd ["_law_script"] (spLaw K) := by
  obtain rfl : f_law = fa := by
    have e := hfa.symm.trans (PySem.W.mg_of X G a_law)
    cases e
    rfl
  have T : Bt mg := ⟨PySem.W.mg_none_of X G z_len, PySem.W.mg_none_of X G z_range, PySem.W.mg_none_of X G z_isinstance, PySem.W.mg_none_of X G z_int, PySem.W.mg_none_of X G z_bool, PySem.W.mg_none_of X G z_list, PySem.W.mg_none_of X G z_tuple, PySem.W.mg_none_of X G z_max, PySem.W.mg_none_of X G z_min, PySem.W.mg_none_of X G z_reversed, PySem.W.mg_none_of X G z_ValueError⟩
  have XT_RuleError : XC K mg "RuleError" C_RuleError := ⟨PySem.W.mg_of X G a_RuleError, ex_RuleError, ke_RuleError, be_RuleError, ty_RuleError, ⟨ga_RuleError, gg_RuleError, be_RuleError, hd_RuleError, ca_RuleError, sg, tk, mo_RuleError⟩, kit_ve ve_RuleError⟩
  have XT_NoInverse : XC K mg "NoInverse" C_NoInverse := ⟨PySem.W.mg_of X G a_NoInverse, ex_NoInverse, ke_NoInverse, be_NoInverse, ty_NoInverse, ⟨ga_NoInverse, gg_NoInverse, be_NoInverse, hd_NoInverse, ca_NoInverse, sg, tk, mo_NoInverse⟩, kit_ve ve_NoInverse⟩
  have XT_NoRest : XC K mg "NoRest" C_NoRest := ⟨PySem.W.mg_of X G a_NoRest, ex_NoRest, ke_NoRest, be_NoRest, ty_NoRest, ⟨ga_NoRest, gg_NoRest, be_NoRest, hd_NoRest, ca_NoRest, sg, tk, mo_NoRest⟩, kit_ve ve_NoRest⟩
  have XT_NoStart : XC K mg "NoStart" C_NoStart := ⟨PySem.W.mg_of X G a_NoStart, ex_NoStart, ke_NoStart, be_NoStart, ty_NoStart, ⟨ga_NoStart, gg_NoStart, be_NoStart, hd_NoStart, ca_NoStart, sg, tk, mo_NoStart⟩, kit_ve ve_NoStart⟩
  have XT_NoPlace : XC K mg "NoPlace" C_NoPlace := ⟨PySem.W.mg_of X G a_NoPlace, ex_NoPlace, ke_NoPlace, be_NoPlace, ty_NoPlace, ⟨ga_NoPlace, gg_NoPlace, be_NoPlace, hd_NoPlace, ca_NoPlace, sg, tk, mo_NoPlace⟩, kit_ve ve_NoPlace⟩
  have F__wall := fun_mk (st := s__wall) l__wall c__wall k__wall
  have b__wall := F__wall.binds (ps := ["k"]) fun _ _ _ _ _ _ us hl => match us, hl with | [_], _ => rfl
  have A__wall : At K mg "_wall" s__wall ["k"] f__wall _ := ⟨F__wall, PySem.W.mg_of X G a__wall, b__wall⟩
  have F_stepped := fun_mk (st := s_stepped) l_stepped c_stepped k_stepped
  have b_stepped := F_stepped.binds (ps := ["often", "rule", "prime"]) fun _ _ _ _ _ _ us hl => match us, hl with | [_, _, _], _ => rfl
  have A_stepped : At K mg "stepped" s_stepped ["often", "rule", "prime"] f_stepped _ := ⟨F_stepped, PySem.W.mg_of X G a_stepped, b_stepped⟩
  have F_doubled := fun_mk (st := s_doubled) l_doubled c_doubled k_doubled
  have b_doubled := F_doubled.binds (ps := ["often", "rule", "prime"]) fun _ _ _ _ _ _ us hl => match us, hl with | [_, _, _], _ => rfl
  have A_doubled : At K mg "doubled" s_doubled ["often", "rule", "prime"] f_doubled _ := ⟨F_doubled, PySem.W.mg_of X G a_doubled, b_doubled⟩
  have F_halves := fun_mk (st := s_halves) l_halves c_halves k_halves
  have b_halves := F_halves.binds (ps := ["place"]) fun _ _ _ _ _ _ us hl => match us, hl with | [_], _ => rfl
  have A_halves : At K mg "halves" s_halves ["place"] f_halves _ := ⟨F_halves, PySem.W.mg_of X G a_halves, b_halves⟩
  have F_far := fun_mk (st := s_far) l_far c_far k_far
  have b_far := F_far.binds (ps := ["rule", "start", "place", "prime"]) fun _ _ _ _ _ _ us hl => match us, hl with | [_, _, _, _], _ => rfl
  have A_far : At K mg "far" s_far ["rule", "start", "place", "prime"] f_far _ := ⟨F_far, PySem.W.mg_of X G a_far, b_far⟩
  have F_inverse := fun_mk (st := s_inverse) l_inverse c_inverse k_inverse
  have b_inverse := F_inverse.binds (ps := ["number", "prime"]) fun _ _ _ _ _ _ us hl => match us, hl with | [_, _], _ => rfl
  have A_inverse : At K mg "inverse" s_inverse ["number", "prime"] f_inverse _ := ⟨F_inverse, PySem.W.mg_of X G a_inverse, b_inverse⟩
  have F_due := fun_mk (st := s_due) l_due c_due k_due
  have b_due := F_due.binds (ps := ["rule", "row", "place", "prime"]) fun _ _ _ _ _ _ us hl => match us, hl with | [_, _, _, _], _ => rfl
  have A_due : At K mg "due" s_due ["rule", "row", "place", "prime"] f_due _ := ⟨F_due, PySem.W.mg_of X G a_due, b_due⟩
  have F_Grower___init__ := fun_mk (st := s_Grower___init__) l_Grower___init__ c_Grower___init__ k_Grower___init__
  have b_Grower___init__ := F_Grower___init__.binds (ps := ["self", "prime"]) fun _ _ _ _ _ _ us hl => match us, hl with | [_, _], _ => rfl
  have F_Grower_put := fun_mk (st := s_Grower_put) l_Grower_put c_Grower_put k_Grower_put
  have b_Grower_put := F_Grower_put.binds (ps := ["self", "number"]) fun _ _ _ _ _ _ us hl => match us, hl with | [_, _], _ => rfl
  have F_Grower_mend := fun_mk (st := s_Grower_mend) l_Grower_mend c_Grower_mend k_Grower_mend
  have b_Grower_mend := F_Grower_mend.binds (ps := ["self", "place", "lack"]) fun _ _ _ _ _ _ us hl => match us, hl with | [_, _, _], _ => rfl
  have F_Grower_told := fun_mk (st := s_Grower_told) l_Grower_told c_Grower_told k_Grower_told
  have b_Grower_told := F_Grower_told.binds (ps := ["self"]) fun _ _ _ _ _ _ us hl => match us, hl with | [_], _ => rfl
  have F_Grower_many := fun_mk (st := s_Grower_many) l_Grower_many c_Grower_many k_Grower_many
  have b_Grower_many := F_Grower_many.binds (ps := ["self"]) fun _ _ _ _ _ _ us hl => match us, hl with | [_], _ => rfl
  have F_Grower_why := fun_mk (st := s_Grower_why) l_Grower_why c_Grower_why k_Grower_why
  have b_Grower_why := F_Grower_why.binds (ps := ["self"]) fun _ _ _ _ _ _ us hl => match us, hl with | [_], _ => rfl
  have F_taken := fun_mk (st := s_taken) l_taken c_taken k_taken
  have b_taken := F_taken.binds (ps := ["row", "prime"]) fun _ _ _ _ _ _ us hl => match us, hl with | [_, _], _ => rfl
  have A_taken : At K mg "taken" s_taken ["row", "prime"] f_taken _ := ⟨F_taken, PySem.W.mg_of X G a_taken, b_taken⟩
  have F_shortest := fun_mk (st := s_shortest) l_shortest c_shortest k_shortest
  have b_shortest := F_shortest.binds (ps := ["row", "prime"]) fun _ _ _ _ _ _ us hl => match us, hl with | [_, _], _ => rfl
  have A_shortest : At K mg "shortest" s_shortest ["row", "prime"] f_shortest _ := ⟨F_shortest, PySem.W.mg_of X G a_shortest, b_shortest⟩
  have F_missed := fun_mk (st := s_missed) l_missed c_missed k_missed
  have b_missed := F_missed.binds (ps := ["rule", "row", "prime"]) fun _ _ _ _ _ _ us hl => match us, hl with | [_, _, _], _ => rfl
  have A_missed : At K mg "missed" s_missed ["rule", "row", "prime"] f_missed _ := ⟨F_missed, PySem.W.mg_of X G a_missed, b_missed⟩
  have F_follows := fun_mk (st := s_follows) l_follows c_follows k_follows
  have b_follows := F_follows.binds (ps := ["rule", "row", "prime"]) fun _ _ _ _ _ _ us hl => match us, hl with | [_, _, _], _ => rfl
  have A_follows : At K mg "follows" s_follows ["rule", "row", "prime"] f_follows _ := ⟨F_follows, PySem.W.mg_of X G a_follows, b_follows⟩
  have F_carried := fun_mk (st := s_carried) l_carried c_carried k_carried
  have b_carried := F_carried.binds (ps := ["rule", "start", "many", "prime"]) fun _ _ _ _ _ _ us hl => match us, hl with | [_, _, _, _], _ => rfl
  have A_carried : At K mg "carried" s_carried ["rule", "start", "many", "prime"] f_carried _ := ⟨F_carried, PySem.W.mg_of X G a_carried, b_carried⟩
  have F__law_whole := fun_mk (st := s__law_whole) l__law_whole c__law_whole k__law_whole
  have b__law_whole := F__law_whole.binds (ps := ["_law_found"]) fun _ _ _ _ _ _ us hl => match us, hl with | [_], _ => rfl
  have A__law_whole : At K mg "_law_whole" s__law_whole ["_law_found"] f__law_whole _ := ⟨F__law_whole, PySem.W.mg_of X G a__law_whole, b__law_whole⟩
  have F__law_cell_at := fun_mk (st := s__law_cell_at) l__law_cell_at c__law_cell_at k__law_cell_at
  have b__law_cell_at := F__law_cell_at.binds (ps := ["_law_script", "_law_k"]) fun _ _ _ _ _ _ us hl => match us, hl with | [_, _], _ => rfl
  have A__law_cell_at : At K mg "_law_cell_at" s__law_cell_at ["_law_script", "_law_k"] f__law_cell_at _ := ⟨F__law_cell_at, PySem.W.mg_of X G a__law_cell_at, b__law_cell_at⟩
  have F__law_mixed := fun_mk (st := s__law_mixed) l__law_mixed c__law_mixed k__law_mixed
  have b__law_mixed := F__law_mixed.binds (ps := ["_law_cell", "_law_k"]) fun _ _ _ _ _ _ us hl => match us, hl with | [_, _], _ => rfl
  have A__law_mixed : At K mg "_law_mixed" s__law_mixed ["_law_cell", "_law_k"] f__law_mixed _ := ⟨F__law_mixed, PySem.W.mg_of X G a__law_mixed, b__law_mixed⟩
  have F__law_is_prime := fun_mk (st := s__law_is_prime) l__law_is_prime c__law_is_prime k__law_is_prime
  have b__law_is_prime := F__law_is_prime.binds (ps := ["_law_number"]) fun _ _ _ _ _ _ us hl => match us, hl with | [_], _ => rfl
  have A__law_is_prime : At K mg "_law_is_prime" s__law_is_prime ["_law_number"] f__law_is_prime _ := ⟨F__law_is_prime, PySem.W.mg_of X G a__law_is_prime, b__law_is_prime⟩
  have F__law_wide := fun_mk (st := s__law_wide) l__law_wide c__law_wide k__law_wide
  have b__law_wide := F__law_wide.binds (ps := ["_law_cell"]) fun _ _ _ _ _ _ us hl => match us, hl with | [_], _ => rfl
  have A__law_wide : At K mg "_law_wide" s__law_wide ["_law_cell"] f__law_wide _ := ⟨F__law_wide, PySem.W.mg_of X G a__law_wide, b__law_wide⟩
  have F__law_prime := fun_mk (st := s__law_prime) l__law_prime c__law_prime k__law_prime
  have b__law_prime := F__law_prime.binds (ps := ["_law_cell"]) fun _ _ _ _ _ _ us hl => match us, hl with | [_], _ => rfl
  have A__law_prime : At K mg "_law_prime" s__law_prime ["_law_cell"] f__law_prime _ := ⟨F__law_prime, PySem.W.mg_of X G a__law_prime, b__law_prime⟩
  have F__law_rest := fun_mk (st := s__law_rest) l__law_rest c__law_rest k__law_rest
  have b__law_rest := F__law_rest.binds (ps := ["_law_script", "_law_k", "_law_prime_here"]) fun _ _ _ _ _ _ us hl => match us, hl with | [_, _, _], _ => rfl
  have A__law_rest : At K mg "_law_rest" s__law_rest ["_law_script", "_law_k", "_law_prime_here"] f__law_rest _ := ⟨F__law_rest, PySem.W.mg_of X G a__law_rest, b__law_rest⟩
  have F__law_tells := fun_mk (st := s__law_tells) l__law_tells c__law_tells k__law_tells
  have b__law_tells := F__law_tells.binds (ps := ["_law_rule", "_law_row", "_law_place", "_law_prime_here"]) fun _ _ _ _ _ _ us hl => match us, hl with | [_, _, _, _], _ => rfl
  have A__law_tells : At K mg "_law_tells" s__law_tells ["_law_rule", "_law_row", "_law_place", "_law_prime_here"] f__law_tells _ := ⟨F__law_tells, PySem.W.mg_of X G a__law_tells, b__law_tells⟩
  have F_law := fun_mk (st := s_law) l_law c_law k_law
  have b_law := F_law.binds (ps := ["_law_script"]) fun _ _ _ _ _ _ us hl => match us, hl with | [_], _ => rfl
  have A_law : At K mg "law" s_law ["_law_script"] f_law _ := ⟨F_law, PySem.W.mg_of X G a_law, b_law⟩
  refine ⟨PySem.W.fnOf "law" "law" (defArgs s_law) (defBody s_law) (defScope s_law) .none kV_law dc_law pm_law an_law cd_law ct_law, fun s v => .of_eq rfl, fun base _ _ => ?_⟩
  have GG : GT K C_Grower := ⟨⟨pg, hdi, po, sa⟩, n_prime, n_row, n_rule, n_elder, n_lack, n_place⟩
  have XC_Grower : HasC P w K mg base CX0 1 C_Grower "Grower" ["self", "prime"] (spInit C_Grower) := ⟨⟨f_Grower___init__, _, ⟨mkc, a_Grower___init__, i_Grower___init__, kcc⟩, ok_init GG F_Grower___init__, b_Grower___init__⟩, PySem.W.mg_of X G a_Grower⟩
  have hMend := ok_mend (P := P) (w := w) (base := base) T GG ⟨F_Grower_mend, ⟨a_Grower_mend, i_Grower_mend, k_Grower_mend⟩, b_Grower_mend⟩ (ok_inverse A_inverse XT_NoInverse)
  have hPut := ok_put (P := P) (w := w) (base := base) T GG ⟨F_Grower_put, ⟨a_Grower_put, i_Grower_put, k_Grower_put⟩, b_Grower_put⟩ XT_NoRest (ok_due T A_due XT_NoPlace) hMend
  have hTold := ok_told (P := P) (w := w) (base := base) T GG ⟨F_Grower_told, ⟨a_Grower_told, i_Grower_told, k_Grower_told⟩, b_Grower_told⟩
  have hTaken := ok_taken GG A_taken XC_Grower hPut
  have hSho := ok_shortest GG A_shortest hTaken hTold
  have hDue := ok_due (P := P) (w := w) (base := base) T A_due XT_NoPlace
  have hCell := ok_cell (P := P) (w := w) (base := base) T A__law_cell_at
  have hWhole := ok_whole (P := P) (w := w) (K := K) (base := base) T A__law_whole
  have hTells := ok_tells (P := P) (w := w) (base := base) T A__law_tells
  have hFar := ok_far (P := P) (w := w) (base := base) T A_far XT_NoStart XT_NoPlace (ok_stepped T A_stepped) (ok_doubled T A_doubled) (ok_halves A_halves)
  have hCarried := ok_carried T A_carried XT_NoStart XT_NoPlace hDue
  exact ok_law T A_law (ok_prime A__law_prime (ok_wide A__law_wide) (ok_isPr A__law_is_prime)) hCell (ok_mixed A__law_mixed) (ok_rest T A__law_rest hCell) hTells hWhole hSho (ok_follows A_follows (ok_missed T A_missed hDue)) hFar hCarried
theorem walk {l : PySem.W.OpenLaw} {q : Program} {loose : List Str} {XP : (Str → Option Value) → Heap → Prop} {YP : World → Heap → Prop} {d : DefRec} {K : Params → PySem.W.Frag} (hn : l.most = some 63) (hdf : d.params.defaults = [])
    (hY : ∀ (w : World) (h : Heap), YP w h → (K w.params).In h)
    (F : ∀ (w : World) (mg : Str → Option Value) (fa : Addr) (h : Heap), (K w.params).In h → h.Ns mainGlobals mg → mg d.name = some (.ref fa) →
      ∃ fd : FuncData, (∀ (s : Shared) (u : Value), BindsTo s fd ⟨[u], []⟩ [("_law_script", u)]) ∧ ∀ base : Heap, (K w.params).In base → base.Ns mainGlobals mg → FnOk l.prog w (K w.params) mg base CX0 6 fa fd ["_law_script"] (spLaw (K w.params))) :
    PySem.W.WalkO q loose XP YP l.row.toRowW d [] (fun f vs => PySem.call f vs) :=
  L2.walk_of (n := 63) (k := 6) (x := "_law_script") (CX := fun _ => CX0) (sp := fun w => spLaw (K w.params)) hn (by decide) hdf ⟨rfl, by decide, by decide⟩ hY F (fun _ _ a ns hl _ hS => ⟨a, ns, rfl, hS, hl, fun _ => rfl⟩) fun _ _ _ _ _ z => z
end SR
open PySem PySem.W PyProof.Rows
set_option maxRecDepth 100000 in
set_option maxHeartbeats 0 in
theorem PySem.Challenge.cw_shortrule_k14_whole_learned_and_far_holds : PySem.Challenge.rw_shortrule_k14_whole_learned_and_far.Holds := by
  w_on; o_law; k_head; (case hw => w_witness2)
  k_fill
  refine SR.walk (l := PySem.Challenge.rw_shortrule_k14_whole_learned_and_far) rfl rfl (fun w h Y => PySem.W.kIn_of Y) ?F
  case F =>
    intro w mg fa h KX G hmg
    refine' SR.all_mk KX G hmg ?a_Grower ?a_RuleError ?a_NoInverse ?a_NoRest ?a_NoStart ?a_NoPlace ?a__wall ?l__wall ?c__wall ?k__wall ?a_stepped ?l_stepped ?c_stepped ?k_stepped ?a_doubled ?l_doubled ?c_doubled ?k_doubled ?a_halves ?l_halves ?c_halves ?k_halves ?a_far ?l_far ?c_far ?k_far ?a_inverse ?l_inverse ?c_inverse ?k_inverse ?a_due ?l_due ?c_due ?k_due ?a_Grower___init__ ?i_Grower___init__ ?l_Grower___init__ ?c_Grower___init__ ?k_Grower___init__ ?a_Grower_put ?i_Grower_put ?l_Grower_put ?c_Grower_put ?k_Grower_put ?a_Grower_mend ?i_Grower_mend ?l_Grower_mend ?c_Grower_mend ?k_Grower_mend ?a_Grower_told ?i_Grower_told ?l_Grower_told ?c_Grower_told ?k_Grower_told ?a_Grower_many ?i_Grower_many ?l_Grower_many ?c_Grower_many ?k_Grower_many ?a_Grower_why ?i_Grower_why ?l_Grower_why ?c_Grower_why ?k_Grower_why ?a_taken ?l_taken ?c_taken ?k_taken ?a_shortest ?l_shortest ?c_shortest ?k_shortest ?a_missed ?l_missed ?c_missed ?k_missed ?a_follows ?l_follows ?c_follows ?k_follows ?a_carried ?l_carried ?c_carried ?k_carried ?a__law_whole ?l__law_whole ?c__law_whole ?k__law_whole ?a__law_cell_at ?l__law_cell_at ?c__law_cell_at ?k__law_cell_at ?a__law_mixed ?l__law_mixed ?c__law_mixed ?k__law_mixed ?a__law_is_prime ?l__law_is_prime ?c__law_is_prime ?k__law_is_prime ?a__law_wide ?l__law_wide ?c__law_wide ?k__law_wide ?a__law_prime ?l__law_prime ?c__law_prime ?k__law_prime ?a__law_rest ?l__law_rest ?c__law_rest ?k__law_rest ?a__law_tells ?l__law_tells ?c__law_tells ?k__law_tells ?a_law ?l_law ?c_law ?k_law ?ex_RuleError ?ke_RuleError ?be_RuleError ?ty_RuleError ?ga_RuleError ?gg_RuleError ?hd_RuleError ?ca_RuleError ?mo_RuleError ?ve_RuleError ?ex_NoInverse ?ke_NoInverse ?be_NoInverse ?ty_NoInverse ?ga_NoInverse ?gg_NoInverse ?hd_NoInverse ?ca_NoInverse ?mo_NoInverse ?ve_NoInverse ?ex_NoRest ?ke_NoRest ?be_NoRest ?ty_NoRest ?ga_NoRest ?gg_NoRest ?hd_NoRest ?ca_NoRest ?mo_NoRest ?ve_NoRest ?ex_NoStart ?ke_NoStart ?be_NoStart ?ty_NoStart ?ga_NoStart ?gg_NoStart ?hd_NoStart ?ca_NoStart ?mo_NoStart ?ve_NoStart ?ex_NoPlace ?ke_NoPlace ?be_NoPlace ?ty_NoPlace ?ga_NoPlace ?gg_NoPlace ?hd_NoPlace ?ca_NoPlace ?mo_NoPlace ?ve_NoPlace ?sg ?tk ?sub_RuleError_RuleError ?sub_RuleError_NoInverse ?sub_RuleError_NoRest ?sub_RuleError_NoStart ?sub_RuleError_NoPlace ?sub_NoInverse_RuleError ?sub_NoInverse_NoInverse ?sub_NoInverse_NoRest ?sub_NoInverse_NoStart ?sub_NoInverse_NoPlace ?sub_NoRest_RuleError ?sub_NoRest_NoInverse ?sub_NoRest_NoRest ?sub_NoRest_NoStart ?sub_NoRest_NoPlace ?sub_NoStart_RuleError ?sub_NoStart_NoInverse ?sub_NoStart_NoRest ?sub_NoStart_NoStart ?sub_NoStart_NoPlace ?sub_NoPlace_RuleError ?sub_NoPlace_NoInverse ?sub_NoPlace_NoRest ?sub_NoPlace_NoStart ?sub_NoPlace_NoPlace ?pg ?hdi ?po ?sa ?mkc ?kcc ?n_prime ?n_row ?n_rule ?n_elder ?n_lack ?n_place ?z_len ?z_range ?z_isinstance ?z_int ?z_bool ?z_list ?z_tuple ?z_max ?z_min ?z_reversed ?z_ValueError
    (case a_Grower => k_is)
    (case a_RuleError => k_is)
    (case a_NoInverse => k_is)
    (case a_NoRest => k_is)
    (case a_NoStart => k_is)
    (case a_NoPlace => k_is)
    (case a__wall => k_is)
    (case l__wall => k_is)
    (case c__wall => k_is)
    (case k__wall => k_is)
    (case a_stepped => k_is)
    (case l_stepped => k_is)
    (case c_stepped => k_is)
    (case k_stepped => k_is)
    (case a_doubled => k_is)
    (case l_doubled => k_is)
    (case c_doubled => k_is)
    (case k_doubled => k_is)
    (case a_halves => k_is)
    (case l_halves => k_is)
    (case c_halves => k_is)
    (case k_halves => k_is)
    (case a_far => k_is)
    (case l_far => k_is)
    (case c_far => k_is)
    (case k_far => k_is)
    (case a_inverse => k_is)
    (case l_inverse => k_is)
    (case c_inverse => k_is)
    (case k_inverse => k_is)
    (case a_due => k_is)
    (case l_due => k_is)
    (case c_due => k_is)
    (case k_due => k_is)
    (case a_Grower___init__ => k_is)
    (case i_Grower___init__ => k_is)
    (case l_Grower___init__ => k_is)
    (case c_Grower___init__ => k_is)
    (case k_Grower___init__ => k_is)
    (case a_Grower_put => k_is)
    (case i_Grower_put => k_is)
    (case l_Grower_put => k_is)
    (case c_Grower_put => k_is)
    (case k_Grower_put => k_is)
    (case a_Grower_mend => k_is)
    (case i_Grower_mend => k_is)
    (case l_Grower_mend => k_is)
    (case c_Grower_mend => k_is)
    (case k_Grower_mend => k_is)
    (case a_Grower_told => k_is)
    (case i_Grower_told => k_is)
    (case l_Grower_told => k_is)
    (case c_Grower_told => k_is)
    (case k_Grower_told => k_is)
    (case a_Grower_many => k_is)
    (case i_Grower_many => k_is)
    (case l_Grower_many => k_is)
    (case c_Grower_many => k_is)
    (case k_Grower_many => k_is)
    (case a_Grower_why => k_is)
    (case i_Grower_why => k_is)
    (case l_Grower_why => k_is)
    (case c_Grower_why => k_is)
    (case k_Grower_why => k_is)
    (case a_taken => k_is)
    (case l_taken => k_is)
    (case c_taken => k_is)
    (case k_taken => k_is)
    (case a_shortest => k_is)
    (case l_shortest => k_is)
    (case c_shortest => k_is)
    (case k_shortest => k_is)
    (case a_missed => k_is)
    (case l_missed => k_is)
    (case c_missed => k_is)
    (case k_missed => k_is)
    (case a_follows => k_is)
    (case l_follows => k_is)
    (case c_follows => k_is)
    (case k_follows => k_is)
    (case a_carried => k_is)
    (case l_carried => k_is)
    (case c_carried => k_is)
    (case k_carried => k_is)
    (case a__law_whole => k_is)
    (case l__law_whole => k_is)
    (case c__law_whole => k_is)
    (case k__law_whole => k_is)
    (case a__law_cell_at => k_is)
    (case l__law_cell_at => k_is)
    (case c__law_cell_at => k_is)
    (case k__law_cell_at => k_is)
    (case a__law_mixed => k_is)
    (case l__law_mixed => k_is)
    (case c__law_mixed => k_is)
    (case k__law_mixed => k_is)
    (case a__law_is_prime => k_is)
    (case l__law_is_prime => k_is)
    (case c__law_is_prime => k_is)
    (case k__law_is_prime => k_is)
    (case a__law_wide => k_is)
    (case l__law_wide => k_is)
    (case c__law_wide => k_is)
    (case k__law_wide => k_is)
    (case a__law_prime => k_is)
    (case l__law_prime => k_is)
    (case c__law_prime => k_is)
    (case k__law_prime => k_is)
    (case a__law_rest => k_is)
    (case l__law_rest => k_is)
    (case c__law_rest => k_is)
    (case k__law_rest => k_is)
    (case a__law_tells => k_is)
    (case l__law_tells => k_is)
    (case c__law_tells => k_is)
    (case k__law_tells => k_is)
    (case a_law => k_is)
    (case l_law => k_is)
    (case c_law => k_is)
    (case k_law => k_is)
    (case ex_RuleError => k_exc)
    (case ke_RuleError => k_is)
    (case be_RuleError => k_is)
    (case ty_RuleError => k_is)
    (case ga_RuleError => k_is)
    (case gg_RuleError => k_is)
    (case hd_RuleError => k_is)
    (case ca_RuleError => k_is)
    (case mo_RuleError => k_is)
    (case ve_RuleError => k_is)
    (case ex_NoInverse => k_exc)
    (case ke_NoInverse => k_is)
    (case be_NoInverse => k_is)
    (case ty_NoInverse => k_is)
    (case ga_NoInverse => k_is)
    (case gg_NoInverse => k_is)
    (case hd_NoInverse => k_is)
    (case ca_NoInverse => k_is)
    (case mo_NoInverse => k_is)
    (case ve_NoInverse => k_is)
    (case ex_NoRest => k_exc)
    (case ke_NoRest => k_is)
    (case be_NoRest => k_is)
    (case ty_NoRest => k_is)
    (case ga_NoRest => k_is)
    (case gg_NoRest => k_is)
    (case hd_NoRest => k_is)
    (case ca_NoRest => k_is)
    (case mo_NoRest => k_is)
    (case ve_NoRest => k_is)
    (case ex_NoStart => k_exc)
    (case ke_NoStart => k_is)
    (case be_NoStart => k_is)
    (case ty_NoStart => k_is)
    (case ga_NoStart => k_is)
    (case gg_NoStart => k_is)
    (case hd_NoStart => k_is)
    (case ca_NoStart => k_is)
    (case mo_NoStart => k_is)
    (case ve_NoStart => k_is)
    (case ex_NoPlace => k_exc)
    (case ke_NoPlace => k_is)
    (case be_NoPlace => k_is)
    (case ty_NoPlace => k_is)
    (case ga_NoPlace => k_is)
    (case gg_NoPlace => k_is)
    (case hd_NoPlace => k_is)
    (case ca_NoPlace => k_is)
    (case mo_NoPlace => k_is)
    (case ve_NoPlace => k_is)
    (case sg => k_is)
    (case tk => k_is)
    (case sub_RuleError_RuleError => (first | rfl | k_is))
    (case sub_RuleError_NoInverse => (first | rfl | k_is))
    (case sub_RuleError_NoRest => (first | rfl | k_is))
    (case sub_RuleError_NoStart => (first | rfl | k_is))
    (case sub_RuleError_NoPlace => (first | rfl | k_is))
    (case sub_NoInverse_RuleError => (first | rfl | k_is))
    (case sub_NoInverse_NoInverse => (first | rfl | k_is))
    (case sub_NoInverse_NoRest => (first | rfl | k_is))
    (case sub_NoInverse_NoStart => (first | rfl | k_is))
    (case sub_NoInverse_NoPlace => (first | rfl | k_is))
    (case sub_NoRest_RuleError => (first | rfl | k_is))
    (case sub_NoRest_NoInverse => (first | rfl | k_is))
    (case sub_NoRest_NoRest => (first | rfl | k_is))
    (case sub_NoRest_NoStart => (first | rfl | k_is))
    (case sub_NoRest_NoPlace => (first | rfl | k_is))
    (case sub_NoStart_RuleError => (first | rfl | k_is))
    (case sub_NoStart_NoInverse => (first | rfl | k_is))
    (case sub_NoStart_NoRest => (first | rfl | k_is))
    (case sub_NoStart_NoStart => (first | rfl | k_is))
    (case sub_NoStart_NoPlace => (first | rfl | k_is))
    (case sub_NoPlace_RuleError => (first | rfl | k_is))
    (case sub_NoPlace_NoInverse => (first | rfl | k_is))
    (case sub_NoPlace_NoRest => (first | rfl | k_is))
    (case sub_NoPlace_NoStart => (first | rfl | k_is))
    (case sub_NoPlace_NoPlace => (first | rfl | k_is))
    (case pg => k_is)
    (case hdi => k_is)
    (case po => k_is)
    (case sa => k_is)
    (case mkc => k_is)
    (case kcc => k_is)
    (case n_prime => k_is)
    (case n_row => k_is)
    (case n_rule => k_is)
    (case n_elder => k_is)
    (case n_lack => k_is)
    (case n_place => k_is)
    (case z_len => k_is)
    (case z_range => k_is)
    (case z_isinstance => k_is)
    (case z_int => k_is)
    (case z_bool => k_is)
    (case z_list => k_is)
    (case z_tuple => k_is)
    (case z_max => k_is)
    (case z_min => k_is)
    (case z_reversed => k_is)
    (case z_ValueError => k_is)
#print axioms PySem.Challenge.cw_shortrule_k14_whole_learned_and_far_holds
