import PyProof.Rows.All
import Wide.All
import OpenK.AllK
import Wide.FinOn
import PyProof.EqAt
import PyProof.EqKinds
import PyProof.TupleCall
import HandS.ForMost
import HandS.ForExc
import HandS.ExcCtx
import HandS.HotCalls
import HandS.IsInst
import HandS.ExcIs
import HandS.Wide
import HandS.Rev
import HandS.Style
import HandS.Codes
import PySem.Challenge.RW_shortrule_k05_no_rests
set_option Elab.async false
set_option linter.all false
set_option maxRecDepth 100000
set_option maxHeartbeats 4000000
/-! Sums, lists by places, divisibility: plain Lean. -/
namespace SR

/-- f 0 + .. + f (n - 1) -/
def sm : Nat → (Nat → Int) → Int
  | 0, _ => 0
  | n + 1, f => sm n f + f n

theorem sm_congr {f g : Nat → Int} : ∀ {n : Nat}, (∀ k, k < n → f k = g k) → sm n f = sm n g
  | 0, _ => rfl
  | n + 1, h => by
    show sm n f + f n = sm n g + g n
    rw [sm_congr (n := n) fun k hk => h k (by omega), h n (by omega)]
theorem sm_add (f g : Nat → Int) : ∀ n, sm n (fun k => f k + g k) = sm n f + sm n g
  | 0 => rfl
  | n + 1 => by
    show sm n _ + (f n + g n) = (sm n f + f n) + (sm n g + g n)
    rw [sm_add f g n]; omega
theorem sm_sub (f g : Nat → Int) : ∀ n, sm n (fun k => f k - g k) = sm n f - sm n g
  | 0 => rfl
  | n + 1 => by
    show sm n _ + (f n - g n) = (sm n f + f n) - (sm n g + g n)
    rw [sm_sub f g n]; omega
theorem sm_mul (c : Int) (f : Nat → Int) : ∀ n, sm n (fun k => c * f k) = c * sm n f
  | 0 => by show (0 : Int) = c * 0; omega
  | n + 1 => by
    show sm n _ + _ = c * (sm n f + f n)
    rw [sm_mul c f n, Int.mul_add]
theorem sm_mulr (c : Int) (f : Nat → Int) : ∀ n, sm n (fun k => f k * c) = sm n f * c
  | 0 => by show (0 : Int) = 0 * c; omega
  | n + 1 => by
    show sm n _ + _ = (sm n f + f n) * c
    rw [sm_mulr c f n, Int.add_mul]
theorem sm_neg (f : Nat → Int) : ∀ n, sm n (fun k => - f k) = - sm n f
  | 0 => rfl
  | n + 1 => by
    show sm n _ + - f n = - (sm n f + f n)
    rw [sm_neg f n]; omega
theorem sm_zero {f : Nat → Int} : ∀ {n : Nat}, (∀ k, k < n → f k = 0) → sm n f = 0
  | 0, _ => rfl
  | n + 1, h => by
    show sm n f + f n = 0
    rw [sm_zero (n := n) fun k hk => h k (by omega), h n (by omega)]; rfl
theorem sm_dvd {p : Int} {f : Nat → Int} : ∀ {n : Nat}, (∀ k, k < n → p ∣ f k) → p ∣ sm n f
  | 0, _ => ⟨0, by show (0 : Int) = p * 0; omega⟩
  | n + 1, h => Int.dvd_add (sm_dvd (n := n) fun k hk => h k (by omega)) (h n (by omega))
theorem sm_split (m : Nat) (f : Nat → Int) : ∀ n, sm (m + n) f = sm m f + sm n (fun k => f (m + k))
  | 0 => by show sm m f = sm m f + 0; omega
  | n + 1 => by
    show sm (m + n) f + f (m + n) = sm m f + (sm n _ + f (m + n))
    rw [sm_split m f n]; omega
theorem sm_head (f : Nat → Int) (n : Nat) : sm (n + 1) f = f 0 + sm n (fun k => f (k + 1)) := by
  have e := sm_split 1 f n
  have e1 : sm 1 f = f 0 := by show (0 : Int) + f 0 = f 0; omega
  rw [Nat.add_comm n 1, e, e1]
  congr 1
  exact sm_congr fun k _ => by rw [Nat.add_comm 1 k]
theorem sm_swap (f : Nat → Nat → Int) (m : Nat) : ∀ n, sm n (fun i => sm m (fun j => f i j)) = sm m (fun j => sm n (fun i => f i j))
  | 0 => (sm_zero fun _ _ => rfl).symm
  | n + 1 => by
    show sm n _ + sm m (fun j => f n j) = sm m (fun j => sm n (fun i => f i j) + f n j)
    rw [sm_swap f m n, sm_add]
theorem sm_more {f : Nat → Int} {n m : Nat} (hnm : n ≤ m) (h : ∀ k, n ≤ k → k < m → f k = 0) : sm m f = sm n f := by
  obtain ⟨d, rfl⟩ : ∃ d, m = n + d := ⟨m - n, by omega⟩
  rw [sm_split, sm_zero (f := fun k => f (n + k)) fun k hk => h (n + k) (by omega) (by omega)]
  omega
/-- one place alone -/
theorem sm_one {f : Nat → Int} {n j : Nat} (hj : j < n) (h : ∀ k, k < n → k ≠ j → f k = 0) : sm n f = f j := by
  induction n with
  | zero => omega
  | succ n ih =>
    show sm n f + f n = f j
    by_cases e : j = n
    · subst e
      rw [sm_zero fun k hk => h k (by omega) (by omega)]; omega
    · rw [ih (by omega) fun k hk => h k (by omega), h n (by omega) (by omega)]; omega

/-! ### lists by places -/
def gd (l : List Int) (k : Nat) : Int := (l[k]?).getD 0
theorem gd_ge {l : List Int} {k : Nat} (h : l.length ≤ k) : gd l k = 0 := by
  unfold gd; rw [List.getElem?_eq_none h]; rfl
theorem gd_some {l : List Int} {k : Nat} {x : Int} (h : l[k]? = some x) : gd l k = x := by
  unfold gd; rw [h]; rfl
theorem get_gd {l : List Int} {k : Nat} (h : k < l.length) : l[k]? = some (gd l k) := by
  unfold gd; rw [List.getElem?_eq_getElem h]; rfl
theorem gd_mem {l : List Int} {k : Nat} (h : k < l.length) : gd l k ∈ l := List.mem_of_getElem? (get_gd h)
theorem gd_nil (k : Nat) : gd [] k = 0 := gd_ge (Nat.zero_le _)
theorem gd_zero (a : Int) (l : List Int) : gd (a :: l) 0 = a := rfl
theorem gd_succ (a : Int) (l : List Int) (k : Nat) : gd (a :: l) (k + 1) = gd l k := rfl
theorem gd_left {l m : List Int} {k : Nat} (h : k < l.length) : gd (l ++ m) k = gd l k := by
  unfold gd; rw [List.getElem?_append_left h]
theorem gd_right {l m : List Int} {k : Nat} (h : l.length ≤ k) : gd (l ++ m) k = gd m (k - l.length) := by
  unfold gd; rw [List.getElem?_append_right h]
theorem gd_last (l : List Int) (x : Int) : gd (l ++ [x]) l.length = x := by
  rw [gd_right (Nat.le_refl _), Nat.sub_self]; rfl
theorem gd_map {f : Int → Int} {l : List Int} {k : Nat} (h : k < l.length) : gd (l.map f) k = f (gd l k) := by
  unfold gd; rw [List.getElem?_map, List.getElem?_eq_getElem h]; rfl
theorem gd_map0 {f : Int → Int} (h0 : f 0 = 0) (l : List Int) (k : Nat) : gd (l.map f) k = f (gd l k) := by
  by_cases h : k < l.length
  · exact gd_map h
  · rw [gd_ge (l := l) (by omega), gd_ge (by rw [List.length_map]; omega), h0]
theorem gd_take {l : List Int} {n k : Nat} (h : k < n) : gd (l.take n) k = gd l k := by
  unfold gd; rw [List.getElem?_take_of_lt h]
theorem gd_drop (l : List Int) (n k : Nat) : gd (l.drop n) k = gd l (n + k) := by
  unfold gd; rw [List.getElem?_drop]
theorem gd_set_self {l : List Int} {j : Nat} {x : Int} (h : j < l.length) : gd (l.set j x) j = x := by
  unfold gd; rw [List.getElem?_set_self h]; rfl
theorem gd_set_ne {l : List Int} {j k : Nat} {x : Int} (h : j ≠ k) : gd (l.set j x) k = gd l k := by
  unfold gd; rw [List.getElem?_set_ne h]
theorem gd_rep (n k : Nat) : gd (List.replicate n 0) k = 0 := by
  unfold gd; rw [List.getElem?_replicate]; split <;> rfl
theorem ext_gd' {l m : List Int} (hl : l.length = m.length) (h : ∀ k, k < l.length → gd l k = gd m k) : l = m := by
  refine List.ext_getElem? fun k => ?_
  by_cases hk : k < l.length
  · rw [get_gd hk, get_gd (by omega), h k hk]
  · rw [List.getElem?_eq_none (by omega), List.getElem?_eq_none (by omega)]
/-- a list by its places -/
def mk (n : Nat) (f : Nat → Int) : List Int := (List.range n).map f
theorem mk_len (n : Nat) (f : Nat → Int) : (mk n f).length = n := by unfold mk; rw [List.length_map, List.length_range]
theorem mk_get {n k : Nat} (f : Nat → Int) (h : k < n) : (mk n f)[k]? = some (f k) := by
  unfold mk; rw [List.getElem?_map, List.getElem?_range h]; rfl
theorem gd_mk {n k : Nat} (f : Nat → Int) (h : k < n) : gd (mk n f) k = f k := gd_some (mk_get f h)
theorem mk_succ (n : Nat) (f : Nat → Int) : mk (n + 1) f = mk n f ++ [f n] := by
  unfold mk; rw [List.range_succ, List.map_append]; rfl
theorem mk_congr {n : Nat} {f g : Nat → Int} (h : ∀ k, k < n → f k = g k) : mk n f = mk n g :=
  ext_gd' (by rw [mk_len, mk_len]) fun k hk => by
    rw [mk_len] at hk
    rw [gd_mk _ hk, gd_mk _ hk, h k hk]
theorem mk_gd (l : List Int) : mk l.length (gd l) = l := ext_gd' (mk_len _ _) fun k hk => by
  rw [mk_len] at hk
  rw [gd_mk _ hk]
theorem take_succ {l : List Int} {i : Nat} (h : i < l.length) : l.take (i + 1) = l.take i ++ [gd l i] := by
  rw [List.take_add_one, get_gd h]; rfl
theorem map_take_succ {l : List Int} {i : Nat} (h : i < l.length) (f : Int → Int) : (l.take (i + 1)).map f = (l.take i).map f ++ [f (gd l i)] := by
  rw [take_succ h, List.map_append]; rfl
theorem take_mk (l : List Int) (n : Nat) (h : n ≤ l.length) : l.take n = mk n (gd l) := by
  refine ext_gd' (by rw [mk_len, List.length_take]; omega) fun k hk => ?_
  rw [List.length_take] at hk
  rw [gd_take (by omega), gd_mk _ (by omega)]

/-! ### rests -/
def Rests (p : Int) (l : List Int) : Prop := ∀ x, x ∈ l → 0 ≤ x ∧ x < p
theorem Rests.nil {p : Int} : Rests p [] := fun _ h => by cases h
theorem Rests.gd {p : Int} {l : List Int} (h : Rests p l) (h0 : 0 < p) (k : Nat) : 0 ≤ SR.gd l k ∧ SR.gd l k < p := by
  by_cases hk : k < l.length
  · exact h _ (gd_mem hk)
  · rw [gd_ge (by omega)]; omega
theorem Rests.app {p : Int} {l m : List Int} (h : Rests p l) (h' : Rests p m) : Rests p (l ++ m) := fun x hx => by
  rcases List.mem_append.mp hx with q | q
  · exact h x q
  · exact h' x q
theorem Rests.one {p x : Int} (h0 : 0 ≤ x) (h1 : x < p) : Rests p [x] := fun y hy => by
  rw [List.mem_singleton] at hy; subst hy; exact ⟨h0, h1⟩
theorem Rests.take {p : Int} {l : List Int} (h : Rests p l) (n : Nat) : Rests p (l.take n) := fun x hx => h x (List.mem_of_mem_take hx)
theorem Rests.mapMod {p : Int} (h0 : 0 < p) (f : Int → Int) (l : List Int) : Rests p (l.map fun x => f x % p) := fun x hx => by
  obtain ⟨y, _, rfl⟩ := List.mem_map.mp hx
  exact ⟨Int.emod_nonneg _ (by omega), Int.emod_lt_of_pos _ h0⟩
theorem Rests.mk {p : Int} {n : Nat} {f : Nat → Int} (h : ∀ k, k < n → 0 ≤ f k ∧ f k < p) : Rests p (SR.mk n f) := fun x hx => by
  obtain ⟨k, hk, rfl⟩ := List.mem_map.mp hx
  exact h k (List.mem_range.mp hk)
theorem rest_eq {p x y : Int} (hx : 0 ≤ x ∧ x < p) (hy : 0 ≤ y ∧ y < p) (h : p ∣ x - y) : x = y := by
  have h3 : x % p = y % p := Int.emod_eq_emod_iff_emod_sub_eq_zero.mpr (Int.emod_eq_zero_of_dvd h)
  rw [Int.emod_eq_of_lt hx.1 hx.2, Int.emod_eq_of_lt hy.1 hy.2] at h3
  exact h3
theorem dvd_emod (p x : Int) : p ∣ x % p - x := by
  have h : p * (x / p) + x % p = x := by first | exact Int.mul_ediv_add_emod x p | exact Int.ediv_add_emod x p
  exact ⟨-(x / p), by rw [Int.mul_neg]; omega⟩
theorem dvd_emod' (p x : Int) : p ∣ x - x % p := by
  obtain ⟨c, h⟩ := dvd_emod p x
  exact ⟨-c, by rw [Int.mul_neg]; omega⟩
theorem emod_rest {p : Int} (h : 0 < p) (x : Int) : 0 ≤ x % p ∧ x % p < p := ⟨Int.emod_nonneg _ (by omega), Int.emod_lt_of_pos _ h⟩
theorem emod_eq_of_dvd {p x y : Int} (h : p ∣ x - y) : x % p = y % p := Int.emod_eq_emod_iff_emod_sub_eq_zero.mpr (Int.emod_eq_zero_of_dvd h)
theorem dvd_of_emod_eq {p x y : Int} (h : x % p = y % p) : p ∣ x - y := Int.dvd_of_emod_eq_zero (Int.emod_eq_emod_iff_emod_sub_eq_zero.mp h)
end SR
/-! The shortest rule: the mirror of the grower and what holds of it. Plain Lean. -/
namespace SR

/-- a prime's two sides: no divisor but 1 and itself -/
def Pr (p : Int) : Prop := 2 ≤ p ∧ ∀ d : Int, 0 < d → d ∣ p → d = 1 ∨ d = p

/-! ### inverses -/
def IsInv (p a x : Int) : Prop := 0 ≤ x ∧ x < p ∧ p ∣ x * a - 1
open Classical in
noncomputable def inv (p a : Int) : Int := if h : ∃ x, IsInv p a x then Classical.choose h else 0
theorem inv_unique {p a x y : Int} (hx : IsInv p a x) (hy : IsInv p a y) : x = y := by
  refine rest_eq ⟨hx.1, hx.2.1⟩ ⟨hy.1, hy.2.1⟩ ?_
  obtain ⟨c, hc⟩ := hx.2.2
  obtain ⟨d, hd⟩ := hy.2.2
  exact ⟨y * c - x * d, by grind⟩
theorem inv_eq {p a x : Int} (hx : IsInv p a x) : inv p a = x := by
  have h : ∃ x, IsInv p a x := ⟨x, hx⟩
  unfold inv
  rw [dif_pos h]
  exact inv_unique (Classical.choose_spec h) hx

/-- the extended Euclid: what stands between two turns of the loop -/
structure Eu (p a left right one two : Int) : Prop where
  l0 : 0 < left
  r0 : 0 ≤ right
  rl : right < left
  lp : left ≤ p
  c1 : p ∣ one * a - left
  c2 : p ∣ two * a - right
  g : ∀ d : Int, d ∣ left → d ∣ right → d ∣ p ∧ d ∣ a
theorem Eu.start {p a : Int} (hp : 2 ≤ p) : Eu p a p (a % p) 0 1 where
  l0 := by omega
  r0 := Int.emod_nonneg _ (by omega)
  rl := Int.emod_lt_of_pos _ (by omega)
  lp := Int.le_refl _
  c1 := ⟨-1, by grind⟩
  c2 := by
    obtain ⟨c, h⟩ := dvd_emod' p a
    exact ⟨c, by rw [← h]; omega⟩
  g := fun d h1 h2 => ⟨h1, by
    have h3 := Int.dvd_sub h2 (Int.dvd_trans h1 (dvd_emod p a))
    have e : a % p - (a % p - a) = a := by omega
    rw [e] at h3; exact h3⟩
theorem Eu.turn {p a left right one two : Int} (h : Eu p a left right one two) (hr : right ≠ 0) :
    Eu p a right (left - left / right * right) two (one - left / right * two) := by
  have e : left - left / right * right = left % right := by
    have := (by first | exact Int.mul_ediv_add_emod left right | exact Int.ediv_add_emod left right : right * (left / right) + left % right = left)
    rw [Int.mul_comm]; omega
  have hr0 : 0 < right := by have := h.r0; omega
  refine ⟨hr0, by rw [e]; exact Int.emod_nonneg _ hr, by rw [e]; exact Int.emod_lt_of_pos _ hr0, by have := h.rl; have := h.lp; omega, h.c2, ?_, fun d h1 h2 => h.g d ?_ h1⟩
  · obtain ⟨c, hc⟩ := h.c1
    obtain ⟨d, hd⟩ := h.c2
    exact ⟨c - left / right * d, by grind⟩
  · obtain ⟨c, hc⟩ := h1
    obtain ⟨x, hx⟩ := h2
    exact ⟨x + left / right * c, by grind⟩
/-- sizes: the products that the loop makes have a small factor -/
theorem Eu.often {p a left right one two : Int} (h : Eu p a left right one two) (hr : right ≠ 0) : 0 ≤ left / right ∧ left / right ≤ p := by
  have h0 := h.r0
  have h1 := h.l0
  refine ⟨Int.ediv_nonneg (by omega) h0, ?_⟩
  have := Int.ediv_le_self (b := right) (a := left) (by omega)
  have := h.lp
  omega
theorem Eu.done {p a left one two : Int} (hp : Pr p) (ha : ¬ p ∣ a) (h : Eu p a left 0 one two) : IsInv p a (one % p) := by
  obtain ⟨hd, hda⟩ := h.g left (Int.dvd_refl _) (Int.dvd_zero _)
  have hl : left = 1 := by
    rcases hp.2 left h.l0 hd with e | e
    · exact e
    · exact absurd (e ▸ hda) ha
  have h2 := hp.1
  refine ⟨Int.emod_nonneg _ (by omega), Int.emod_lt_of_pos _ (by omega), ?_⟩
  obtain ⟨c, hc⟩ := h.c1
  obtain ⟨d, hd⟩ := dvd_emod p one
  rw [hl] at hc
  exact ⟨c + d * a, by grind⟩
theorem inv_ex {p a : Int} (hp : Pr p) (ha : ¬ p ∣ a) : ∃ x, IsInv p a x := by
  have go : ∀ (n : Nat) (left right one two : Int), right.toNat ≤ n → Eu p a left right one two → ∃ x, IsInv p a x := by
    intro n
    induction n with
    | zero =>
      intro left right one two hn h
      have e : right = 0 := by have := h.r0; omega
      subst e
      exact ⟨_, h.done hp ha⟩
    | succ n ih =>
      intro left right one two hn h
      by_cases e : right = 0
      · subst e
        exact ⟨_, h.done hp ha⟩
      · have t := h.turn e
        exact ih _ _ _ _ (by have := t.rl; have := t.r0; omega) t
  exact go _ p (a % p) 0 1 (Nat.le_refl _) (Eu.start hp.1)
theorem inv_is {p a : Int} (hp : Pr p) (ha : ¬ p ∣ a) : IsInv p a (inv p a) := by
  obtain ⟨x, hx⟩ := inv_ex hp ha
  rw [inv_eq hx]; exact hx
/-- the law's own words: an inverse is not nought, and leaves 1 -/
theorem inv_pos {p a x : Int} (hp : Pr p) (h : IsInv p a x) : 1 ≤ x ∧ x * a % p = 1 := by
  have h2 := hp.1
  obtain ⟨h0, h1, h3⟩ := h
  have e : x * a % p = 1 % p := emod_eq_of_dvd h3
  rw [Int.emod_eq_of_lt (by omega) (by omega : (1 : Int) < p)] at e
  refine ⟨?_, e⟩
  by_cases hx : x = 0
  · subst hx
    rw [Int.zero_mul, Int.zero_emod] at e
    omega
  · omega
theorem not_dvd_rest {p x : Int} (h0 : 0 < x) (h1 : x < p) : ¬ p ∣ x := fun h => by
  have := Int.emod_eq_zero_of_dvd h
  rw [Int.emod_eq_of_lt (by omega) h1] at this
  omega
theorem pr_mul {p a b : Int} (hp : Pr p) (h : p ∣ a * b) : p ∣ a ∨ p ∣ b := by
  by_cases ha : p ∣ a
  · exact .inl ha
  · obtain ⟨x, _, _, c, hc⟩ := inv_ex hp ha
    obtain ⟨d, hd⟩ := h
    exact .inr ⟨x * d - c * b, by grind⟩

/-! ### what a rule tells -/
def tellS (rule row : List Int) (i : Nat) : Int := sm rule.length fun k => gd rule k * gd row (i - 1 - k)
def due (p : Int) (rule row : List Int) (i : Nat) : Int := tellS rule row i % p
/-- the numbers at i, i - 1, .., weighed by a -/
def cv (a row : List Int) (i : Nat) : Int := sm a.length fun k => gd a k * gd row (i - k)
def ahead (rule : List Int) : List Int := 1 :: rule.map fun w => -w
theorem ahead_len (rule : List Int) : (ahead rule).length = rule.length + 1 := by unfold ahead; rw [List.length_cons, List.length_map]
theorem cv_ahead (rule row : List Int) (i : Nat) : cv (ahead rule) row i = gd row i - tellS rule row i := by
  unfold cv
  rw [ahead_len, sm_head]
  have e : sm rule.length (fun k => gd (ahead rule) (k + 1) * gd row (i - (k + 1))) = sm rule.length fun k => -(gd rule k * gd row (i - 1 - k)) := sm_congr fun k hk => by
    show gd (rule.map fun w => -w) k * _ = _
    rw [gd_map hk, Nat.sub_sub, Nat.add_comm 1 k, Int.neg_mul]
  rw [e, sm_neg]
  show (1 : Int) * gd row (i - 0) + _ = _
  unfold tellS
  rw [Nat.sub_zero]; omega
def Fol (p : Int) (rule row : List Int) : Prop := ∀ i, rule.length ≤ i → i < row.length → due p rule row i = gd row i
instance {p : Int} {rule row : List Int} : Decidable (Fol p rule row) :=
  decidable_of_iff (∀ i, i < row.length → rule.length ≤ i → due p rule row i = gd row i) ⟨fun h i a b => h i b a, fun h i a b => h i b a⟩
theorem fol_iff {p : Int} {rule row : List Int} (h0 : 0 < p) (hr : Rests p row) : Fol p rule row ↔ ∀ i, rule.length ≤ i → i < row.length → p ∣ cv (ahead rule) row i := by
  refine ⟨fun h i a b => ?_, fun h i a b => ?_⟩
  · rw [cv_ahead]
    have e := h i a b
    unfold due at e
    rw [← e]
    exact dvd_emod _ _
  · have z := h i a b
    rw [cv_ahead] at z
    unfold due
    rw [← emod_eq_of_dvd z]
    exact Int.emod_eq_of_lt (hr.gd h0 i).1 (hr.gd h0 i).2
theorem cv_app {a row m : List Int} {i : Nat} (h : i < row.length) : cv a (row ++ m) i = cv a row i :=
  sm_congr fun k _ => by rw [gd_left (by omega)]
theorem tellS_app {rule row m : List Int} {i : Nat} (h1 : rule.length ≤ i) (h : i ≤ row.length) : tellS rule (row ++ m) i = tellS rule row i :=
  sm_congr fun k hk => by rw [gd_left (by omega)]
theorem due_app {p : Int} {rule row m : List Int} {i : Nat} (h1 : rule.length ≤ i) (h : i ≤ row.length) : due p rule (row ++ m) i = due p rule row i := by
  unfold due; rw [tellS_app h1 h]
theorem due_rest {p : Int} (h0 : 0 < p) (rule row : List Int) (i : Nat) : 0 ≤ due p rule row i ∧ due p rule row i < p := emod_rest h0 _
theorem tellS_take {rule row : List Int} {i n : Nat} (h1 : rule.length ≤ i) (h : i ≤ n) : tellS rule (row.take n) i = tellS rule row i :=
  sm_congr fun k hk => by rw [gd_take (by omega)]

/-! ### the grower -/
structure Gr where
  row : List Int
  rule : List Int
  elder : List Int
  lack : Int
  place : Option Nat
def Gr.new : Gr := ⟨[], [], [1], 1, none⟩
def gapOf (place : Option Nat) (n : Nat) : Nat := match place with | none => n + 1 | some q => n - q
def sizeOf' (l n : Nat) : Nat := if 2 * l ≤ n then n + 1 - l else l
/-- the list of the mending loop behind k turns -/
def mendK (ah : List Int) (size gap : Nat) (often : Int) (el : List Int) (k : Nat) : List Int :=
  mk (size + 1) fun j => gd ah j - (if gap ≤ j ∧ j < gap + k then often * gd el (j - gap) else 0)
noncomputable def Gr.mended (p : Int) (g : Gr) (n : Nat) (lack : Int) : List Int :=
  mendK (ahead g.rule) (sizeOf' g.rule.length n) (gapOf g.place n) (lack * inv p g.lack) g.elder g.elder.length
noncomputable def Gr.mend (p : Int) (g : Gr) (n : Nat) (lack : Int) : Gr :=
  { row := g.row
    rule := ((g.mended p n lack).drop 1).map fun w => -w % p
    elder := if 2 * g.rule.length ≤ n then (ahead g.rule).map fun w => w % p else g.elder
    lack := if 2 * g.rule.length ≤ n then lack else g.lack
    place := if 2 * g.rule.length ≤ n then some n else g.place }
def Gr.dis (p : Int) (g : Gr) (x : Int) : Int := (x - due p g.rule g.row g.row.length) % p
noncomputable def Gr.put (p : Int) (g : Gr) (x : Int) : Gr :=
  if g.dis p x = 0 then { g with row := g.row ++ [x] } else Gr.mend p { g with row := g.row ++ [x] } g.row.length (g.dis p x)
theorem mendK_len (ah : List Int) (size gap : Nat) (often : Int) (el : List Int) (k : Nat) : (mendK ah size gap often el k).length = size + 1 := mk_len _ _
theorem mendK_zero {ah : List Int} {size : Nat} (h : ah.length ≤ size + 1) (gap : Nat) (often : Int) (el : List Int) : mendK ah size gap often el 0 = ah ++ List.replicate (size + 1 - ah.length) 0 := by
  refine ext_gd' (by rw [mendK_len, List.length_append, List.length_replicate]; omega) fun j hj => ?_
  rw [mendK_len] at hj
  unfold mendK
  rw [gd_mk _ hj, if_neg (by omega)]
  by_cases c : j < ah.length
  · rw [gd_left c]; omega
  · rw [gd_right (by omega), gd_rep, gd_ge (by omega)]; rfl
theorem mendK_succ {ah : List Int} {size gap : Nat} {often : Int} {el : List Int} {k : Nat} (h : gap + k < size + 1) :
    (mendK ah size gap often el k).set (gap + k) (gd (mendK ah size gap often el k) (gap + k) - often * gd el k) = mendK ah size gap often el (k + 1) := by
  refine ext_gd' (by rw [List.length_set, mendK_len, mendK_len]) fun j hj => ?_
  rw [List.length_set, mendK_len] at hj
  by_cases c : gap + k = j
  · subst c
    rw [gd_set_self (by rw [mendK_len]; exact h)]
    unfold mendK
    rw [gd_mk _ h, gd_mk _ h, if_neg (by omega), if_pos (by omega), Nat.add_sub_cancel_left]
    omega
  · rw [gd_set_ne c]
    unfold mendK
    rw [gd_mk _ hj, gd_mk _ hj]
    by_cases c2 : gap ≤ j ∧ j < gap + k
    · rw [if_pos c2, if_pos (by omega)]
    · rw [if_neg c2, if_neg (by omega)]

/-- THE INVARIANT of a grower -/
structure BM (p : Int) (g : Gr) : Prop where
  row : Rests p g.row
  rule : Rests p g.rule
  elder : Rests p g.elder
  lack : 0 < g.lack ∧ g.lack < p
  fol : ∀ i, g.rule.length ≤ i → i < g.row.length → p ∣ cv (ahead g.rule) g.row i
  non : g.place = none → g.rule = [] ∧ g.elder = [1]
  som : ∀ q, g.place = some q → g.elder.length + g.rule.length = q + 2 ∧ 1 ≤ g.rule.length ∧ g.rule.length ≤ q + 1 ∧ q < g.row.length ∧ p ∣ cv g.elder g.row q - g.lack ∧
    ∀ i, g.elder.length ≤ i + 1 → i < q → p ∣ cv g.elder g.row i
theorem BM.new {p : Int} (hp : 2 ≤ p) : BM p Gr.new where
  row := Rests.nil
  rule := Rests.nil
  elder := Rests.one (by omega) (by omega)
  lack := ⟨by show (0 : Int) < 1; omega, by show (1 : Int) < p; omega⟩
  fol := fun i _ h => by cases h
  non := fun _ => ⟨rfl, rfl⟩
  som := fun q h => by cases h
/-- the rule is no longer than the row; in fact than the place plus one -/
theorem BM.len {p : Int} {g : Gr} (b : BM p g) : g.rule.length ≤ g.row.length := by
  cases e : g.place with
  | none => rw [(b.non e).1]; exact Nat.zero_le _
  | some q =>
    obtain ⟨_, _, h3, h4, _⟩ := b.som q e
    omega
/-- what the mending loop stores in lies in the list -/
theorem BM.gap {p : Int} {g : Gr} (b : BM p g) : gapOf g.place g.row.length + g.elder.length ≤ sizeOf' g.rule.length g.row.length + 1 ∧ 1 ≤ gapOf g.place g.row.length := by
  cases e : g.place with
  | none =>
    obtain ⟨h1, h2⟩ := b.non e
    rw [h1, h2]
    unfold gapOf sizeOf'
    simp
  | some q =>
    obtain ⟨h1, h2, h3, h4, _⟩ := b.som q e
    have s : g.row.length + 1 - g.rule.length ≤ sizeOf' g.rule.length g.row.length := by unfold sizeOf'; split <;> omega
    show g.row.length - q + g.elder.length ≤ _ ∧ 1 ≤ g.row.length - q
    omega
theorem sizeOf'_ge (l n : Nat) : l ≤ sizeOf' l n := by unfold sizeOf'; split <;> omega
theorem sizeOf'_max {l n : Nat} (h : l ≤ n) : sizeOf' l n = max l (n + 1 - l) := by unfold sizeOf'; split <;> omega
/-- the mended list, weighed -/
theorem cv_mended {ah el row : List Int} {size gap i : Nat} {often : Int} (h1 : ah.length ≤ size + 1) (h2 : gap + el.length ≤ size + 1) :
    cv (mendK ah size gap often el el.length) row i = cv ah row i - often * cv el row (i - gap) := by
  have e1 : cv (mendK ah size gap often el el.length) row i = sm (size + 1) (fun j => gd ah j * gd row (i - j) - (if gap ≤ j ∧ j < gap + el.length then often * gd el (j - gap) else 0) * gd row (i - j)) := by
    unfold cv
    rw [mendK_len]
    refine sm_congr fun j hj => ?_
    unfold mendK
    rw [gd_mk _ hj, Int.sub_mul]
  rw [e1, sm_sub]
  congr 1
  · unfold cv
    exact sm_more h1 fun j hj _ => by rw [gd_ge hj, Int.zero_mul]
  · obtain ⟨d, hd⟩ : ∃ d, size + 1 = gap + (el.length + d) := ⟨size + 1 - gap - el.length, by omega⟩
    rw [hd, sm_split, sm_zero (n := gap) fun j hj => by rw [if_neg (by omega), Int.zero_mul], sm_split, sm_zero (n := d) fun j hj => by rw [if_neg (by omega), Int.zero_mul]]
    unfold cv
    rw [← sm_mul]
    have e2 : sm el.length (fun k => (if gap ≤ gap + k ∧ gap + k < gap + el.length then often * gd el (gap + k - gap) else 0) * gd row (i - (gap + k))) = sm el.length fun k => often * (gd el k * gd row (i - gap - k)) := sm_congr fun k hk => by
      rw [if_pos (by omega), Nat.add_sub_cancel_left, Nat.sub_sub, Int.mul_assoc]
    rw [e2]; omega
/-- a list whose places are the same rests -/
theorem cv_cong {p : Int} {a b row : List Int} {i : Nat} (hl : a.length = b.length) (h : ∀ k, k < a.length → p ∣ gd a k - gd b k) : p ∣ cv a row i - cv b row i := by
  unfold cv
  rw [← hl, ← sm_sub]
  exact sm_dvd fun k hk => by
    obtain ⟨c, e⟩ := h k hk
    exact ⟨c * gd row (i - k), by grind⟩
theorem mendRule_len (m : List Int) (p : Int) : ((m.drop 1).map fun w => -w % p).length = m.length - 1 := by rw [List.length_map, List.length_drop]
/-- the rule that is read off a list whose first place is 1 -/
theorem ahead_of {p : Int} {m : List Int} (h1 : gd m 0 = 1) (hl : 1 ≤ m.length) : (ahead ((m.drop 1).map fun w => -w % p)).length = m.length ∧ ∀ k, k < m.length → p ∣ gd (ahead ((m.drop 1).map fun w => -w % p)) k - gd m k := by
  have hlen : (ahead ((m.drop 1).map fun w => -w % p)).length = m.length := by rw [ahead_len, mendRule_len]; omega
  refine ⟨hlen, fun k hk => ?_⟩
  cases k with
  | zero =>
    rw [h1]
    show p ∣ (1 : Int) - 1
    exact ⟨0, by omega⟩
  | succ k =>
    show p ∣ gd (((m.drop 1).map fun w => -w % p).map fun w => -w) k - _
    rw [gd_map (by rw [mendRule_len]; omega), gd_map (by rw [List.length_drop]; omega), gd_drop, Nat.add_comm 1 k]
    obtain ⟨c, hc⟩ := dvd_emod p (-gd m (k + 1))
    exact ⟨-c, by grind⟩
/-- a number whose difference is d: what the weights ahead come to there -/
theorem cv_new {p x : Int} {g : Gr} (hl : g.rule.length ≤ g.row.length) : p ∣ cv (ahead g.rule) (g.row ++ [x]) g.row.length - g.dis p x := by
  rw [cv_ahead, gd_last, tellS_app hl (Nat.le_refl _)]
  unfold Gr.dis due
  obtain ⟨c, hc⟩ := dvd_emod' p (x - tellS g.rule g.row g.row.length % p)
  obtain ⟨d, hd⟩ := dvd_emod' p (tellS g.rule g.row g.row.length)
  exact ⟨c - d, by grind⟩
theorem mended_first {p : Int} {g : Gr} {d : Int} (b : BM p g) : gd (g.mended p g.row.length d) 0 = 1 := by
  unfold Gr.mended mendK
  rw [gd_mk _ (by omega), if_neg (by have := b.gap.2; omega)]
  show (1 : Int) - 0 = 1
  omega
theorem mended_len (p : Int) (g : Gr) (n : Nat) (d : Int) : (g.mended p n d).length = sizeOf' g.rule.length n + 1 := mendK_len _ _ _ _ _ _
theorem mend_len (p : Int) (g : Gr) (n : Nat) (d : Int) : (g.mend p n d).rule.length = sizeOf' g.rule.length n := by
  show ((((g.mended p n d).drop 1).map fun w => -w % p).length) = _
  rw [mendRule_len, mended_len]; omega
/-- the mended rule gives all numbers, the new one too -/
theorem mend_fol {p x : Int} {g : Gr} (hp : Pr p) (b : BM p g) (i : Nat) (h1 : sizeOf' g.rule.length g.row.length ≤ i) (h2 : i < g.row.length + 1) :
    p ∣ cv (ahead (((g.mended p g.row.length (g.dis p x)).drop 1).map fun w => -w % p)) (g.row ++ [x]) i := by
  have a := ahead_of (p := p) (mended_first (d := g.dis p x) b) (by rw [mended_len]; omega)
  have c1 := cv_cong (p := p) (row := g.row ++ [x]) (i := i) a.1 fun k hk => a.2 k (by rw [← a.1]; exact hk)
  have ll := b.len
  have sz := sizeOf'_ge g.rule.length g.row.length
  have c2 : cv (g.mended p g.row.length (g.dis p x)) (g.row ++ [x]) i = cv (ahead g.rule) (g.row ++ [x]) i - (g.dis p x * inv p g.lack) * cv g.elder (g.row ++ [x]) (i - gapOf g.place g.row.length) :=
    cv_mended (by rw [ahead_len]; omega) b.gap.1
  have c3 : p ∣ cv (g.mended p g.row.length (g.dis p x)) (g.row ++ [x]) i := by
    rw [c2]
    cases e : g.place with
    | none =>
      obtain ⟨h3, _⟩ := b.non e
      have : sizeOf' g.rule.length g.row.length = g.row.length + 1 := by rw [h3]; unfold sizeOf'; simp
      omega
    | some q =>
      obtain ⟨h3, h4, h5, h6, h7, h8⟩ := b.som q e
      have s : g.row.length + 1 - g.rule.length ≤ sizeOf' g.rule.length g.row.length := by unfold sizeOf'; split <;> omega
      show p ∣ _ - _ * cv g.elder (g.row ++ [x]) (i - (g.row.length - q))
      by_cases hi : i = g.row.length
      · subst hi
        have eq : g.row.length - (g.row.length - q) = q := by omega
        rw [eq, cv_app (a := g.elder) h6]
        obtain ⟨k1, e1⟩ := cv_new (p := p) (x := x) ll
        obtain ⟨k2, e2⟩ := h7
        obtain ⟨_, _, k3, e3⟩ := inv_is hp (not_dvd_rest b.lack.1 b.lack.2)
        refine ⟨k1 - g.dis p x * k3 - g.dis p x * inv p g.lack * k2, ?_⟩
        grind
      · have hi2 : i < g.row.length := by omega
        rw [cv_app (a := ahead g.rule) hi2, cv_app (a := g.elder) (by omega)]
        obtain ⟨k1, e1⟩ := b.fol i (by omega) hi2
        obtain ⟨k2, e2⟩ := h8 (i - (g.row.length - q)) (by omega) (by omega)
        exact ⟨k1 - g.dis p x * inv p g.lack * k2, by grind⟩
  obtain ⟨k1, e1⟩ := c1
  obtain ⟨k2, e2⟩ := c3
  exact ⟨k1 + k2, by grind⟩
theorem dis_rest {p : Int} (h0 : 0 < p) (g : Gr) (x : Int) : 0 ≤ g.dis p x ∧ g.dis p x < p := emod_rest h0 _
theorem BM.put {p x : Int} {g : Gr} (hp : Pr p) (b : BM p g) (h0 : 0 ≤ x) (h1 : x < p) : BM p (g.put p x) := by
  have hp0 : 0 < p := by have := hp.1; omega
  have ll := b.len
  have r1 : Rests p (g.row ++ [x]) := b.row.app (Rests.one h0 h1)
  have l1 : (g.row ++ [x]).length = g.row.length + 1 := by rw [List.length_append]; rfl
  unfold Gr.put
  by_cases hd : g.dis p x = 0
  · rw [if_pos hd]
    refine ⟨r1, b.rule, b.elder, b.lack, fun i h2 h3 => ?_, b.non, fun q e => ?_⟩
    · show p ∣ cv (ahead g.rule) (g.row ++ [x]) i
      have h3 : i < (g.row ++ [x]).length := h3
      rw [l1] at h3
      by_cases hi : i < g.row.length
      · rw [cv_app hi]; exact b.fol i h2 hi
      · have e : i = g.row.length := by omega
        subst e
        have z := cv_new (p := p) (x := x) ll
        rw [hd] at z
        simpa using z
    · obtain ⟨h3, h4, h5, h6, h7, h8⟩ := b.som q e
      refine ⟨h3, h4, h5, ?_, ?_, fun i h9 h10 => ?_⟩
      · show q < (g.row ++ [x]).length
        omega
      · show p ∣ cv g.elder (g.row ++ [x]) q - g.lack
        rw [cv_app h6]; exact h7
      · show p ∣ cv g.elder (g.row ++ [x]) i
        rw [cv_app (by omega)]; exact h8 i h9 h10
  · rw [if_neg hd]
    have dr := dis_rest hp0 g x
    have fo : ∀ i, sizeOf' g.rule.length g.row.length ≤ i → i < g.row.length + 1 → p ∣ cv (ahead (((g.mended p g.row.length (g.dis p x)).drop 1).map fun w => -w % p)) (g.row ++ [x]) i := fun i => mend_fol hp b i
    have ml : (((g.mended p g.row.length (g.dis p x)).drop 1).map fun w => -w % p).length = sizeOf' g.rule.length g.row.length := by rw [mendRule_len, mended_len]; omega
    have mr : Rests p (((g.mended p g.row.length (g.dis p x)).drop 1).map fun w => -w % p) := Rests.mapMod hp0 (fun w => -w) _
    unfold Gr.mend
    by_cases c : 2 * g.rule.length ≤ g.row.length
    · have es : sizeOf' g.rule.length g.row.length = g.row.length + 1 - g.rule.length := by unfold sizeOf'; rw [if_pos c]
      refine ⟨r1, mr, ?_, ?_, fun i h2 h3 => ?_, fun e => ?_, fun q e => ?_⟩
      · show Rests p (if 2 * g.rule.length ≤ g.row.length then _ else _)
        rw [if_pos c]
        exact Rests.mapMod hp0 (fun w => w) _
      · show 0 < (if 2 * g.rule.length ≤ g.row.length then g.dis p x else _) ∧ (if 2 * g.rule.length ≤ g.row.length then g.dis p x else _) < p
        rw [if_pos c]
        omega
      · exact fo i (by rw [← ml]; exact h2) (by have h3 : i < (g.row ++ [x]).length := h3; omega)
      · have e : (if 2 * g.rule.length ≤ g.row.length then some g.row.length else g.place) = none := e
        rw [if_pos c] at e; cases e
      · have e : (if 2 * g.rule.length ≤ g.row.length then some g.row.length else g.place) = some q := e
        rw [if_pos c] at e
        have e : g.row.length = q := Option.some.inj e
        subst e
        show (if 2 * g.rule.length ≤ g.row.length then (ahead g.rule).map (fun w => w % p) else g.elder).length + (((g.mended p g.row.length (g.dis p x)).drop 1).map fun w => -w % p).length = _ ∧ 1 ≤ (((g.mended p g.row.length (g.dis p x)).drop 1).map fun w => -w % p).length ∧ (((g.mended p g.row.length (g.dis p x)).drop 1).map fun w => -w % p).length ≤ _ ∧ g.row.length < (g.row ++ [x]).length ∧
          p ∣ cv (if 2 * g.rule.length ≤ g.row.length then (ahead g.rule).map (fun w => w % p) else g.elder) (g.row ++ [x]) g.row.length - (if 2 * g.rule.length ≤ g.row.length then g.dis p x else g.lack) ∧
          ∀ i, (if 2 * g.rule.length ≤ g.row.length then (ahead g.rule).map (fun w => w % p) else g.elder).length ≤ i + 1 → i < g.row.length → p ∣ cv (if 2 * g.rule.length ≤ g.row.length then (ahead g.rule).map (fun w => w % p) else g.elder) (g.row ++ [x]) i
        rw [if_pos c, if_pos c, ml, es, List.length_map, ahead_len]
        have cc : ∀ i, p ∣ cv ((ahead g.rule).map fun w => w % p) (g.row ++ [x]) i - cv (ahead g.rule) (g.row ++ [x]) i := fun i => cv_cong (by rw [List.length_map]) fun k hk => by
          rw [List.length_map] at hk
          rw [gd_map hk]; exact dvd_emod _ _
        refine ⟨by omega, by omega, by omega, by omega, ?_, fun i h2 h3 => ?_⟩
        · obtain ⟨k1, e1⟩ := cc g.row.length
          obtain ⟨k2, e2⟩ := cv_new (p := p) (x := x) ll
          exact ⟨k1 + k2, by grind⟩
        · obtain ⟨k1, e1⟩ := cc i
          obtain ⟨k2, e2⟩ := b.fol i (by omega) h3
          rw [cv_app (a := ahead g.rule) h3] at e1
          exact ⟨k1 + k2, by grind⟩
    · have es : sizeOf' g.rule.length g.row.length = g.rule.length := by unfold sizeOf'; rw [if_neg c]
      refine ⟨r1, mr, ?_, ?_, fun i h2 h3 => ?_, fun e => ?_, fun q e => ?_⟩
      · show Rests p (if 2 * g.rule.length ≤ g.row.length then _ else _)
        rw [if_neg c]
        exact b.elder
      · show 0 < (if 2 * g.rule.length ≤ g.row.length then g.dis p x else g.lack) ∧ (if 2 * g.rule.length ≤ g.row.length then g.dis p x else g.lack) < p
        rw [if_neg c]
        exact b.lack
      · exact fo i (by rw [← ml]; exact h2) (by have h3 : i < (g.row ++ [x]).length := h3; omega)
      · have e : (if 2 * g.rule.length ≤ g.row.length then some g.row.length else g.place) = none := e
        rw [if_neg c] at e
        have := (b.non e).1
        rw [this] at c
        simp at c
      · have e : (if 2 * g.rule.length ≤ g.row.length then some g.row.length else g.place) = some q := e
        rw [if_neg c] at e
        obtain ⟨h3, h4, h5, h6, h7, h8⟩ := b.som q e
        show (if 2 * g.rule.length ≤ g.row.length then (ahead g.rule).map (fun w => w % p) else g.elder).length + (((g.mended p g.row.length (g.dis p x)).drop 1).map fun w => -w % p).length = _ ∧ 1 ≤ (((g.mended p g.row.length (g.dis p x)).drop 1).map fun w => -w % p).length ∧ (((g.mended p g.row.length (g.dis p x)).drop 1).map fun w => -w % p).length ≤ _ ∧ q < (g.row ++ [x]).length ∧
          p ∣ cv (if 2 * g.rule.length ≤ g.row.length then (ahead g.rule).map (fun w => w % p) else g.elder) (g.row ++ [x]) q - (if 2 * g.rule.length ≤ g.row.length then g.dis p x else g.lack) ∧
          ∀ i, (if 2 * g.rule.length ≤ g.row.length then (ahead g.rule).map (fun w => w % p) else g.elder).length ≤ i + 1 → i < q → p ∣ cv (if 2 * g.rule.length ≤ g.row.length then (ahead g.rule).map (fun w => w % p) else g.elder) (g.row ++ [x]) i
        rw [if_neg c, if_neg c, ml, es]
        refine ⟨h3, h4, h5, by omega, by rw [cv_app h6]; exact h7, fun i h9 h10 => ?_⟩
        rw [cv_app (by omega)]; exact h8 i h9 h10
end SR
/-! No rule is shorter; where there is room there is one; a row that a rule carries on is learned. Plain Lean. -/
namespace SR

/-- a showing against all shorter rules -/
structure Shows (p : Int) (row : List Int) (l : Nat) (q : Nat) (w : List Int) : Prop where
  len : w.length + l = q + 2
  pos : 1 ≤ l
  le : l ≤ q + 1
  lt : q < row.length
  not : ¬ p ∣ cv w row q
  zero : ∀ s, 1 ≤ s → s < l → p ∣ cv w row (q - s)
theorem BM.shows {p : Int} {g : Gr} {q : Nat} (b : BM p g) (e : g.place = some q) : Shows p g.row g.rule.length q g.elder := by
  obtain ⟨h3, h4, h5, h6, h7, h8⟩ := b.som q e
  refine ⟨h3, h4, h5, h6, fun h => ?_, fun s h1 h2 => h8 _ (by omega) (by omega)⟩
  have z := Int.dvd_sub h h7
  have e2 : cv g.elder g.row q - (cv g.elder g.row q - g.lack) = g.lack := by omega
  rw [e2] at z
  exact not_dvd_rest b.lack.1 b.lack.2 z
/-- .. so no shorter rule is followed -/
theorem Shows.no_shorter {p : Int} {row w : List Int} {l q : Nat} (h0 : 0 < p) (hr : Rests p row) (s : Shows p row l q w) {rule : List Int} (hl : rule.length < l) : ¬ Fol p rule row := by
  intro f
  rw [fol_iff h0 hr] at f
  have len := s.len
  have le := s.le
  have lt := s.lt
  -- the sum at q, each number told by the rule
  have e1 : p ∣ cv w row q - sm w.length (fun k => gd w k * tellS rule row (q - k)) := by
    unfold cv
    rw [← sm_sub]
    refine sm_dvd fun k hk => ?_
    have z := f (q - k) (by omega) (by omega)
    rw [cv_ahead] at z
    obtain ⟨c, hc⟩ := z
    exact ⟨gd w k * c, by grind⟩
  have e2 : sm w.length (fun k => gd w k * tellS rule row (q - k)) = sm rule.length (fun j => gd rule j * cv w row (q - (j + 1))) := by
    have a : sm w.length (fun k => gd w k * tellS rule row (q - k)) = sm w.length (fun k => sm rule.length fun j => gd w k * (gd rule j * gd row (q - k - 1 - j))) := sm_congr fun k _ => by
      unfold tellS
      rw [sm_mul]
    rw [a, sm_swap]
    refine sm_congr fun j hj => ?_
    unfold cv
    rw [← sm_mul]
    refine sm_congr fun k hk => ?_
    have e : q - k - 1 - j = q - (j + 1) - k := by omega
    rw [e]
    grind
  have e3 : p ∣ sm rule.length (fun j => gd rule j * cv w row (q - (j + 1))) := sm_dvd fun j hj => Int.dvd_trans (s.zero (j + 1) (by omega) (by omega)) ⟨gd rule j, Int.mul_comm _ _⟩
  rw [e2] at e1
  obtain ⟨a, ha⟩ := e1
  obtain ⟨b, hb⟩ := e3
  exact s.not ⟨a + b, by grind⟩
theorem BM.no_shorter {p : Int} {g : Gr} (h0 : 0 < p) (b : BM p g) {rule : List Int} (hl : rule.length < g.rule.length) : ¬ Fol p rule g.row := by
  cases e : g.place with
  | none =>
    rw [(b.non e).1] at hl
    cases hl
  | some q => exact (b.shows e).no_shorter h0 b.row hl
theorem BM.follows {p : Int} {g : Gr} (h0 : 0 < p) (b : BM p g) : Fol p g.rule g.row := (fol_iff h0 b.row).mpr b.fol

/-! ### rows without end -/
/-- f follows the rule from the place n on -/
def FolF (p : Int) (rule : List Int) (f : Nat → Int) (n : Nat) : Prop := ∀ i, p ∣ f (n + rule.length + i) - sm rule.length (fun k => gd rule k * f (n + rule.length + i - 1 - k))
/-- a row that follows a rule and begins with as many noughts is nought -/
theorem FolF.zero {p : Int} {rule : List Int} {f : Nat → Int} {n : Nat} (h : FolF p rule f n) (h0 : ∀ k, k < rule.length → p ∣ f (n + k)) (i : Nat) : p ∣ f (n + i) := by
  induction i using Nat.strongRecOn with
  | ind i ih =>
    by_cases c : i < rule.length
    · exact h0 i c
    · have z := h (i - rule.length)
      have e : n + rule.length + (i - rule.length) = n + i := by omega
      rw [e] at z
      have y : p ∣ sm rule.length (fun k => gd rule k * f (n + i - 1 - k)) := sm_dvd fun k hk => by
        have q := ih (i - 1 - k) (by omega)
        have e2 : n + (i - 1 - k) = n + i - 1 - k := by omega
        rw [e2] at q
        exact Int.dvd_trans q ⟨_, Int.mul_comm _ _⟩
      have := Int.dvd_add z y
      have e3 : f (n + i) - sm rule.length (fun k => gd rule k * f (n + i - 1 - k)) + sm rule.length (fun k => gd rule k * f (n + i - 1 - k)) = f (n + i) := by omega
      rw [e3] at this
      exact this
/-- weights a on the places of a row without end, from i on upward -/
def wv (n : Nat) (a f : Nat → Int) (i : Nat) : Int := sm n fun k => a k * f (i + k)
/-- what follows a rule follows it weighed, too -/
theorem FolF.weigh {p : Int} {rule : List Int} {f : Nat → Int} {n : Nat} (h : FolF p rule f n) (m : Nat) (a : Nat → Int) : FolF p rule (wv m a f) n := by
  intro i
  by_cases hL : rule.length = 0
  · have e : sm rule.length (fun k => gd rule k * wv m a f (n + rule.length + i - 1 - k)) = 0 := by rw [hL]; rfl
    rw [e]
    have z : p ∣ wv m a f (n + rule.length + i) := sm_dvd fun k _ => by
      have q := h (i + k)
      have e2 : sm rule.length (fun j => gd rule j * f (n + rule.length + (i + k) - 1 - j)) = 0 := by rw [hL]; rfl
      rw [e2, Int.sub_zero] at q
      have e3 : n + rule.length + (i + k) = n + rule.length + i + k := by omega
      rw [e3] at q
      exact Int.dvd_trans q ⟨a k, Int.mul_comm _ _⟩
    rw [Int.sub_zero]
    exact z
  have e : sm rule.length (fun j => gd rule j * wv m a f (n + rule.length + i - 1 - j)) = sm m (fun k => a k * sm rule.length fun j => gd rule j * f (n + rule.length + i + k - 1 - j)) := by
    have e1 : sm rule.length (fun j => gd rule j * wv m a f (n + rule.length + i - 1 - j)) = sm rule.length (fun j => sm m fun k => gd rule j * (a k * f (n + rule.length + i - 1 - j + k))) := sm_congr fun j _ => by
      unfold wv
      rw [sm_mul]
    rw [e1, sm_swap]
    refine sm_congr fun k _ => ?_
    rw [← sm_mul]
    refine sm_congr fun j hj => ?_
    have e2 : n + rule.length + i - 1 - j + k = n + rule.length + i + k - 1 - j := by omega
    rw [e2]
    grind
  rw [e]
  unfold wv
  rw [← sm_sub]
  refine sm_dvd fun k _ => ?_
  have q := h (i + k)
  have e3 : n + rule.length + (i + k) = n + rule.length + i + k := by omega
  rw [e3] at q
  obtain ⟨c, hc⟩ := q
  exact ⟨a k * c, by grind⟩

theorem ext_gd_eq {l m : List Int} (hl : l.length = m.length) (h : ∀ k, k < l.length → gd l k = gd m k) : l = m := SR.ext_gd' hl h
theorem sm_rev (f : Nat → Int) : ∀ n, sm n f = sm n (fun k => f (n - 1 - k))
  | 0 => rfl
  | n + 1 => by
    rw [sm_head (fun k => f (n + 1 - 1 - k)) n]
    show sm n f + f n = _
    rw [sm_rev f n]
    have e : sm n (fun k => f (n + 1 - 1 - (k + 1))) = sm n (fun k => f (n - 1 - k)) := sm_congr fun k _ => by
      have : n + 1 - 1 - (k + 1) = n - 1 - k := by omega
      rw [this]
    rw [e]
    have e2 : n + 1 - 1 - 0 = n := by omega
    rw [e2]; omega
theorem weigh_eq (t : List Int) (f : Nat → Int) (k : Nat) : wv (t.length + 1) (fun k => if k = t.length then 1 else - gd t (t.length - 1 - k)) f (0 + k) = f (t.length + k) - sm t.length (fun j => gd t j * f (t.length + k - 1 - j)) := by
  unfold wv
  show sm t.length (fun j => (if j = t.length then 1 else - gd t (t.length - 1 - j)) * f (0 + k + j)) + (if t.length = t.length then 1 else - gd t (t.length - 1 - t.length)) * f (0 + k + t.length) = _
  rw [if_pos rfl]
  have e : sm t.length (fun j => (if j = t.length then 1 else - gd t (t.length - 1 - j)) * f (0 + k + j)) = - sm t.length (fun j => gd t j * f (t.length + k - 1 - j)) := by
    rw [sm_rev, ← sm_neg]
    refine sm_congr fun j hj => ?_
    rw [if_neg (by omega)]
    have e1 : t.length - 1 - (t.length - 1 - j) = j := by omega
    have e2 : 0 + k + (t.length - 1 - j) = t.length + k - 1 - j := by omega
    rw [e1, e2, Int.neg_mul]
  rw [e]
  have e3 : 0 + k + t.length = t.length + k := by omega
  rw [e3]; omega

/-! ### a row that is carried on -/
/-- k more numbers -/
def ext (p : Int) (rule row : List Int) : Nat → List Int
  | 0 => row
  | k + 1 => ext p rule row k ++ [due p rule (ext p rule row k) (ext p rule row k).length]
theorem ext_len (p : Int) (rule row : List Int) : ∀ k, (ext p rule row k).length = row.length + k
  | 0 => rfl
  | k + 1 => by
    show (ext p rule row k ++ [_]).length = _
    rw [List.length_append, ext_len p rule row k]; rfl
theorem ext_rests {p : Int} (h0 : 0 < p) {rule row : List Int} (h : Rests p row) : ∀ k, Rests p (ext p rule row k)
  | 0 => h
  | k + 1 => (ext_rests h0 h k).app (Rests.one (due_rest h0 _ _ _).1 (due_rest h0 _ _ _).2)
theorem ext_gd {p : Int} {rule row : List Int} {i : Nat} : ∀ {k m : Nat}, k ≤ m → i < row.length + k → gd (ext p rule row m) i = gd (ext p rule row k) i := by
  intro k m hkm hi
  obtain ⟨d, rfl⟩ : ∃ d, m = k + d := ⟨m - k, by omega⟩
  clear hkm
  induction d with
  | zero => rfl
  | succ d ih =>
    show gd (ext p rule row (k + d) ++ [_]) i = _
    rw [gd_left (by rw [ext_len]; omega), ih]
/-- the i-th number, however far -/
def at_ (p : Int) (rule row : List Int) (i : Nat) : Int := gd (ext p rule row (i + 1)) i
theorem at_gd {p : Int} {rule row : List Int} {i k : Nat} (h : i < row.length + k) : gd (ext p rule row k) i = at_ p rule row i := by
  unfold at_
  by_cases c : k ≤ i + 1
  · rw [ext_gd c h]
  · rw [ext_gd (k := i + 1) (m := k) (by omega) (by omega)]
theorem at_start {p : Int} {rule row : List Int} {i : Nat} (h : i < row.length) : at_ p rule row i = gd row i := by
  rw [← at_gd (k := 0) (by omega)]; rfl
theorem at_rest {p : Int} (h0 : 0 < p) {rule row : List Int} (h : Rests p row) (i : Nat) : 0 ≤ at_ p rule row i ∧ at_ p rule row i < p := (ext_rests h0 h _).gd h0 _
theorem due_at {p : Int} {rule row : List Int} {i k : Nat} (h1 : rule.length ≤ i) (h : i ≤ row.length + k) : due p rule (ext p rule row k) i = sm rule.length (fun j => gd rule j * at_ p rule row (i - 1 - j)) % p := by
  unfold due tellS
  congr 1
  exact sm_congr fun j hj => by rw [at_gd (by omega)]
theorem at_next {p : Int} {rule row : List Int} {i : Nat} (h : row.length ≤ i) (hl : rule.length ≤ i) : at_ p rule row i = sm rule.length (fun j => gd rule j * at_ p rule row (i - 1 - j)) % p := by
  obtain ⟨d, rfl⟩ : ∃ d, i = row.length + d := ⟨i - row.length, by omega⟩
  rw [← at_gd (k := d + 1) (by omega)]
  show gd (ext p rule row d ++ [due p rule (ext p rule row d) (ext p rule row d).length]) (row.length + d) = _
  have e : row.length + d = (ext p rule row d).length := by rw [ext_len]
  rw [e, gd_last, due_at (by omega) (by rw [ext_len]; omega)]
/-- as a row without end -/
theorem at_folF {p : Int} {rule row : List Int} (hl : row.length ≤ rule.length) : FolF p rule (at_ p rule row) 0 := by
  intro i
  rw [at_next (i := 0 + rule.length + i) (by omega) (by omega)]
  exact dvd_emod _ _
/-- a row that follows the rule is its own beginning carried on -/
theorem at_own {p : Int} {rule row : List Int} (hl : rule.length ≤ row.length) (f : Fol p rule row) : FolF p rule (at_ p rule row) 0 := by
  intro i
  by_cases c : 0 + rule.length + i < row.length
  · have z := f (0 + rule.length + i) (by omega) c
    rw [at_start c, ← z]
    unfold due tellS
    have e : sm rule.length (fun k => gd rule k * gd row (0 + rule.length + i - 1 - k)) = sm rule.length (fun k => gd rule k * at_ p rule row (0 + rule.length + i - 1 - k)) := sm_congr fun k hk => by rw [at_start (by omega)]
    rw [e]
    exact dvd_emod _ _
  · rw [at_next (i := 0 + rule.length + i) (by omega) (by omega)]
    exact dvd_emod _ _
theorem ext_fol {p : Int} {rule row : List Int} (hl : row.length ≤ rule.length) (k : Nat) : Fol p rule (ext p rule row k) := by
  intro i h1 h2
  rw [ext_len] at h2
  rw [due_at h1 (by omega), at_gd h2, at_next (by omega) h1]

/-! ### there is only one -/
/-- two rules of one length that a row of twice as many numbers follows, and none shorter: they are alike -/
theorem only_one {p : Int} (hp : Pr p) {a b row : List Int} (ha : Rests p a) (hb : Rests p b) (hr : Rests p row) (hl : a.length = b.length) (h2 : 2 * a.length ≤ row.length) (fa : Fol p a row) (fb : Fol p b row)
    (ns : ∀ c : List Int, c.length < a.length → Rests p c → ¬ Fol p c row) : a = b := by
  have h0 : 0 < p := by have := hp.1; omega
  refine Classical.byContradiction fun hne => ?_
  -- the row without end, by a
  have F : FolF p a (at_ p a row) 0 := at_own (by omega) fa
  -- the difference, weighed upward: place k of it is for the number L - 1 - k ahead
  have hex : ∃ k, k < a.length ∧ gd a k ≠ gd b k := Classical.byContradiction fun h => hne (ext_gd_eq hl fun k hk => Classical.byContradiction fun h2 => h ⟨k, hk, h2⟩)
  -- the first place of difference
  have hmin : ∃ j, j < a.length ∧ gd a j ≠ gd b j ∧ ∀ k, k < j → gd a k = gd b k := by
    obtain ⟨k, hk⟩ := hex
    induction k using Nat.strongRecOn with
    | ind k ih =>
      by_cases c : ∃ m, m < k ∧ gd a m ≠ gd b m
      · obtain ⟨m, hm, hd⟩ := c
        exact ih m hm ⟨by omega, hd⟩
      · exact ⟨k, hk.1, hk.2, fun m hm => Classical.byContradiction fun h => c ⟨m, hm, h⟩⟩
  obtain ⟨j, hj, hd, hlow⟩ := hmin
  -- u i: the difference weighed at the window that begins at i
  have W : ∀ i, p ∣ wv a.length (fun k => gd a (a.length - 1 - k) - gd b (a.length - 1 - k)) (at_ p a row) (0 + i) := by
    refine (F.weigh a.length _).zero fun i hi => ?_
    have z1 := fa (a.length + i) (by omega) (by omega)
    have z2 := fb (a.length + i) (by omega) (by omega)
    have z3 : tellS a row (a.length + i) % p = tellS b row (a.length + i) % p := z1.trans z2.symm
    have z4 := dvd_of_emod_eq z3
    have e : wv a.length (fun k => gd a (a.length - 1 - k) - gd b (a.length - 1 - k)) (at_ p a row) (0 + i) = tellS a row (a.length + i) - tellS b row (a.length + i) := by
      unfold tellS wv
      rw [← hl, ← sm_sub, sm_rev]
      refine sm_congr fun k hk => ?_
      show (gd a (a.length - 1 - (a.length - 1 - k)) - gd b (a.length - 1 - (a.length - 1 - k))) * at_ p a row (0 + i + (a.length - 1 - k)) = _
      have e1 : a.length - 1 - (a.length - 1 - k) = k := by omega
      have e2 : 0 + i + (a.length - 1 - k) = a.length + i - 1 - k := by omega
      rw [e1, e2, at_start (by omega)]
      grind
    rw [e]
    exact z4
  -- so a shorter rule is followed
  have nz : ¬ p ∣ gd a j - gd b j := fun h => hd (rest_eq (ha.gd h0 j) (hb.gd h0 j) h)
  obtain ⟨x, _, _, hx⟩ := inv_ex hp nz
  obtain ⟨L, hL⟩ : ∃ L, L = a.length - 1 - j := ⟨_, rfl⟩
  refine ns (mk L fun k => (-(x * (gd a (j + 1 + k) - gd b (j + 1 + k)))) % p) (by rw [mk_len]; omega) (Rests.mk fun k _ => emod_rest h0 _) ?_
  rw [fol_iff h0 hr]
  intro i h1 h3
  rw [mk_len] at h1
  rw [cv_ahead]
  have w := W (i - L)
  -- the window begins at i - L: its place L is i
  have e : wv a.length (fun k => gd a (a.length - 1 - k) - gd b (a.length - 1 - k)) (at_ p a row) (0 + (i - L)) = (gd a j - gd b j) * gd row i + sm L (fun k => (gd a (j + 1 + k) - gd b (j + 1 + k)) * gd row (i - 1 - k)) := by
    unfold wv
    obtain ⟨m, hm⟩ : ∃ m, a.length = L + 1 + m := ⟨j, by omega⟩
    rw [hm, sm_split, sm_zero (n := m) fun k hk => by
      have : L + 1 + m - 1 - (L + 1 + k) < j := by omega
      show (gd a (L + 1 + m - 1 - (L + 1 + k)) - gd b (L + 1 + m - 1 - (L + 1 + k))) * at_ p a row (0 + (i - L) + (L + 1 + k)) = 0
      rw [hlow _ this, Int.sub_self, Int.zero_mul]]
    show sm L (fun k => (gd a (L + 1 + m - 1 - k) - gd b (L + 1 + m - 1 - k)) * at_ p a row (0 + (i - L) + k)) + (gd a (L + 1 + m - 1 - L) - gd b (L + 1 + m - 1 - L)) * at_ p a row (0 + (i - L) + L) + 0 = _
    have e1 : L + 1 + m - 1 - L = j := by omega
    have e2 : 0 + (i - L) + L = i := by omega
    rw [e1, e2, at_start h3]
    have e3 : sm L (fun k => (gd a (L + 1 + m - 1 - k) - gd b (L + 1 + m - 1 - k)) * at_ p a row (0 + (i - L) + k)) = sm L (fun k => (gd a (j + 1 + k) - gd b (j + 1 + k)) * gd row (i - 1 - k)) := by
      rw [sm_rev]
      refine sm_congr fun k hk => ?_
      have e4 : L + 1 + m - 1 - (L - 1 - k) = j + 1 + k := by omega
      have e5 : 0 + (i - L) + (L - 1 - k) = i - 1 - k := by omega
      rw [e4, e5, at_start (by omega)]
    rw [e3]; omega
  rw [e] at w
  have e6 : p ∣ tellS (mk L fun k => (-(x * (gd a (j + 1 + k) - gd b (j + 1 + k)))) % p) row i - -(x * sm L (fun k => (gd a (j + 1 + k) - gd b (j + 1 + k)) * gd row (i - 1 - k))) := by
    unfold tellS
    rw [mk_len, ← sm_mul, ← sm_neg, ← sm_sub]
    refine sm_dvd fun k hk => ?_
    rw [gd_mk _ hk]
    obtain ⟨c, hc⟩ := dvd_emod p (-(x * (gd a (j + 1 + k) - gd b (j + 1 + k))))
    exact ⟨c * gd row (i - 1 - k), by grind⟩
  obtain ⟨c1, h1'⟩ := w
  obtain ⟨c2, h2'⟩ := e6
  obtain ⟨c3, h3'⟩ := hx
  exact ⟨x * c1 - c2 - c3 * gd row i, by grind⟩

/-! ### learned -/
/-- a rule that the first 2 m numbers follow, no longer than m, gives all numbers of a row that a rule of m weights carries on -/
theorem learned {p : Int} {rule row t : List Int} (hr : row.length = rule.length) (ht : t.length ≤ rule.length) {n : Nat} (hn : rule.length ≤ n) (f : Fol p t (ext p rule row n)) (i : Nat) (hi : t.length ≤ i) :
    p ∣ at_ p rule row i - sm t.length (fun k => gd t k * at_ p rule row (i - 1 - k)) := by
  have F : FolF p rule (at_ p rule row) 0 := at_folF (by omega)
  -- weighed upward: place t.length for the number itself
  have Z := (F.weigh (t.length + 1) (fun k => if k = t.length then 1 else - gd t (t.length - 1 - k))).zero fun k hk => by
    have z := f (t.length + k) (by omega) (by rw [ext_len]; omega)
    have z0 : due p t (ext p rule row n) (t.length + k) = sm t.length (fun j => gd t j * at_ p rule row (t.length + k - 1 - j)) % p := by
      unfold due tellS
      congr 1
      exact sm_congr fun j hj => by rw [at_gd (by omega)]
    rw [z0, at_gd (by omega)] at z
    have y := dvd_emod' p (sm t.length (fun j => gd t j * at_ p rule row (t.length + k - 1 - j)))
    rw [z] at y
    have e : wv (t.length + 1) (fun k => if k = t.length then 1 else - gd t (t.length - 1 - k)) (at_ p rule row) (0 + k) = at_ p rule row (t.length + k) - sm t.length (fun j => gd t j * at_ p rule row (t.length + k - 1 - j)) := weigh_eq t _ k
    rw [e]
    obtain ⟨c, hc⟩ := y
    exact ⟨-c, by grind⟩
  have z := Z (i - t.length)
  have e := weigh_eq t (at_ p rule row) (i - t.length)
  rw [e] at z
  have e2 : t.length + (i - t.length) = i := by omega
  rw [e2] at z
  exact z
end SR
/-! The primes of the laws: trial, and Lucas' test for the great ones. Plain Lean. -/
namespace SR

def PrN (p : Nat) : Prop := 2 ≤ p ∧ ∀ d : Nat, d ∣ p → d = 1 ∨ d = p
theorem PrN.pr {p : Nat} (h : PrN p) : Pr (p : Int) := by
  refine ⟨by have := h.1; omega, fun d h0 hd => ?_⟩
  obtain ⟨n, rfl⟩ : ∃ n : Nat, d = (n : Int) := ⟨d.toNat, by omega⟩
  rcases h.2 n (Int.ofNat_dvd.mp hd) with e | e
  · exact .inl (by omega)
  · exact .inr (by omega)
/-- no divisor whose square is at most the number -/
theorem prN_of {n : Nat} (h2 : 2 ≤ n) (h : ∀ k, 2 ≤ k → k * k ≤ n → ¬ k ∣ n) : PrN n := by
  refine ⟨h2, fun d hd => ?_⟩
  obtain ⟨e, he⟩ := hd
  by_cases c1 : d = 1
  · exact .inl c1
  by_cases c2 : e = 1
  · subst c2; exact .inr (by omega)
  exfalso
  have hd0 : d ≠ 0 := fun z => by subst z; omega
  have he0 : e ≠ 0 := fun z => by subst z; omega
  rcases Nat.le_total d e with c | c
  · exact h d (by omega) (by rw [he]; exact Nat.mul_le_mul_left d c) ⟨e, he⟩
  · exact h e (by omega) (by rw [he]; exact Nat.mul_le_mul_right e c) ⟨d, by rw [Nat.mul_comm]; exact he⟩
/-- trial of lo, .. lo + 2 ^ k - 1 -/
def trial (n : Nat) : Nat → Nat → Bool
  | 0, lo => decide (n < lo * lo) || n % lo != 0
  | k + 1, lo => trial n k lo && trial n k (lo + 2 ^ k)
theorem trial_ok {n : Nat} : ∀ {k lo : Nat}, trial n k lo = true → ∀ m, lo ≤ m → m < lo + 2 ^ k → m * m ≤ n → ¬ m ∣ n
  | 0, lo, h, m, h1, h2, h3 => by
    have e : m = lo := by simp at h2; omega
    subst e
    unfold trial at h
    rw [Bool.or_eq_true] at h
    rcases h with h | h
    · have := of_decide_eq_true h; omega
    · intro hd
      have := Nat.mod_eq_zero_of_dvd hd
      rw [this] at h
      exact absurd h (by decide)
  | k + 1, lo, h, m, h1, h2, h3 => by
    unfold trial at h
    rw [Bool.and_eq_true] at h
    have e : 2 ^ (k + 1) = 2 ^ k + 2 ^ k := by rw [Nat.pow_succ]; omega
    by_cases c : m < lo + 2 ^ k
    · exact trial_ok h.1 m h1 c h3
    · exact trial_ok h.2 m (by omega) (by omega) h3
theorem prN_trial {n : Nat} (k : Nat) (h2 : 2 ≤ n) (hs : n < (2 + 2 ^ k) * (2 + 2 ^ k)) (h : trial n k 2 = true) : PrN n :=
  prN_of h2 fun m h3 h4 => by
    refine trial_ok h m h3 ?_ h4
    refine Classical.byContradiction fun c => ?_
    have : (2 + 2 ^ k) * (2 + 2 ^ k) ≤ m * m := Nat.mul_le_mul (by omega) (by omega)
    omega

/-! ### powers -/
def powm (m : Nat) : Nat → Nat → Nat → Nat
  | 0, _, _ => 1 % m
  | f + 1, a, e => if e = 0 then 1 % m else if e % 2 = 1 then a * powm m f (a * a % m) (e / 2) % m else powm m f (a * a % m) (e / 2)
theorem powm_eq (m : Nat) : ∀ (f a e : Nat), e < 2 ^ f → powm m f a e = a ^ e % m
  | 0, a, e, h => by
    have e0 : e = 0 := by simp at h; omega
    subst e0; rfl
  | f + 1, a, e, h => by
    have hh : e / 2 < 2 ^ f := by rw [Nat.pow_succ] at h; omega
    have ih := powm_eq m f (a * a % m) (e / 2) hh
    have sq : (a * a % m) ^ (e / 2) % m = a ^ (2 * (e / 2)) % m := by
      rw [Nat.pow_mod, Nat.mod_mod, ← Nat.pow_mod, Nat.pow_mul, Nat.pow_two]
    unfold powm
    by_cases c : e = 0
    · rw [if_pos c, c]; rfl
    · rw [if_neg c, ih, sq]
      by_cases d : e % 2 = 1
      · rw [if_pos d]
        have e2 : e = 2 * (e / 2) + 1 := by omega
        have e3 : a ^ e = a * a ^ (2 * (e / 2)) := by
          rw [Nat.mul_comm, ← Nat.pow_succ]; exact congrArg (a ^ ·) e2
        rw [e3, Nat.mul_mod, Nat.mod_mod, ← Nat.mul_mod]
      · rw [if_neg d]
        have e2 : 2 * (e / 2) = e := by omega
        rw [e2]
/-- one to a common divisor of the exponents -/
theorem pow_gcd {a d : Nat} : ∀ m n : Nat, a ^ m % d = 1 % d → a ^ n % d = 1 % d → a ^ Nat.gcd m n % d = 1 % d := by
  intro m n
  induction m, n using Nat.gcd.induction with
  | H0 n => intro _ h; rw [Nat.gcd_zero_left]; exact h
  | H1 m n hm ih =>
    intro h1 h2
    rw [Nat.gcd_rec]
    refine ih ?_ h1
    have e : n = m * (n / m) + n % m := (Nat.div_add_mod n m).symm
    have e2 : a ^ n % d = a ^ (n % m) % d := by
      have e3 : a ^ n = (a ^ m) ^ (n / m) * a ^ (n % m) := by rw [← Nat.pow_mul, ← Nat.pow_add]; exact congrArg (a ^ ·) e
      rw [e3, Nat.mul_mod, Nat.pow_mod, h1, ← Nat.pow_mod, Nat.one_pow, ← Nat.mul_mod, Nat.one_mul]
    rw [← e2]; exact h2
theorem hole : ∀ (r m : Nat) (f : Nat → Nat), (∀ i, i < m → f i < r) → (∀ i j, i < j → j < m → f i ≠ f j) → m ≤ r
  | 0, m, f, h, _ => by
    cases m with
    | zero => exact Nat.le_refl _
    | succ m => exact absurd (h 0 (by omega)) (by omega)
  | r + 1, m, f, h, hi => by
    cases m with
    | zero => omega
    | succ m =>
      by_cases c : ∃ i0, i0 < m + 1 ∧ f i0 = r
      · obtain ⟨i0, h0, e0⟩ := c
        have inj : ∀ i j, i < m + 1 → j < m + 1 → f i = f j → i = j := fun i j a b e => by
          rcases Nat.lt_trichotomy i j with z | z | z
          · exact absurd e (hi i j z b)
          · exact z
          · exact absurd e.symm (hi j i z a)
        have := hole r m (fun i => if i = i0 then f m else f i) (fun i hm => ?_) (fun i j hij hj => ?_)
        · omega
        · show (if i = i0 then f m else f i) < r
          split
          · have a := h m (by omega)
            have b : f m ≠ r := fun e => by
              have := inj m i0 (by omega) h0 (e.trans e0.symm); omega
            omega
          · have a := h i (by omega)
            have b : f i ≠ r := fun e => by
              have := inj i i0 (by omega) h0 (e.trans e0.symm)
              contradiction
            omega
        · show (if i = i0 then f m else f i) ≠ (if j = i0 then f m else f j)
          intro e
          split at e
          · split at e
            · omega
            · have := inj m j (by omega) (by omega) e; omega
          · split at e
            · have := inj i m (by omega) (by omega) e; omega
            · have := inj i j (by omega) (by omega) e; omega
      · have := hole r (m + 1) f (fun i hm => by
          have a := h i hm
          have b : f i ≠ r := fun e => c ⟨i, hm, e⟩
          omega) hi
        omega
/-- a divisor of a product of primes has one of them -/
theorem has_prime {t : Nat} (ht : t ≠ 1) : ∀ {l : List Nat}, (∀ q ∈ l, PrN q) → t ∣ l.foldr (· * ·) 1 → ∃ q ∈ l, q ∣ t
  | [], _, h => absurd (Nat.dvd_one.mp h) ht
  | q :: l, hp, h => by
    have hq := hp q List.mem_cons_self
    by_cases c : q ∣ t
    · exact ⟨q, List.mem_cons_self, c⟩
    · have cop : Nat.Coprime t q := by
        rcases hq.2 _ (Nat.gcd_dvd_right t q) with e | e
        · exact e
        · exact absurd (e ▸ Nat.gcd_dvd_left t q) c
      obtain ⟨x, hx, d⟩ := has_prime ht (l := l) (fun x hx => hp x (List.mem_cons_of_mem _ hx)) (cop.dvd_of_dvd_mul_left h)
      exact ⟨x, List.mem_cons_of_mem _ hx, d⟩
/-- Lucas: p - 1 is the product of the primes of l, a is of order p - 1 -/
theorem lucas {p a : Nat} (l : List Nat) (h3 : 3 ≤ p) (hl : ∀ q ∈ l, PrN q) (hprod : l.foldr (· * ·) 1 = p - 1) (h1 : a ^ (p - 1) % p = 1) (hq : ∀ q ∈ l, Nat.gcd (a ^ ((p - 1) / q) % p + (p - 1)) p = 1) : PrN p := by
  refine ⟨by omega, fun d hd => ?_⟩
  by_cases c1 : d = 1
  · exact .inl c1
  right
  have hd0 : 0 < d := Nat.pos_of_dvd_of_pos hd (by omega)
  have one : ∀ {x : Nat}, x % p = 1 → x % d = 1 % d := fun {x} h => by
    have : x % p % d = x % d := Nat.mod_mod_of_dvd x hd
    rw [← this, h]
  have u1 : a ^ (p - 1) % d = 1 % d := one h1
  -- a is prime to d
  have cop : Nat.Coprime d a := by
    have g0 : a ∣ a ^ (p - 1) := by
      obtain ⟨k, hk⟩ : ∃ k, p - 1 = k + 1 := ⟨p - 2, by omega⟩
      rw [hk, Nat.pow_succ]
      exact ⟨a ^ k, Nat.mul_comm _ _⟩
    have g1 : Nat.gcd d a ∣ a ^ (p - 1) := Nat.dvd_trans (Nat.gcd_dvd_right d a) g0
    have g2 : Nat.gcd d a ∣ a ^ (p - 1) % d := (Nat.dvd_mod_iff (Nat.gcd_dvd_left d a)).mpr g1
    rw [u1] at g2
    have g3 : Nat.gcd d a ∣ 1 := (Nat.dvd_mod_iff (Nat.gcd_dvd_left d a)).mp g2
    exact Nat.dvd_one.mp g3
  have ne : ∀ k, 0 < k → k < p - 1 → a ^ k % d ≠ 1 % d := fun k hk0 hk h => by
    have g := pow_gcd k (p - 1) h u1
    obtain ⟨t, ht⟩ := Nat.gcd_dvd_right k (p - 1)
    have gk : Nat.gcd k (p - 1) ≤ k := Nat.le_of_dvd hk0 (Nat.gcd_dvd_left k (p - 1))
    have t1 : t ≠ 1 := fun e => by rw [e] at ht; omega
    obtain ⟨q, hm, s, hs⟩ := has_prime t1 hl (by rw [hprod]; exact ⟨Nat.gcd k (p - 1), by rw [Nat.mul_comm]; exact ht⟩)
    have q2 := (hl q hm).1
    have e : (p - 1) / q = Nat.gcd k (p - 1) * s := by
      have e2 : p - 1 = q * (Nat.gcd k (p - 1) * s) := by
        rw [← Nat.mul_assoc, Nat.mul_comm q, Nat.mul_assoc, ← hs]; exact ht
      rw [show (p - 1) / q = q * (Nat.gcd k (p - 1) * s) / q from congrArg (· / q) e2]
      exact Nat.mul_div_cancel_left _ (by omega)
    have v : a ^ ((p - 1) / q) % d = 1 % d := by
      rw [e, Nat.pow_mul, Nat.pow_mod, g, ← Nat.pow_mod, Nat.one_pow]
    have w : d ∣ a ^ ((p - 1) / q) % p + (p - 1) := by
      have m1 : a ^ ((p - 1) / q) % p % d = 1 % d := by rw [Nat.mod_mod_of_dvd _ hd]; exact v
      refine Nat.dvd_of_mod_eq_zero ?_
      rw [Nat.add_mod, m1, ← Nat.add_mod]
      have e5 : 1 + (p - 1) = p := by omega
      rw [e5]
      exact Nat.mod_eq_zero_of_dvd hd
    have z := Nat.dvd_gcd w hd
    rw [hq q hm] at z
    exact c1 (Nat.dvd_one.mp z)
  have inj : ∀ i j, i < j → j < p - 1 → a ^ i % d ≠ a ^ j % d := fun i j hij hj h => by
    refine ne (j - i) (by omega) (by omega) ?_
    have e : a ^ j = a ^ i * a ^ (j - i) := by rw [← Nat.pow_add]; congr 1; omega
    -- d divides a ^ i * (a ^ (j - i) - 1)
    have ha : 1 ≤ a ^ (j - i) := Nat.one_le_iff_ne_zero.mpr fun z => by
      have : a = 0 := by
        refine Classical.byContradiction fun c => ?_
        have := Nat.pow_pos (n := j - i) (Nat.pos_of_ne_zero c)
        omega
      subst this
      rw [Nat.coprime_zero_right] at cop
      exact c1 cop
    have dv : d ∣ a ^ i * (a ^ (j - i) - 1) := by
      have : a ^ i * (a ^ (j - i) - 1) = a ^ j - a ^ i := by rw [Nat.mul_sub, Nat.mul_one, e]
      rw [this]
      have le : a ^ i ≤ a ^ j := by rw [e]; exact Nat.le_mul_of_pos_right _ ha
      exact Nat.dvd_of_mod_eq_zero (Nat.sub_mod_eq_zero_of_mod_eq h.symm)
    have dw : d ∣ a ^ (j - i) - 1 := (Nat.Coprime.pow_right i cop).dvd_of_dvd_mul_left dv
    obtain ⟨c, hc⟩ := dw
    have e4 : a ^ (j - i) = 1 + d * c := by omega
    rw [e4, Nat.add_mul_mod_self_left]
  have big := hole d (p - 1) (fun i => a ^ i % d) (fun i _ => Nat.mod_lt _ hd0) inj
  obtain ⟨e, he⟩ := hd
  have e1 : e = 1 := by
    refine Classical.byContradiction fun c => ?_
    have : e ≠ 0 := fun z => by subst z; omega
    have : d * 2 ≤ d * e := Nat.mul_le_mul_left d (by omega)
    omega
  subst e1; omega
/-- the test, to be run -/
def lucasTest (p a : Nat) (l : List Nat) : Bool :=
  decide (3 ≤ p) && decide (p < 2 ^ 64) && decide (l.foldr (· * ·) 1 = p - 1) && decide (powm p 64 a (p - 1) = 1) && l.all fun q => decide (Nat.gcd (powm p 64 a ((p - 1) / q) + (p - 1)) p = 1)
theorem lucas_test {p a : Nat} {l : List Nat} (h : lucasTest p a l = true) (hl : ∀ q ∈ l, PrN q) : PrN p := by
  unfold lucasTest at h
  simp only [Bool.and_eq_true, decide_eq_true_eq, List.all_eq_true] at h
  obtain ⟨⟨⟨⟨h1, h2⟩, h3⟩, h4⟩, h5⟩ := h
  refine lucas (a := a) l h1 hl h3 ?_ fun q hq => ?_
  · rw [← powm_eq p 64 a (p - 1) (by omega)]; exact h4
  · have := h5 q hq
    rw [powm_eq p 64 a ((p - 1) / q) (Nat.lt_of_le_of_lt (Nat.div_le_self _ _) (by omega))] at this
    exact this
theorem small_pr {l : List Nat} (h : (l.all fun q => decide (2 ≤ q) && decide (q < 66 * 66) && trial q 6 2) = true) : ∀ q ∈ l, PrN q := fun q hq => by
  have z := List.all_eq_true.mp h q hq
  simp only [Bool.and_eq_true, decide_eq_true_eq] at z
  exact prN_trial 6 z.1.1 (by have := z.1.2; show q < _; omega) z.2
theorem q1 : PrN 500000003 := prN_trial 15 (by decide) (by decide) (by decide +kernel)
theorem q2 : PrN 124847 := prN_trial 9 (by decide) (by decide) (by decide +kernel)
theorem q3 : PrN 182041 := prN_trial 9 (by decide) (by decide) (by decide +kernel)
theorem q4 : PrN 26005097 := prN_trial 13 (by decide) (by decide) (by decide +kernel)
theorem q5 : PrN 26209 := prN_trial 8 (by decide) (by decide) (by decide +kernel)
theorem q6 : PrN 32779 := prN_trial 8 (by decide) (by decide) (by decide +kernel)
theorem q7 : PrN 166667 := prN_trial 9 (by decide) (by decide) (by decide +kernel)
theorem all_app {l m : List Nat} (h1 : ∀ q ∈ l, PrN q) (h2 : ∀ q ∈ m, PrN q) : ∀ q ∈ l ++ m, PrN q := fun q h => (List.mem_append.mp h).elim (h1 q) (h2 q)
theorem all_one {q : Nat} (h : PrN q) : ∀ x ∈ [q], PrN x := fun x hx => by rw [List.mem_singleton] at hx; subst hx; exact h
theorem pr2 : PrN 2 := small_pr (l := [2]) (by decide +kernel) 2 (by simp)
theorem pr3 : PrN 3 := small_pr (l := [3]) (by decide +kernel) 3 (by simp)
theorem pr5 : PrN 5 := small_pr (l := [5]) (by decide +kernel) 5 (by simp)
theorem pr7 : PrN 7 := small_pr (l := [7]) (by decide +kernel) 7 (by simp)
theorem prA : PrN 65537 := lucas_test (a := 3) (l := List.replicate 16 2) (by decide +kernel) (small_pr (by decide +kernel))
theorem prB : PrN 998244353 := lucas_test (a := 3) (l := List.replicate 23 2 ++ [7, 17]) (by decide +kernel) (small_pr (by decide +kernel))
theorem prC : PrN 1000000007 := lucas_test (a := 5) (l := [2] ++ [500000003]) (by decide +kernel) (all_app (small_pr (by decide +kernel)) (all_one q1))
theorem prD : PrN 2147483647 := lucas_test (a := 7) (l := [2, 3, 3, 7, 11, 31, 151, 331]) (by decide +kernel) (small_pr (by decide +kernel))
theorem prE : PrN 999999999989 := lucas_test (a := 2) (l := [2, 2, 11] ++ ([124847] ++ [182041])) (by decide +kernel) (all_app (small_pr (by decide +kernel)) (all_app (all_one q2) (all_one q3)))
theorem prF : PrN 1000000000039 := lucas_test (a := 3) (l := [2, 3, 13, 17, 29] ++ [26005097]) (by decide +kernel) (all_app (small_pr (by decide +kernel)) (all_one q4))
theorem prG : PrN 1000000000000000009 := lucas_test (a := 7) (l := [2, 2, 2, 3, 3, 97] ++ ([26209] ++ ([32779] ++ [166667]))) (by decide +kernel) (all_app (small_pr (by decide +kernel)) (all_app (all_one q5) (all_app (all_one q6) (all_one q7))))
theorem prH : PrN 2305843009213693951 := lucas_test (a := 37) (l := [2, 3, 3, 5, 5, 7, 11, 13, 31, 41, 61, 151, 331, 1321]) (by decide +kernel) (small_pr (by decide +kernel))
/-- the search for a prime from below comes to an end here -/
theorem prZ : PrN 1000003 := prN_trial 10 (by decide) (by decide) (by decide +kernel)
/-- what a law's prime is -/
def Law (p : Int) : Prop := Pr p ∧ p ≤ 2305843009213693951
end SR
/-! What the walks of all laws share: a callee with its promise, data that is compared, classes. -/
namespace SR
open PySem PySem.Spec PyProof.Rows L2

/-- a def of the top as its callers see it -/
structure Has (P : Program) (w : World) (K : PySem.W.Frag) (mg : Str → Option Value) (base : Heap) (CX : CXT) (k : Nat) (x : Str) (ps : List Str) (sp : Sp) : Prop where
  ex : ∃ f fd, FnOk P w K mg base CX k f fd ps sp ∧ mg x = some (.ref f) ∧ PySem.W.keepIn K (.ref f) = true ∧ Binds K fd ps []
/-- a def of the top as it stands there -/
structure At (K : PySem.W.Frag) (mg : Str → Option Value) (x : Str) (st : Stmt) (ps : List Str) (f : Addr) (fd : FuncData) : Prop where
  fn : Fun K x x st f fd
  mg : mg x = some (.ref f)
  b : Binds K fd ps []
section
variable {P : Program} {w : World} {K : PySem.W.Frag} {mg : Str → Option Value} {base : Heap} {CX : CXT} {k : Nat} {x : Str} {ps : List Str} {sp : Sp} {st : Stmt} {f : Addr} {fd : FuncData}
theorem At.has (a : At K mg x st ps f fd) (F : FnOk P w K mg base CX k f fd ps sp) : Has P w K mg base CX k x ps sp := ⟨f, fd, F, a.mg, a.fn.kp, a.b⟩
theorem Has.imp {sp' : Sp} (h : Has P w K mg base CX k x ps sp) (i : ∀ vs H Q E, sp' vs H Q E → sp vs H Q E) : Has P w K mg base CX k x ps sp' := by
  obtain ⟨f, fd, F, a⟩ := h.ex
  exact ⟨f, fd, F.imp i, a⟩
theorem Has.mono {j : Nat} (h : Has P w K mg base CX j x ps sp) (l : j ≤ k) : Has P w K mg base CX k x ps sp := by
  obtain ⟨f, fd, F, a⟩ := h.ex
  exact ⟨f, fd, F.mono l, a⟩
/-- the body of a def, whatever may leave it -/
theorem okG {qual : Str} {N : List Str} (F : Fun K x qual st f fd) (S : FnScope N ps (defScope st)) (len : ∀ vs H Q E, sp vs H Q E → vs.length = ps.length)
    (hb : ∀ (cdv : Value) (A : Around) (outer : List Env) (s : Shared) (H : Hp) (vs : List V) (Q : VK) (E : XK), Room k (A.deeper (envOfC qual (defScope st) s.heap.objs.size f cdv)) → sp vs H Q E →
      ∃ t, PSs (cxOf CX P w K mg base N qual (defScope st) f cdv A outer s H E) (defBody st) t ∧ t { nx := fun _ H' => Q .non H', rt := Q } (start N vs) H) : FnOk P w K mg base CX (k + 1) f fd ps sp := by
  obtain ⟨_, _, _, _, _, _, _, _, _, rfl, lk, hc⟩ := F.ex
  exact fn_of lk hc S len fun A outer s H vs Q E hr hsp => hb _ A outer s H vs Q E hr hsp
end
section
variable {X : Cx} {CX : CXT} {k : Nat} {x : Str} {ps : List Str} {sp : Sp} {E : XK} {p pos : Pos} {e : Expr} {es : List Expr} {t : TA}
theorem pe_has (F : Has X.prog X.w X.K X.mg X.base CX k x ps sp) (hr : Room k X.A) (hx : Passes CX X E) (ha : PA X (e :: es) t) (hg : Gl X x := by rfl) (hdb : (x == ("__debug__" : Str)) = false := by decide)
    (he : starEach (e :: es) X.env = (false, eval e X.env) :: starEach es X.env := by rfl) (hpl : (backTo pos (starEach es X.env)).any (·.1) = false := by rfl) : PE X (.Call (.Name x p) (e :: es) [] pos) (tCall sp [] E t) := by
  obtain ⟨f, fd, F, hm, hk, hb⟩ := F.ex
  exact pe_call F hr hg hm hk hb .nil hx ha hdb he hpl
/-- .. in a try, its exception wished for at the slots -/
theorem pe_hasS {E : L2.St → XK} (F : Has X.prog X.w X.K X.mg X.base CX k x ps sp) (hr : Room k X.A) (hx : ∀ σ, PassesAt CX X σ (E σ)) (ha : PA X (e :: es) t) (hg : Gl X x := by rfl) (hdb : (x == ("__debug__" : Str)) = false := by decide)
    (he : starEach (e :: es) X.env = (false, eval e X.env) :: starEach es X.env := by rfl) (hpl : (backTo pos (starEach es X.env)).any (·.1) = false := by rfl) : PE X (.Call (.Name x p) (e :: es) [] pos) (tCallS sp E t) := by
  obtain ⟨f, fd, F, hm, hk, hb⟩ := F.ex
  exact pe_callS F hr hg hm hk hb hx ha hdb he hpl
end
/-- nothing is raised: a def that might -/
theorem passN {X : Cx} : Passes (L2N.CX X.prog X.w) X E0 := fun _ _ _ _ _ _ _ h => by
  obtain ⟨_, _, _, _, _, _, _, _, _, _, _, _, z⟩ := h
  exact z.elim

/-! ### rules that name the written part: for the element of a comprehension -/
theorem call_listK {X : Cx} {K : PySem.W.Frag} (h : X.K = K) : CallR X (.type "list") (fun xs H Q => ∃ p ys, xs = [.ref p] ∧ (SqL K H p ys ∨ SqT K H p ys) ∧ ∀ l, H l = none → Q (.ref l) (upd H l (.lst ys))) := by
  subst h
  exact call_list_of
theorem ix_listK {X : Cx} {K : PySem.W.Frag} (h : X.K = K) : IxR X (rIxL K) := by
  subst h
  exact ix_list
theorem pe_fldK {X : Cx} {K : PySem.W.Frag} {e : Expr} {f : Str} {pos : Pos} {ta : TE} (h : X.K = K) (he : PE X e ta) (hb : attributeBase e f X.env (eval e X.env) = eval e X.env) : PE X (.Attribute e f pos) (tFld K ta f) := by
  subst h
  exact pe_fld he hb
/-! ### lists of whole numbers, compared -/
def dInts (ns : List Int) : PyData := .list (ns.map PyData.int)
theorem dpAll_ints {K : PySem.W.Frag} {H : Hp} : ∀ ns : List Int, DpAll K H (ns.map V.int) (ns.map PyData.int)
  | [] => .nil
  | n :: ns => .cons (.int n) (dpAll_ints ns)
theorem dp_ints {K : PySem.W.Frag} {H : Hp} {a : Addr} {ns : List Int} (h : SqL K H a (ns.map V.int)) : Dp K H (.ref a) (dInts ns) := .lst h (dpAll_ints ns)
theorem canLay_ints : ∀ ns : List Int, PyData.canLayAll0 (ns.map PyData.int) = true
  | [] => by simp [PyData.canLayAll0]
  | n :: ns => by simp [PyData.canLayAll0, PyData.canLay0, canLay_ints ns]
theorem eqvAll_ints : ∀ ns ms : List Int, PyData.eqvAll (ns.map PyData.int) (ms.map PyData.int) = decide (ns = ms)
  | [], [] => by simp [PyData.eqvAll]
  | [], m :: ms => by simp [PyData.eqvAll]
  | n :: ns, [] => by simp [PyData.eqvAll]
  | n :: ns, m :: ms => by
    simp only [List.map_cons, PyData.eqvAll, PyData.eqv, eqvAll_ints ns ms]
    by_cases h1 : n = m <;> by_cases h2 : ns = ms <;> simp [h1, h2]
theorem eqv_ints (ns ms : List Int) : PyData.eqv (dInts ns) (dInts ms) = decide (ns = ms) := by
  unfold dInts
  simp only [PyData.eqv]
  exact eqvAll_ints ns ms
theorem depthAll_ints : ∀ ns : List Int, (PyData.list (ns.map PyData.int)).depth ≤ 2 := by
  intro ns
  induction ns with
  | nil => simp [PyData.depth, PyData.depthAll]
  | cons n ns ih =>
    simp only [List.map_cons, PyData.depth, PyData.depthAll] at ih ⊢
    omega
theorem shaped_ints (ns : List Int) : SeqAt.shaped (dInts ns) = true := by
  unfold SeqAt.shaped dInts
  rw [Bool.and_eq_true]
  refine ⟨?_, decide_eq_true (Nat.le_trans (depthAll_ints ns) (by decide))⟩
  simp only [PyData.canLay0]
  exact canLay_ints ns
/-- lists of truth values -/
def dBls (ns : List Bool) : PyData := .list (ns.map PyData.bool)
theorem dpAll_bls {K : PySem.W.Frag} {H : Hp} : ∀ ns : List Bool, DpAll K H (ns.map V.bl) (ns.map PyData.bool)
  | [] => .nil
  | n :: ns => .cons (.bl n) (dpAll_bls ns)
theorem dp_bls {K : PySem.W.Frag} {H : Hp} {a : Addr} {ns : List Bool} (h : SqL K H a (ns.map V.bl)) : Dp K H (.ref a) (dBls ns) := .lst h (dpAll_bls ns)

/-! ### small words -/
theorem get_map {ns : List Int} {j : Nat} (h : j < ns.length) : (ns.map V.int)[j]? = some (V.int (gd ns j)) := by
  rw [List.getElem?_map, get_gd h]; rfl
theorem at_map {ns : List Int} {z : Int} {j : Nat} (e : z = (j : Int)) (h : j < ns.length) : atI (ns.map V.int) z = some (V.int (gd ns j)) := at_of e (get_map h)
theorem bound64 {p x : Int} (h0 : 0 ≤ x) (h : x < p) (hp : p ≤ 2305843009213693951) : -(2 ^ 64) < x ∧ x < 2 ^ 64 := by
  refine ⟨?_, ?_⟩ <;> omega
theorem sizeLine_big : 1000000 ≤ sizeLine := by decide
/-- a new list -/
theorem Same.new {H : Hp} {q : Addr} {o : HO} (h : H q = none) : Same H (upd H q o) := fun b u e => by rw [upd_ne (ne_of_none e h)]; exact e
theorem Same.upd_new {H H' : Hp} {q : Addr} {o : HO} (s : Same H H') (h : H q = none) : Same H (upd H' q o) := fun b u e => by rw [upd_ne (ne_of_none e h)]; exact s b u e
/-- a turn of a comprehension without a test -/
theorem lc_turn {te : TE} {σ : L2.St} {H : Hp} {D : Addr} {Nx : Hp → Prop} (h : te σ H fun y H4 => ∃ acc, H4 D = some (.lst acc) ∧ acc.length < sizeLine ∧ Nx (upd H4 D (.lst (acc ++ [y])))) :
    tYes σ H fun b H3 => if b = true then te σ H3 fun y H4 => ∃ acc, H4 D = some (.lst acc) ∧ acc.length < sizeLine ∧ Nx (upd H4 D (.lst (acc ++ [y]))) else Nx H3 := by
  show if true = true then te σ H fun y H4 => ∃ acc, H4 D = some (.lst acc) ∧ acc.length < sizeLine ∧ Nx (upd H4 D (.lst (acc ++ [y]))) else Nx H
  rw [if_pos rfl]
  exact h
/-- a new object that is stored in -/
theorem Same.upd_back {H H' : Hp} {q : Addr} {o : HO} (s : Same H H') (h : H q = none) : Same H (upd H' q o) := fun b u e => by rw [upd_ne (ne_of_none e h)]; exact s b u e
theorem arg3 {l : Addr} {a b p : Int} (h : a = b) : ([V.ref l, V.int a, V.int p] : List V) = [V.ref l, V.int b, V.int p] := by rw [h]
theorem argR {a b p : V} {x y : Int} (h : x = y) : ([a, b, V.int x, p] : List V) = [a, b, V.int y, p] := by rw [h]
theorem arg2i {a x y : Int} (h : x = y) : ([V.int a, V.int x] : List V) = [V.int a, V.int y] := by rw [h]
theorem arg2 {l : Addr} {a b : Int} (h : a = b) : ([V.ref l, V.int a] : List V) = [V.ref l, V.int b] := by rw [h]
theorem map_app1 {ns : List Int} {x : Int} : ns.map V.int ++ [V.int x] = (ns ++ [x]).map V.int := by rw [List.map_append]; rfl
theorem cut_take (ns : List Int) (k : Nat) : cutV (ns.map V.int) none (some (k : Int)) = (ns.take k).map V.int := by
  have e : ((ns.map V.int).drop 0).take (min k (ns.map V.int).length - 0) = (ns.take k).map V.int := by
    rw [List.drop_zero, Nat.sub_zero, List.length_map, ← List.map_take]
    by_cases c : k ≤ ns.length
    · rw [Nat.min_eq_left c]
    · rw [Nat.min_eq_right (by omega), List.take_of_length_le (Nat.le_refl _), List.take_of_length_le (by omega)]
  rw [← e]
  unfold cutV
  rw [HT.sIx_none, HT.sIx_nat]
theorem cut_drop (ns : List Int) (k : Nat) : cutV (ns.map V.int) (some (k : Int)) none = (ns.drop k).map V.int := by
  have e : ((ns.map V.int).drop (min k (ns.map V.int).length)).take ((ns.map V.int).length - min k (ns.map V.int).length) = (ns.drop k).map V.int := by
    rw [List.take_of_length_le (by rw [List.length_drop]; exact Nat.le_refl _), List.length_map, ← List.map_drop]
    by_cases c : k ≤ ns.length
    · rw [Nat.min_eq_left c]
    · rw [Nat.min_eq_right (by omega), List.drop_of_length_le (Nat.le_refl _), List.drop_of_length_le (by omega)]
  rw [← e]
  unfold cutV
  rw [HT.sIx_none, HT.sIx_nat]
theorem ixN_at {n j : Nat} {z : Int} (e : z = (j : Int)) (h : j < n) : ixN n z = some j := by
  subst e
  unfold ixN
  rw [if_pos (by omega), if_pos (by omega)]
  rfl
theorem map_set1 {ns : List Int} {j : Nat} {x : Int} : (ns.map V.int).set j (V.int x) = (ns.set j x).map V.int := List.map_set.symm
theorem rep_zero : ∀ n : Nat, (List.replicate n [V.int 0]).flatten = (List.replicate n (0 : Int)).map V.int
  | 0 => rfl
  | n + 1 => by
    rw [List.replicate_succ, List.flatten_cons, rep_zero n, List.replicate_succ]
    rfl
theorem len_small {n : Nat} (h : n ≤ 1000000) : n ≤ sizeLine := Nat.le_trans h sizeLine_big
theorem len_lt {n : Nat} (h : n < 1000000) : n < sizeLine := Nat.lt_of_lt_of_le h sizeLine_big
end SR
/-! Own errors: raised, caught, handed to a def within the suite that holds them. -/
namespace SR
open PySem PySem.Spec PyProof.Rows L2

/-- what a class of errors must say -/
structure XC (K : PySem.W.Frag) (mg : Str → Option Value) (x : Str) (C : Addr) : Prop where
  g : mg x = some (.ref C)
  x : PySem.W.excIn K C [.type "ValueError", .type "Exception", .type "BaseException", .type "object"] "ValueError.__new__" = true
  k : PySem.W.keepIn K (.ref C) = true
  b : PySem.W.subIn K (.ref C) (.type "BaseException") = some true
  t : PySem.W.typeIn K (.ref C) = some (.type "type")
  e : ExcC K C
  v : PySem.W.kitOne K (.ref C) (.type "ValueError") = some true
theorem takesN0 {X : Cx} : L2N.Takes X (fun _ _ _ _ => False) := fun _ _ ⟨_, _, _, _, _, _, _, _, _, _, _, _, _, _, _, _, z⟩ => z.elim

/-! ### a def that is given the error that its caller handles -/
/-- the promise: for each class C and error a -/
structure FnE (P : Program) (w : World) (K : PySem.W.Frag) (mg : Str → Option Value) (base : Heap) (k : Nat) (f : Addr) (fd : FuncData) (ps : List Str) (sp : Addr → Addr → Sp) : Prop where
  len : ∀ C a vs H Q E, sp C a vs H Q E → vs.length = ps.length
  run : ∀ (C : Addr) (p : Addr × Obj), L2N.Zn (.ref C) none p.2 → (∃ fs, p.2.data = .fields fs) → ∀ (A : Around) (outer : List Env) (s : Shared) (H : Hp) (us : List Value) (vs : List V) (Q : VK) (E : XK), L2H.RoomH k A → L2H.PinOk outer H s p →
    Env0 P w K mg base A outer s H → BindsTo s fd ⟨us, []⟩ (ps.zip us) → Vals vs us → sp C p.1 vs H Q E → codeAny (model P w) A (.call (.ref f) ⟨us, []⟩) (CR CX0 outer P w H s Q E) s
section
variable {P : Program} {w : World} {K : PySem.W.Frag} {mg : Str → Option Value} {base : Heap} {k : Nat} {x : Str} {ps : List Str} {sp : Addr → Addr → Sp} {st : Stmt} {f : Addr} {fd : FuncData}
theorem okE {qual : Str} {N : List Str} (F : Fun K x qual st f fd) (S : FnScope N ps (defScope st)) (len : ∀ C a vs H Q E, sp C a vs H Q E → vs.length = ps.length)
    (hb : ∀ (C : Addr) (p : Addr × Obj), L2N.Zn (.ref C) none p.2 → (∃ fs, p.2.data = .fields fs) → ∀ (cdv : Value) (A : Around) (outer : List Env) (s : Shared) (H : Hp) (vs : List V) (Q : VK) (E : XK),
      L2H.RoomH k (A.deeper (envOfC qual (defScope st) s.heap.objs.size f cdv)) → sp C p.1 vs H Q E →
      ∃ t, PSs (L2H.cxH CX0 P w K mg base N qual (defScope st) f cdv A outer s H E p) (defBody st) t ∧ t { nx := fun _ H' => Q .non H', rt := Q } (start N vs) H) : FnE P w K mg base (k + 1) f fd ps sp := by
  obtain ⟨_, _, _, _, _, _, cdv, _, _, rfl, lk, hc⟩ := F.ex
  refine ⟨len, fun C p hz hfs A outer s H us vs Q E hr hpin e0 hbd rv hsp => ?_⟩
  have hl := len _ _ _ _ _ _ hsp
  have kin : K.In s.heap := e0.mod.kin.keeps fun b o e => (e0.bs b o e).1
  have nol : s.heap.NoLimit := e0.mod.nolimit.keeps fun b o e => (e0.bs b o e).1
  refine codeAny_call_function hr.depth (kin _ _ lk) rfl S.co S.gen rfl (PySem.W.codeRec_of kin hc) (hbd _ _ _ _ ?_)
  refine wpAny_newFunctionEnv_cells S.kind (fun y hy => ?_) fun env he s1 ic => ?_
  · rcases S.par y.1 (List.of_mem_zip (show (y.1, y.2) ∈ ps.zip us from hy)).1 with q | q
    · exact Or.inl q
    · exact Or.inr ⟨q, PySem.W.cellsFrom_some _ _ _ (.inl q)⟩
  · subst he
    refine ⟨nol.keeps ic.toInCall.keep, codeAny_func ?_⟩
    obtain ⟨t, ht, hq⟩ := hb C p hz hfs cdv A outer s H vs Q E (hr.deeper _) hsp
    refine wpAny_mono (ht.run [] s1 (start N vs) H _ (L2H.inv_startH S hpin e0 hl rv ic) hq) (fun fl s' hs => ?_) fun _ _ z => z
    cases fl with
    | ret u =>
      obtain ⟨v, σ', H', J, r, q⟩ := hs
      exact ⟨v, H', J.os, J.bare, J.base, J.hok, r, q⟩
    | next =>
      obtain ⟨σ', H', J, q⟩ := hs
      exact ⟨.non, H', J.os, J.bare, J.base, J.hok, rfl, q⟩
    | brk => exact hs.choose_spec.choose_spec.2.elim
    | cont => exact hs.choose_spec.choose_spec.2.elim
end
/-- .. as its callers see it -/
structure HasE (P : Program) (w : World) (K : PySem.W.Frag) (mg : Str → Option Value) (base : Heap) (k : Nat) (x : Str) (ps : List Str) (sp : Addr → Addr → Sp) : Prop where
  ex : ∃ f fd, FnE P w K mg base k f fd ps sp ∧ mg x = some (.ref f) ∧ PySem.W.keepIn K (.ref f) = true ∧ Binds K fd ps []
theorem At.hasE {P : Program} {w : World} {K : PySem.W.Frag} {mg : Str → Option Value} {base : Heap} {k : Nat} {x : Str} {ps : List Str} {sp : Addr → Addr → Sp} {st : Stmt} {f : Addr} {fd : FuncData}
    (a : At K mg x st ps f fd) (F : FnE P w K mg base k f fd ps sp) : HasE P w K mg base k x ps sp := ⟨f, fd, F, a.mg, a.fn.kp, a.b⟩
/-- the error at a, of the class cls: C is its address -/
def tCallE (sp : Addr → Addr → Sp) (cls : Value) (d : Option Addr) (a : Addr) (t : TA) : TE := fun σ H Q => t σ H fun vs H1 => ∃ C, cls = .ref C ∧ d = none ∧ sp C a vs H1 Q E0
/-- isinstance(e, c), e the error that is handled -/
def rIsP (K : PySem.W.Frag) (cls : Value) (d : Option Addr) (a : Addr) : List V → Hp → VK → Prop := fun xs H Q => ∃ (C : Addr) (c : V) (cv : Value) (b : Bool), cls = .ref C ∧ d = none ∧ ExcC K C ∧ xs = [.ref a, c] ∧ (∀ u, RelV c u → u = cv) ∧ PySem.W.kitOne K (.ref C) cv = some b ∧ Q (.bl b) H
theorem room_mark {k : Nat} {A : Around} {v : Option Value} (r : Room k A) : L2H.RoomH k (A.mark v) := ⟨r.dp, r.un⟩
section
variable {X : Cx} {k : Nat} {x : Str} {ps : List Str} {sp : Addr → Addr → Sp} {pos pp : Pos} {e : Expr} {es : List Expr} {t : TA} {cls : Value} {d : Option Addr} {a : Addr} {oe : Obj}
theorem pe_hasE (F : HasE X.prog X.w X.K X.mg X.base k x ps sp) (hr : L2H.RoomH k X.A) (hp : (a, oe) ∈ X.pn) (hz : L2N.Zn cls d oe) (hf : ∃ fs, oe.data = .fields fs) (ha : PA X (e :: es) t) (hg : Gl X x := by rfl)
    (hdb : (x == ("__debug__" : Str)) = false := by decide) (he : starEach (e :: es) X.env = (false, eval e X.env) :: starEach es X.env := by rfl) (hpl : (backTo pos (starEach es X.env)).any (·.1) = false := by rfl) :
    PE X (.Call (.Name x pp) (e :: es) [] pos) (tCallE sp cls d a t) := by
  obtain ⟨f, fd, F, hm, hk, hb⟩ := F.ex
  refine ⟨fun pins s σ H Q I h => wpAny_Call_Name_kw (ld_glob I hg hm ?_ hdb)⟩
  refine PySem.W.callWith_K (h₀ := X.base) I.ok.mod.kin hk (thn (ha.run pos pins s σ H _ I h) fun us s1 ⟨vs, H1, I1, r, q⟩ => ⟨I1.kIn, ?_⟩) he hpl
  obtain ⟨C, rfl, rfl, q⟩ := q
  have hl : us.length = ps.length := by rw [← r.length]; exact F.len _ _ _ _ _ _ q
  have b := hb s1 us I1.kIn (by rw [List.append_nil]; exact hl)
  rw [List.append_nil] at b
  have at1 := I1.pin (a, oe) (List.mem_append_left _ hp)
  have pin : L2H.PinOk X.stack H1 s1 (a, oe) := ⟨at1.1, at1.2.1, fun hm => (List.mem_cons.mp (I1.stkSub a hm)).elim at1.2.2.1 at1.2.2.2.1, at1.2.2.2.2⟩
  refine wpAny_call (codeAny_mono (F.run C (a, oe) hz hf X.A X.stack s1 H1 us vs Q E0 hr pin I1.env0 b r q) fun r s' hq => ?_)
  rcases r with _ | (_ | _ | _ | u)
  · exact False.elim hq
  · exact False.elim hq
  · exact False.elim hq
  · exact False.elim hq
  · exact I1.after hq
theorem call_isP (hp : (a, oe) ∈ X.pn) (hz : L2N.Zn cls d oe) (hf : ∃ fs, oe.data = .fields fs) : CallR X (.builtin "isinstance") (rIsP X.K cls d a) := by
  intro pins s σ H xs us Q I r h
  obtain ⟨C, c, cv, b, rfl, rfl, hc, rfl, hcv, e, q⟩ := h
  rcases r with _ | ⟨rx, _ | ⟨rt, _ | _⟩⟩
  cases rx
  cases hcv _ rt
  obtain ⟨hget, _⟩ := I.pin (a, oe) (List.mem_append.mpr (.inl hp))
  obtain ⟨fs, hv⟩ := hf
  obtain ⟨oc, od, oda, osl⟩ := oe
  obtain ⟨h1, h2, _⟩ := hz
  dsimp only at h1 h2 hv
  subst h1 h2 hv
  have J : PySem.W.InstAt s.heap a ⟨.ref C, none, .fields fs, osl⟩ C none := ⟨hget, rfl, rfl, trivial⟩
  exact PySem.W.kia_one (PySem.W.handS_kitx_exc hc.hg hc.hk hc.hs hc.hd hc.ha hc.hn hc.ht hc.hm) I.kIn J e (fun z => nomatch z) fun tk => ⟨.bl b, H, I.kept (t' := tk) fun _ _ z => z, rfl, q⟩
end
/-! ### the facts about classes, from what is read off the top -/
theorem kit_other {K : PySem.W.Frag} {C D : Addr} (hd : PySem.W.hasDictIn K D = true) (ht : PySem.W.typeIn K (.ref D) = some (.type "type")) (s : PySem.W.subIn K (.ref C) (.ref D) = some false) (s2 : PySem.W.subIn K (.ref D) (.ref D) = some true) : PySem.W.kitOne K (.ref C) (.ref D) = some false := by
  have ne : (Value.ref C == Value.ref D) = false := by
    refine Bool.eq_false_iff.mpr fun q => ?_
    have e : C = D := Value.ref.inj (beq_iff_eq.mp q)
    subst e
    rw [s] at s2
    cases s2
  obtain ⟨cd, hc, _⟩ := PySem.W.any_some hd
  have e2 : ((PySem.W.clsIn K D).isSome && PySem.W.typeIn K (.ref D) == some (.type "type")) = true := by rw [hc, ht] <;> rfl
  show (if (Value.ref C == Value.ref D) = true then some true else if ((PySem.W.clsIn K D).isSome && PySem.W.typeIn K (.ref D) == some (.type "type")) = true then PySem.W.subIn K (.ref C) (.ref D) else none) = some false
  rw [ne, if_neg Bool.false_ne_true, if_pos e2]
  exact s
theorem kit_self {K : PySem.W.Frag} {C : Addr} : PySem.W.kitOne K (.ref C) (.ref C) = some true := by
  show (if (Value.ref C == Value.ref C) = true then some true else PySem.W.kitCls K (.ref C) (.ref C)) = some true
  rw [if_pos (by simp)]
theorem kit_ve {K : PySem.W.Frag} {C : Addr} (s : PySem.W.subIn K (.ref C) (.type "ValueError") = some true) : PySem.W.kitOne K (.ref C) (.type "ValueError") = some true := by
  have h : PySem.W.kitMeta "ValueError" = true := by decide +kernel
  show (if (Value.ref C == Value.type "ValueError") = true then some true else if PySem.W.kitMeta "ValueError" = true then PySem.W.subIn K (.ref C) (.type "ValueError") else none) = some true
  rw [if_neg (fun q => by cases beq_iff_eq.mp q), if_pos h]
  exact s
end SR
/-! Methods as their callers see them; the grower's fields. -/
namespace SR
open PySem PySem.Spec PyProof.Rows L2

/-! ### methods -/
structure HasM (P : Program) (w : World) (K : PySem.W.Frag) (mg : Str → Option Value) (base : Heap) (CX : CXT) (k : Nat) (C : Addr) (m : Str) (ps : List Str) (sp : Sp) : Prop where
  ex : ∃ f fd, FnOk P w K mg base CX k f fd ps sp ∧ Meth K C m f ∧ Binds K fd ps []
/-- a method as it stands in its class -/
structure AtM (K : PySem.W.Frag) (C : Addr) (m qual : Str) (st : Stmt) (ps : List Str) (f : Addr) (fd : FuncData) : Prop where
  fn : Fun K m qual st f fd
  at_ : Meth K C m f
  b : Binds K fd ps []
theorem AtM.has {P : Program} {w : World} {K : PySem.W.Frag} {mg : Str → Option Value} {base : Heap} {CX : CXT} {k : Nat} {C : Addr} {m qual : Str} {ps : List Str} {sp : Sp} {st : Stmt} {f : Addr} {fd : FuncData}
    (a : AtM K C m qual st ps f fd) (F : FnOk P w K mg base CX k f fd ps sp) : HasM P w K mg base CX k C m ps sp := ⟨f, fd, F, a.at_, a.b⟩
theorem HasM.imp {P : Program} {w : World} {K : PySem.W.Frag} {mg : Str → Option Value} {base : Heap} {CX : CXT} {k : Nat} {C : Addr} {m : Str} {ps : List Str} {sp sp' : Sp} (h : HasM P w K mg base CX k C m ps sp) (i : ∀ vs H Q E, sp' vs H Q E → sp vs H Q E) : HasM P w K mg base CX k C m ps sp' := by
  obtain ⟨f, fd, F, a⟩ := h.ex
  exact ⟨f, fd, F.imp i, a⟩
section
variable {X : Cx} {CX : CXT} {k : Nat} {C : Addr} {m : Str} {ps : List Str} {sp : Sp} {E : XK} {pos apos : Pos} {o e : Expr} {es : List Expr} {ta : TE} {t : TA}
theorem pe_hasM {pl : Sem Bool} (he : PE X o ta) (c : Cls X.K C) (F : HasM X.prog X.w X.K X.mg X.base CX k C m ps sp) (hr : Room k X.A) (hx : Passes CX X E) (ha : PA X (e :: es) t)
    (hst : starEach (e :: es) X.env = (false, eval e X.env) :: starEach es X.env := by rfl) (hpl : (backTo pos (starEach es X.env)).any (·.1) = false := by rfl)
    (ht : eval (.Call (.Attribute o m apos) (e :: es) [] pos) X.env = (do
      let ov ← eval o X.env
      standAt apos.atName
      let (f, first) ← holding [ov] (getMethod ov m pl)
      callWith pos f first (backTo pos (starEach (e :: es) X.env)) (backToKw pos (keywordEach [] X.env))) := by rfl) : PE X (.Call (.Attribute o m apos) (e :: es) [] pos) (tMeth C m sp [] E ta t) := by
  obtain ⟨f, fd, F, hm, hb⟩ := F.ex
  exact pe_meth he c hm F hr hb .nil hx ha hst hpl ht
theorem pe_hasM0 {pl : Sem Bool} (he : PE X o ta) (c : Cls X.K C) (F : HasM X.prog X.w X.K X.mg X.base CX k C m ps sp) (hr : Room k X.A) (hx : Passes CX X E)
    (ht : eval (.Call (.Attribute o m apos) [] [] pos) X.env = (do
      let ov ← eval o X.env
      standAt apos.atName
      let (f, first) ← holding [ov] (getMethod ov m pl)
      callWith pos f first (backTo pos (starEach [] X.env)) (backToKw pos (keywordEach [] X.env))) := by rfl) : PE X (.Call (.Attribute o m apos) [] [] pos) (tMeth C m sp [] E ta tNil) := by
  obtain ⟨f, fd, F, hm, hb⟩ := F.ex
  exact pe_meth0 he c hm F hr hb .nil hx ht
/-- o.m(e), what it raises wished for at the slots -/
def tMethE (C : Addr) (m : Str) (sp : Sp) (E : L2.St → XK) (ta : TE) (t : TA) : TE := fun σ H Q => ta σ H fun x H1 => ∃ a dx fs, x = .ref a ∧ H1 a = some (.ins C dx fs) ∧ fs.lookup m = none ∧ t σ H1 fun vs H2 => sp (x :: vs) H2 Q (E σ)
theorem pe_hasMS {E : L2.St → XK} {pl : Sem Bool} (he : PE X o ta) (c : Cls X.K C) (F : HasM X.prog X.w X.K X.mg X.base CX k C m ps sp) (hr : Room k X.A) (hx : ∀ σ, PassesAt CX X σ (E σ)) (ha : PA X (e :: es) t)
    (hst : starEach (e :: es) X.env = (false, eval e X.env) :: starEach es X.env := by rfl) (hpl : (backTo pos (starEach es X.env)).any (·.1) = false := by rfl)
    (ht : eval (.Call (.Attribute o m apos) (e :: es) [] pos) X.env = (do
      let ov ← eval o X.env
      standAt apos.atName
      let (f, first) ← holding [ov] (getMethod ov m pl)
      callWith pos f first (backTo pos (starEach (e :: es) X.env)) (backToKw pos (keywordEach [] X.env))) := by rfl) : PE X (.Call (.Attribute o m apos) (e :: es) [] pos) (tMethE C m sp E ta t) := by
  obtain ⟨f, fd, F, hm, hb⟩ := F.ex
  refine ⟨fun pins s σ H Q I h => PySem.W.methodCall_KW (pl := pl) (thn (he.run pins s σ H _ I h) fun u s1 ⟨x, H1, I1, rx, a, dx, fs, ex, ea, l, q⟩ => ?_) ht⟩
  subst ex
  obtain rfl : u = Value.ref a := rx
  refine getmeth_ok I1 ea c hm l (PySem.W.callWith_K (first := [.ref a]) (h₀ := X.base) I.ok.mod.kin hm.kp (thn (ha.run pos pins s1 σ H1 _ I1 q) fun us s2 ⟨vs, H2, I2, r, q2⟩ => ⟨I2.kIn, ?_⟩) hst hpl)
  exact run_fnS (us := .ref a :: us) (vs := .ref a :: vs) F hr hb (hx σ) I2 (.cons rfl r) q2
/-- C(e, ..) -/
structure HasC (P : Program) (w : World) (K : PySem.W.Frag) (mg : Str → Option Value) (base : Heap) (CX : CXT) (k : Nat) (C : Addr) (x : Str) (ps : List Str) (sp : Sp) : Prop where
  ex : ∃ f fd, Mk K C f ∧ FnOk P w K mg base CX k f fd ps sp ∧ Binds K fd ps []
  mg : mg x = some (.ref C)
theorem pe_hasC {x : Str} {p : Pos} (F : HasC X.prog X.w X.K X.mg X.base CX k C x ps sp) (hr : Room (k + 1) X.A) (hx : Passes CX X E) (ha : PA X (e :: es) t) (hg : Gl X x := by rfl) (hdb : (x == ("__debug__" : Str)) = false := by decide)
    (he : starEach (e :: es) X.env = (false, eval e X.env) :: starEach es X.env := by rfl) (hpl : (backTo pos (starEach es X.env)).any (·.1) = false := by rfl) : PE X (.Call (.Name x p) (e :: es) [] pos) (tMake C sp [] E t) := by
  obtain ⟨f, fd, M, F2, hb⟩ := F.ex
  exact pe_make M F2 hr hg F.mg hb .nil hx ha hdb he hpl
end

/-! ### a grower's fields -/
theorem putF_ne {f g : Str} {x v : V} {r : List (Str × V)} (h : ¬ g = f) : putF f v ((g, x) :: r) = (g, x) :: putF f v r := by
  show (if g = f then _ else _) = _
  rw [if_neg h]
theorem putF_eq {f : Str} {x v : V} {r : List (Str × V)} : putF f v ((f, x) :: r) = (f, v) :: r := by
  show (if f = f then _ else _) = _
  rw [if_pos rfl]
theorem look_ne {f g : Str} {x : V} {r : List (Str × V)} (h : ¬ f = g) : List.lookup f ((g, x) :: r) = List.lookup f r := by
  have e : (f == g) = false := beq_eq_false_iff_ne.mpr h
  simp only [List.lookup, e]
theorem look_eq {f : Str} {x : V} {r : List (Str × V)} : List.lookup f ((f, x) :: r) = some x := by simp [List.lookup]
def plV : Option Nat → V
  | none => .non
  | some n => .int (n : Int)
def gl (p : Int) (lr lu le : Addr) (lack : Int) (place : Option Nat) : List (Str × V) :=
  [("prime", .int p), ("row", .ref lr), ("rule", .ref lu), ("elder", .ref le), ("lack", .int lack), ("place", plV place)]
section
variable (p lack : Int) (lr lu le : Addr) (place : Option Nat)
theorem gl_len : (gl p lr lu le lack place).length < 1000 := by show 6 < 1000; decide
theorem gl_prime : (gl p lr lu le lack place).lookup ("prime" : Str) = some (V.int p) := look_eq
theorem gl_row : (gl p lr lu le lack place).lookup ("row" : Str) = some (V.ref lr) := by
  unfold gl
  rw [look_ne (by decide +kernel)]; exact look_eq
theorem gl_rule : (gl p lr lu le lack place).lookup ("rule" : Str) = some (V.ref lu) := by
  unfold gl
  rw [look_ne (by decide +kernel), look_ne (by decide +kernel)]; exact look_eq
theorem gl_elder : (gl p lr lu le lack place).lookup ("elder" : Str) = some (V.ref le) := by
  unfold gl
  rw [look_ne (by decide +kernel), look_ne (by decide +kernel), look_ne (by decide +kernel)]; exact look_eq
theorem gl_lack : (gl p lr lu le lack place).lookup ("lack" : Str) = some (V.int lack) := by
  unfold gl
  rw [look_ne (by decide +kernel), look_ne (by decide +kernel), look_ne (by decide +kernel), look_ne (by decide +kernel)]; exact look_eq
theorem gl_place : (gl p lr lu le lack place).lookup ("place" : Str) = some (plV place) := by
  unfold gl
  rw [look_ne (by decide +kernel), look_ne (by decide +kernel), look_ne (by decide +kernel), look_ne (by decide +kernel), look_ne (by decide +kernel)]; exact look_eq
theorem gl_no {m : Str} (h : (["prime", "row", "rule", "elder", "lack", "place"] : List Str).all (fun f => decide (¬ m = f)) = true) : (gl p lr lu le lack place).lookup m = none := by
  simp only [List.all_cons, List.all_nil, Bool.and_eq_true, decide_eq_true_eq] at h
  obtain ⟨h1, h2, h3, h4, h5, h6, _⟩ := h
  unfold gl
  rw [look_ne h1, look_ne h2, look_ne h3, look_ne h4, look_ne h5, look_ne h6]
  rfl
theorem gl_put_rule (a : Addr) : putF "rule" (.ref a) (gl p lr lu le lack place) = gl p lr a le lack place := by
  unfold gl
  rw [putF_ne (by decide +kernel), putF_ne (by decide +kernel), putF_eq]
theorem gl_put_elder (a : Addr) : putF "elder" (.ref a) (gl p lr lu le lack place) = gl p lr lu a lack place := by
  unfold gl
  rw [putF_ne (by decide +kernel), putF_ne (by decide +kernel), putF_ne (by decide +kernel), putF_eq]
theorem gl_put_lack (x : Int) : putF "lack" (.int x) (gl p lr lu le lack place) = gl p lr lu le x place := by
  unfold gl
  rw [putF_ne (by decide +kernel), putF_ne (by decide +kernel), putF_ne (by decide +kernel), putF_ne (by decide +kernel), putF_eq]
theorem gl_put_place (n : Nat) : putF "place" (.int (n : Int)) (gl p lr lu le lack place) = gl p lr lu le lack (some n) := by
  unfold gl
  rw [putF_ne (by decide +kernel), putF_ne (by decide +kernel), putF_ne (by decide +kernel), putF_ne (by decide +kernel), putF_ne (by decide +kernel), putF_eq]
  rfl
end
theorem gl_made (p : Int) (lr lu le : Addr) : putF "place" .non (putF "lack" (.int 1) (putF "elder" (.ref le) (putF "rule" (.ref lu) (putF "row" (.ref lr) (putF "prime" (.int p) []))))) = gl p lr lu le 1 none := by
  have e1 : putF "prime" (.int p) [] = ([("prime", .int p)] : List (Str × V)) := rfl
  have e2 : putF "row" (.ref lr) [("prime", .int p)] = ([("prime", .int p), ("row", .ref lr)] : List (Str × V)) := by rw [putF_ne (by decide +kernel)]; rfl
  have e3 : putF "rule" (.ref lu) [("prime", .int p), ("row", .ref lr)] = ([("prime", .int p), ("row", .ref lr), ("rule", .ref lu)] : List (Str × V)) := by rw [putF_ne (by decide +kernel), putF_ne (by decide +kernel)]; rfl
  have e4 : putF "elder" (.ref le) [("prime", .int p), ("row", .ref lr), ("rule", .ref lu)] = ([("prime", .int p), ("row", .ref lr), ("rule", .ref lu), ("elder", .ref le)] : List (Str × V)) := by
    rw [putF_ne (by decide +kernel), putF_ne (by decide +kernel), putF_ne (by decide +kernel)]; rfl
  have e5 : putF "lack" (.int 1) [("prime", .int p), ("row", .ref lr), ("rule", .ref lu), ("elder", .ref le)] = ([("prime", .int p), ("row", .ref lr), ("rule", .ref lu), ("elder", .ref le), ("lack", .int 1)] : List (Str × V)) := by
    rw [putF_ne (by decide +kernel), putF_ne (by decide +kernel), putF_ne (by decide +kernel), putF_ne (by decide +kernel)]; rfl
  rw [e1, e2, e3, e4, e5, putF_ne (by decide +kernel), putF_ne (by decide +kernel), putF_ne (by decide +kernel), putF_ne (by decide +kernel), putF_ne (by decide +kernel)]
  rfl
theorem len_put {f : Str} {v : V} {fs : List (Str × V)} {n : Nat} (h : fs.length ≤ n) : (putF f v fs).length ≤ n + 1 := Nat.le_trans (length_putF _ _ _) (Nat.succ_le_succ h)
/-- what the class says of the fields -/
structure GT (K : PySem.W.Frag) (C : Addr) : Prop where
  cl : Cls K C
  prime : NoAttr K C "prime"
  row : NoAttr K C "row"
  rule : NoAttr K C "rule"
  elder : NoAttr K C "elder"
  lack : NoAttr K C "lack"
  place : NoAttr K C "place"
/-- a grower stands at g: its row at lr, its rule at lu, its elder at le -/
structure GrowAt (C : Addr) (H : Hp) (p : Int) (g lr lu le : Addr) (st : Gr) : Prop where
  ob : ∃ dx, H g = some (.ins C dx (gl p lr lu le st.lack st.place))
  row : H lr = some (.lst (st.row.map V.int))
  rule : H lu = some (.lst (st.rule.map V.int))
  elder : H le = some (.lst (st.elder.map V.int))
  n1 : lr ≠ lu
  n2 : lr ≠ le
theorem GrowAt.same {C : Addr} {H H' : Hp} {p : Int} {g lr lu le : Addr} {st : Gr} (h : GrowAt C H p g lr lu le st) (s : Same H H') : GrowAt C H' p g lr lu le st := by
  obtain ⟨⟨dx, h1⟩, h2, h3, h4, n1, n2⟩ := h
  exact ⟨⟨dx, s _ _ h1⟩, s _ _ h2, s _ _ h3, s _ _ h4, n1, n2⟩
/-- another grower's storing leaves this one as it is -/
theorem GrowAt.keep {C : Addr} {H H' : Hp} {p : Int} {g lr lu le : Addr} {st : Gr} {g2 lr2 : Addr} (h : GrowAt C H p g lr lu le st) (k : ∀ b o, H b = some o → b ≠ g2 → b ≠ lr2 → H' b = some o) (hg2 : ∃ dx fs, H g2 = some (.ins C dx fs)) (hl2 : ∃ xs, H lr2 = some (.lst xs))
    (m1 : g ≠ g2) (m2 : lr ≠ lr2) (m3 : lu ≠ lr2) (m4 : le ≠ lr2) : GrowAt C H' p g lr lu le st := by
  obtain ⟨⟨dx, h1⟩, h2, h3, h4, n1, n2⟩ := h
  obtain ⟨_, _, e2⟩ := hg2
  obtain ⟨xs, el⟩ := hl2
  have ne : ∀ {b : Addr} {ys : List V}, H b = some (.lst ys) → b ≠ g2 := fun hb => ne_of hb e2 (by intro z; cases z)
  exact ⟨⟨dx, k _ _ h1 m1 (ne_of h1 el (by intro z; cases z))⟩, k _ _ h2 (ne h2) m2, k _ _ h3 (ne h3) m3, k _ _ h4 (ne h4) m4, n1, n2⟩
end SR
namespace SR
open PySem PySem.Spec PyProof.Rows L2
/-! ### the text by places -/
def top (i : Nat) : Stmt := PySem.Challenge.pw_shortrule_k05_no_rests.main.body.getD i (.Pass ⟨0, 0, 0, 0⟩)
abbrev s_inverse : Stmt := top 7
abbrev s_due : Stmt := top 8
abbrev s_Grower___init__ : Stmt := inClass (top 10) 0
abbrev s_Grower_put : Stmt := inClass (top 10) 1
abbrev s_Grower_mend : Stmt := inClass (top 10) 2
abbrev s_Grower_told : Stmt := inClass (top 10) 3
abbrev s_Grower_many : Stmt := inClass (top 10) 4
abbrev s_Grower_why : Stmt := inClass (top 10) 5
abbrev s_taken : Stmt := top 11
abbrev s_shortest : Stmt := top 12
abbrev s_showing : Stmt := top 13
abbrev s__law_whole : Stmt := top 15
abbrev s__law_cell_at : Stmt := top 16
abbrev s__law_mixed : Stmt := top 17
abbrev s__law_is_prime : Stmt := top 18
abbrev s__law_wide : Stmt := top 19
abbrev s__law_prime : Stmt := top 20
abbrev s__law_tells : Stmt := top 21
abbrev s__law_drawn : Stmt := top 22
abbrev s__law_row_by : Stmt := top 23
abbrev s__law_kinds : Stmt := top 24
abbrev s__law_refused : Stmt := top 25
abbrev s__law_refused_by_any : Stmt := top 26
abbrev s__law_row_refused : Stmt := top 27
abbrev s__law_said : Stmt := top 28
abbrev s_law : Stmt := top 29
theorem sc_inverse : FnScope ["number", "prime", "left", "right", "one", "two", "often", "rest", "step"] ["number", "prime"] (defScope s_inverse) := ⟨rfl, rfl, rfl, by decide +kernel, rfl, by decide +kernel, by decide +kernel⟩
theorem sc_due : FnScope ["rule", "row", "place", "prime", "total", "k"] ["rule", "row", "place", "prime"] (defScope s_due) := ⟨rfl, rfl, rfl, by decide +kernel, rfl, by decide +kernel, by decide +kernel⟩
theorem sc_Grower___init__ : FnScope ["self", "prime"] ["self", "prime"] (defScope s_Grower___init__) := ⟨rfl, rfl, rfl, by decide +kernel, rfl, by decide +kernel, by decide +kernel⟩
theorem sc_Grower_put : FnScope ["self", "number", "place", "lack"] ["self", "number"] (defScope s_Grower_put) := ⟨rfl, rfl, rfl, by decide +kernel, rfl, by decide +kernel, by decide +kernel⟩
theorem sc_Grower_mend : FnScope ["self", "place", "lack", "often", "gap", "ahead", "size", "mended", "k", "weight"] ["self", "place", "lack"] (defScope s_Grower_mend) := ⟨rfl, rfl, rfl, by decide +kernel, rfl, by decide +kernel, by decide +kernel⟩
theorem sc_Grower_told : FnScope ["self"] ["self"] (defScope s_Grower_told) := ⟨rfl, rfl, rfl, by decide +kernel, rfl, by decide +kernel, by decide +kernel⟩
theorem sc_Grower_many : FnScope ["self"] ["self"] (defScope s_Grower_many) := ⟨rfl, rfl, rfl, by decide +kernel, rfl, by decide +kernel, by decide +kernel⟩
theorem sc_Grower_why : FnScope ["self"] ["self"] (defScope s_Grower_why) := ⟨rfl, rfl, rfl, by decide +kernel, rfl, by decide +kernel, by decide +kernel⟩
theorem sc_taken : FnScope ["row", "prime", "grower", "number"] ["row", "prime"] (defScope s_taken) := ⟨rfl, rfl, rfl, by decide +kernel, rfl, by decide +kernel, by decide +kernel⟩
theorem sc_shortest : FnScope ["row", "prime"] ["row", "prime"] (defScope s_shortest) := ⟨rfl, rfl, rfl, by decide +kernel, rfl, by decide +kernel, by decide +kernel⟩
theorem sc_showing : FnScope ["row", "prime"] ["row", "prime"] (defScope s_showing) := ⟨rfl, rfl, rfl, by decide +kernel, rfl, by decide +kernel, by decide +kernel⟩
theorem sc__law_whole : FnScope ["_law_found"] ["_law_found"] (defScope s__law_whole) := ⟨rfl, rfl, rfl, by decide +kernel, rfl, by decide +kernel, by decide +kernel⟩
theorem sc__law_cell_at : FnScope ["_law_script", "_law_k"] ["_law_script", "_law_k"] (defScope s__law_cell_at) := ⟨rfl, rfl, rfl, by decide +kernel, rfl, by decide +kernel, by decide +kernel⟩
theorem sc__law_mixed : FnScope ["_law_cell", "_law_k"] ["_law_cell", "_law_k"] (defScope s__law_mixed) := ⟨rfl, rfl, rfl, by decide +kernel, rfl, by decide +kernel, by decide +kernel⟩
theorem sc__law_is_prime : FnScope ["_law_number", "_law_k"] ["_law_number"] (defScope s__law_is_prime) := ⟨rfl, rfl, rfl, by decide +kernel, rfl, by decide +kernel, by decide +kernel⟩
theorem sc__law_wide : FnScope ["_law_cell"] ["_law_cell"] (defScope s__law_wide) := ⟨rfl, rfl, rfl, by decide +kernel, rfl, by decide +kernel, by decide +kernel⟩
theorem sc__law_prime : FnScope ["_law_cell", "_law_number"] ["_law_cell"] (defScope s__law_prime) := ⟨rfl, rfl, rfl, by decide +kernel, rfl, by decide +kernel, by decide +kernel⟩
theorem sc__law_tells : FnScope ["_law_rule", "_law_row", "_law_place", "_law_prime_here", "_law_total", "_law_k"] ["_law_rule", "_law_row", "_law_place", "_law_prime_here"] (defScope s__law_tells) := ⟨rfl, rfl, rfl, by decide +kernel, rfl, by decide +kernel, by decide +kernel⟩
theorem sc__law_drawn : FnScope ["_law_script", "_law_k"] ["_law_script", "_law_k"] (defScope s__law_drawn) := ⟨rfl, rfl, rfl, by decide +kernel, rfl, by decide +kernel, by decide +kernel⟩
theorem sc__law_row_by : FnScope ["_law_script", "_law_size", "_law_prime_here", "_law_long", "_law_free", "_law_rule", "_law_row", "_law_k", "_law_number", "_law_cell"] ["_law_script", "_law_size", "_law_prime_here"] (defScope s__law_row_by) := ⟨rfl, rfl, rfl, by decide +kernel, rfl, by decide +kernel, by decide +kernel⟩
theorem sc__law_kinds : FnScope ["_law_error", "_law_found"] ["_law_error"] (defScope s__law_kinds) := ⟨rfl, rfl, rfl, by decide +kernel, rfl, by decide +kernel, by decide +kernel⟩
theorem sc__law_refused : FnScope ["_law_grower", "_law_number"] ["_law_grower", "_law_number"] (defScope s__law_refused) := ⟨rfl, rfl, rfl, by decide +kernel, rfl, by decide +kernel, by decide +kernel⟩
theorem sc__law_refused_by_any : FnScope ["_law_grower", "_law_number", "e"] ["_law_grower", "_law_number"] (defScope s__law_refused_by_any) := ⟨rfl, rfl, rfl, by decide +kernel, rfl, by decide +kernel, by decide +kernel⟩
theorem sc__law_row_refused : FnScope ["_law_row", "_law_prime_here", "_law_refused_here"] ["_law_row", "_law_prime_here"] (defScope s__law_row_refused) := ⟨rfl, rfl, rfl, by decide +kernel, rfl, by decide +kernel, by decide +kernel⟩
theorem sc__law_said : FnScope ["_law_grower"] ["_law_grower"] (defScope s__law_said) := ⟨rfl, rfl, rfl, by decide +kernel, rfl, by decide +kernel, by decide +kernel⟩
theorem sc_law : FnScope ["_law_script", "_law_prime_here", "_law_size", "_law_row", "_law_much", "_law_number", "_law_place", "_law_plain", "_law_grower", "_law_k", "_law_ahead", "_law_wrong", "_law_handed"] ["_law_script"] (defScope s_law) := ⟨rfl, rfl, rfl, by decide +kernel, rfl, by decide +kernel, by decide +kernel⟩
/-- the names of the built-ins are not the text's own -/
structure Bt (mg : Str → Option Value) : Prop where
  b_len : mg "len" = none
  b_range : mg "range" = none
  b_isinstance : mg "isinstance" = none
  b_int : mg "int" = none
  b_bool : mg "bool" = none
  b_list : mg "list" = none
  b_tuple : mg "tuple" = none
  b_max : mg "max" = none
  b_min : mg "min" = none
  b_reversed : mg "reversed" = none
  b_ValueError : mg "ValueError" = none
theorem ifD {c A B : Prop} [Decidable c] (h1 : c → A) (h2 : ¬ c → B) : if decide c = true then A else B := by
  by_cases h : c
  · rw [if_pos (decide_eq_true h)]; exact h1 h
  · rw [if_neg (by rw [decide_eq_false h]; decide)]; exact h2 h
theorem ifDN {c A B : Prop} [Decidable c] (h1 : ¬ c → A) (h2 : c → B) : if (!decide c) = true then A else B := by
  by_cases h : c
  · rw [if_neg (by rw [decide_eq_true h]; decide)]; exact h2 h
  · rw [if_pos (by rw [decide_eq_false h]; decide)]; exact h1 h
theorem ifB {b : Bool} {A B : Prop} (h1 : b = true → A) (h2 : b = false → B) : if b = true then A else B := by
  cases b with
  | true => exact h1 rfl
  | false => exact h2 rfl
theorem vint {a b : Int} : V.int a = V.int b ↔ a = b := ⟨fun h => V.int.inj h, fun h => by rw [h]⟩
section
variable {P : Program} {w : World} {K : PySem.W.Frag} {mg : Str → Option Value} {base : Heap}
/-! ### a cell of the script, the primes -/
def spCell (K : PySem.W.Frag) : Sp := fun vs H Q _ => ∃ (a : Addr) (ns : List Int) (j : Nat), vs = [.ref a, .int (j : Int)] ∧ SqL K H a (ns.map V.int) ∧ Q (.int (gd ns j)) H
theorem ok_cell {f : Addr} {fd : FuncData} (T : Bt mg) (a : At K mg "_law_cell_at" s__law_cell_at ["_law_script", "_law_k"] f fd) : Has P w K mg base CX0 1 "_law_cell_at" ["_law_script", "_law_k"] (spCell K) := by
  refine a.has (okG a.fn sc__law_cell_at (fun vs H Q E h => ?_) (fun cdv A outer s H vs Q E hr h => ?_))
  · obtain ⟨_, _, _, rfl, _⟩ := h
    rfl
  · obtain ⟨l, ns, j, rfl, hs, q⟩ := h
    refine ⟨_, (pss_cons (ps_if (pt_cmpR op_lt (pv 1) (pe_callB call_len_seq (by rfl) T.b_len PySem.boot_len (pa_cons (pv 0) pa_nil)) (nomark _)) (pss_one (ps_ret (pe_ix ix_list (pv 0) (pv 1) (fun _ _ => rfl)))) pss_nil)
      (pss_one (ps_ret pe_int))), ?_⟩
    refine ⟨_, rfl, _, rfl, l, _, rfl, .inl hs, _, _, rfl, rfl, _, rfl, ?_⟩
    rw [List.length_map]
    refine ifD (fun c => ?_) (fun c => ?_)
    · exact ⟨_, rfl, _, rfl, l, _, _, _, rfl, rfl, hs, at_map rfl (by omega), q⟩
    · rw [gd_ge (by omega)] at q
      exact q
/-- no divisor below, so far as it was tried -/
def isPr (n : Int) : Bool := decide (∀ k : Nat, k < n.toNat + 1 → 2 ≤ k → (k : Int) * k ≤ n → n % (k : Int) ≠ 0)
theorem isPr_iff {n : Int} (h : 2 ≤ n) : isPr n = true ↔ Pr n := by
  unfold isPr
  rw [decide_eq_true_iff]
  refine ⟨fun z => ?_, fun z k _ h2 h3 h4 => ?_⟩
  · obtain ⟨m, rfl⟩ : ∃ m : Nat, n = (m : Int) := ⟨n.toNat, by omega⟩
    refine (prN_of (by omega) fun k h2 h3 hd => ?_).pr
    have h5 : k ≤ k * k := Nat.le_mul_of_pos_right k (by omega)
    refine z k (by omega) h2 (by exact_mod_cast h3) ?_
    obtain ⟨c, hc⟩ := hd
    rw [hc]
    push_cast
    exact Int.mul_emod_right _ _
  · have hd : (k : Int) ∣ n := Int.dvd_of_emod_eq_zero h4
    rcases z.2 k (by omega) hd with e | e
    · omega
    · rw [← e] at h3
      have : (k : Int) * 2 ≤ k * k := Int.mul_le_mul_of_nonneg_left (by omega) (by omega)
      omega
def spIsPr : Sp := fun vs H Q _ => ∃ n : Int, vs = [.int n] ∧ 2 ≤ n ∧ n ≤ 1000003 ∧ Q (.bl (isPr n)) H
theorem sq_le {k n : Int} (h0 : 0 ≤ k) (h : k * k ≤ n) (hn : n ≤ 1000003) : k ≤ 1000003 := by
  refine Classical.byContradiction fun c => ?_
  have : k * 1 ≤ k * k := Int.mul_le_mul_of_nonneg_left (by omega) h0
  omega
theorem ok_isPr {f : Addr} {fd : FuncData} (a : At K mg "_law_is_prime" s__law_is_prime ["_law_number"] f fd) : Has P w K mg base CX0 1 "_law_is_prime" ["_law_number"] spIsPr := by
  refine a.has (okG a.fn sc__law_is_prime (fun vs H Q E h => ?_) (fun cdv A outer s H vs Q E hr h => ?_))
  · obtain ⟨_, rfl, _⟩ := h
    rfl
  · obtain ⟨n, rfl, h2, hn, q⟩ := h
    refine ⟨_, (pss_cons (ps_set (i := 1) sc__law_is_prime.nd rfl (Or.inl rfl) pe_int)
      (pss_cons (ps_while (passes_of rfl) (pt_cmpR op_le (pe_op op_mul (pv 1) (pv 1)) (pv 0) (nomark _)) (pss_cons (ps_if (pt_cmpR op_eq (pe_op op_mod (pv 0) (pv 1)) pe_int (nomark _)) (pss_one (ps_ret pe_bl)) pss_nil)
      (pss_one (ps_set (i := 1) sc__law_is_prime.nd rfl (Or.inl rfl) (pe_op op_add (pv 1) pe_int)))))
      (pss_one (ps_ret pe_bl)))), ?_⟩
    refine ⟨fun m σ H' => ∃ k : Int, σ = [some (.int n), some (.int k)] ∧ H = H' ∧ 2 ≤ k ∧ k ≤ 1000004 ∧ m = (1000004 - k).toNat ∧ ∀ j : Nat, 2 ≤ j → (j : Int) < k → n % (j : Int) ≠ 0, ⟨_, 2, rfl, rfl, by omega, by omega, rfl, fun j h3 h4 => by omega⟩, ?_⟩
    rintro m σ H' ⟨k, rfl, rfl, hk, hk2, rfl, tried⟩
    refine ⟨_, rfl, _, rfl, _, _, rfl, rfl, .inl ⟨by omega, by omega⟩, _, rfl, _, _, rfl, rfl, _, rfl, ?_⟩
    refine ifD (fun c => ?_) (fun c => ?_)
    · have c3 := sq_le (by omega) c hn
      refine ⟨fun σ' H' => σ' = [some (.int n), some (.int (k + 1))] ∧ H = H' ∧ n % k ≠ 0, ?_, ?_⟩
      · rintro σ' H' ⟨rfl, rfl, z⟩
        refine ⟨_, ?_, k + 1, rfl, rfl, by omega, by omega, rfl, fun j h3 h4 => ?_⟩
        · omega
        · by_cases e : (j : Int) = k
          · rw [e]; exact z
          · exact tried j h3 (by omega)
      · refine ⟨_, rfl, _, rfl, _, _, rfl, rfl, (by omega), rfl, _, rfl, ?_⟩
        refine ifD (fun e => ?_) (fun e => ?_)
        · have e := vint.mp e
          have z : isPr n = false := by
            unfold isPr
            refine decide_eq_false fun h => ?_
            refine h k.toNat ?_ (by omega) ?_ ?_
            · have : k * 1 ≤ k * k := Int.mul_le_mul_of_nonneg_left (by omega) (by omega)
              omega
            · rw [Int.toNat_of_nonneg (by omega)]; exact c
            · rw [Int.toNat_of_nonneg (by omega)]; exact e
          rw [z] at q
          exact q
        · exact ⟨_, rfl, _, _, rfl, rfl, rfl, rfl, fun z => e (vint.mpr z)⟩
    · have z : isPr n = true := by
        unfold isPr
        refine decide_eq_true fun j h3 h4 h5 => ?_
        refine tried j h4 ?_
        refine Classical.byContradiction fun d => c ?_
        have h6 : k * k ≤ (j : Int) * j := Int.mul_le_mul (by omega) (by omega) (by omega) (by omega)
        omega
      rw [z] at q
      exact q
def wideOf (c : Int) : Int := (c + 1) * 742938285 % 2147483647 % 1000000
def spWide : Sp := fun vs H Q _ => ∃ n : Int, vs = [.int n] ∧ Q (.int (wideOf n)) H
theorem ok_wide {f : Addr} {fd : FuncData} (a : At K mg "_law_wide" s__law_wide ["_law_cell"] f fd) : Has P w K mg base CX0 1 "_law_wide" ["_law_cell"] spWide := by
  refine a.has (okG a.fn sc__law_wide (fun vs H Q E h => ?_) (fun cdv A outer s H vs Q E hr h => ?_))
  · obtain ⟨_, rfl, _⟩ := h
    rfl
  · obtain ⟨n, rfl, q⟩ := h
    refine ⟨_, (pss_one (ps_ret (pe_op op_mod (pe_op op_mod (pe_op op_mul (pe_op op_add (pv 0) pe_int) pe_int) pe_int) pe_int))), ?_⟩
    exact ⟨_, rfl, _, _, rfl, rfl, _, _, rfl, rfl, .inr ⟨by decide, by decide⟩, _, _, rfl, rfl, (by show (0 : Int) < 2147483647; decide), _, _, rfl, rfl, (by show (0 : Int) < 1000000; decide), q⟩
/-- the prime that a cell names: one of the twelve, or the first from a number on -/
def spPrime : Sp := fun vs H Q _ => ∃ n : Int, vs = [.int n] ∧ ∀ (p : Int) (H' : Hp), Law p → Same H H' → Q (.int p) H'
theorem pr_items {l : List Int} (h : ∀ x, x ∈ l → Law x) {j : Nat} (hj : j < l.length) : Law (gd l j) := h _ (gd_mem hj)
theorem law_of {p : Nat} (h : PrN p) (hl : p ≤ 2305843009213693951) : Law (p : Int) := ⟨h.pr, by omega⟩
theorem pr_first : ∀ x, x ∈ ([2, 3, 5, 7] : List Int) → Law x := by
  intro x hx
  simp only [List.mem_cons, List.not_mem_nil, or_false] at hx
  rcases hx with rfl | rfl | rfl | rfl
  · exact law_of pr2 (by decide)
  · exact law_of pr3 (by decide)
  · exact law_of pr5 (by decide)
  · exact law_of pr7 (by decide)
theorem pr_great : ∀ x, x ∈ ([65537, 998244353, 1000000007, 2147483647, 999999999989, 1000000000039, 1000000000000000009, 2305843009213693951] : List Int) → Law x := by
  intro x hx
  simp only [List.mem_cons, List.not_mem_nil, or_false] at hx
  rcases hx with rfl | rfl | rfl | rfl | rfl | rfl | rfl | rfl
  · exact law_of prA (by decide)
  · exact law_of prB (by decide)
  · exact law_of prC (by decide)
  · exact law_of prD (by decide)
  · exact law_of prE (by decide)
  · exact law_of prF (by decide)
  · exact law_of prG (by decide)
  · exact law_of prH (by decide)
theorem ok_prime {f : Addr} {fd : FuncData} (a : At K mg "_law_prime" s__law_prime ["_law_cell"] f fd) (h__law_wide : Has P w K mg base CX0 1 "_law_wide" ["_law_cell"] spWide) (h__law_is_prime : Has P w K mg base CX0 1 "_law_is_prime" ["_law_number"] spIsPr) :
    Has P w K mg base CX0 2 "_law_prime" ["_law_cell"] spPrime := by
  refine a.has (okG a.fn sc__law_prime (fun vs H Q E h => ?_) (fun cdv A outer s H vs Q E hr h => ?_))
  · obtain ⟨_, rfl, _⟩ := h
    rfl
  · obtain ⟨n, rfl, q⟩ := h
    refine ⟨_, (pss_cons (ps_if (pt_cmpR op_eq (pe_op op_mod (pv 0) pe_int) pe_int (nomark _)) (pss_one (ps_ret (pe_ix ix_list (pe_lst (pa_cons pe_int (pa_cons pe_int (pa_cons pe_int (pa_cons pe_int pa_nil))))) (pe_op op_mod (pe_op op_fdiv (pv 0) pe_int) pe_int) (fun _ _ => rfl)))) pss_nil)
      (pss_cons (ps_if (pt_cmpR op_eq (pe_op op_mod (pv 0) pe_int) pe_int (nomark _)) (pss_one (ps_ret (pe_ix ix_list (pe_lst (pa_cons pe_int (pa_cons pe_int (pa_cons pe_int (pa_cons pe_int (pa_cons pe_int (pa_cons pe_int (pa_cons pe_int (pa_cons pe_int pa_nil))))))))) (pe_op op_mod (pe_op op_fdiv (pv 0) pe_int) pe_int) (fun _ _ => rfl)))) pss_nil)
      (pss_cons (ps_set (i := 1) sc__law_prime.nd rfl (Or.inl rfl) (pe_op op_add pe_int (pe_op op_mod (pe_op op_fdiv (pv 0) pe_int) pe_int)))
      (pss_cons (ps_if (pt_cmpR op_eq (pe_op op_mod (pv 0) pe_int) pe_int (nomark _)) (pss_one (ps_set (i := 1) sc__law_prime.nd rfl (Or.inl rfl) (pe_op op_add pe_int (pe_has h__law_wide (hr.mono (by decide)) pass0 (pa_cons (pv 0) pa_nil))))) pss_nil)
      (pss_cons (ps_while (passes_of rfl) (pt_not (pt_val (pe_has h__law_is_prime (hr.mono (by decide)) pass0 (pa_cons (pv 1) pa_nil)))) (pss_one (ps_set (i := 1) sc__law_prime.nd rfl (Or.inl rfl) (pe_op op_add (pv 1) pe_int))))
      (pss_one (ps_ret (pv 1)))))))), ?_⟩
    have six : (0 : Int) < 6 := by decide
    have dsix : (0 : Int) < 6 ∧ (6 : Int) < 1073741824 := by decide
    refine ⟨_, rfl, _, _, rfl, rfl, six, rfl, _, rfl, ?_⟩
    refine ifD (fun _ => ?_) (fun _ => ?_)
    · refine ⟨(by show 4 ≤ sizeLine; decide), fun l hl => ?_⟩
      refine ⟨_, rfl, _, _, rfl, rfl, dsix, _, _, rfl, rfl, (by show (0 : Int) < 4; decide), l, [2, 3, 5, 7].map V.int, _, _, rfl, rfl, SqL.of upd_same, at_map (j := (n / 6 % 4).toNat) (by omega) (by show _ < 4; omega), ?_⟩
      exact q _ _ (pr_items pr_first (by show _ < 4; omega)) (Same.new hl)
    refine ⟨_, rfl, _, _, rfl, rfl, six, rfl, _, rfl, ?_⟩
    refine ifD (fun _ => ?_) (fun _ => ?_)
    · refine ⟨(by show 8 ≤ sizeLine; decide), fun l hl => ?_⟩
      refine ⟨_, rfl, _, _, rfl, rfl, dsix, _, _, rfl, rfl, (by show (0 : Int) < 8; decide), l, [65537, 998244353, 1000000007, 2147483647, 999999999989, 1000000000039, 1000000000000000009, 2305843009213693951].map V.int, _, _, rfl, rfl, SqL.of upd_same, at_map (j := (n / 6 % 8).toNat) (by omega) (by show _ < 8; omega), ?_⟩
      exact q _ _ (pr_items pr_great (by show _ < 8; omega)) (Same.new hl)
    -- the search
    have search : ∀ m0 : Int, 2 ≤ m0 → m0 ≤ 1000003 → ∀ D : Ends, (∀ (m : Int) (σ : L2.St), σ = [some (.int n), some (.int m)] → Law m → D.nx σ H) →
        tWhile (tNot (tB (tCall spIsPr [] E0 (tCons (tVar 1) tNil)))) (tAsg (tOp (rI0 fun i j => .int (i + j)) (tVar 1) (tC (.int 1))) (gName 1)) D [some (.int n), some (.int m0)] H := by
      intro m0 h2 h3 D hD
      refine ⟨fun m σ H' => ∃ k : Int, σ = [some (.int n), some (.int k)] ∧ H = H' ∧ 2 ≤ k ∧ k ≤ 1000003 ∧ m = (1000003 - k).toNat, ⟨_, m0, rfl, rfl, h2, h3, rfl⟩, ?_⟩
      rintro m σ H' ⟨k, rfl, rfl, hk, hk2, rfl⟩
      refine ⟨_, rfl, k, rfl, hk, hk2, _, rfl, ?_⟩
      refine ifB (fun c => ?_) (fun c => ?_)
      · have c : isPr k = false := by
          cases e : isPr k with
          | false => rfl
          | true => rw [e] at c; exact absurd c (by decide)
        have hz : k ≠ 1000003 := fun e => by
          have := (isPr_iff hk).mpr (by rw [e]; exact prZ.pr)
          rw [c] at this; exact absurd this (by decide)
        refine ⟨fun σ' H' => σ' = [some (.int n), some (.int (k + 1))] ∧ H = H', ?_, ?_⟩
        · rintro σ' H' ⟨rfl, rfl⟩
          exact ⟨_, by omega, k + 1, rfl, rfl, by omega, by omega, rfl⟩
        · exact ⟨_, rfl, _, _, rfl, rfl, rfl, rfl⟩
      · have c : isPr k = true := by
          cases e : isPr k with
          | true => rfl
          | false => rw [e] at c; exact absurd c (by decide)
        exact hD k _ rfl ⟨(isPr_iff hk).mp c, by omega⟩
    refine ⟨_, rfl, _, _, rfl, rfl, dsix, _, _, rfl, rfl, (by show (0 : Int) < 1200; decide), _, _, rfl, rfl, ?_⟩
    refine ⟨_, rfl, _, _, rfl, rfl, six, rfl, _, rfl, ?_⟩
    refine ifD (fun _ => ?_) (fun _ => ?_)
    · refine ⟨_, rfl, n, rfl, _, _, rfl, rfl, ?_⟩
      have w0 : 0 ≤ wideOf n ∧ wideOf n < 1000000 := by unfold wideOf; omega
      refine search (2 + wideOf n) (by omega) (by omega) _ fun m σ e hm => ?_
      subst e
      exact ⟨_, rfl, q _ _ hm fun _ _ z => z⟩
    · refine search (2 + n / 6 % 1200) (by omega) (by omega) _ fun m σ e hm => ?_
      subst e
      exact ⟨_, rfl, q _ _ hm fun _ _ z => z⟩
/-! ### numbers drawn from the script -/
def mixedOf (c : Int) (k : Nat) : Int := (c + 1) * gd [48271, 69621, 16807, 39373] k % 2147483647
theorem mixedOf_nonneg (c : Int) (k : Nat) : 0 ≤ mixedOf c k := Int.emod_nonneg _ (by decide)
def spMixed : Sp := fun vs H Q _ => ∃ (c : Int) (k : Nat), vs = [.int c, .int (k : Int)] ∧ k < 4 ∧ ∀ H', Same H H' → Q (.int (mixedOf c k)) H'
theorem mixed_bound : ∀ k : Nat, k < 4 → -(2 ^ 64) < gd [48271, 69621, 16807, 39373] k ∧ gd [48271, 69621, 16807, 39373] k < 2 ^ 64 := by decide
theorem ok_mixed {f : Addr} {fd : FuncData} (a : At K mg "_law_mixed" s__law_mixed ["_law_cell", "_law_k"] f fd) : Has P w K mg base CX0 1 "_law_mixed" ["_law_cell", "_law_k"] spMixed := by
  refine a.has (okG a.fn sc__law_mixed (fun vs H Q E h => ?_) (fun cdv A outer s H vs Q E hr h => ?_))
  · obtain ⟨_, _, rfl, _⟩ := h
    rfl
  · obtain ⟨c, k, rfl, hk, q⟩ := h
    refine ⟨_, (pss_one (ps_ret (pe_op op_mod (pe_op op_mul (pe_op op_add (pv 0) pe_int) (pe_ix ix_list (pe_lst (pa_cons pe_int (pa_cons pe_int (pa_cons pe_int (pa_cons pe_int pa_nil))))) (pv 1) (fun _ _ => rfl))) pe_int))), ?_⟩
    refine ⟨_, rfl, _, _, rfl, rfl, (by show 4 ≤ sizeLine; decide), fun l hl => ?_⟩
    refine ⟨_, rfl, l, [48271, 69621, 16807, 39373].map V.int, _, _, rfl, rfl, SqL.of upd_same, at_map (j := k) rfl hk, ?_⟩
    exact ⟨_, _, rfl, rfl, .inr (mixed_bound k hk), _, _, rfl, rfl, (by show (0 : Int) < 2147483647; decide), q _ (Same.new hl)⟩
/-! ### what a rule tells, walked by the law -/
def spTells (K : PySem.W.Frag) : Sp := fun vs H Q _ => ∃ (a b : Addr) (rule row : List Int) (n : Nat) (p : Int), vs = [.ref a, .ref b, .int (n : Int), .int p] ∧ SqL K H a (rule.map V.int) ∧ SqL K H b (row.map V.int) ∧ Law p ∧ Rests p rule ∧ rule.length ≤ 1000 ∧ rule.length ≤ n ∧ n ≤ row.length ∧ Q (.int (due p rule row n)) H
theorem ok_tells {f : Addr} {fd : FuncData} (T : Bt mg) (a : At K mg "_law_tells" s__law_tells ["_law_rule", "_law_row", "_law_place", "_law_prime_here"] f fd) : Has P w K mg base CX0 1 "_law_tells" ["_law_rule", "_law_row", "_law_place", "_law_prime_here"] (spTells K) := by
  refine a.has (okG a.fn sc__law_tells (fun vs H Q E h => ?_) (fun cdv A outer s H vs Q E hr h => ?_))
  · obtain ⟨_, _, _, _, _, _, rfl, _⟩ := h
    rfl
  · obtain ⟨la, lb, rule, row, n, p, rfl, ha, hb, ⟨hp, hpl⟩, hrr, h1000, hn1, hn2, q⟩ := h
    have p0 : (0 : Int) < p := by have := hp.1; omega
    refine ⟨_, (pss_cons (ps_set (i := 4) sc__law_tells.nd rfl (Or.inl rfl) pe_int)
      (pss_cons (ps_for (passes_of rfl) rfl (pi_range1 rfl T.b_range (pa_cons (pe_callB call_len_seq (by rfl) T.b_len PySem.boot_len (pa_cons (pv 0) pa_nil)) pa_nil)) (pg_name (i := 5) sc__law_tells.nd rfl (Or.inl rfl)) (pss_one (ps_set (i := 4) sc__law_tells.nd rfl (Or.inl rfl) (pe_op op_add (pv 4) (pe_op op_mul (pe_ix ix_list (pv 0) (pv 5) (fun _ _ => rfl)) (pe_ix ix_list (pv 1) (pe_op op_sub (pe_op op_sub (pv 2) pe_int) (pv 5)) (fun _ _ => rfl)))))))
      (pss_one (ps_ret (pe_op op_mod (pv 4) (pv 3)))))), ?_⟩
    refine ⟨_, rfl, la, _, rfl, .inl ha, _, rfl, (by rw [List.length_map]; omega), (by rw [List.length_map]; omega), for_range (n := (rule.map V.int).length) (fun i σ H' => ∃ v : Option V, σ = [some (.ref la), some (.ref lb), some (.int (n : Int)), some (.int p), some (.int (sm i fun k => gd rule k * gd row (n - 1 - k))), v] ∧ H = H') ⟨none, rfl, rfl⟩ ?_ ?_⟩
    · rintro i σ H' hi ⟨v, rfl, rfl⟩
      rw [List.length_map] at hi
      refine ⟨_, rfl, _, rfl, _, rfl, la, _, _, _, rfl, rfl, ha, at_map (j := i) (by omega) hi, ?_⟩
      refine ⟨_, rfl, _, rfl, _, _, rfl, rfl, _, rfl, _, _, rfl, rfl, lb, _, _, _, rfl, rfl, hb, at_map (j := n - 1 - i) (by omega) (by omega), ?_⟩
      refine ⟨_, _, rfl, rfl, .inl (bound64 (hrr.gd p0 i).1 (hrr.gd p0 i).2 hpl), _, _, rfl, rfl, ?_⟩
      exact ⟨_, rfl, rfl⟩
    · rintro σ H' ⟨v, rfl, rfl⟩
      rw [List.length_map]
      exact ⟨_, rfl, _, rfl, _, _, rfl, rfl, p0, q⟩
/-! ### the kinds of an error -/
/-- the four kinds, at their addresses -/
structure Kinds (K : PySem.W.Frag) (mg : Str → Option Value) (Ci Cr Cs Cp : Addr) : Prop where
  i : mg "NoInverse" = some (.ref Ci)
  r : mg "NoRest" = some (.ref Cr)
  s : mg "NoStart" = some (.ref Cs)
  p : mg "NoPlace" = some (.ref Cp)
/-- which of the four the class C is -/
structure IsKind (K : PySem.W.Frag) (Ci Cr Cs Cp C : Addr) (bi br bs bp : Bool) : Prop where
  e : ExcC K C
  v : PySem.W.kitOne K (.ref C) (.type "ValueError") = some true
  i : PySem.W.kitOne K (.ref C) (.ref Ci) = some bi
  r : PySem.W.kitOne K (.ref C) (.ref Cr) = some br
  s : PySem.W.kitOne K (.ref C) (.ref Cs) = some bs
  p : PySem.W.kitOne K (.ref C) (.ref Cp) = some bp
def spKinds (K : PySem.W.Frag) (Ci Cr Cs Cp : Addr) : Addr → Addr → Sp := fun C a vs H Q _ => vs = [.ref a] ∧ ∃ bi br bs bp, IsKind K Ci Cr Cs Cp C bi br bs bp ∧ ∀ (H' : Hp) (q : Addr), Same H H' → H' q = some (.lst ([bi, br, bs, bp].map V.bl)) → Q (.ref q) H'
theorem ok_kinds {f Ci Cr Cs Cp : Addr} {fd : FuncData} (T : Bt mg) (XK : Kinds K mg Ci Cr Cs Cp) (a : At K mg "_law_kinds" s__law_kinds ["_law_error"] f fd) : HasE P w K mg base 1 "_law_kinds" ["_law_error"] (spKinds K Ci Cr Cs Cp) := by
  refine a.hasE (okE a.fn sc__law_kinds (fun C a vs H Q E h => ?_) (fun C p hz hf cdv A outer s H vs Q E hr h => ?_))
  · obtain ⟨rfl, _⟩ := h
    rfl
  · obtain ⟨rfl, bi, br, bs, bp, k, q⟩ := h
    refine ⟨_, (pss_cons (ps_set (i := 1) sc__law_kinds.nd rfl (Or.inl rfl) (pe_lst (pa_cons (pe_callB (call_isP List.mem_cons_self hz hf) (by rfl) T.b_isinstance (by decide +kernel) (pa_cons (pv 0) (pa_cons (pe_glob (v := .ref _) rfl XK.i rfl) pa_nil))) (pa_cons (pe_callB (call_isP List.mem_cons_self hz hf) (by rfl) T.b_isinstance (by decide +kernel) (pa_cons (pv 0) (pa_cons (pe_glob (v := .ref _) rfl XK.r rfl) pa_nil))) pa_nil))))
      (pss_one (ps_ret (pe_op op_cat (pv 1) (pe_lst (pa_cons (pe_callB (call_isP List.mem_cons_self hz hf) (by rfl) T.b_isinstance (by decide +kernel) (pa_cons (pv 0) (pa_cons (pe_glob (v := .ref _) rfl XK.s rfl) pa_nil))) (pa_cons (pe_callB (call_isP List.mem_cons_self hz hf) (by rfl) T.b_isinstance (by decide +kernel) (pa_cons (pv 0) (pa_cons (pe_glob (v := .ref _) rfl XK.p rfl) pa_nil))) pa_nil))))))), ?_⟩
    refine ⟨_, rfl, C, _, _, bi, rfl, rfl, k.e, rfl, fun _ h => h, k.i, _, rfl, C, _, _, br, rfl, rfl, k.e, rfl, fun _ h => h, k.r, (by show 2 ≤ sizeLine; decide), fun l hl => ?_⟩
    refine ⟨_, rfl, _, rfl, C, _, _, bs, rfl, rfl, k.e, rfl, fun _ h => h, k.s, _, rfl, C, _, _, bp, rfl, rfl, k.e, rfl, fun _ h => h, k.p, (by show 2 ≤ sizeLine; decide), fun m hm => ?_⟩
    have nlm : l ≠ m := ne_of_none upd_same hm
    refine ⟨l, m, _, _, rfl, rfl, (by rw [upd_ne nlm]; exact upd_same), upd_same, (by show 4 ≤ sizeLine; decide), fun q' hq => ?_⟩
    have s1 : Same H (upd H l (.lst [V.bl bi, V.bl br])) := Same.new hl
    have s2 := L2.Same.trans s1 (Same.new hm (o := .lst [V.bl bs, V.bl bp]))
    exact q _ _ (L2.Same.trans s2 (Same.new hq)) upd_same
theorem eqv_bls (a b c d e f g h : Bool) : PyData.eqv (dBls [a, b, c, d]) (dBls [e, f, g, h]) = (a == e && (b == f && (c == g && (d == h && true)))) := by
  simp [dBls, PyData.eqv, PyData.eqvAll]
theorem shaped_bls (a b c d : Bool) : SeqAt.shaped (dBls [a, b, c, d]) = true := by
  simp [dBls, SeqAt.shaped, PyData.canLay0, PyData.canLayAll0, PyData.depth, PyData.depthAll]
/-! ### inverse -/
def spInv (C : Addr) : Sp := fun vs H Q E => ∃ a p : Int, vs = [.int a, .int p] ∧ Law p ∧ (p ∣ a → E (.ref C) none H) ∧ (¬ p ∣ a → Q (.int (inv p a)) H)
theorem ok_inverse {f C : Addr} {fd : FuncData} (a : At K mg "inverse" s_inverse ["number", "prime"] f fd) (XT_NoInverse : XC K mg "NoInverse" C) : Has P w K mg base (L2N.CX P w) 1 "inverse" ["number", "prime"] (spInv C) := by
  refine a.has (okG a.fn sc_inverse (fun vs H Q E h => ?_) (fun cdv A outer s H vs Q E hr h => ?_))
  · obtain ⟨_, _, rfl, _⟩ := h
    rfl
  · obtain ⟨x, p, rfl, ⟨hp, hpl⟩, kE, kQ⟩ := h
    have h2 := hp.1
    have p0 : (0 : Int) < p := by omega
    refine ⟨_, (pss_cons (ps_if (pt_cmpR op_eq (pe_op op_mod (pv 0) (pv 1)) pe_int (nomark _)) (pss_one (L2N.ps_raise rfl (L2N.takes_of rfl rfl rfl rfl) (L2N.pmk_own PySem.F.excBase_ValueError XT_NoInverse.x XT_NoInverse.g XT_NoInverse.k (raises_own XT_NoInverse.b XT_NoInverse.t) rfl))) pss_nil)
      (pss_cons (ps_set (i := 2) sc_inverse.nd rfl (Or.inl rfl) (pv 1))
      (pss_cons (ps_set (i := 3) sc_inverse.nd rfl (Or.inl rfl) (pe_op op_mod (pv 0) (pv 1)))
      (pss_cons (ps_set (i := 4) sc_inverse.nd rfl (Or.inl rfl) pe_int)
      (pss_cons (ps_set (i := 5) sc_inverse.nd rfl (Or.inl rfl) pe_int)
      (pss_cons (ps_while (passes_of rfl) (pt_cmpR op_ne (pv 3) pe_int (nomark _)) (pss_cons (ps_set (i := 6) sc_inverse.nd rfl (Or.inl rfl) (pe_op op_fdivW (pv 2) (pv 3)))
      (pss_cons (ps_set (i := 7) sc_inverse.nd rfl (Or.inl rfl) (pe_op op_sub (pv 2) (pe_op op_mul (pv 6) (pv 3))))
      (pss_cons (ps_set (i := 2) sc_inverse.nd rfl (Or.inl rfl) (pv 3))
      (pss_cons (ps_set (i := 3) sc_inverse.nd rfl (Or.inl rfl) (pv 7))
      (pss_cons (ps_set (i := 8) sc_inverse.nd rfl (Or.inl rfl) (pe_op op_sub (pv 4) (pe_op op_mul (pv 6) (pv 5))))
      (pss_cons (ps_set (i := 4) sc_inverse.nd rfl (Or.inl rfl) (pv 5))
      (pss_one (ps_set (i := 5) sc_inverse.nd rfl (Or.inl rfl) (pv 8))))))))))
      (pss_one (ps_ret (pe_op op_mod (pv 4) (pv 1)))))))))), ?_⟩
    refine ⟨_, rfl, _, rfl, _, _, rfl, rfl, p0, rfl, _, rfl, ?_⟩
    refine ifD (fun c => ?_) (fun c => ?_)
    · exact kE (Int.dvd_of_emod_eq_zero (vint.mp c))
    have nd : ¬ p ∣ x := fun h => c (vint.mpr (Int.emod_eq_zero_of_dvd h))
    refine ⟨_, rfl, _, rfl, _, rfl, _, _, rfl, rfl, p0, ?_⟩
    refine ⟨fun m σ H' => ∃ (left right one two : Int) (v6 v7 v8 : Option V), σ = [some (.int x), some (.int p), some (.int left), some (.int right), some (.int one), some (.int two), v6, v7, v8] ∧ H = H' ∧ Eu p x left right one two ∧ m = right.toNat,
      ⟨_, p, x % p, 0, 1, none, none, none, rfl, rfl, Eu.start h2, rfl⟩, ?_⟩
    rintro m σ H' ⟨left, right, one, two, v6, v7, v8, rfl, rfl, eu, rfl⟩
    have r0 := eu.r0
    have rl := eu.rl
    have lp := eu.lp
    refine ⟨_, rfl, rfl, _, rfl, ?_⟩
    refine ifDN (fun c => ?_) (fun c => ?_)
    · have c : right ≠ 0 := fun z => c (vint.mpr z)
      have t := eu.turn c
      have of := eu.often c
      refine ⟨fun σ' H' => ∃ (v6 v7 v8 : Option V), σ' = [some (.int x), some (.int p), some (.int right), some (.int (left - left / right * right)), some (.int two), some (.int (one - left / right * two)), v6, v7, v8] ∧ H = H', ?_, ?_⟩
      · rintro σ' H' ⟨v6, v7, v8, rfl, rfl⟩
        exact ⟨_, by have := t.rl; have := t.r0; omega, _, _, _, _, v6, v7, v8, rfl, rfl, t, rfl⟩
      · refine ⟨_, rfl, _, rfl, _, _, rfl, rfl, wide_div (b := 64) (by omega) (by omega) (by decide) (by decide), _, rfl, _, rfl, _, rfl, _, _, rfl, rfl, .inl ⟨by omega, by omega⟩, _, _, rfl, rfl, _, rfl, _, rfl, _, rfl, _, rfl, _, rfl, _, _, rfl, rfl, .inl ⟨by omega, by omega⟩, _, _, rfl, rfl, ?_⟩
        exact ⟨_, rfl, _, rfl, _, _, _, rfl, rfl⟩
    · have e : right = 0 := vint.mp c
      subst e
      have z := eu.done hp nd
      refine ⟨_, rfl, _, rfl, _, _, rfl, rfl, p0, ?_⟩
      have q := kQ nd
      rw [inv_eq z] at q
      exact q
/-! ### due -/
def spDue (K : PySem.W.Frag) (C : Addr) : Sp := fun vs H Q E => ∃ (a b : Addr) (rule row : List Int) (i p : Int), vs = [.ref a, .ref b, .int i, .int p] ∧ SqL K H a (rule.map V.int) ∧ SqL K H b (row.map V.int) ∧ Law p ∧ Rests p rule ∧ rule.length ≤ 1000 ∧
  ((i < rule.length ∨ (row.length : Int) < i) → E (.ref C) none H) ∧ (∀ n : Nat, i = (n : Int) → rule.length ≤ n → n ≤ row.length → Q (.int (due p rule row n)) H)
theorem ok_due {f C : Addr} {fd : FuncData} (T : Bt mg) (a : At K mg "due" s_due ["rule", "row", "place", "prime"] f fd) (XT_NoPlace : XC K mg "NoPlace" C) : Has P w K mg base (L2N.CX P w) 1 "due" ["rule", "row", "place", "prime"] (spDue K C) := by
  refine a.has (okG a.fn sc_due (fun vs H Q E h => ?_) (fun cdv A outer s H vs Q E hr h => ?_))
  · obtain ⟨_, _, _, _, _, _, rfl, _⟩ := h
    rfl
  · obtain ⟨la, lb, rule, row, ii, p, rfl, ha, hb, ⟨hp, hpl⟩, hrr, h1000, kE, kQ⟩ := h
    have p0 : (0 : Int) < p := by have := hp.1; omega
    refine ⟨_, (pss_cons (ps_if (PW.pt (pw_or (pt_cmpR op_lt (pv 2) (pe_callB call_len_seq (by rfl) T.b_len PySem.boot_len (pa_cons (pv 0) pa_nil)) (nomark _)) (pw_or1 (pt_cmpR op_gt (pv 2) (pe_callB call_len_seq (by rfl) T.b_len PySem.boot_len (pa_cons (pv 1) pa_nil)) (nomark _))))) (pss_one (L2N.ps_raise rfl (L2N.takes_of rfl rfl rfl rfl) (L2N.pmk_own PySem.F.excBase_ValueError XT_NoPlace.x XT_NoPlace.g XT_NoPlace.k (raises_own XT_NoPlace.b XT_NoPlace.t) rfl))) pss_nil)
      (pss_cons (ps_set (i := 4) sc_due.nd rfl (Or.inl rfl) pe_int)
      (pss_cons (ps_for (passes_of rfl) rfl (pi_range1 rfl T.b_range (pa_cons (pe_callB call_len_seq (by rfl) T.b_len PySem.boot_len (pa_cons (pv 0) pa_nil)) pa_nil)) (pg_name (i := 5) sc_due.nd rfl (Or.inl rfl)) (pss_one (ps_set (i := 4) sc_due.nd rfl (Or.inl rfl) (pe_op op_add (pv 4) (pe_op op_mul (pe_ix ix_list (pv 0) (pv 5) (fun _ _ => rfl)) (pe_ix ix_list (pv 1) (pe_op op_sub (pe_op op_sub (pv 2) pe_int) (pv 5)) (fun _ _ => rfl)))))))
      (pss_one (ps_ret (pe_op op_mod (pv 4) (pv 3))))))), ?_⟩
    refine ⟨_, rfl, _, rfl, la, _, rfl, .inl ha, _, _, rfl, rfl, _, rfl, ?_⟩
    rw [List.length_map]
    refine ifD (fun c => iteT (kE (.inl c))) (fun c => ?_)
    refine ⟨_, rfl, _, rfl, lb, _, rfl, .inl hb, _, _, rfl, rfl, _, rfl, ?_⟩
    rw [List.length_map]
    refine ifD (fun c2 => kE (.inr c2)) (fun c2 => ?_)
    obtain ⟨n, rfl⟩ : ∃ n : Nat, ii = (n : Int) := ⟨ii.toNat, by omega⟩
    have hn1 : rule.length ≤ n := by omega
    have hn2 : n ≤ row.length := by omega
    refine ⟨_, rfl, la, _, rfl, .inl ha, _, rfl, (by rw [List.length_map]; omega), (by rw [List.length_map]; omega), for_range (n := (rule.map V.int).length) (fun i σ H' => ∃ v : Option V, σ = [some (.ref la), some (.ref lb), some (.int (n : Int)), some (.int p), some (.int (sm i fun k => gd rule k * gd row (n - 1 - k))), v] ∧ H = H') ⟨none, rfl, rfl⟩ ?_ ?_⟩
    · rintro i σ H' hi ⟨v, rfl, rfl⟩
      rw [List.length_map] at hi
      refine ⟨_, rfl, _, rfl, _, rfl, la, _, _, _, rfl, rfl, ha, at_map (j := i) (by omega) hi, ?_⟩
      refine ⟨_, rfl, _, rfl, _, _, rfl, rfl, _, rfl, _, _, rfl, rfl, lb, _, _, _, rfl, rfl, hb, at_map (j := n - 1 - i) (by omega) (by omega), ?_⟩
      refine ⟨_, _, rfl, rfl, .inl (bound64 (hrr.gd p0 i).1 (hrr.gd p0 i).2 hpl), _, _, rfl, rfl, ?_⟩
      exact ⟨_, rfl, rfl⟩
    · rintro σ H' ⟨v, rfl, rfl⟩
      rw [List.length_map]
      exact ⟨_, rfl, _, rfl, _, _, rfl, rfl, p0, kQ n rfl hn1 hn2⟩
/-! ### the grower's methods -/
def spInit (C : Addr) : Sp := fun vs H Q _ => ∃ (g dx : Addr) (p : Int), vs = [.ref g, .int p] ∧ H g = some (.ins C dx []) ∧
  ∀ (lr lu le : Addr) (H' : Hp), GrowAt C H' p g lr lu le Gr.new → H lr = none → H lu = none → H le = none → (∀ b o, H b = some o → b ≠ g → H' b = some o) → Q .non H'
theorem ok_init {f C : Addr} {fd : FuncData} (G : GT K C) (F : Fun K "__init__" "Grower.__init__" s_Grower___init__ f fd) : FnOk P w K mg base CX0 1 f fd ["self", "prime"] (spInit C) := by
  refine okG F sc_Grower___init__ (fun vs H Q E h => ?_) (fun cdv A outer s H vs Q E hr h => ?_)
  · obtain ⟨_, _, _, rfl, _⟩ := h
    rfl
  · obtain ⟨g, dx, p, rfl, hg, q⟩ := h
    refine ⟨_, (pss_cons (ps_fld (pv 0) (pv 1) rfl)
      (pss_cons (ps_fld (pv 0) (pe_lst pa_nil) rfl)
      (pss_cons (ps_fld (pv 0) (pe_lst pa_nil) rfl)
      (pss_cons (ps_fld (pv 0) (pe_lst (pa_cons pe_int pa_nil)) rfl)
      (pss_cons (ps_fld (pv 0) pe_int rfl)
      (pss_one (ps_fld (pv 0) pe_non rfl))))))), ?_⟩
    refine ⟨_, rfl, _, rfl, g, C, dx, [], rfl, hg, G.cl, G.prime, (by show 0 < 1000; decide), ?_⟩
    have b1 : (putF "prime" (.int p) ([] : List (Str × V))).length ≤ 1 := len_put (Nat.le_refl 0)
    refine ⟨(by show 0 ≤ sizeLine; decide), fun lr hlr => ?_⟩
    have n1 : g ≠ lr := ne_of_none upd_same hlr
    refine ⟨_, rfl, g, C, dx, _, rfl, (by rw [upd_ne n1]; exact upd_same), G.cl, G.row, (by omega), ?_⟩
    have b2 := len_put (f := "row") (v := .ref lr) b1
    refine ⟨(by show 0 ≤ sizeLine; decide), fun lu hlu => ?_⟩
    have n2 : g ≠ lu := ne_of_none upd_same hlu
    have n3 : lr ≠ lu := ne_of_none (by rw [upd_ne n1.symm]; exact upd_same) hlu
    refine ⟨_, rfl, g, C, dx, _, rfl, (by rw [upd_ne n2]; exact upd_same), G.cl, G.rule, (by omega), ?_⟩
    have b3 := len_put (f := "rule") (v := .ref lu) b2
    refine ⟨(by show 1 ≤ sizeLine; decide), fun le hle => ?_⟩
    have n4 : g ≠ le := ne_of_none upd_same hle
    have n5 : lu ≠ le := ne_of_none (by rw [upd_ne n2.symm]; exact upd_same) hle
    have n6 : lr ≠ le := ne_of_none (by rw [upd_ne n1.symm, upd_ne n3, upd_ne n1.symm]; exact upd_same) hle
    refine ⟨_, rfl, g, C, dx, _, rfl, (by rw [upd_ne n4]; exact upd_same), G.cl, G.elder, (by omega), ?_⟩
    have b4 := len_put (f := "elder") (v := .ref le) b3
    refine ⟨_, rfl, g, C, dx, _, rfl, upd_same, G.cl, G.lack, (by omega), ?_⟩
    have b5 := len_put (f := "lack") (v := .int 1) b4
    refine ⟨_, rfl, g, C, dx, _, rfl, upd_same, G.cl, G.place, (by omega), ?_⟩
    rw [gl_made]
    refine q lr lu le _ ⟨⟨dx, upd_same⟩, ?_, ?_, ?_, n3, n6⟩ ?_ ?_ ?_ fun b o hb hne => ?_
    · rw [upd_ne n1.symm, upd_ne n1.symm, upd_ne n1.symm, upd_ne n6, upd_ne n1.symm, upd_ne n3, upd_ne n1.symm]; exact upd_same
    · rw [upd_ne n2.symm, upd_ne n2.symm, upd_ne n2.symm, upd_ne n5, upd_ne n2.symm]; exact upd_same
    · rw [upd_ne n4.symm, upd_ne n4.symm, upd_ne n4.symm]; exact upd_same
    · rw [upd_ne n1.symm] at hlr
      exact hlr
    · rw [upd_ne n2.symm, upd_ne n3.symm, upd_ne n2.symm] at hlu
      exact hlu
    · rw [upd_ne n4.symm, upd_ne n5.symm, upd_ne n4.symm, upd_ne n6.symm, upd_ne n4.symm] at hle
      exact hle
    · have m1 : b ≠ lr := fun e => by
        rw [e] at hb hne
        rw [upd_ne hne] at hlr
        rw [hb] at hlr; cases hlr
      have m2 : b ≠ lu := fun e => by
        rw [e] at hb hne m1
        rw [upd_ne hne, upd_ne m1, upd_ne hne] at hlu
        rw [hb] at hlu; cases hlu
      have m3 : b ≠ le := fun e => by
        rw [e] at hb hne m1 m2
        rw [upd_ne hne, upd_ne m2, upd_ne hne, upd_ne m1, upd_ne hne] at hle
        rw [hb] at hle; cases hle
      rw [upd_ne hne, upd_ne hne, upd_ne hne, upd_ne m3, upd_ne hne, upd_ne m2, upd_ne hne, upd_ne m1, upd_ne hne]
      exact hb
def spTold (C : Addr) : Sp := fun vs H Q _ => ∃ (g lr lu le : Addr) (p : Int) (st : Gr), vs = [.ref g] ∧ GrowAt C H p g lr lu le st ∧ ∀ (H' : Hp) (q : Addr), H q = none → Same H H' → H' q = some (.lst (st.rule.map V.int)) → Q (.ref q) H'
theorem ok_told {f C : Addr} {fd : FuncData} (T : Bt mg) (G : GT K C) (a : AtM K C "told" "Grower.told" s_Grower_told ["self"] f fd) : HasM P w K mg base CX0 1 C "told" ["self"] (spTold C) := by
  refine a.has (okG a.fn sc_Grower_told (fun vs H Q E h => ?_) (fun cdv A outer s H vs Q E hr h => ?_))
  · obtain ⟨_, _, _, _, _, _, rfl, _⟩ := h
    rfl
  · obtain ⟨g, lr, lu, le, p, st, rfl, ⟨⟨dx, ob⟩, h1, h2, h3, n1, n2⟩, q⟩ := h
    refine ⟨_, (pss_one (ps_ret (pe_callTy (T := "list") call_list_of (by rfl) T.b_list (by decide +kernel) (pa_cons (pe_fld (pv 0) rfl) pa_nil)))), ?_⟩
    exact ⟨_, rfl, g, C, dx, _, _, rfl, ob, G.cl, G.rule, gl_rule _ _ _ _ _ _, lu, _, rfl, .inl (SqL.of h2), fun l hl => q _ l hl (Same.new hl) upd_same⟩
def spMend (C : Addr) : Sp := fun vs H Q _ => ∃ (g lr lu le : Addr) (p x : Int) (st : Gr), vs = [.ref g, .int (st.row.length : Int), .int (st.dis p x)] ∧ GrowAt C H p g lr lu le { st with row := st.row ++ [x] } ∧ Law p ∧ BM p st ∧ st.row.length ≤ 1000 ∧ st.dis p x ≠ 0 ∧
  ∀ (H' : Hp) (lu' le' : Addr), GrowAt C H' p g lr lu' le' (st.put p x) → H lu' = none → (le' = le ∨ H le' = none) → (∀ b o, H b = some o → b ≠ g → H' b = some o) → Q .non H'
theorem ok_mend {f C Ci : Addr} {fd : FuncData} (T : Bt mg) (G : GT K C) (a : AtM K C "mend" "Grower.mend" s_Grower_mend ["self", "place", "lack"] f fd) (h_inverse : Has P w K mg base (L2N.CX P w) 1 "inverse" ["number", "prime"] (spInv Ci)) : HasM P w K mg base CX0 2 C "mend" ["self", "place", "lack"] (spMend C) := by
  refine a.has (okG a.fn sc_Grower_mend (fun vs H Q E h => ?_) (fun cdv A outer s H vs Q E hr h => ?_))
  · obtain ⟨_, _, _, _, _, _, _, rfl, _⟩ := h
    rfl
  · obtain ⟨g, lr, lu, le, p, x, st, rfl, ⟨⟨dx, ob⟩, h1, h2, h3, n1, n2⟩, lw, bm, hlen, hd, q⟩ := h
    have ob : H g = some (.ins C dx (gl p lr lu le st.lack st.place)) := ob
    have h1 : H lr = some (.lst ((st.row ++ [x]).map V.int)) := h1
    have h2 : H lu = some (.lst (st.rule.map V.int)) := h2
    have h3 : H le = some (.lst (st.elder.map V.int)) := h3
    obtain ⟨hp, hpl⟩ := id lw
    have hp2 := hp.1
    have p0 : (0 : Int) < p := by omega
    have dr := dis_rest p0 st x
    have lk := bm.lack
    have il := inv_is hp (not_dvd_rest lk.1 lk.2)
    have bl := bm.len
    have bg := bm.gap
    have be := bm.elder
    refine ⟨_, (pss_cons (ps_set (i := 3) sc_Grower_mend.nd rfl (Or.inl rfl) (pe_op op_mul (pv 2) (pe_has h_inverse (hr.mono (by decide)) passN (pa_cons (pe_fld (pv 0) rfl) (pa_cons (pe_fld (pv 0) rfl) pa_nil)))))
      (pss_cons (ps_set (i := 4) sc_Grower_mend.nd rfl (Or.inl rfl) (pe_op op_add (pv 1) pe_int))
      (C8.pss_cut (ps_if (pt_cmpR op_notN (pe_fld (pv 0) rfl) pe_non (nomark _)) (pss_one (ps_set (i := 4) sc_Grower_mend.nd rfl (Or.inl rfl) (pe_op op_sub (pv 1) (pe_fld (pv 0) rfl)))) pss_nil)
      (pss_cons (ps_set (i := 5) sc_Grower_mend.nd rfl (Or.inl rfl) (pe_op op_cat (pe_lst (pa_cons pe_int pa_nil)) (pe_lc (own := [("weight", 9)]) (g := gName 9) (tt := tYes) rfl sc_Grower_mend.nd (pi_list (pe_fld (pv 0) rfl)) (blkOk_by (N := ["self", "place", "lack", "often", "gap", "ahead", "size", "mended", "k", "weight"]) (sc := defScope s_Grower_mend) (by decide +kernel)) (fun _ _ _ _ _ => pg_name (i := 9) sc_Grower_mend.nd rfl (Or.inl rfl)) (fun _ _ _ _ _ => pts_nil) (fun _ _ _ _ _ => (pe_un un_neg (pv 9))))))
      (pss_cons (ps_set (i := 6) sc_Grower_mend.nd rfl (Or.inl rfl) (pe_callB call_len_seq (by rfl) T.b_len PySem.boot_len (pa_cons (pe_fld (pv 0) rfl) pa_nil)))
      (C8.pss_cut (ps_if (pt_cmpR op_le (pe_op op_mul pe_int (pv 6)) (pv 1) (nomark _)) (pss_one (ps_set (i := 6) sc_Grower_mend.nd rfl (Or.inl rfl) (pe_op op_sub (pe_op op_add (pv 1) pe_int) (pv 6)))) pss_nil)
      (pss_cons (ps_set (i := 7) sc_Grower_mend.nd rfl (Or.inl rfl) (pe_op op_cat (pv 5) (pe_op op_rep (pe_lst (pa_cons pe_int pa_nil)) (pe_op op_sub (pe_op op_add (pv 6) pe_int) (pe_callB call_len_seq (by rfl) T.b_len PySem.boot_len (pa_cons (pv 5) pa_nil))))))
      (pss_cons (ps_for (passes_of rfl) rfl (pi_range1 rfl T.b_range (pa_cons (pe_callB call_len_seq (by rfl) T.b_len PySem.boot_len (pa_cons (pe_fld (pv 0) rfl) pa_nil)) pa_nil)) (pg_name (i := 8) sc_Grower_mend.nd rfl (Or.inl rfl)) (pss_one (ps_asg (pe_op op_sub (pe_ix ix_list (pv 7) (pe_op op_add (pv 4) (pv 8)) (fun _ _ => rfl)) (pe_op op_mul (pv 3) (pe_ix ix_list (pe_fld (pv 0) rfl) (pv 8) (fun _ _ => rfl)))) (pg_sub (pv 7) (pe_op op_add (pv 4) (pv 8)) set_list))))
      (C8.pss_cut (ps_if (pt_cmpR op_gt (pv 6) (pe_callB call_len_seq (by rfl) T.b_len PySem.boot_len (pa_cons (pe_fld (pv 0) rfl) pa_nil)) (nomark _)) (pss_cons (ps_fld (pv 0) (pe_lc (own := [("weight", 9)]) (g := gName 9) (tt := tYes) rfl sc_Grower_mend.nd (pi_list (pv 5)) (blkOk_by (N := ["self", "place", "lack", "often", "gap", "ahead", "size", "mended", "k", "weight"]) (sc := defScope s_Grower_mend) (by decide +kernel)) (fun _ _ _ _ _ => pg_name (i := 9) sc_Grower_mend.nd rfl (Or.inl rfl)) (fun _ _ _ _ _ => pts_nil) (fun _ _ _ _ _ => (pe_op op_mod (pv 9) (pe_fldK (K := K) rfl (pv 0) rfl)))) rfl)
      (pss_cons (ps_fld (pv 0) (pv 2) rfl)
      (pss_one (ps_fld (pv 0) (pv 1) rfl)))) pss_nil)
      (pss_one (ps_fld (pv 0) (pe_lc (own := [("weight", 9)]) (g := gName 9) (tt := tYes) rfl sc_Grower_mend.nd (pi_list (pe_slice sl_list (pv 7) (po_some pe_int) po_none)) (blkOk_by (N := ["self", "place", "lack", "often", "gap", "ahead", "size", "mended", "k", "weight"]) (sc := defScope s_Grower_mend) (by decide +kernel)) (fun _ _ _ _ _ => pg_name (i := 9) sc_Grower_mend.nd rfl (Or.inl rfl)) (fun _ _ _ _ _ => pts_nil) (fun _ _ _ _ _ => (pe_op op_mod (pe_un un_neg (pv 9)) (pe_fldK (K := K) rfl (pv 0) rfl)))) rfl))))))))))), ?_⟩
    -- often
    refine ⟨_, rfl, _, rfl, g, C, dx, _, _, rfl, ob, G.cl, G.lack, gl_lack _ _ _ _ _ _, _, rfl, g, C, dx, _, _, rfl, ob, G.cl, G.prime, gl_prime _ _ _ _ _ _, st.lack, p, rfl, lw, fun z => absurd z (not_dvd_rest lk.1 lk.2), fun _ => ⟨_, _, rfl, rfl, .inl ⟨by omega, by omega⟩, ?_⟩⟩
    -- gap
    refine ⟨_, rfl, _, _, rfl, rfl, ?_⟩
    refine ⟨fun σ H' => H = H' ∧ σ = [some (.ref g), some (.int (st.row.length : Int)), some (.int (st.dis p x)), some (.int (st.dis p x * inv p st.lack)), some (.int (gapOf st.place st.row.length : Int)), none, none, none, none, none], ?_, ?_⟩
    · refine ⟨_, rfl, g, C, dx, _, _, rfl, ob, G.cl, G.place, gl_place _ _ _ _ _ _, rfl, _, rfl, ?_⟩
      cases e : st.place with
      | none => exact iteF ⟨rfl, rfl⟩
      | some n =>
        have som := bm.som n e
        refine iteT ⟨_, rfl, _, rfl, g, C, dx, _, _, rfl, ob, G.cl, G.place, (by rw [gl_place, e]; rfl), _, _, rfl, rfl, rfl, ?_⟩
        have z : ((gapOf (some n) st.row.length : Nat) : Int) = (st.row.length : Int) - n := by
          show ((st.row.length - n : Nat) : Int) = _
          omega
        rw [z]
        rfl
    rintro σ H' ⟨rfl, rfl⟩
    -- ahead
    refine ⟨(by show 1 ≤ sizeLine; decide), fun l1 hl1 => ?_⟩
    have s1 : Same H (upd H l1 (.lst [V.int 1])) := Same.new hl1
    refine ⟨_, rfl, g, C, dx, _, _, rfl, s1 _ _ ob, G.cl, G.rule, gl_rule _ _ _ _ _ _, lu, rfl, ⟨_, SqL.of (s1 _ _ h2)⟩, fun l2 hl2 => lc_list (K := K) (a := lu) (xs := st.rule.map V.int) (fun i H' => Same (upd H l1 (.lst [V.int 1])) H' ∧ H' l2 = some (.lst (((st.rule.take i).map fun w => -w).map V.int))) ⟨Same.new hl2, upd_same⟩
      (fun i H' _ ⟨s2, _⟩ => SqL.of (s2 _ _ (s1 _ _ h2))) ?_ ?_⟩
    · rintro i y H' hy ⟨s2, k2⟩
      have hi : i < st.rule.length := by
        have := (List.getElem?_eq_some_iff.mp hy).1
        rw [List.length_map] at this
        exact this
      rw [get_map hi] at hy
      obtain rfl := (Option.some.inj hy).symm
      refine ⟨rfl, lc_turn ⟨_, rfl, _, rfl, _, k2, ?_, ?_, ?_⟩⟩
      · rw [List.length_map, List.length_map, List.length_take]; exact len_lt (by omega)
      · exact Same.upd_back s2 hl2
      · rw [upd_same, map_app1, map_take_succ hi]
    rintro H1 ⟨s2, k2⟩
    rw [List.length_map, List.take_length] at k2
    have n12 : l1 ≠ l2 := ne_of_none upd_same hl2
    refine ⟨l1, l2, [V.int 1], _, rfl, rfl, s2 _ _ upd_same, k2, ?_, fun la hla => ?_⟩
    · rw [List.length_map, List.length_map]; exact len_small (by show 1 + _ ≤ _; omega)
    have s3 : Same H (upd H1 la (.lst ([V.int 1] ++ (st.rule.map fun w => -w).map V.int))) := (s1.trans s2).trans (Same.new hla)
    have k3 : (upd H1 la (.lst ([V.int 1] ++ (st.rule.map fun w => -w).map V.int))) la = some (.lst ((ahead st.rule).map V.int)) := upd_same
    have hla0 : H la = none := (s1.trans s2).free hla
    generalize (upd H1 la (.lst ([V.int 1] ++ (st.rule.map fun w => -w).map V.int))) = H2 at s3 k3 ⊢
    -- size
    refine ⟨_, rfl, g, C, dx, _, _, rfl, s3 _ _ ob, G.cl, G.rule, gl_rule _ _ _ _ _ _, lu, _, rfl, .inl (SqL.of (s3 _ _ h2)), ?_⟩
    rw [List.length_map]
    refine ⟨fun σ H' => H2 = H' ∧ σ = [some (.ref g), some (.int (st.row.length : Int)), some (.int (st.dis p x)), some (.int (st.dis p x * inv p st.lack)), some (.int (gapOf st.place st.row.length : Int)), some (.ref la), some (.int (sizeOf' st.rule.length st.row.length : Int)), none, none, none], ?_, ?_⟩
    · refine ⟨_, rfl, _, _, rfl, rfl, .inl ⟨by decide, by decide⟩, _, rfl, _, _, rfl, rfl, _, rfl, ifD (fun c => ?_) (fun c => ?_)⟩
      · have c : 2 * (st.rule.length : Int) ≤ st.row.length := c
        refine ⟨_, rfl, _, _, rfl, rfl, _, rfl, _, _, rfl, rfl, rfl, ?_⟩
        have z : ((sizeOf' st.rule.length st.row.length : Nat) : Int) = (st.row.length : Int) + 1 - st.rule.length := by
          unfold sizeOf'
          rw [if_pos (by omega)]
          omega
        rw [z]
        rfl
      · have c : ¬ 2 * (st.rule.length : Int) ≤ st.row.length := c
        refine ⟨rfl, ?_⟩
        have z : sizeOf' st.rule.length st.row.length = st.rule.length := by
          unfold sizeOf'
          rw [if_neg (by omega)]
        rw [z]
        rfl
    rintro σ H' ⟨rfl, rfl⟩
    have sg := sizeOf'_ge st.rule.length st.row.length
    have sm1000 : sizeOf' st.rule.length st.row.length ≤ 1001 := by unfold sizeOf'; split <;> omega
    have al := ahead_len st.rule
    -- mended
    refine ⟨_, rfl, (by show 1 ≤ sizeLine; decide), fun l3 hl3 => ?_⟩
    have s4 : Same H2 (upd H2 l3 (.lst [V.int 0])) := Same.new hl3
    refine ⟨_, rfl, _, _, rfl, rfl, _, rfl, la, _, rfl, .inl (SqL.of (s4 _ _ k3)), _, _, rfl, rfl, l3, _, [V.int 0], rfl, rfl, upd_same, (by rw [List.length_map]; omega), (by rw [List.length_map]; omega), (by rw [List.length_map]; exact len_small (by show 1 * _ ≤ _; omega)), fun l4 hl4 => ?_⟩
    have e0 : ((sizeOf' st.rule.length st.row.length : Int) + 1 - ((ahead st.rule).map V.int).length).toNat = sizeOf' st.rule.length st.row.length + 1 - (ahead st.rule).length := by rw [List.length_map]; omega
    rw [e0, rep_zero]
    have s5 := s4.trans (Same.new hl4 (o := .lst ((List.replicate (sizeOf' st.rule.length st.row.length + 1 - (ahead st.rule).length) (0 : Int)).map V.int)))
    refine ⟨la, l4, _, _, rfl, rfl, s5 _ _ k3, upd_same, (by rw [List.length_map, List.length_map, List.length_replicate]; exact len_small (by omega)), fun lm hlm => ?_⟩
    have s6 := s5.trans (Same.new hlm (o := .lst ((ahead st.rule).map V.int ++ (List.replicate (sizeOf' st.rule.length st.row.length + 1 - (ahead st.rule).length) (0 : Int)).map V.int)))
    have k4 : (upd (upd (upd H2 l3 (.lst [V.int 0])) l4 (.lst ((List.replicate (sizeOf' st.rule.length st.row.length + 1 - (ahead st.rule).length) (0 : Int)).map V.int))) lm (.lst ((ahead st.rule).map V.int ++ (List.replicate (sizeOf' st.rule.length st.row.length + 1 - (ahead st.rule).length) (0 : Int)).map V.int))) lm =
        some (.lst ((mendK (ahead st.rule) (sizeOf' st.rule.length st.row.length) (gapOf st.place st.row.length) (st.dis p x * inv p st.lack) st.elder 0).map V.int)) := by
      rw [upd_same, mendK_zero (by omega), List.map_append]
    have hlm2 : H2 lm = none := s5.free hlm
    generalize (upd (upd (upd H2 l3 (.lst [V.int 0])) l4 (.lst ((List.replicate (sizeOf' st.rule.length st.row.length + 1 - (ahead st.rule).length) (0 : Int)).map V.int))) lm (.lst ((ahead st.rule).map V.int ++ (List.replicate (sizeOf' st.rule.length st.row.length + 1 - (ahead st.rule).length) (0 : Int)).map V.int))) = H3 at s6 k4 ⊢
    have s7 := s3.trans s6
    -- the mending loop
    refine ⟨_, rfl, g, C, dx, _, _, rfl, s7 _ _ ob, G.cl, G.elder, gl_elder _ _ _ _ _ _, le, _, rfl, .inl (SqL.of (s7 _ _ h3)), _, rfl, (by rw [List.length_map]; omega), (by rw [List.length_map]; omega), for_range (n := (st.elder.map V.int).length)
      (fun i σ H' => ∃ v : Option V, σ = [some (.ref g), some (.int (st.row.length : Int)), some (.int (st.dis p x)), some (.int (st.dis p x * inv p st.lack)), some (.int (gapOf st.place st.row.length : Int)), some (.ref la), some (.int (sizeOf' st.rule.length st.row.length : Int)), some (.ref lm), v, none] ∧ Same H2 H' ∧
        H' lm = some (.lst ((mendK (ahead st.rule) (sizeOf' st.rule.length st.row.length) (gapOf st.place st.row.length) (st.dis p x * inv p st.lack) st.elder i).map V.int))) ⟨none, rfl, s6, k4⟩ ?_ ?_⟩
    · rintro i σ H' hi ⟨v, rfl, s8, k5⟩
      rw [List.length_map] at hi
      have s9 := s3.trans s8
      have j1 : ((gapOf st.place st.row.length : Int) + (0 + i)) = ((gapOf st.place st.row.length + i : Nat) : Int) := by omega
      have ml := mendK_len (ahead st.rule) (sizeOf' st.rule.length st.row.length) (gapOf st.place st.row.length) (st.dis p x * inv p st.lack) st.elder i
      refine ⟨_, rfl, _, rfl, _, rfl, _, _, rfl, rfl, lm, _, _, _, rfl, rfl, SqL.of k5, at_map (j := gapOf st.place st.row.length + i) j1 (by omega), ?_⟩
      refine ⟨_, rfl, _, rfl, g, C, dx, _, _, rfl, s9 _ _ ob, G.cl, G.elder, gl_elder _ _ _ _ _ _, _, rfl, le, _, _, _, rfl, rfl, SqL.of (s9 _ _ h3), at_map (j := i) (by omega) hi, _, _, rfl, rfl, .inr (bound64 (be.gd p0 i).1 (be.gd p0 i).2 hpl), _, _, rfl, rfl, ?_⟩
      refine ⟨_, rfl, _, rfl, _, rfl, _, _, rfl, rfl, lm, _, _, gapOf st.place st.row.length + i, rfl, rfl, k5, ixN_at j1 (by rw [List.length_map]; omega), ?_⟩
      refine ⟨_, rfl, Same.upd_back s8 hlm2, ?_⟩
      rw [upd_same, map_set1, mendK_succ (by omega)]
    rintro σ H4 ⟨v, rfl, s8, k5⟩
    rw [List.length_map] at k5
    have s9 := s3.trans s8
    -- the elder, if it has grown
    refine ⟨fun σ H' => ∃ le', σ = [some (.ref g), some (.int (st.row.length : Int)), some (.int (st.dis p x)), some (.int (st.dis p x * inv p st.lack)), some (.int (gapOf st.place st.row.length : Int)), some (.ref la), some (.int (sizeOf' st.rule.length st.row.length : Int)), some (.ref lm), v, none] ∧
      H' g = some (.ins C dx (gl p lr lu le' (st.put p x).lack (st.put p x).place)) ∧ H' le' = some (.lst ((st.put p x).elder.map V.int)) ∧ (le' = le ∨ H le' = none) ∧ lr ≠ le' ∧ (∀ b o, H4 b = some o → b ≠ g → H' b = some o), ?_, ?_⟩
    · have pe : (st.put p x).elder = if 2 * st.rule.length ≤ st.row.length then (ahead st.rule).map (fun w => w % p) else st.elder := by unfold Gr.put; rw [if_neg hd]; rfl
      have pl : (st.put p x).lack = if 2 * st.rule.length ≤ st.row.length then st.dis p x else st.lack := by unfold Gr.put; rw [if_neg hd]; rfl
      have pp : (st.put p x).place = if 2 * st.rule.length ≤ st.row.length then some st.row.length else st.place := by unfold Gr.put; rw [if_neg hd]; rfl
      refine ⟨_, rfl, _, rfl, g, C, dx, _, _, rfl, s9 _ _ ob, G.cl, G.rule, gl_rule _ _ _ _ _ _, lu, _, rfl, .inl (SqL.of (s9 _ _ h2)), _, _, rfl, rfl, _, rfl, ?_⟩
      rw [List.length_map]
      refine ifD (fun c => ?_) (fun c => ?_)
      · have c : (st.rule.length : Int) < sizeOf' st.rule.length st.row.length := c
        have c2 : 2 * st.rule.length ≤ st.row.length := by
          unfold sizeOf' at c
          split at c <;> omega
        rw [if_pos c2] at pe pl pp
        refine ⟨_, rfl, la, rfl, ⟨_, SqL.of (s8 _ _ k3)⟩, fun l5 hl5 => lc_list (K := K) (a := la) (xs := (ahead st.rule).map V.int) (fun i H' => Same H4 H' ∧ H' l5 = some (.lst ((((ahead st.rule).take i).map fun w => w % p).map V.int))) ⟨Same.new hl5, upd_same⟩
          (fun i H' _ ⟨s10, _⟩ => SqL.of (s10 _ _ (s8 _ _ k3))) ?_ ?_⟩
        · rintro i y H' hy ⟨s10, k6⟩
          have hi : i < (ahead st.rule).length := by
            have := (List.getElem?_eq_some_iff.mp hy).1
            rw [List.length_map] at this
            exact this
          rw [get_map hi] at hy
          obtain rfl := (Option.some.inj hy).symm
          refine ⟨rfl, lc_turn ⟨_, rfl, _, rfl, g, C, dx, _, _, rfl, s10 _ _ (s9 _ _ ob), G.cl, G.prime, gl_prime _ _ _ _ _ _, _, _, rfl, rfl, p0, _, k6, ?_, ?_, ?_⟩⟩
          · rw [List.length_map, List.length_map, List.length_take]; exact len_lt (by omega)
          · exact Same.upd_back s10 hl5
          · rw [upd_same, map_app1, map_take_succ hi]
        rintro H5 ⟨s10, k6⟩
        rw [List.length_map, List.take_length] at k6
        have h5o := s10 _ _ (s9 _ _ ob)
        have n5g : l5 ≠ g := (ne_of_none (s9 _ _ ob) hl5).symm
        refine ⟨_, rfl, g, C, dx, _, rfl, h5o, G.cl, G.elder, gl_len _ _ _ _ _ _, ?_⟩
        rw [gl_put_elder]
        refine ⟨_, rfl, _, rfl, g, C, dx, _, rfl, upd_same, G.cl, G.lack, gl_len _ _ _ _ _ _, ?_⟩
        rw [gl_put_lack]
        refine ⟨_, rfl, _, rfl, g, C, dx, _, rfl, upd_same, G.cl, G.place, gl_len _ _ _ _ _ _, ?_⟩
        rw [gl_put_place]
        refine ⟨l5, rfl, ?_, ?_, .inr (s9.free hl5), ne_of_none (s9 _ _ h1) hl5, fun b o hb hne => ?_⟩
        · rw [upd_same, pl, pp]
        · rw [upd_ne n5g, upd_ne n5g, upd_ne n5g, k6, pe]
        · rw [upd_ne hne, upd_ne hne, upd_ne hne]; exact s10 _ _ hb
      · have c : ¬ (st.rule.length : Int) < sizeOf' st.rule.length st.row.length := c
        have c2 : ¬ 2 * st.rule.length ≤ st.row.length := fun z => by
          unfold sizeOf' at c
          rw [if_pos z] at c
          omega
        rw [if_neg c2] at pe pl pp
        refine ⟨le, rfl, ?_, ?_, .inl rfl, n2, fun b o hb _ => hb⟩
        · rw [pl, pp]; exact s9 _ _ ob
        · rw [pe]; exact s9 _ _ h3
    rintro σ H5 ⟨le', rfl, ob5, e5, hle, nle, kp⟩
    -- the rule
    have nlm : lm ≠ g := ne_of k5 (s9 _ _ ob) (by intro z; cases z)
    have k7 := kp _ _ k5 nlm
    have em : mendK (ahead st.rule) (sizeOf' st.rule.length st.row.length) (gapOf st.place st.row.length) (st.dis p x * inv p st.lack) st.elder st.elder.length = st.mended p st.row.length (st.dis p x) := rfl
    rw [em] at k7
    have lm1 := mended_len p st st.row.length (st.dis p x)
    refine ⟨_, rfl, _, rfl, lm, _, rfl, SqL.of k7, fun l6 hl6 => ?_⟩
    have s10 : Same H5 (upd H5 l6 (.lst (cutV ((st.mended p st.row.length (st.dis p x)).map V.int) (some 1) none))) := Same.new hl6
    have k8 : (upd H5 l6 (.lst (cutV ((st.mended p st.row.length (st.dis p x)).map V.int) (some 1) none))) l6 = some (.lst (((st.mended p st.row.length (st.dis p x)).drop 1).map V.int)) := by rw [upd_same]; exact congrArg (fun z => some (HO.lst z)) (cut_drop _ 1)
    generalize (upd H5 l6 (.lst (cutV ((st.mended p st.row.length (st.dis p x)).map V.int) (some 1) none))) = H6 at s10 k8 ⊢
    obtain ⟨md, emd⟩ : ∃ md, md = (st.mended p st.row.length (st.dis p x)).drop 1 := ⟨_, rfl⟩
    rw [← emd] at k8
    have lmd : md.length ≤ 1001 := by rw [emd, List.length_drop]; omega
    refine ⟨_, rfl, ⟨_, SqL.of k8⟩, fun l7 hl7 => lc_list (K := K) (a := l6) (xs := md.map V.int) (fun i H' => Same H6 H' ∧ H' l7 = some (.lst (((md.take i).map fun w => -w % p).map V.int))) ⟨Same.new hl7, upd_same⟩ (fun i H' _ ⟨s11, _⟩ => SqL.of (s11 _ _ k8)) ?_ ?_⟩
    · rintro i y H' hy ⟨s11, k9⟩
      have hi : i < md.length := by
        have := (List.getElem?_eq_some_iff.mp hy).1
        rw [List.length_map] at this
        exact this
      rw [get_map hi] at hy
      obtain rfl := (Option.some.inj hy).symm
      refine ⟨rfl, lc_turn ⟨_, rfl, _, rfl, _, rfl, g, C, dx, _, _, rfl, s11 _ _ (s10 _ _ ob5), G.cl, G.prime, gl_prime _ _ _ _ _ _, _, _, rfl, rfl, p0, _, k9, ?_, ?_, ?_⟩⟩
      · rw [List.length_map, List.length_map, List.length_take]; exact len_lt (by omega)
      · exact Same.upd_back s11 hl7
      · rw [upd_same, map_app1, map_take_succ hi]
    rintro H7 ⟨s11, k9⟩
    rw [List.length_map, List.take_length, emd] at k9
    have s12 := s10.trans s11
    have ob7 := s12 _ _ ob5
    have pr : (st.put p x).rule = ((st.mended p st.row.length (st.dis p x)).drop 1).map fun w => -w % p := by unfold Gr.put; rw [if_neg hd]; rfl
    have prow : (st.put p x).row = st.row ++ [x] := by unfold Gr.put; rw [if_neg hd]; rfl
    refine ⟨_, rfl, g, C, dx, _, rfl, ob7, G.cl, G.rule, gl_len _ _ _ _ _ _, ?_⟩
    rw [gl_put_rule]
    have h5r := kp _ _ (s9 _ _ h1) (ne_of (s9 _ _ h1) (s9 _ _ ob) (by intro z; cases z))
    have n7 : l7 ≠ g := (ne_of_none (s10 _ _ ob5) hl7).symm
    have n7r : lr ≠ l7 := ne_of_none (s10 _ _ h5r) hl7
    have nrg : lr ≠ g := ne_of h1 ob (by intro z; cases z)
    have neg : le' ≠ g := ne_of e5 ob5 (by intro z; cases z)
    refine q _ l7 le' ⟨⟨dx, upd_same⟩, ?_, ?_, ?_, n7r, nle⟩ ?_ hle fun b o hb hne => ?_
    · rw [upd_ne nrg, prow]; exact s12 _ _ h5r
    · rw [upd_ne n7, k9, pr]
    · rw [upd_ne neg]; exact s12 _ _ e5
    · cases z : H l7 with
      | none => rfl
      | some o =>
        have y := s10 _ _ (kp _ _ (s9 _ _ z) n7)
        rw [hl7] at y; cases y
    · rw [upd_ne hne]; exact s12 _ _ (kp _ _ (s9 _ _ hb) hne)
theorem put_zero {p x : Int} {st : Gr} (h : st.dis p x = 0) : st.put p x = { st with row := st.row ++ [x] } := if_pos h
theorem put_row {p x : Int} {st : Gr} : (st.put p x).row = st.row ++ [x] := by
  unfold Gr.put
  split <;> rfl
def spPut (C Cr : Addr) : Sp := fun vs H Q E => ∃ (g lr lu le : Addr) (p x : Int) (st : Gr), vs = [.ref g, .int x] ∧ GrowAt C H p g lr lu le st ∧ Law p ∧ BM p st ∧ st.row.length ≤ 999 ∧ ((x < 0 ∨ p ≤ x) → E (.ref Cr) none H) ∧
  (0 ≤ x → x < p → ∀ (H' : Hp) (lu' le' : Addr), GrowAt C H' p g lr lu' le' (st.put p x) → (lu' = lu ∨ H lu' = none) → (le' = le ∨ H le' = none) → (∀ b o, H b = some o → b ≠ g → b ≠ lr → H' b = some o) → Q (.bl (decide (st.dis p x ≠ 0))) H')
theorem ok_put {f C Cr Cp : Addr} {fd : FuncData} (T : Bt mg) (G : GT K C) (a : AtM K C "put" "Grower.put" s_Grower_put ["self", "number"] f fd) (XT_NoRest : XC K mg "NoRest" Cr) (h_due : Has P w K mg base (L2N.CX P w) 1 "due" ["rule", "row", "place", "prime"] (spDue K Cp)) (h_mend : HasM P w K mg base CX0 2 C "mend" ["self", "place", "lack"] (spMend C)) :
    HasM P w K mg base (L2N.CX P w) 3 C "put" ["self", "number"] (spPut C Cr) := by
  refine a.has (okG a.fn sc_Grower_put (fun vs H Q E h => ?_) (fun cdv A outer s H vs Q E hr h => ?_))
  · obtain ⟨_, _, _, _, _, _, _, rfl, _⟩ := h
    rfl
  · obtain ⟨g, lr, lu, le, p, x, st, rfl, ⟨⟨dx, ob⟩, h1, h2, h3, n1, n2⟩, lw, bm, hlen, kE, kQ⟩ := h
    have hp2 := lw.1.1
    have p0 : (0 : Int) < p := by omega
    have bl := bm.len
    have nrg : lr ≠ g := ne_of h1 ob (by intro z; cases z)
    refine ⟨_, (pss_cons (ps_if (PW.pt (pw_or (pt_cmpR op_lt (pv 1) pe_int (nomark _)) (pw_or1 (pt_cmpR op_ge (pv 1) (pe_fld (pv 0) rfl) (nomark _))))) (pss_one (L2N.ps_raise rfl (L2N.takes_of rfl rfl rfl rfl) (L2N.pmk_own PySem.F.excBase_ValueError XT_NoRest.x XT_NoRest.g XT_NoRest.k (raises_own XT_NoRest.b XT_NoRest.t) rfl))) pss_nil)
      (pss_cons (ps_set (i := 2) sc_Grower_put.nd rfl (Or.inl rfl) (pe_callB call_len_seq (by rfl) T.b_len PySem.boot_len (pa_cons (pe_fld (pv 0) rfl) pa_nil)))
      (pss_cons (ps_set (i := 3) sc_Grower_put.nd rfl (Or.inl rfl) (pe_op op_mod (pe_op op_sub (pv 1) (pe_has h_due (hr.mono (by decide)) passN (pa_cons (pe_fld (pv 0) rfl) (pa_cons (pe_fld (pv 0) rfl) (pa_cons (pv 2) (pa_cons (pe_fld (pv 0) rfl) pa_nil)))))) (pe_fld (pv 0) rfl)))
      (pss_cons (ps_expr (pe_bm PySem.F.plainAttrs_list PySem.F.slot_list_append PySem.F.type_list_append mt_append (pe_fld (pv 0) rfl) (pa_cons (pv 1) pa_nil)))
      (pss_cons (ps_if (pt_cmpR op_eq (pv 3) pe_int (nomark _)) (pss_one (ps_ret pe_bl)) pss_nil)
      (pss_cons (ps_expr (pe_hasM (pv 0) G.cl h_mend (hr.mono (by decide)) pass0 (pa_cons (pv 2) (pa_cons (pv 3) pa_nil))))
      (pss_one (ps_ret pe_bl)))))))), ?_⟩
    refine ⟨_, rfl, _, _, rfl, rfl, _, rfl, ifD (fun c => iteT (kE (.inl c))) (fun c => ?_)⟩
    refine ⟨_, rfl, _, rfl, g, C, dx, _, _, rfl, ob, G.cl, G.prime, gl_prime _ _ _ _ _ _, _, _, rfl, rfl, _, rfl, ifD (fun c2 => kE (.inr c2)) (fun c2 => ?_)⟩
    have c : ¬ x < 0 := c
    have c2 : ¬ p ≤ x := c2
    have kQ := kQ (by omega) (by omega)
    refine ⟨_, rfl, g, C, dx, _, _, rfl, ob, G.cl, G.row, gl_row _ _ _ _ _ _, lr, _, rfl, .inl (SqL.of h1), ?_⟩
    rw [List.length_map]
    refine ⟨_, rfl, _, rfl, g, C, dx, _, _, rfl, ob, G.cl, G.rule, gl_rule _ _ _ _ _ _, _, rfl, g, C, dx, _, _, rfl, ob, G.cl, G.row, gl_row _ _ _ _ _ _, _, rfl, _, rfl, g, C, dx, _, _, rfl, ob, G.cl, G.prime, gl_prime _ _ _ _ _ _, lu, lr, st.rule, st.row, _, p, rfl, SqL.of h2, SqL.of h1, lw, bm.rule, by omega, fun c => by omega, fun n en _ _ => ?_⟩
    obtain rfl : n = st.row.length := by omega
    refine ⟨_, _, rfl, rfl, _, rfl, g, C, dx, _, _, rfl, ob, G.cl, G.prime, gl_prime _ _ _ _ _ _, _, _, rfl, rfl, p0, ?_⟩
    -- the number is taken
    refine ⟨_, rfl, g, C, dx, _, _, rfl, ob, G.cl, G.row, gl_row _ _ _ _ _ _, .inl ⟨rfl, _, SqL.of h1⟩, _, rfl, lr, _, _, rfl, rfl, h1, ?_, ?_⟩
    · rw [List.length_map]; exact len_lt (by omega)
    rw [map_app1]
    have g1 : GrowAt C (upd H lr (.lst ((st.row ++ [x]).map V.int))) p g lr lu le { st with row := st.row ++ [x] } :=
      ⟨⟨dx, by rw [upd_ne nrg.symm]; exact ob⟩, upd_same, by rw [upd_ne n1.symm]; exact h2, by rw [upd_ne n2.symm]; exact h3, n1, n2⟩
    refine ⟨_, rfl, rfl, _, rfl, ifD (fun c => ?_) (fun c => ?_)⟩
    · have c : st.dis p x = 0 := vint.mp c
      have z := kQ (upd H lr (.lst ((st.row ++ [x]).map V.int))) lu le (by rw [put_zero c]; exact g1) (.inl rfl) (.inl rfl) fun b o hb _ hne => by rw [upd_ne hne]; exact hb
      rw [decide_eq_false (fun z => z c)] at z
      exact z
    · have c : st.dis p x ≠ 0 := fun z => c (vint.mpr z)
      obtain ⟨dx', ob'⟩ := g1.ob
      refine ⟨_, rfl, g, dx', _, rfl, ob', gl_no _ _ _ _ _ _ (by decide +kernel), _, rfl, _, rfl, g, lr, lu, le, p, x, st, rfl, g1, lw, bm, by omega, c, fun H' lu' le' gr hlu hle kp => ?_⟩
      have z := kQ H' lu' le' gr (.inr ?_) ?_ fun b o hb hne hne2 => kp b o (by rw [upd_ne hne2]; exact hb) hne
      · rw [decide_eq_true c] at z
        exact z
      · have ne : lu' ≠ lr := (ne_of_none upd_same hlu).symm
        rw [upd_ne ne] at hlu
        exact hlu
      · rcases hle with e | e
        · exact .inl e
        · have ne : le' ≠ lr := (ne_of_none upd_same e).symm
          rw [upd_ne ne] at e
          exact .inr e
/-! ### a whole row -/
noncomputable def growAll (p : Int) (row : List Int) : Gr := row.foldl (Gr.put p) Gr.new
theorem growAll_app (p : Int) (row : List Int) (x : Int) : growAll p (row ++ [x]) = (growAll p row).put p x := by
  unfold growAll
  rw [List.foldl_append]; rfl
theorem growAll_bm {p : Int} (hp : Pr p) : ∀ (n : Nat) (row : List Int), row.length = n → Rests p row → BM p (growAll p row) ∧ (growAll p row).row = row
  | 0, row, h, _ => by
    have e : row = [] := List.length_eq_zero_iff.mp h
    subst e
    exact ⟨BM.new hp.1, rfl⟩
  | n + 1, row, h, hr => by
    have e : row = row.take n ++ [gd row n] := by
      have := take_succ (l := row) (i := n) (by omega)
      rw [← this, List.take_of_length_le (by omega)]
    obtain ⟨ih1, ih2⟩ := growAll_bm hp n (row.take n) (by rw [List.length_take]; omega) (hr.take n)
    have hx := hr _ (gd_mem (l := row) (k := n) (by omega))
    rw [e, growAll_app]
    refine ⟨ih1.put hp hx.1 hx.2, ?_⟩
    rw [put_row, ih2]
theorem growAll_ok {p : Int} (hp : Pr p) {row : List Int} (hr : Rests p row) : BM p (growAll p row) := (growAll_bm hp _ row rfl hr).1
theorem growAll_row {p : Int} (hp : Pr p) {row : List Int} (hr : Rests p row) : (growAll p row).row = row := (growAll_bm hp _ row rfl hr).2
def spMany (C : Addr) : Sp := fun vs H Q _ => ∃ (g lr lu le : Addr) (p : Int) (st : Gr), vs = [.ref g] ∧ GrowAt C H p g lr lu le st ∧ Q (.int (st.row.length : Int)) H
theorem ok_many {f C : Addr} {fd : FuncData} (T : Bt mg) (G : GT K C) (a : AtM K C "many" "Grower.many" s_Grower_many ["self"] f fd) : HasM P w K mg base CX0 1 C "many" ["self"] (spMany C) := by
  refine a.has (okG a.fn sc_Grower_many (fun vs H Q E h => ?_) (fun cdv A outer s H vs Q E hr h => ?_))
  · obtain ⟨_, _, _, _, _, _, rfl, _⟩ := h
    rfl
  · obtain ⟨g, lr, lu, le, p, st, rfl, ⟨⟨dx, ob⟩, h1, h2, h3, n1, n2⟩, q⟩ := h
    refine ⟨_, (pss_one (ps_ret (pe_callB call_len_seq (by rfl) T.b_len PySem.boot_len (pa_cons (pe_fld (pv 0) rfl) pa_nil)))), ?_⟩
    refine ⟨_, rfl, g, C, dx, _, _, rfl, ob, G.cl, G.row, gl_row _ _ _ _ _ _, lr, _, rfl, .inl (SqL.of h1), ?_⟩
    rw [List.length_map]
    exact q
/-- v is the showing told in H', made of places that H had not -/
def ToldF (H H' : Hp) (st : Gr) (v : V) : Prop := (st.place = none ∧ v = .non) ∨ ∃ (n : Nat) (t l : Addr), st.place = some n ∧ v = .ref t ∧ H t = none ∧ H l = none ∧ H' t = some (.tup [.int (n : Int), .ref l]) ∧ H' l = some (.lst (st.elder.map V.int))
def spWhy (C : Addr) : Sp := fun vs H Q _ => ∃ (g lr lu le : Addr) (p : Int) (st : Gr), vs = [.ref g] ∧ GrowAt C H p g lr lu le st ∧ ∀ (v : V) (H' : Hp), Same H H' → ToldF H H' st v → Q v H'
theorem ok_why {f C : Addr} {fd : FuncData} (T : Bt mg) (G : GT K C) (a : AtM K C "why" "Grower.why" s_Grower_why ["self"] f fd) : HasM P w K mg base CX0 1 C "why" ["self"] (spWhy C) := by
  refine a.has (okG a.fn sc_Grower_why (fun vs H Q E h => ?_) (fun cdv A outer s H vs Q E hr h => ?_))
  · obtain ⟨_, _, _, _, _, _, rfl, _⟩ := h
    rfl
  · obtain ⟨g, lr, lu, le, p, st, rfl, ⟨⟨dx, ob⟩, h1, h2, h3, n1, n2⟩, q⟩ := h
    refine ⟨_, (pss_cons (ps_if (pt_cmpR op_isN (pe_fld (pv 0) rfl) pe_non (nomark _)) (pss_one (ps_ret pe_non)) pss_nil)
      (pss_one (ps_ret (pe_tup (pa_cons (pe_fld (pv 0) rfl) (pa_cons (pe_callTy (T := "list") call_list_of (by rfl) T.b_list (by decide +kernel) (pa_cons (pe_fld (pv 0) rfl) pa_nil)) pa_nil)))))), ?_⟩
    refine ⟨_, rfl, g, C, dx, _, _, rfl, ob, G.cl, G.place, gl_place _ _ _ _ _ _, rfl, _, rfl, ?_⟩
    cases e : st.place with
    | none => exact iteT (q _ _ (fun _ _ z => z) (.inl ⟨e, rfl⟩))
    | some n =>
      refine iteF ⟨_, rfl, g, C, dx, _, _, rfl, ob, G.cl, G.place, (by rw [gl_place, e] <;> rfl), _, rfl, g, C, dx, _, _, rfl, ob, G.cl, G.elder, gl_elder _ _ _ _ _ _, le, _, rfl, .inl (SqL.of h3), fun l hl => ⟨(by show 2 ≤ sizeLine; decide), fun t ht => ?_⟩⟩
      have s1 : Same H (upd H l (.lst (st.elder.map V.int))) := Same.new hl
      exact q _ _ (s1.trans (Same.new ht)) (.inr ⟨n, t, l, e, rfl, s1.free ht, hl, upd_same, by rw [upd_ne (ne_of_none upd_same ht)]; exact upd_same⟩)
def spTaken (K : PySem.W.Frag) (C Cr : Addr) : Sp := fun vs H Q E => ∃ (a : Addr) (row : List Int) (p : Int), vs = [.ref a, .int p] ∧ SqL K H a (row.map V.int) ∧ Law p ∧ row.length ≤ 900 ∧ (¬ Rests p row → ∀ H', Same H H' → E (.ref Cr) none H') ∧
  (Rests p row → ∀ (H' : Hp) (g lr lu le : Addr), GrowAt C H' p g lr lu le (growAll p row) → Same H H' → H g = none → H lr = none → H lu = none → H le = none → Q (.ref g) H')
theorem ok_taken {f C Cr : Addr} {fd : FuncData} (G : GT K C) (a : At K mg "taken" s_taken ["row", "prime"] f fd) (h_Grower : HasC P w K mg base CX0 1 C "Grower" ["self", "prime"] (spInit C)) (h_put : HasM P w K mg base (L2N.CX P w) 3 C "put" ["self", "number"] (spPut C Cr)) :
    Has P w K mg base (L2N.CX P w) 4 "taken" ["row", "prime"] (spTaken K C Cr) := by
  refine a.has (okG a.fn sc_taken (fun vs H Q E h => ?_) (fun cdv A outer s H vs Q E hr h => ?_))
  · obtain ⟨_, _, _, rfl, _⟩ := h
    rfl
  · obtain ⟨l, row, p, rfl, hs, lw, hlen, kE, kQ⟩ := h
    refine ⟨_, (pss_cons (ps_set (i := 2) sc_taken.nd rfl (Or.inl rfl) (pe_hasC h_Grower (hr.mono (by decide)) pass0 (pa_cons (pv 1) pa_nil)))
      (pss_cons (ps_for (passes_of rfl) rfl (pi_list (pv 0)) (pg_name (i := 3) sc_taken.nd rfl (Or.inl rfl)) (pss_one (ps_expr (pe_hasM (pv 2) G.cl h_put (hr.mono (by decide)) (L2N.passes_call (W := fun c d _ H => E c d H) (L2N.takes_of rfl rfl rfl rfl) (fun _ _ _ _ z => z)) (pa_cons (pv 3) pa_nil)))))
      (pss_one (ps_ret (pv 2))))), ?_⟩
    refine ⟨_, rfl, fun g dx hg hdx ndx => ⟨g, dx, p, rfl, upd_same, fun lr lu le H1 g1 e1 e2 e3 kp => ⟨rfl, ?_⟩⟩⟩
    have s0 : Same H (upd (upd H dx (.own g)) g (.ins C dx [])) := fun b o hb => by rw [upd_ne (ne_of_none hb hg), upd_ne (ne_of_none hb hdx)]; exact hb
    have s1 : Same H H1 := fun b o hb => kp b o (s0 b o hb) (ne_of_none hb hg)
    have f1 := s0.free e1
    have f2 := s0.free e2
    have f3 := s0.free e3
    refine ⟨_, rfl, l, rfl, ⟨_, s1.seq hs⟩, for_list (K := K) (a := l) (xs := row.map V.int) (fun i σ H' => ∃ (v : Option V) (lu le : Addr), σ = [some (.ref l), some (.int p), some (.ref g), v] ∧ Same H H' ∧ Rests p (row.take i) ∧ GrowAt C H' p g lr lu le (growAll p (row.take i)) ∧ H lu = none ∧ H le = none)
      ⟨none, lu, le, rfl, s1, Rests.nil, g1, f2, f3⟩ (fun i σ H' _ ⟨_, _, _, _, s2, _⟩ => s2.seq hs) ?_ ?_⟩
    · rintro i y σ H' hy ⟨v, lu, le, rfl, s2, rt, g2, j2, j3⟩
      have hi : i < row.length := by
        have := (List.getElem?_eq_some_iff.mp hy).1
        rw [List.length_map] at this
        exact this
      rw [get_map hi] at hy
      obtain rfl := (Option.some.inj hy).symm
      obtain ⟨dx', ob⟩ := g2.ob
      have er := growAll_row lw.1 rt
      refine ⟨_, rfl, g, dx', _, rfl, ob, gl_no _ _ _ _ _ _ (by decide +kernel), _, rfl, g, lr, lu, le, p, gd row i, _, rfl, g2, lw, growAll_ok lw.1 rt, by rw [er, List.length_take]; omega, fun c => kE (fun z => ?_) _ s2, fun h0 h1 H2 lu' le' g3 hlu hle kp => ?_⟩
      · have := z _ (gd_mem hi)
        omega
      · refine ⟨_, lu', le', rfl, fun b o hb => kp b o (s2 b o hb) (ne_of_none hb hg) (ne_of_none hb f1), ?_, ?_, ?_, ?_⟩
        · rw [take_succ hi]; exact rt.app (Rests.one h0 h1)
        · rw [take_succ hi, growAll_app]; exact g3
        · rcases hlu with e | e
          · rw [e]; exact j2
          · exact s2.free e
        · rcases hle with e | e
          · rw [e]; exact j3
          · exact s2.free e
    · rintro σ H' ⟨v, lu, le, rfl, s2, rt, g2, j2, j3⟩
      rw [List.length_map, List.take_length] at rt g2
      exact ⟨_, rfl, kQ rt _ g lr lu le g2 s2 hg f1 j2 j3⟩
def spShortest (K : PySem.W.Frag) (Cr : Addr) : Sp := fun vs H Q E => ∃ (a : Addr) (row : List Int) (p : Int), vs = [.ref a, .int p] ∧ SqL K H a (row.map V.int) ∧ Law p ∧ row.length ≤ 900 ∧ (¬ Rests p row → ∀ H', Same H H' → E (.ref Cr) none H') ∧
  (Rests p row → ∀ (H' : Hp) (q : Addr), H q = none → Same H H' → H' q = some (.lst ((growAll p row).rule.map V.int)) → Q (.ref q) H')
theorem ok_shortest {f C Cr : Addr} {fd : FuncData} (G : GT K C) (a : At K mg "shortest" s_shortest ["row", "prime"] f fd) (h_taken : Has P w K mg base (L2N.CX P w) 4 "taken" ["row", "prime"] (spTaken K C Cr)) (h_told : HasM P w K mg base CX0 1 C "told" ["self"] (spTold C)) :
    Has P w K mg base (L2N.CX P w) 5 "shortest" ["row", "prime"] (spShortest K Cr) := by
  refine a.has (okG a.fn sc_shortest (fun vs H Q E h => ?_) (fun cdv A outer s H vs Q E hr h => ?_))
  · obtain ⟨_, _, _, rfl, _⟩ := h
    rfl
  · obtain ⟨l, row, p, rfl, hs, lw, hlen, kE, kQ⟩ := h
    refine ⟨_, (pss_one (ps_ret (pe_hasM0 (pe_has h_taken (hr.mono (by decide)) (L2N.passes_call (W := fun c d _ H => E c d H) (L2N.takes_of rfl rfl rfl rfl) (fun _ _ _ _ z => z)) (pa_cons (pv 0) (pa_cons (pv 1) pa_nil))) G.cl h_told (hr.mono (by decide)) pass0))), ?_⟩
    refine ⟨_, rfl, _, rfl, l, row, p, rfl, hs, lw, hlen, kE, fun rt H1 g lr lu le g1 s1 _ _ _ _ => ?_⟩
    obtain ⟨dx, ob⟩ := g1.ob
    exact ⟨g, dx, _, rfl, ob, gl_no _ _ _ _ _ _ (by decide +kernel), g, lr, lu, le, p, _, rfl, g1, fun H2 q hq s2 h2 => kQ rt H2 q (s1.free hq) (s1.trans s2) h2⟩
def spShowing (K : PySem.W.Frag) (Cr : Addr) : Sp := fun vs H Q E => ∃ (a : Addr) (row : List Int) (p : Int), vs = [.ref a, .int p] ∧ SqL K H a (row.map V.int) ∧ Law p ∧ row.length ≤ 900 ∧ (¬ Rests p row → ∀ H', Same H H' → E (.ref Cr) none H') ∧
  (Rests p row → ∀ (v : V) (H' : Hp), Same H H' → ToldF H H' (growAll p row) v → Q v H')
theorem ToldF.back {H H1 H2 : Hp} {st : Gr} {v : V} (h : ToldF H1 H2 st v) (s : Same H H1) : ToldF H H2 st v := by
  rcases h with h | ⟨n, t, l, e, ev, ft, fl, ht, hl⟩
  · exact .inl h
  · exact .inr ⟨n, t, l, e, ev, s.free ft, s.free fl, ht, hl⟩
theorem ok_showing {f C Cr : Addr} {fd : FuncData} (G : GT K C) (a : At K mg "showing" s_showing ["row", "prime"] f fd) (h_taken : Has P w K mg base (L2N.CX P w) 4 "taken" ["row", "prime"] (spTaken K C Cr)) (h_why : HasM P w K mg base CX0 1 C "why" ["self"] (spWhy C)) :
    Has P w K mg base (L2N.CX P w) 5 "showing" ["row", "prime"] (spShowing K Cr) := by
  refine a.has (okG a.fn sc_showing (fun vs H Q E h => ?_) (fun cdv A outer s H vs Q E hr h => ?_))
  · obtain ⟨_, _, _, rfl, _⟩ := h
    rfl
  · obtain ⟨l, row, p, rfl, hs, lw, hlen, kE, kQ⟩ := h
    refine ⟨_, (pss_one (ps_ret (pe_hasM0 (pe_has h_taken (hr.mono (by decide)) (L2N.passes_call (W := fun c d _ H => E c d H) (L2N.takes_of rfl rfl rfl rfl) (fun _ _ _ _ z => z)) (pa_cons (pv 0) (pa_cons (pv 1) pa_nil))) G.cl h_why (hr.mono (by decide)) pass0))), ?_⟩
    refine ⟨_, rfl, _, rfl, l, row, p, rfl, hs, lw, hlen, kE, fun rt H1 g lr lu le g1 s1 _ _ _ _ => ?_⟩
    obtain ⟨dx, ob⟩ := g1.ob
    exact ⟨g, dx, _, rfl, ob, gl_no _ _ _ _ _ _ (by decide +kernel), g, lr, lu, le, p, _, rfl, g1, fun v H2 s2 tv => kQ rt v H2 (s1.trans s2) (tv.back s1)⟩
/-! ### a drawn row -/
def drawnOf (ns : List Int) (k : Nat) : Int := if k < ns.length then gd ns k else ((k : Int) * k * 48271 + k * 11 + gd ns 0) % 2147483647
def spDrawn (K : PySem.W.Frag) : Sp := fun vs H Q _ => ∃ (l : Addr) (ns : List Int) (k : Nat), vs = [.ref l, .int (k : Int)] ∧ SqL K H l (ns.map V.int) ∧ k ≤ 1000 ∧ Q (.int (drawnOf ns k)) H
theorem ok_drawn {f : Addr} {fd : FuncData} (T : Bt mg) (a : At K mg "_law_drawn" s__law_drawn ["_law_script", "_law_k"] f fd) (h__law_cell_at : Has P w K mg base CX0 1 "_law_cell_at" ["_law_script", "_law_k"] (spCell K)) : Has P w K mg base CX0 2 "_law_drawn" ["_law_script", "_law_k"] (spDrawn K) := by
  refine a.has (okG a.fn sc__law_drawn (fun vs H Q E h => ?_) (fun cdv A outer s H vs Q E hr h => ?_))
  · obtain ⟨_, _, _, rfl, _⟩ := h
    rfl
  · obtain ⟨l, ns, k, rfl, hs, hk, q⟩ := h
    refine ⟨_, (pss_cons (ps_if (pt_cmpR op_lt (pv 1) (pe_callB call_len_seq (by rfl) T.b_len PySem.boot_len (pa_cons (pv 0) pa_nil)) (nomark _)) (pss_one (ps_ret (pe_ix ix_list (pv 0) (pv 1) (fun _ _ => rfl)))) pss_nil)
      (pss_one (ps_ret (pe_op op_mod (pe_op op_add (pe_op op_add (pe_op op_mul (pe_op op_mul (pv 1) (pv 1)) pe_int) (pe_op op_mul (pv 1) pe_int)) (pe_has h__law_cell_at (hr.mono (by decide)) pass0 (pa_cons (pv 0) (pa_cons pe_int pa_nil)))) pe_int)))), ?_⟩
    refine ⟨_, rfl, _, rfl, l, _, rfl, .inl hs, _, _, rfl, rfl, _, rfl, ?_⟩
    rw [List.length_map]
    refine ifD (fun c => ?_) (fun c => ?_)
    · have e : drawnOf ns k = gd ns k := if_pos (by omega)
      rw [e] at q
      exact ⟨_, rfl, _, rfl, l, _, _, _, rfl, rfl, hs, at_map rfl (by omega), q⟩
    · have e : drawnOf ns k = ((k : Int) * k * 48271 + k * 11 + gd ns 0) % 2147483647 := if_neg (by omega)
      rw [e] at q
      refine ⟨_, rfl, _, rfl, _, _, rfl, rfl, .inl ⟨by omega, by omega⟩, _, _, rfl, rfl, .inr ⟨by decide, by decide⟩, _, rfl, _, _, rfl, rfl, .inr ⟨by decide, by decide⟩, _, _, rfl, rfl, ?_⟩
      exact ⟨_, rfl, l, ns, 0, rfl, hs, _, _, rfl, rfl, _, _, rfl, rfl, (by show (0 : Int) < 2147483647; decide), q⟩
def spRow (K : PySem.W.Frag) : Sp := fun vs H Q _ => ∃ (l : Addr) (ns : List Int) (size : Nat) (p : Int), vs = [.ref l, .int (size : Int), .int p] ∧ SqL K H l (ns.map V.int) ∧ Law p ∧ size ≤ 200 ∧
  ∀ (row : List Int) (H' : Hp) (q : Addr), Rests p row → row.length = size → H q = none → Same H H' → H' q = some (.lst (row.map V.int)) → Q (.ref q) H'
theorem ok_row {f : Addr} {fd : FuncData} (T : Bt mg) (a : At K mg "_law_row_by" s__law_row_by ["_law_script", "_law_size", "_law_prime_here"] f fd) (h__law_cell_at : Has P w K mg base CX0 1 "_law_cell_at" ["_law_script", "_law_k"] (spCell K)) (h__law_drawn : Has P w K mg base CX0 2 "_law_drawn" ["_law_script", "_law_k"] (spDrawn K)) (h__law_tells : Has P w K mg base CX0 1 "_law_tells" ["_law_rule", "_law_row", "_law_place", "_law_prime_here"] (spTells K)) :
    Has P w K mg base CX0 3 "_law_row_by" ["_law_script", "_law_size", "_law_prime_here"] (spRow K) := by
  refine a.has (okG a.fn sc__law_row_by (fun vs H Q E h => ?_) (fun cdv A outer s H vs Q E hr h => ?_))
  · obtain ⟨_, _, _, _, rfl, _⟩ := h
    rfl
  · obtain ⟨l, ns, size, p, rfl, hs, lw, hsz, q⟩ := h
    have hp2 := lw.1.1
    have p0 : (0 : Int) < p := by omega
    refine ⟨_, (pss_cons (ps_set (i := 3) sc__law_row_by.nd rfl (Or.inl rfl) (pe_op op_mod (pe_has h__law_cell_at (hr.mono (by decide)) pass0 (pa_cons (pv 0) (pa_cons pe_int pa_nil))) pe_int))
      (pss_cons (ps_set (i := 4) sc__law_row_by.nd rfl (Or.inl rfl) (pe_op op_mod (pe_op op_fdiv (pe_has h__law_cell_at (hr.mono (by decide)) pass0 (pa_cons (pv 0) (pa_cons pe_int pa_nil))) pe_int) pe_int))
      (pss_cons (ps_setLc (i := 5) (own := [("_law_k", 7)]) (g := gName 7) (tt := tYes) rfl sc__law_row_by.nd rfl rfl (sw_true rfl rfl rfl (by decide +kernel)) (pi_range1 rfl T.b_range (pa_cons (pv 3) pa_nil)) (blkOk_by (N := ["_law_script", "_law_size", "_law_prime_here", "_law_long", "_law_free", "_law_rule", "_law_row", "_law_k", "_law_number", "_law_cell"]) (sc := defScope s__law_row_by) (by decide +kernel)) (fun _ _ _ _ _ => pg_name (i := 7) sc__law_row_by.nd rfl (Or.inl rfl)) (fun _ _ _ _ _ => pts_nil) (fun _ _ _ _ _ => (pe_op op_mod (pe_has h__law_cell_at (hr.mono (by decide)) pass0 (pa_cons (pv 0) (pa_cons (pe_op op_add pe_int (pv 7)) pa_nil))) (pv 2))))
      (pss_cons (ps_set (i := 6) sc__law_row_by.nd rfl (Or.inl rfl) (pe_lst pa_nil))
      (pss_cons (ps_for (passes_of rfl) rfl (pi_range1 rfl T.b_range (pa_cons (pv 1) pa_nil)) (pg_name (i := 7) sc__law_row_by.nd rfl (Or.inl rfl)) (pss_cons (ps_set (i := 8) sc__law_row_by.nd rfl (Or.inl rfl) (pe_has h__law_tells (hr.mono (by decide)) pass0 (pa_cons (pe_slice sl_list (pv 5) po_none (po_some (pv 7))) (pa_cons (pv 6) (pa_cons (pv 7) (pa_cons (pv 2) pa_nil))))))
      (pss_cons (ps_set (i := 9) sc__law_row_by.nd rfl (Or.inl rfl) (pe_has h__law_drawn (hr.mono (by decide)) pass0 (pa_cons (pv 0) (pa_cons (pe_op op_add pe_int (pv 7)) pa_nil))))
      (C8.pss_cut (ps_if (PW.pt (pw_or (pt_cmpR op_lt (pv 7) (pv 3) (nomark _)) (pw_or (pt_cmpR op_eq (pv 4) pe_int (nomark _)) (pw_or1 (PW.pt (pw_and (pt_cmpR op_eq (pv 4) pe_int (nomark _)) (pw_and1 (pt_cmpR op_eq (pe_op op_mod (pv 9) pe_int) pe_int (nomark _))))))))) (pss_one (ps_set (i := 8) sc__law_row_by.nd rfl (Or.inl rfl) (pe_op op_add (pv 8) (pe_op op_fdiv (pv 9) pe_int)))) pss_nil)
      (pss_one (ps_expr (pe_bm PySem.F.plainAttrs_list PySem.F.slot_list_append PySem.F.type_list_append mt_append (pv 6) (pa_cons (pe_op op_mod (pv 8) (pv 2)) pa_nil))))))))
      (pss_one (ps_ret (pv 6)))))))), ?_⟩
    refine ⟨_, rfl, l, ns, 1, rfl, hs, _, _, rfl, rfl, (by show (0 : Int) < 7; decide), ?_⟩
    refine ⟨_, rfl, l, ns, 1, rfl, hs, _, _, rfl, rfl, ⟨by decide, by decide⟩, _, _, rfl, rfl, (by show (0 : Int) < 3; decide), ?_⟩
    refine ⟨_, rfl, _, rfl, (by omega), (by omega), fun d hd => lc_range (n := (gd ns 1 % 7).toNat) (fun i H' => Same H H' ∧ H' d = some (.lst ((mk i fun k => gd ns (3 + k) % p).map V.int))) ⟨Same.new hd, upd_same⟩ ?_ ?_⟩
    · rintro i H' hi ⟨s1, h1⟩
      refine ⟨rfl, lc_turn ⟨_, rfl, _, rfl, _, _, rfl, rfl, l, ns, 3 + i, arg2 (by omega), s1.seq hs, _, rfl, _, _, rfl, rfl, p0, _, h1, ?_, ?_, ?_⟩⟩
      · rw [List.length_map, mk_len]; exact len_lt (by omega)
      · exact Same.upd_back s1 hd
      · rw [upd_same, map_app1, mk_succ]
    rintro H1 ⟨s1, h1⟩
    obtain ⟨rule, erule⟩ : ∃ rule, rule = mk (gd ns 1 % 7).toNat fun k => gd ns (3 + k) % p := ⟨_, rfl⟩
    have rr : Rests p rule := by rw [erule]; exact Rests.mk fun k _ => emod_rest p0 _
    have lr : rule.length ≤ 6 := by rw [erule, mk_len]; omega
    rw [← erule] at h1
    refine ⟨(by show 0 ≤ sizeLine; decide), fun r hr1 => ?_⟩
    have s2 : Same H (upd H1 r (.lst [])) := s1.trans (Same.new hr1)
    have hr0 : H1 r = none := hr1
    have k1 : (upd H1 r (.lst [])) d = some (.lst (rule.map V.int)) := by rw [upd_ne (ne_of_none h1 hr1)]; exact h1
    refine ⟨_, rfl, _, rfl, (by omega), (by omega), for_range (n := size)
      (fun i σ H' => ∃ (v6 v7 v8 : Option V) (row : List Int), σ = [some (.ref l), some (.int (size : Int)), some (.int p), some (.int (gd ns 1 % 7)), some (.int (gd ns 1 / 7 % 3)), some (.ref d), some (.ref r), v6, v7, v8] ∧ Same H1 H' ∧ H' r = some (.lst (row.map V.int)) ∧ Rests p row ∧ row.length = i)
      ⟨none, none, none, [], rfl, Same.new hr1, upd_same, Rests.nil, rfl⟩ ?_ ?_⟩
    · rintro i σ H2 hi ⟨v6, v7, v8, row, rfl, s3, h3, rt, rl⟩
      have s4 := s1.trans s3
      refine ⟨_, rfl, _, rfl, _, rfl, d, _, rfl, SqL.of (s3 _ _ h1), fun c hc => ?_⟩
      have ec : cutV (rule.map V.int) none (some (0 + (i : Int))) = (rule.take i).map V.int := by rw [Int.zero_add, cut_take]
      rw [ec]
      have s5 : Same H2 (upd H2 c (.lst ((rule.take i).map V.int))) := Same.new hc
      refine ⟨_, rfl, _, rfl, _, rfl, c, r, rule.take i, row, i, p, argR (Int.zero_add _), SqL.of upd_same, SqL.of (s5 _ _ h3), lw, rr.take i, by rw [List.length_take]; omega, by rw [List.length_take]; omega, by omega, ?_⟩
      refine ⟨_, rfl, _, rfl, _, _, rfl, rfl, l, ns, 10 + i, arg2 (by omega), (s4.trans s5).seq hs, by omega, ?_⟩
      refine ⟨fun σ H' => ∃ y : Int, σ = [some (.ref l), some (.int (size : Int)), some (.int p), some (.int (gd ns 1 % 7)), some (.int (gd ns 1 / 7 % 3)), some (.ref d), some (.ref r), some (.int (0 + i)), some (.int y), some (.int (drawnOf ns (10 + i)))] ∧ upd H2 c (.lst ((rule.take i).map V.int)) = H', ?_, ?_⟩
      · refine ⟨_, rfl, _, rfl, _, _, rfl, rfl, _, rfl, ifD (fun _ => ?_) (fun _ => ?_)⟩
        · exact iteT ⟨_, rfl, _, rfl, _, _, rfl, rfl, ⟨by decide, by decide⟩, _, _, rfl, rfl, _, rfl, rfl⟩
        refine ⟨_, rfl, rfl, _, rfl, ifD (fun _ => ?_) (fun _ => ?_)⟩
        · exact iteT ⟨_, rfl, _, rfl, _, _, rfl, rfl, ⟨by decide, by decide⟩, _, _, rfl, rfl, _, rfl, rfl⟩
        refine ⟨_, rfl, rfl, _, rfl, ifD (fun _ => ?_) (fun _ => ?_)⟩
        · refine ⟨_, rfl, _, _, rfl, rfl, (by show (0 : Int) < 9; decide), rfl, _, rfl, ifB (fun _ => ?_) (fun _ => ⟨_, rfl, rfl⟩)⟩
          exact ⟨_, rfl, _, rfl, _, _, rfl, rfl, ⟨by decide, by decide⟩, _, _, rfl, rfl, _, rfl, rfl⟩
        · exact iteF ⟨_, rfl, rfl⟩
      rintro σ H' ⟨y, rfl, rfl⟩
      have h4 := s5 _ _ h3
      refine ⟨_, rfl, .inl ⟨rfl, _, SqL.of h4⟩, _, rfl, _, rfl, _, _, rfl, rfl, p0, r, _, _, rfl, rfl, h4, ?_, ?_⟩
      · rw [List.length_map]; exact len_lt (by omega)
      · refine ⟨_, _, _, row ++ [y % p], rfl, Same.upd_back (s3.trans s5) hr0, ?_, rt.app (Rests.one (emod_rest p0 y).1 (emod_rest p0 y).2), ?_⟩
        · rw [upd_same, map_app1]
        · rw [List.length_append, rl]; rfl
    rintro σ H2 ⟨v6, v7, v8, row, rfl, s3, h3, rt, rl⟩
    exact ⟨_, rfl, q row H2 r rt rl (s1.free hr1) (s1.trans s3) h3⟩
/-! ### a showing told (the same row as in shown.lean, for the law without _law_shown) -/
def Told (H : Hp) (st : Gr) (v : V) : Prop := (st.place = none ∧ v = .non) ∨ ∃ (n : Nat) (t e : Addr), st.place = some n ∧ v = .ref t ∧ H t = some (.tup [.int (n : Int), .ref e]) ∧ H e = some (.lst (st.elder.map V.int))
/-! ### a showing as data -/
def dWhy (st : Gr) : PyData := match st.place with
  | none => .none
  | some n => .tuple [.int (n : Int), dInts st.elder]
theorem dWhy_none {st : Gr} (h : st.place = none) : dWhy st = .none := by unfold dWhy; rw [h]
theorem dWhy_some {st : Gr} {n : Nat} (h : st.place = some n) : dWhy st = .tuple [.int (n : Int), dInts st.elder] := by unfold dWhy; rw [h]
theorem Told.dp {K : PySem.W.Frag} {H : Hp} {st : Gr} {v : V} (h : Told H st v) : Dp K H v (dWhy st) := by
  rcases h with ⟨e, rfl⟩ | ⟨n, t, el, e, rfl, ht, he⟩
  · rw [dWhy_none e]; exact .non
  · rw [dWhy_some e]; exact .tup (SqT.of ht) (.cons (.int n) (.cons (dp_ints (SqL.of he)) .nil))
theorem shaped_why (st : Gr) : SeqAt.shaped (dWhy st) = true := by
  cases e : st.place with
  | none => rw [dWhy_none e]; decide
  | some n =>
    rw [dWhy_some e]
    have h := shaped_ints st.elder
    have h2 := depthAll_ints st.elder
    unfold SeqAt.shaped at h ⊢
    rw [Bool.and_eq_true] at h ⊢
    refine ⟨?_, decide_eq_true ?_⟩
    · simp only [PyData.canLay0, PyData.canLayAll0, h.1, Bool.and_true, Bool.true_and]
    · have e2 : (PyData.tuple [.int (n : Int), dInts st.elder]).depth ≤ 4 := by
        unfold dInts
        simp only [PyData.depth, PyData.depthAll] at h2 ⊢
        omega
      exact Nat.le_trans e2 (by decide)
theorem eqv_why (st : Gr) : PyData.eqv (dWhy st) (dWhy st) = true := by
  cases e : st.place with
  | none => rw [dWhy_none e]; simp [PyData.eqv]
  | some n =>
    rw [dWhy_some e]
    have h := eqv_ints st.elder st.elder
    rw [decide_eq_true rfl] at h
    simp [PyData.eqv, PyData.eqvAll, h]
/-- the same, with the list's address named -/
def ToldAt (H : Hp) (st : Gr) (v : V) (el : Addr) : Prop := (st.place = none ∧ v = .non) ∨ ∃ (n : Nat) (t : Addr), st.place = some n ∧ v = .ref t ∧ H t = some (.tup [.int (n : Int), .ref el]) ∧ H el = some (.lst (st.elder.map V.int))
theorem ToldAt.told {H : Hp} {st : Gr} {v : V} {el : Addr} (h : ToldAt H st v el) : Told H st v := by
  rcases h with h | ⟨n, t, e, ev, ht, he⟩
  · exact .inl h
  · exact .inr ⟨n, t, el, e, ev, ht, he⟩
theorem Told.same {H H' : Hp} {st : Gr} {v : V} (h : Told H st v) (s : Same H H') : Told H' st v := by
  rcases h with h | ⟨n, t, el, e, ev, ht, he⟩
  · exact .inl h
  · exact .inr ⟨n, t, el, e, ev, s _ _ ht, s _ _ he⟩
theorem ToldF.told {H H' : Hp} {st : Gr} {v : V} (h : ToldF H H' st v) : Told H' st v := by
  rcases h with h | ⟨n, t, l, e, ev, _, _, ht, hl⟩
  · exact .inl h
  · exact .inr ⟨n, t, l, e, ev, ht, hl⟩
/-! ### refused -/
abbrev TB__law_refused1 (C Cr : Addr) (W : WX) : TS := tDrop (tMethE C "put" (spPut C Cr) (WE W) (tVar 0) (tCons (tVar 1) tNil))
abbrev TS__law_refused1 : Addr → Value → Option Addr → TS := fun _ _ _ => tRet (tC (.bl true))
abbrev TB__law_refused_by_any1 (C Cr : Addr) (W : WX) : TS := tDrop (tMethE C "put" (spPut C Cr) (WE W) (tVar 0) (tCons (tVar 1) tNil))
abbrev TS__law_refused_by_any1 (K : PySem.W.Frag) (Ci Cr Cs Cp : Addr) : Addr → Value → Option Addr → TS := fun a cls d =>
  tRet (tAndV (tCB (rIsP K cls d a) (tCons (tVar 2) (tCons (tC (.ty "ValueError")) tNil))) (tOp (rEqD K) (tCallE (spKinds K Ci Cr Cs Cp) cls d a (tCons (tVar 2) tNil)) (tLst (tCons (tC (.bl false)) (tCons (tC (.bl true)) (tCons (tC (.bl false)) (tCons (tC (.bl false)) tNil)))))))
abbrev TB__law_row_refused1 (K : PySem.W.Frag) (Cr : Addr) (W : WX) : TS := tDrop (tCallS (spShortest K Cr) (WE W) (tCons (tVar 0) (tCons (tVar 1) tNil)))
abbrev TS__law_row_refused1 : Addr → Value → Option Addr → TS := fun _ _ _ => tAsg (tOp (rI0 fun i j => .int (i + j)) (tVar 2) (tC (.int 1))) (gName 2)
abbrev TB__law_row_refused2 (K : PySem.W.Frag) (Cr : Addr) (W : WX) : TS := tDrop (tCallS (spShowing K Cr) (WE W) (tCons (tVar 0) (tCons (tVar 1) tNil)))
abbrev TS__law_row_refused2 : Addr → Value → Option Addr → TS := fun _ _ _ => tAsg (tOp (rI0 fun i j => .int (i + j)) (tVar 2) (tC (.int 1))) (gName 2)
def spRefused (C : Addr) : Sp := fun vs H Q _ => ∃ (g lr lu le : Addr) (p x : Int) (st : Gr), vs = [.ref g, .int x] ∧ GrowAt C H p g lr lu le st ∧ Law p ∧ BM p st ∧ st.row.length ≤ 900 ∧ (x < 0 ∨ p ≤ x) ∧ ∀ H', Same H H' → Q (.bl true) H'
theorem ok_refused {f C Cr : Addr} {fd : FuncData} (G : GT K C) (a : At K mg "_law_refused" s__law_refused ["_law_grower", "_law_number"] f fd) (XT_NoRest : XC K mg "NoRest" Cr) (ex : PySem.W.exmOne K (.ref Cr) (.ref Cr) = some true)
    (h_put : HasM P w K mg base (L2N.CX P w) 3 C "put" ["self", "number"] (spPut C Cr)) : Has P w K mg base CX0 4 "_law_refused" ["_law_grower", "_law_number"] (spRefused C) := by
  refine a.has (okG a.fn sc__law_refused (fun vs H Q E h => ?_) (fun cdv A outer s H vs Q E hr h => ?_))
  · obtain ⟨_, _, _, _, _, _, _, rfl, _⟩ := h
    rfl
  · obtain ⟨g, lr, lu, le, p, x, st, rfl, g0, lw, bm, hlen, hx, q⟩ := h
    refine ⟨_, (pss_cons (L2N.ps_try_many (tb := (TB__law_refused1 C Cr)) (l := [(_, (TS__law_refused1 ))]) (Wout := fun _ _ _ _ => False) rfl rfl takesN0 (fun W pn xe tk _ => (pss_one (ps_expr (by exact (pe_hasMS (pv 0) G.cl h_put (hr.mono (by decide)) (fun σ => L2N.passAt tk σ) (by exact (pa_cons (pv 1) pa_nil))))))) (L2N.HdsOk.cons ⟨rfl, by decide, Or.inl XT_NoRest.g⟩ (fun a oe cls d pn hz hf => (pss_one (ps_ret pe_bl))) .nil))
      (pss_one (ps_ret pe_bl))), ?_⟩
    obtain ⟨dx, ob⟩ := g0.ob
    exact ⟨_, rfl, g, dx, _, rfl, ob, gl_no _ _ _ _ _ _ (by decide +kernel), _, rfl, g, lr, lu, le, p, x, st, rfl, g0, lw, bm, by omega, fun _ => ⟨true, ex, fun _ _ _ => q _ (fun _ _ z => z), fun z => Bool.noConfusion z⟩, fun h0 h1 => by omega⟩
theorem ok_rba {f C Ci Cr Cs Cp CR : Addr} {fd : FuncData} (T : Bt mg) (G : GT K C) (a : At K mg "_law_refused_by_any" s__law_refused_by_any ["_law_grower", "_law_number"] f fd) (XT_RuleError : XC K mg "RuleError" CR) (kr : IsKind K Ci Cr Cs Cp Cr false true false false) (ex : PySem.W.exmOne K (.ref Cr) (.ref CR) = some true)
    (h_put : HasM P w K mg base (L2N.CX P w) 3 C "put" ["self", "number"] (spPut C Cr)) (h__law_kinds : HasE P w K mg base 1 "_law_kinds" ["_law_error"] (spKinds K Ci Cr Cs Cp)) : Has P w K mg base CX0 4 "_law_refused_by_any" ["_law_grower", "_law_number"] (spRefused C) := by
  refine a.has (okG a.fn sc__law_refused_by_any (fun vs H Q E h => ?_) (fun cdv A outer s H vs Q E hr h => ?_))
  · obtain ⟨_, _, _, _, _, _, _, rfl, _⟩ := h
    rfl
  · obtain ⟨g, lr, lu, le, p, x, st, rfl, g0, lw, bm, hlen, hx, q⟩ := h
    have hu := hr.units
    refine ⟨_, (pss_cons (L2N.ps_try_as (i := 2) (tb := (TB__law_refused_by_any1 C Cr)) (ts := (TS__law_refused_by_any1 K Ci Cr Cs Cp)) (Wout := fun _ _ _ _ => False) rfl rfl sc__law_refused_by_any.nd rfl rfl ⟨rfl, by decide, Or.inl XT_RuleError.g⟩ takesN0 (fun W pn xe tk _ => (pss_one (ps_expr (by exact (pe_hasMS (pv 0) G.cl h_put (hr.mono (by decide)) (fun σ => L2N.passAt tk σ) (by exact (pa_cons (pv 1) pa_nil))))))) (fun a oe cls d pn hz hf => (pss_one (ps_ret (pe_and (pe_callB (call_isP List.mem_cons_self hz hf) (by rfl) T.b_isinstance (by decide +kernel) (pa_cons (pv 2) (pa_cons (pe_bltn (v := .ty "ValueError") (by rfl) T.b_ValueError (by decide +kernel) rfl) pa_nil))) (pe_one (pe_cmpR (op_eqD hu) (pe_hasE h__law_kinds (room_mark (hr.mono (by decide))) List.mem_cons_self hz hf (pa_cons (pv 2) pa_nil)) (pe_lst (pa_cons pe_bl (pa_cons pe_bl (pa_cons pe_bl (pa_cons pe_bl pa_nil))))) (nomark _))))))))
      (pss_one (ps_ret pe_bl))), ?_⟩
    obtain ⟨dx, ob⟩ := g0.ob
    refine ⟨_, rfl, g, dx, _, rfl, ob, gl_no _ _ _ _ _ _ (by decide +kernel), _, rfl, g, lr, lu, le, p, x, st, rfl, g0, lw, bm, by omega, fun _ => ⟨true, ex, fun _ e he => ?_, fun z => Bool.noConfusion z⟩, fun h0 h1 => by omega⟩
    refine ⟨_, rfl, Cr, _, _, true, rfl, rfl, kr.e, rfl, fun _ h => h, kr.v, true, rfl, ?_⟩
    refine iteT ?_
    refine ⟨_, rfl, Cr, rfl, rfl, rfl, false, true, false, false, kr, fun H' q' s1 hq => ?_⟩
    refine ⟨(by show 4 ≤ sizeLine; decide), fun m hm => ?_⟩
    refine ⟨dBls [false, true, false, false], dBls [false, true, false, false], dp_bls (SqL.of (by rw [upd_ne (ne_of_none hq hm)]; exact hq)), dp_bls (SqL.of upd_same), shaped_bls _ _ _ _, shaped_bls _ _ _ _, ?_⟩
    rw [eqv_bls]
    exact q _ (L2.Same.trans s1 (Same.new hm))
def spRowRefused (K : PySem.W.Frag) : Sp := fun vs H Q _ => ∃ (a : Addr) (row : List Int) (p : Int), vs = [.ref a, .int p] ∧ SqL K H a (row.map V.int) ∧ Law p ∧ row.length ≤ 900 ∧ ¬ Rests p row ∧ ∀ H', Same H H' → Q (.bl true) H'
theorem ok_rowRefused {f Cr : Addr} {fd : FuncData} (a : At K mg "_law_row_refused" s__law_row_refused ["_law_row", "_law_prime_here"] f fd) (XT_NoRest : XC K mg "NoRest" Cr) (ex : PySem.W.exmOne K (.ref Cr) (.ref Cr) = some true)
    (h_shortest : Has P w K mg base (L2N.CX P w) 5 "shortest" ["row", "prime"] (spShortest K Cr)) (h_showing : Has P w K mg base (L2N.CX P w) 5 "showing" ["row", "prime"] (spShowing K Cr)) : Has P w K mg base CX0 6 "_law_row_refused" ["_law_row", "_law_prime_here"] (spRowRefused K) := by
  refine a.has (okG a.fn sc__law_row_refused (fun vs H Q E h => ?_) (fun cdv A outer s H vs Q E hr h => ?_))
  · obtain ⟨_, _, _, rfl, _⟩ := h
    rfl
  · obtain ⟨l, row, p, rfl, hs, lw, hlen, nr, q⟩ := h
    refine ⟨_, (pss_cons (ps_set (i := 2) sc__law_row_refused.nd rfl (Or.inl rfl) pe_int)
      (pss_cons (L2N.ps_try_many (tb := (TB__law_row_refused1 K Cr)) (l := [(_, (TS__law_row_refused1 ))]) (Wout := fun _ _ _ _ => False) rfl rfl takesN0 (fun W pn xe tk _ => (pss_one (ps_expr (by exact (pe_hasS h_shortest (hr.mono (by decide)) (fun σ => L2N.passAt tk σ) (by exact (pa_cons (pv 0) (pa_cons (pv 1) pa_nil)))))))) (L2N.HdsOk.cons ⟨rfl, by decide, Or.inl XT_NoRest.g⟩ (fun a oe cls d pn hz hf => (pss_one (ps_set (i := 2) sc__law_row_refused.nd rfl (Or.inl rfl) (pe_op op_add (pv 2) pe_int)))) .nil))
      (pss_cons (L2N.ps_try_many (tb := (TB__law_row_refused2 K Cr)) (l := [(_, (TS__law_row_refused2 ))]) (Wout := fun _ _ _ _ => False) rfl rfl takesN0 (fun W pn xe tk _ => (pss_one (ps_expr (by exact (pe_hasS h_showing (hr.mono (by decide)) (fun σ => L2N.passAt tk σ) (by exact (pa_cons (pv 0) (pa_cons (pv 1) pa_nil)))))))) (L2N.HdsOk.cons ⟨rfl, by decide, Or.inl XT_NoRest.g⟩ (fun a oe cls d pn hz hf => (pss_one (ps_set (i := 2) sc__law_row_refused.nd rfl (Or.inl rfl) (pe_op op_add (pv 2) pe_int)))) .nil))
      (pss_one (ps_ret (pe_cmpR op_eq (pv 2) pe_int (nomark _))))))), ?_⟩
    refine ⟨_, rfl, _, rfl, l, row, p, rfl, hs, lw, hlen, fun _ H1 s1 => ⟨true, ex, fun _ _ _ => ?_, fun z => Bool.noConfusion z⟩, fun z => absurd z nr⟩
    refine ⟨_, rfl, _, _, rfl, rfl, ?_⟩
    refine ⟨_, rfl, _, rfl, l, row, p, rfl, s1.seq hs, lw, hlen, fun _ H2 s2 => ⟨true, ex, fun _ _ _ => ?_, fun z => Bool.noConfusion z⟩, fun z => absurd z nr⟩
    refine ⟨_, rfl, _, _, rfl, rfl, ?_⟩
    refine ⟨_, rfl, rfl, ?_⟩
    exact q _ (s1.trans s2)
/-! ### what a grower says -/
def dSaid (st : Gr) : PyData := .list [dInts st.rule, .int (st.row.length : Int), dWhy st]
theorem eqv_said (st : Gr) : PyData.eqv (dSaid st) (dSaid st) = true := by
  have h1 := eqv_ints st.rule st.rule
  rw [decide_eq_true rfl] at h1
  have h2 := eqv_why st
  simp [dSaid, PyData.eqv, PyData.eqvAll, h1, h2]
theorem depth_why (st : Gr) : (dWhy st).depth ≤ 4 := by
  cases e : st.place with
  | none => rw [dWhy_none e]; decide
  | some n =>
    rw [dWhy_some e]
    have h2 := depthAll_ints st.elder
    unfold dInts
    simp only [PyData.depth, PyData.depthAll] at h2 ⊢
    omega
theorem shaped_said (st : Gr) : SeqAt.shaped (dSaid st) = true := by
  have h1 := shaped_ints st.rule
  have h2 := shaped_why st
  have d1 := depthAll_ints st.rule
  have d2 := depth_why st
  unfold SeqAt.shaped at h1 h2 ⊢
  rw [Bool.and_eq_true] at h1 h2 ⊢
  refine ⟨?_, decide_eq_true ?_⟩
  · unfold dSaid
    simp only [PyData.canLay0, PyData.canLayAll0, h1.1, h2.1, Bool.and_true, Bool.true_and]
  · have e2 : (dSaid st).depth ≤ 6 := by
      unfold dSaid dInts
      simp only [PyData.depth, PyData.depthAll] at d1 ⊢
      omega
    exact Nat.le_trans e2 (by decide)
/-- what was said of a state stands at q -/
def Said (H : Hp) (st : Gr) (q : Addr) : Prop := ∃ (t : Addr) (v : V), H q = some (.lst [.ref t, .int (st.row.length : Int), v]) ∧ H t = some (.lst (st.rule.map V.int)) ∧ Told H st v
theorem Said.same {H H' : Hp} {st : Gr} {q : Addr} (h : Said H st q) (s : Same H H') : Said H' st q := by
  obtain ⟨t, v, a, b, c⟩ := h
  exact ⟨t, v, s _ _ a, s _ _ b, c.same s⟩
theorem Said.dp {K : PySem.W.Frag} {H : Hp} {st : Gr} {q : Addr} (h : Said H st q) : Dp K H (.ref q) (dSaid st) := by
  obtain ⟨t, v, a, b, c⟩ := h
  exact .lst (SqL.of a) (.cons (dp_ints (SqL.of b)) (.cons (.int _) (.cons c.dp .nil)))
def spSaid (C : Addr) : Sp := fun vs H Q _ => ∃ (g lr lu le : Addr) (p : Int) (st : Gr), vs = [.ref g] ∧ GrowAt C H p g lr lu le st ∧ ∀ (H' : Hp) (q : Addr), Same H H' → Said H' st q → Q (.ref q) H'
theorem ok_said {f C : Addr} {fd : FuncData} (G : GT K C) (a : At K mg "_law_said" s__law_said ["_law_grower"] f fd) (h_told : HasM P w K mg base CX0 1 C "told" ["self"] (spTold C)) (h_many : HasM P w K mg base CX0 1 C "many" ["self"] (spMany C)) (h_why : HasM P w K mg base CX0 1 C "why" ["self"] (spWhy C)) :
    Has P w K mg base CX0 2 "_law_said" ["_law_grower"] (spSaid C) := by
  refine a.has (okG a.fn sc__law_said (fun vs H Q E h => ?_) (fun cdv A outer s H vs Q E hr h => ?_))
  · obtain ⟨_, _, _, _, _, _, rfl, _⟩ := h
    rfl
  · obtain ⟨g, lr, lu, le, p, st, rfl, g0, q⟩ := h
    refine ⟨_, (pss_one (ps_ret (pe_lst (pa_cons (pe_hasM0 (pv 0) G.cl h_told (hr.mono (by decide)) pass0) (pa_cons (pe_hasM0 (pv 0) G.cl h_many (hr.mono (by decide)) pass0) (pa_cons (pe_hasM0 (pv 0) G.cl h_why (hr.mono (by decide)) pass0) pa_nil)))))), ?_⟩
    obtain ⟨dx, ob⟩ := g0.ob
    refine ⟨_, rfl, g, dx, _, rfl, ob, gl_no _ _ _ _ _ _ (by decide +kernel), g, lr, lu, le, p, st, rfl, g0, fun H1 q1 _ s1 h1 => ?_⟩
    have g1 := g0.same s1
    obtain ⟨dx1, ob1⟩ := g1.ob
    refine ⟨_, rfl, g, dx1, _, rfl, ob1, gl_no _ _ _ _ _ _ (by decide +kernel), g, lr, lu, le, p, st, rfl, g1, ?_⟩
    refine ⟨_, rfl, g, dx1, _, rfl, ob1, gl_no _ _ _ _ _ _ (by decide +kernel), g, lr, lu, le, p, st, rfl, g1, fun v H2 s2 t2 => ?_⟩
    refine ⟨(by show 3 ≤ sizeLine; decide), fun m hm => ?_⟩
    have s3 : Same H2 (upd H2 m (.lst [.ref q1, .int (st.row.length : Int), v])) := Same.new hm
    exact q _ m ((s1.trans s2).trans s3) ⟨q1, v, upd_same, s3 _ _ (s2 _ _ h1), t2.told.same s3⟩
/-! ### the law -/
def spLaw (K : PySem.W.Frag) : Sp := fun vs H Q _ => ∃ (a : Addr) (ns : List Int), vs = [.ref a] ∧ SqL K H a (ns.map V.int) ∧ ns.length ≤ 63 ∧ ∀ H', Q (.bl true) H'
theorem ne_or {x lu lr : Addr} {H : Hp} {o : HO} (h : x = lu ∨ H x = none) (n : lu ≠ lr) (e : H lr = some o) : x ≠ lr := by
  rcases h with h | h
  · rw [h]; exact n
  · intro z
    rw [z, e] at h
    cases h
theorem bad_number {p m : Int} (hm : 0 ≤ m) {j : Nat} (hj : j < 4) : gd [-1 - m, p + m, p, -1] j < 0 ∨ p ≤ gd [-1 - m, p + m, p, -1] j := by
  have : j = 0 ∨ j = 1 ∨ j = 2 ∨ j = 3 := by omega
  rcases this with h | h | h | h <;> subst h
  · exact .inl (show -1 - m < 0 by omega)
  · exact .inr (show p ≤ p + m by omega)
  · exact .inr (Int.le_refl p)
  · exact .inl (show (-1 : Int) < 0 by decide)
theorem ok_law {f C Cr : Addr} {fd : FuncData} (T : Bt mg) (G : GT K C) (a : At K mg "law" s_law ["_law_script"] f fd)
    (h__law_prime : Has P w K mg base CX0 2 "_law_prime" ["_law_cell"] spPrime) (h__law_cell_at : Has P w K mg base CX0 1 "_law_cell_at" ["_law_script", "_law_k"] (spCell K)) (h__law_mixed : Has P w K mg base CX0 1 "_law_mixed" ["_law_cell", "_law_k"] spMixed)
    (h__law_row_by : Has P w K mg base CX0 3 "_law_row_by" ["_law_script", "_law_size", "_law_prime_here"] (spRow K)) (h_Grower : HasC P w K mg base CX0 1 C "Grower" ["self", "prime"] (spInit C))
    (h_put : HasM P w K mg base (L2N.CX P w) 3 C "put" ["self", "number"] (spPut C Cr)) (h_many : HasM P w K mg base CX0 1 C "many" ["self"] (spMany C))
    (h__law_said : Has P w K mg base CX0 2 "_law_said" ["_law_grower"] (spSaid C)) (h__law_refused : Has P w K mg base CX0 4 "_law_refused" ["_law_grower", "_law_number"] (spRefused C)) (h__law_refused_by_any : Has P w K mg base CX0 4 "_law_refused_by_any" ["_law_grower", "_law_number"] (spRefused C))
    (h__law_row_refused : Has P w K mg base CX0 6 "_law_row_refused" ["_law_row", "_law_prime_here"] (spRowRefused K)) : FnOk P w K mg base CX0 7 f fd ["_law_script"] (spLaw K) := by
  refine okG a.fn sc_law (fun vs H Q E h => ?_) (fun cdv A outer s H vs Q E hr h => ?_)
  · obtain ⟨_, _, rfl, _⟩ := h
    rfl
  · obtain ⟨l, ns, rfl, hs, hlen, q⟩ := h
    have hu := hr.units
    refine ⟨_, (pss_cons (ps_set (i := 1) sc_law.nd rfl (Or.inl rfl) (pe_has h__law_prime (hr.mono (by decide)) pass0 (pa_cons (pe_has h__law_cell_at (hr.mono (by decide)) pass0 (pa_cons (pv 0) (pa_cons pe_int pa_nil))) pa_nil)))
      (pss_cons (ps_set (i := 2) sc_law.nd rfl (Or.inl rfl) (pe_op op_mod (pe_has h__law_mixed (hr.mono (by decide)) pass0 (pa_cons (pe_has h__law_cell_at (hr.mono (by decide)) pass0 (pa_cons (pv 0) (pa_cons pe_int pa_nil))) (pa_cons pe_int pa_nil))) pe_int))
      (C8.pss_cut (ps_if (pt_cmpR op_eq (pe_op op_mod (pe_has h__law_mixed (hr.mono (by decide)) pass0 (pa_cons (pe_has h__law_cell_at (hr.mono (by decide)) pass0 (pa_cons (pv 0) (pa_cons pe_int pa_nil))) (pa_cons pe_int pa_nil))) pe_int) pe_int (nomark _)) (pss_one (ps_set (i := 2) sc_law.nd rfl (Or.inl rfl) (pe_op op_mod (pe_has h__law_mixed (hr.mono (by decide)) pass0 (pa_cons (pe_has h__law_cell_at (hr.mono (by decide)) pass0 (pa_cons (pv 0) (pa_cons pe_int pa_nil))) (pa_cons pe_int pa_nil))) pe_int))) pss_nil)
      (pss_cons (ps_set (i := 3) sc_law.nd rfl (Or.inl rfl) (pe_has h__law_row_by (hr.mono (by decide)) pass0 (pa_cons (pv 0) (pa_cons (pv 2) (pa_cons (pv 1) pa_nil)))))
      (pss_cons (ps_set (i := 4) sc_law.nd rfl (Or.inl rfl) (pe_op op_mod (pe_has h__law_cell_at (hr.mono (by decide)) pass0 (pa_cons (pv 0) (pa_cons pe_int pa_nil))) (pe_op op_pow pe_int pe_int)))
      (pss_cons (ps_set (i := 5) sc_law.nd rfl (Or.inl rfl) (pe_ix ix_list (pe_lst (pa_cons (pe_op op_sub (pe_un un_neg pe_int) (pv 4)) (pa_cons (pe_op op_add (pv 1) (pv 4)) (pa_cons (pv 1) (pa_cons (pe_un un_neg pe_int) pa_nil))))) (pe_op op_mod (pe_has h__law_mixed (hr.mono (by decide)) pass0 (pa_cons (pe_has h__law_cell_at (hr.mono (by decide)) pass0 (pa_cons (pv 0) (pa_cons pe_int pa_nil))) (pa_cons pe_int pa_nil))) pe_int) (fun _ _ => rfl)))
      (pss_cons (ps_set (i := 6) sc_law.nd rfl (Or.inl rfl) (pe_op op_mod (pe_has h__law_mixed (hr.mono (by decide)) pass0 (pa_cons (pe_has h__law_cell_at (hr.mono (by decide)) pass0 (pa_cons (pv 0) (pa_cons pe_int pa_nil))) (pa_cons pe_int pa_nil))) (pe_op op_add (pv 2) pe_int)))
      (pss_cons (ps_set (i := 7) sc_law.nd rfl (Or.inl rfl) (pe_hasC h_Grower (hr.mono (by decide)) pass0 (pa_cons (pv 1) pa_nil)))
      (pss_cons (ps_set (i := 8) sc_law.nd rfl (Or.inl rfl) (pe_hasC h_Grower (hr.mono (by decide)) pass0 (pa_cons (pv 1) pa_nil)))
      (pss_cons (ps_for (passes_of rfl) rfl (pi_range1 rfl T.b_range (pa_cons (pe_op op_add (pv 2) pe_int) pa_nil)) (pg_name (i := 9) sc_law.nd rfl (Or.inl rfl)) (C8.pss_cut (ps_if (pt_cmpR op_eq (pv 9) (pv 6) (nomark _)) (pss_cons (ps_set (i := 10) sc_law.nd rfl (Or.inl rfl) (pe_has h__law_said (hr.mono (by decide)) pass0 (pa_cons (pv 8) pa_nil)))
      (C8.pss_cut (ps_if (PW.pt (pw_or (pt_not (pt_val (pe_has h__law_refused (hr.mono (by decide)) pass0 (pa_cons (pv 8) (pa_cons (pv 5) pa_nil))))) (pw_or1 (pt_not (pt_val (pe_has h__law_refused_by_any (hr.mono (by decide)) pass0 (pa_cons (pv 8) (pa_cons (pv 5) pa_nil)))))))) (pss_one (ps_ret pe_bl)) pss_nil)
      (pss_one (ps_if (pt_cmpR (op_neD hu) (pe_has h__law_said (hr.mono (by decide)) pass0 (pa_cons (pv 8) pa_nil)) (pv 10) (nomark _)) (pss_one (ps_ret pe_bl)) pss_nil)))) pss_nil)
      (pss_one (ps_if (pt_cmpR op_lt (pv 9) (pv 2) (nomark _)) (pss_cons (ps_expr (pe_hasM (pv 7) G.cl h_put (hr.mono (by decide)) passN (pa_cons (pe_ix ix_list (pv 3) (pv 9) (fun _ _ => rfl)) pa_nil)))
      (pss_one (ps_expr (pe_hasM (pv 8) G.cl h_put (hr.mono (by decide)) passN (pa_cons (pe_ix ix_list (pv 3) (pv 9) (fun _ _ => rfl)) pa_nil))))) pss_nil))))
      (C8.pss_cut (ps_if (PW.pt (pw_or (pt_cmpR (op_neD hu) (pe_has h__law_said (hr.mono (by decide)) pass0 (pa_cons (pv 7) pa_nil)) (pe_has h__law_said (hr.mono (by decide)) pass0 (pa_cons (pv 8) pa_nil)) (nomark _)) (pw_or1 (pt_cmpR op_ne (pe_hasM0 (pv 7) G.cl h_many (hr.mono (by decide)) pass0) (pv 2) (nomark _))))) (pss_one (ps_ret pe_bl)) pss_nil)
      (pss_cons (ps_set (i := 11) sc_law.nd rfl (Or.inl rfl) (pe_op op_cat (pe_op op_cat (pe_slice sl_list (pv 3) po_none (po_some (pv 6))) (pe_lst (pa_cons (pv 5) pa_nil))) (pe_slice sl_list (pv 3) (po_some (pv 6)) po_none)))
      (pss_cons (ps_set (i := 12) sc_law.nd rfl (Or.inl rfl) (pe_callTy (T := "list") call_list_of (by rfl) T.b_list (by decide +kernel) (pa_cons (pv 11) pa_nil)))
      (pss_one (ps_ret (pe_and (pe_has h__law_row_refused (hr.mono (by decide)) pass0 (pa_cons (pv 12) (pa_cons (pv 1) pa_nil))) (pe_one (pe_cmpR (op_eqD hu) (pv 12) (pv 11) (nomark _))))))))))))))))))), ?_⟩
    refine ⟨_, rfl, l, ns, 0, rfl, hs, _, rfl, fun p H1 lw s1 => ?_⟩
    have hp2 := lw.1.1
    have p0 : (0 : Int) < p := by omega
    have hs1 : SqL K H1 l (ns.map V.int) := s1.seq hs
    refine ⟨_, rfl, l, ns, 2, rfl, hs1, _, 2, rfl, by decide, fun H2 s2 => ⟨_, _, rfl, rfl, (by show (0 : Int) < 13; decide), ?_⟩⟩
    have hs2 := s2.seq hs1
    refine ⟨fun σ H' => ∃ size : Nat, size ≤ 200 ∧ σ = [some (.ref l), some (.int p), some (.int (size : Int)), none, none, none, none, none, none, none, none, none, none] ∧ Same H2 H', ?_, ?_⟩
    · refine ⟨_, rfl, l, ns, 2, rfl, hs2, _, 3, rfl, by decide, fun H3 s3 => ⟨_, _, rfl, rfl, (by show (0 : Int) < 8; decide), ?_⟩⟩
      refine ⟨rfl, _, rfl, ifD (fun _ => ?_) (fun _ => ?_)⟩
      · refine ⟨_, rfl, l, ns, 2, rfl, s3.seq hs2, _, 2, rfl, by decide, fun H4 s4 => ⟨_, _, rfl, rfl, (by show (0 : Int) < 200; decide), ?_⟩⟩
        exact ⟨(mixedOf (gd ns 2) 2 % 200).toNat, by omega, by rw [Int.toNat_of_nonneg (by omega)] <;> rfl, s3.trans s4⟩
      · exact ⟨(mixedOf (gd ns 2) 2 % 13).toNat, by omega, by rw [Int.toNat_of_nonneg (by omega)] <;> rfl, s3⟩
    rintro σ H5 ⟨size, hsize, rfl, s5⟩
    have hs5 : SqL K H5 l (ns.map V.int) := s5.seq hs2
    -- the row
    refine ⟨_, rfl, _, rfl, _, rfl, l, ns, size, p, rfl, hs5, lw, hsize, fun row H6 d rt lrow _ s6 h6 => ?_⟩
    subst lrow
    have hs6 := s6.seq hs5
    have er := fun i => growAll_row lw.1 (rt.take i)
    have bms := fun i => growAll_ok lw.1 (rt.take i)
    -- the number that is no rest
    have pow (n : Nat) (h : n ≤ 1000000) : (0 : Int) ≤ (n : Int) ∧ (n : Int) ≤ 1000000 ∧ (10 : Int).natAbs < 2 ^ 64 := ⟨by omega, by omega, by decide⟩
    refine ⟨_, rfl, l, ns, 9, rfl, hs6, _, _, rfl, rfl, pow 20 (by decide), _, _, rfl, rfl, (by show (0 : Int) < 10 ^ 20; decide), ?_⟩
    obtain ⟨much, em⟩ : ∃ m, m = gd ns 9 % 10 ^ 20 := ⟨_, rfl⟩
    have hm0 : 0 ≤ gd ns 9 % 10 ^ 20 := Int.emod_nonneg _ (by decide)
    refine ⟨_, rfl, _, rfl, _, _, rfl, rfl, _, rfl, _, rfl, _, _, rfl, rfl, _, rfl, _, rfl, (by show 4 ≤ sizeLine; decide), fun m hm => ?_⟩
    have s7 : Same H6 (upd H6 m (.lst ([-1 - gd ns 9 % 10 ^ 20, p + gd ns 9 % 10 ^ 20, p, -1].map V.int))) := Same.new hm
    have k7 : (upd H6 m (.lst ([-1 - gd ns 9 % 10 ^ 20, p + gd ns 9 % 10 ^ 20, p, -1].map V.int))) m = some (.lst ([-1 - gd ns 9 % 10 ^ 20, p + gd ns 9 % 10 ^ 20, p, -1].map V.int)) := upd_same
    refine ⟨_, rfl, l, ns, 2, rfl, s7.seq hs6, _, 0, rfl, by decide, fun H8 s8 => ⟨_, _, rfl, rfl, (by show (0 : Int) < 4; decide), ?_⟩⟩
    have hj : (mixedOf (gd ns 2) 0 % 4).toNat < 4 := by omega
    refine ⟨m, [-1 - gd ns 9 % 10 ^ 20, p + gd ns 9 % 10 ^ 20, p, -1].map V.int, _, _, rfl, rfl, SqL.of (s8 _ _ k7), at_map (j := (mixedOf (gd ns 2) 0 % 4).toNat) (by omega) hj, ?_⟩
    have bad := bad_number (p := p) hm0 hj
    generalize gd [-1 - gd ns 9 % 10 ^ 20, p + gd ns 9 % 10 ^ 20, p, -1] (mixedOf (gd ns 2) 0 % 4).toNat = x at bad ⊢
    have s68 := s7.trans s8
    -- the place
    refine ⟨_, rfl, l, ns, 2, rfl, s68.seq hs6, _, 1, rfl, by decide, fun H9 s9 => ⟨_, rfl, _, _, rfl, rfl, _, _, rfl, rfl, (by omega), ?_⟩⟩
    obtain ⟨pl, epl⟩ : ∃ n : Nat, (n : Int) = mixedOf (gd ns 2) 1 % ((row.length : Int) + 1) := ⟨(mixedOf (gd ns 2) 1 % ((row.length : Int) + 1)).toNat, Int.toNat_of_nonneg (Int.emod_nonneg _ (by omega))⟩
    have hpl : pl ≤ row.length := by
      have := Int.emod_lt_of_pos (mixedOf (gd ns 2) 1) (b := (row.length : Int) + 1) (by omega)
      omega
    have h9 := s9 _ _ (s68 _ _ h6)
    -- the two growers
    refine ⟨_, rfl, fun g dx hg hdx ndx => ⟨g, dx, p, rfl, upd_same, fun lr lu le H10 g10 e1 e2 e3 kpp => ⟨rfl, ?_⟩⟩⟩
    have s0 : Same H9 (upd (upd H9 dx (.own g)) g (.ins C dx [])) := fun b o hb => by rw [upd_ne (ne_of_none hb hg), upd_ne (ne_of_none hb hdx)]; exact hb
    have s10 : Same H9 H10 := fun b o hb => kpp b o (s0 b o hb) (ne_of_none hb hg)
    have ndr : d ≠ lr := ne_of_none h9 (s0.free e1)
    have h10 := s10 _ _ h9
    refine ⟨_, rfl, fun g2 dx2 hg2 hdx2 ndx2 => ⟨g2, dx2, p, rfl, upd_same, fun lr2 lu2 le2 H11 gb1 eb1 eb2 eb3 kpb => ⟨rfl, ?_⟩⟩⟩
    have s0b : Same H10 (upd (upd H10 dx2 (.own g2)) g2 (.ins C dx2 [])) := fun b o hb => by rw [upd_ne (ne_of_none hb hg2), upd_ne (ne_of_none hb hdx2)]; exact hb
    have s11 : Same H10 H11 := fun b o hb => kpb b o (s0b b o hb) (ne_of_none hb hg2)
    have fb1 := s0b.free eb1
    have fb2 := s0b.free eb2
    have fb3 := s0b.free eb3
    have ndr2 : d ≠ lr2 := ne_of_none h10 fb1
    obtain ⟨dx10, ob10⟩ := g10.ob
    have ngg : g ≠ g2 := ne_of_none ob10 hg2
    have nrr : lr ≠ lr2 := ne_of_none g10.row fb1
    have nur : lu ≠ lr2 := ne_of_none g10.rule fb1
    have ner : le ≠ lr2 := ne_of_none g10.elder fb1
    have nur2 : lu2 ≠ lr := (ne_of_none g10.row fb2).symm
    have ner2 : le2 ≠ lr := (ne_of_none g10.row fb3).symm
    refine ⟨_, rfl, _, _, rfl, rfl, _, rfl, (by omega), (by omega), for_range (n := row.length + 1)
      (fun i σ H' => ∃ (v9 v10 : Option V) (lu le lu2 le2 : Addr), σ = [some (.ref l), some (.int p), some (.int (row.length : Int)), some (.ref d), some (.int (gd ns 9 % 10 ^ 20)), some (.int x), some (.int (mixedOf (gd ns 2) 1 % ((row.length : Int) + 1))), some (.ref g), some (.ref g2), v9, v10, none, none] ∧
        H' d = some (.lst (row.map V.int)) ∧ GrowAt C H' p g lr lu le (growAll p (row.take i)) ∧ GrowAt C H' p g2 lr2 lu2 le2 (growAll p (row.take i)) ∧ lu ≠ lr2 ∧ le ≠ lr2 ∧ lu2 ≠ lr ∧ le2 ≠ lr)
      ⟨none, none, lu, le, lu2, le2, rfl, s11 _ _ h10, g10.same s11, gb1, nur, ner, nur2, ner2⟩ ?_ ?_⟩
    · rintro i σ H12 hi ⟨v9, v10, lu, le, lu2, le2, rfl, hd, ga, gb, m1, m2, m3, m4⟩
      have bl : (growAll p (row.take i)).row.length ≤ 900 := by rw [er, List.length_take]; omega
      refine ⟨fun σ H' => ∃ v10 : Option V, σ = [some (.ref l), some (.int p), some (.int (row.length : Int)), some (.ref d), some (.int (gd ns 9 % 10 ^ 20)), some (.int x), some (.int (mixedOf (gd ns 2) 1 % ((row.length : Int) + 1))), some (.ref g), some (.ref g2), some (.int (0 + i)), v10, none, none] ∧ Same H12 H', ?_, ?_⟩
      · refine ⟨_, rfl, _, rfl, rfl, _, rfl, ifD (fun _ => ?_) (fun _ => ⟨v10, rfl, fun _ _ z => z⟩)⟩
        refine ⟨_, rfl, g2, lr2, lu2, le2, p, _, rfl, gb, fun H13 q13 s13 sd => ?_⟩
        refine ⟨fun σ H' => σ = [some (.ref l), some (.int p), some (.int (row.length : Int)), some (.ref d), some (.int (gd ns 9 % 10 ^ 20)), some (.int x), some (.int (mixedOf (gd ns 2) 1 % ((row.length : Int) + 1))), some (.ref g), some (.ref g2), some (.int (0 + i)), some (.ref q13), none, none] ∧ Same H13 H', ?_, ?_⟩
        · refine ⟨_, rfl, _, rfl, g2, lr2, lu2, le2, p, x, _, rfl, gb.same s13, lw, bms i, bl, bad, fun H14 s14 => ⟨true, rfl, iteF ?_⟩⟩
          exact ⟨_, rfl, _, rfl, g2, lr2, lu2, le2, p, x, _, rfl, gb.same (s13.trans s14), lw, bms i, bl, bad, fun H15 s15 => ⟨true, rfl, iteF ⟨rfl, s14.trans s15⟩⟩⟩
        rintro σ H14 ⟨rfl, s14⟩
        refine ⟨_, rfl, g2, lr2, lu2, le2, p, _, rfl, gb.same (s13.trans s14), fun H15 q15 s15 sd2 => ?_⟩
        refine ⟨_, rfl, dSaid _, dSaid _, sd2.dp, (sd.same (s14.trans s15)).dp, shaped_said _, shaped_said _, _, rfl, ?_⟩
        rw [eqv_said]
        exact iteF ⟨_, rfl, s13.trans (s14.trans s15)⟩
      rintro σ H13 ⟨v10, rfl, s13⟩
      have hd := s13 _ _ hd
      have ga := ga.same s13
      have gb := gb.same s13
      refine ⟨_, rfl, _, rfl, _, _, rfl, rfl, _, rfl, ifD (fun c => ?_) (fun c => ?_)⟩
      · have c : (0 : Int) + (i : Int) < (row.length : Int) := c
        have hi2 : i < row.length := by omega
        have hx := rt _ (gd_mem hi2)
        have eg : growAll p (row.take (i + 1)) = (growAll p (row.take i)).put p (gd row i) := by rw [take_succ hi2, growAll_app]
        obtain ⟨dxa, oba⟩ := ga.ob
        obtain ⟨dxb, obb⟩ := gb.ob
        refine ⟨_, rfl, g, dxa, _, rfl, oba, gl_no _ _ _ _ _ _ (by decide +kernel), _, rfl, _, rfl, d, _, _, _, rfl, rfl, SqL.of hd, at_map (by omega) hi2, ?_⟩
        refine ⟨g, lr, lu, le, p, gd row i, _, rfl, ga, lw, bms i, by omega, fun c => (by omega), fun h0 h1 H14 lu' le' ga' hlu hle kpa => ?_⟩
        rw [← eg] at ga'
        have gb' := gb.keep kpa ⟨_, _, oba⟩ ⟨_, ga.row⟩ ngg.symm nrr.symm m3 m4
        have m1' := ne_or hlu m1 gb.row
        have m2' := ne_or hle m2 gb.row
        have hd' := kpa _ _ hd (ne_of hd oba (by intro z; cases z)) ndr
        obtain ⟨dxb', obb'⟩ := gb'.ob
        refine ⟨_, rfl, g2, dxb', _, rfl, obb', gl_no _ _ _ _ _ _ (by decide +kernel), _, rfl, _, rfl, d, _, _, _, rfl, rfl, SqL.of hd', at_map (by omega) hi2, ?_⟩
        refine ⟨g2, lr2, lu2, le2, p, gd row i, _, rfl, gb', lw, bms i, by omega, fun c => (by omega), fun h0 h1 H15 lu2' le2' gb2 hlu2 hle2 kpb => ?_⟩
        rw [← eg] at gb2
        exact ⟨_, v10, lu', le', lu2', le2', rfl, kpb _ _ hd' (ne_of hd' obb' (by intro z; cases z)) ndr2, ga'.keep kpb ⟨_, _, obb'⟩ ⟨_, gb'.row⟩ ngg nrr m1' m2', gb2, m1', m2', ne_or hlu2 m3 ga'.row, ne_or hle2 m4 ga'.row⟩
      · have c : ¬ (0 : Int) + (i : Int) < (row.length : Int) := c
        have et : row.take (i + 1) = row.take i := by rw [List.take_of_length_le (by omega), List.take_of_length_le (by omega)]
        exact ⟨_, v10, lu, le, lu2, le2, rfl, hd, et ▸ ga, et ▸ gb, m1, m2, m3, m4⟩
    rintro σ H12 ⟨v9, v10, lu, le, lu2, le2, rfl, hd, ga, gb, _, _, _, _⟩
    rw [List.take_of_length_le (by omega)] at ga gb
    have er' := growAll_row lw.1 rt
    refine ⟨fun σ H' => σ = [some (.ref l), some (.int p), some (.int (row.length : Int)), some (.ref d), some (.int (gd ns 9 % 10 ^ 20)), some (.int x), some (.int (mixedOf (gd ns 2) 1 % ((row.length : Int) + 1))), some (.ref g), some (.ref g2), v9, v10, none, none] ∧ Same H12 H', ?_, ?_⟩
    · refine ⟨_, rfl, g, lr, lu, le, p, _, rfl, ga, fun H13 q13 s13 sd => ?_⟩
      refine ⟨_, rfl, g2, lr2, lu2, le2, p, _, rfl, gb.same s13, fun H14 q14 s14 sd2 => ?_⟩
      refine ⟨dSaid _, dSaid _, (sd.same s14).dp, sd2.dp, shaped_said _, shaped_said _, _, rfl, ?_⟩
      rw [eqv_said]
      have ga2 := ga.same (s13.trans s14)
      obtain ⟨dxa, oba⟩ := ga2.ob
      refine iteF ⟨_, rfl, g, dxa, _, rfl, oba, gl_no _ _ _ _ _ _ (by decide +kernel), g, lr, lu, le, p, _, rfl, ga2, ?_⟩
      rw [er']
      exact ⟨_, rfl, rfl, _, rfl, ifDN (fun z => absurd rfl z) (fun _ => ⟨rfl, s13.trans s14⟩)⟩
    rintro σ H13 ⟨rfl, s13⟩
    have hd13 := s13 _ _ hd
    -- the row with the number put in
    refine ⟨_, rfl, _, rfl, _, rfl, d, _, rfl, SqL.of hd13, fun c1 hc1 => ?_⟩
    have e1 : cutV (row.map V.int) none (some (mixedOf (gd ns 2) 1 % ((row.length : Int) + 1))) = (row.take pl).map V.int := by rw [← epl, cut_take]
    have e2 : cutV (row.map V.int) (some (mixedOf (gd ns 2) 1 % ((row.length : Int) + 1))) none = (row.drop pl).map V.int := by rw [← epl, cut_drop]
    rw [e1]
    have s14 : Same H13 (upd H13 c1 (.lst ((row.take pl).map V.int))) := Same.new hc1
    have k14 : (upd H13 c1 (.lst ((row.take pl).map V.int))) c1 = some (.lst ((row.take pl).map V.int)) := upd_same
    generalize (upd H13 c1 (.lst ((row.take pl).map V.int))) = H14 at s14 k14 ⊢
    refine ⟨_, rfl, (by show 1 ≤ sizeLine; decide), fun c2 hc2 => ?_⟩
    have s15 : Same H14 (upd H14 c2 (.lst [.int x])) := Same.new hc2
    have k15 : (upd H14 c2 (.lst [.int x])) c2 = some (.lst [.int x]) := upd_same
    generalize (upd H14 c2 (.lst [.int x])) = H15 at s15 k15 ⊢
    refine ⟨c1, c2, _, _, rfl, rfl, s15 _ _ k14, k15, (by rw [List.length_map, List.length_take]; exact len_small (by show _ + 1 ≤ _; omega)), fun c3 hc3 => ?_⟩
    have s16 : Same H15 (upd H15 c3 (.lst ((row.take pl ++ [x]).map V.int))) := Same.new hc3
    have k16 : (upd H15 c3 (.lst ((row.take pl ++ [x]).map V.int))) c3 = some (.lst ((row.take pl ++ [x]).map V.int)) := upd_same
    have e3 : (row.take pl).map V.int ++ [V.int x] = (row.take pl ++ [x]).map V.int := map_app1
    rw [e3]
    generalize (upd H15 c3 (.lst ((row.take pl ++ [x]).map V.int))) = H16 at s16 k16 ⊢
    refine ⟨_, rfl, _, rfl, _, rfl, d, _, rfl, SqL.of (s16 _ _ (s15 _ _ (s14 _ _ hd13))), fun c4 hc4 => ?_⟩
    rw [e2]
    have s17 : Same H16 (upd H16 c4 (.lst ((row.drop pl).map V.int))) := Same.new hc4
    have k17 : (upd H16 c4 (.lst ((row.drop pl).map V.int))) c4 = some (.lst ((row.drop pl).map V.int)) := upd_same
    generalize (upd H16 c4 (.lst ((row.drop pl).map V.int))) = H17 at s17 k17 ⊢
    refine ⟨c3, c4, _, _, rfl, rfl, s17 _ _ k16, k17, (by rw [List.length_map, List.length_map, List.length_append, List.length_take, List.length_drop]; exact len_small (by show _ + 1 + _ ≤ _; omega)), fun c5 hc5 => ?_⟩
    obtain ⟨wr, ewr⟩ : ∃ wr, wr = row.take pl ++ [x] ++ row.drop pl := ⟨_, rfl⟩
    have e5 : (row.take pl ++ [x]).map V.int ++ (row.drop pl).map V.int = wr.map V.int := by rw [ewr]; exact List.map_append.symm
    rw [e5]
    have lwr : wr.length ≤ 900 := by
      rw [ewr, List.length_append, List.length_append, List.length_take, List.length_drop]
      show _ + 1 + _ ≤ 900
      omega
    have nwr : ¬ Rests p wr := fun z => by
      have := z x (by rw [ewr]; simp)
      omega
    have k18 : (upd H17 c5 (.lst (wr.map V.int))) c5 = some (.lst (wr.map V.int)) := upd_same
    generalize (upd H17 c5 (.lst (wr.map V.int))) = H18 at k18 ⊢
    refine ⟨_, rfl, c5, _, rfl, .inl (SqL.of k18), fun c6 hc6 => ?_⟩
    have s19 : Same H18 (upd H18 c6 (.lst (wr.map V.int))) := Same.new hc6
    have k19 : (upd H18 c6 (.lst (wr.map V.int))) c6 = some (.lst (wr.map V.int)) := upd_same
    generalize (upd H18 c6 (.lst (wr.map V.int))) = H19 at s19 k19 ⊢
    refine ⟨_, rfl, _, rfl, c6, wr, p, rfl, SqL.of k19, lw, lwr, nwr, fun H20 s20 => ?_⟩
    refine ⟨true, rfl, iteT ⟨_, rfl, _, rfl, dInts wr, dInts wr, dp_ints (SqL.of (s20 _ _ k19)), dp_ints (SqL.of (s20 _ _ (s19 _ _ k18))), shaped_ints _, shaped_ints _, ?_⟩⟩
    rw [eqv_ints, decide_eq_true rfl]
    exact q _
end
/-! ### what the top has written, and the law from it -/
theorem all_mk {P : Program} {w : World} {K : PySem.W.Frag} {h : Heap} {mg : Str → Option Value} {fa : Addr} (X : K.In h) (G : h.Ns mainGlobals mg) (hfa : mg "law" = some (.ref fa))
    {f_inverse : Addr} {od_inverse an_inverse : Option Addr} {sl_inverse : Array (Option Value)} {oc_inverse kV_inverse dc_inverse pm_inverse cd_inverse ct_inverse : Value}
    {f_due : Addr} {od_due an_due : Option Addr} {sl_due : Array (Option Value)} {oc_due kV_due dc_due pm_due cd_due ct_due : Value}
    {f_Grower___init__ : Addr} {od_Grower___init__ an_Grower___init__ : Option Addr} {sl_Grower___init__ : Array (Option Value)} {oc_Grower___init__ kV_Grower___init__ dc_Grower___init__ pm_Grower___init__ cd_Grower___init__ ct_Grower___init__ : Value}
    {f_Grower_put : Addr} {od_Grower_put an_Grower_put : Option Addr} {sl_Grower_put : Array (Option Value)} {oc_Grower_put kV_Grower_put dc_Grower_put pm_Grower_put cd_Grower_put ct_Grower_put : Value}
    {f_Grower_mend : Addr} {od_Grower_mend an_Grower_mend : Option Addr} {sl_Grower_mend : Array (Option Value)} {oc_Grower_mend kV_Grower_mend dc_Grower_mend pm_Grower_mend cd_Grower_mend ct_Grower_mend : Value}
    {f_Grower_told : Addr} {od_Grower_told an_Grower_told : Option Addr} {sl_Grower_told : Array (Option Value)} {oc_Grower_told kV_Grower_told dc_Grower_told pm_Grower_told cd_Grower_told ct_Grower_told : Value}
    {f_Grower_many : Addr} {od_Grower_many an_Grower_many : Option Addr} {sl_Grower_many : Array (Option Value)} {oc_Grower_many kV_Grower_many dc_Grower_many pm_Grower_many cd_Grower_many ct_Grower_many : Value}
    {f_Grower_why : Addr} {od_Grower_why an_Grower_why : Option Addr} {sl_Grower_why : Array (Option Value)} {oc_Grower_why kV_Grower_why dc_Grower_why pm_Grower_why cd_Grower_why ct_Grower_why : Value}
    {f_taken : Addr} {od_taken an_taken : Option Addr} {sl_taken : Array (Option Value)} {oc_taken kV_taken dc_taken pm_taken cd_taken ct_taken : Value}
    {f_shortest : Addr} {od_shortest an_shortest : Option Addr} {sl_shortest : Array (Option Value)} {oc_shortest kV_shortest dc_shortest pm_shortest cd_shortest ct_shortest : Value}
    {f_showing : Addr} {od_showing an_showing : Option Addr} {sl_showing : Array (Option Value)} {oc_showing kV_showing dc_showing pm_showing cd_showing ct_showing : Value}
    {f__law_cell_at : Addr} {od__law_cell_at an__law_cell_at : Option Addr} {sl__law_cell_at : Array (Option Value)} {oc__law_cell_at kV__law_cell_at dc__law_cell_at pm__law_cell_at cd__law_cell_at ct__law_cell_at : Value}
    {f__law_mixed : Addr} {od__law_mixed an__law_mixed : Option Addr} {sl__law_mixed : Array (Option Value)} {oc__law_mixed kV__law_mixed dc__law_mixed pm__law_mixed cd__law_mixed ct__law_mixed : Value}
    {f__law_is_prime : Addr} {od__law_is_prime an__law_is_prime : Option Addr} {sl__law_is_prime : Array (Option Value)} {oc__law_is_prime kV__law_is_prime dc__law_is_prime pm__law_is_prime cd__law_is_prime ct__law_is_prime : Value}
    {f__law_wide : Addr} {od__law_wide an__law_wide : Option Addr} {sl__law_wide : Array (Option Value)} {oc__law_wide kV__law_wide dc__law_wide pm__law_wide cd__law_wide ct__law_wide : Value}
    {f__law_prime : Addr} {od__law_prime an__law_prime : Option Addr} {sl__law_prime : Array (Option Value)} {oc__law_prime kV__law_prime dc__law_prime pm__law_prime cd__law_prime ct__law_prime : Value}
    {f__law_tells : Addr} {od__law_tells an__law_tells : Option Addr} {sl__law_tells : Array (Option Value)} {oc__law_tells kV__law_tells dc__law_tells pm__law_tells cd__law_tells ct__law_tells : Value}
    {f__law_drawn : Addr} {od__law_drawn an__law_drawn : Option Addr} {sl__law_drawn : Array (Option Value)} {oc__law_drawn kV__law_drawn dc__law_drawn pm__law_drawn cd__law_drawn ct__law_drawn : Value}
    {f__law_row_by : Addr} {od__law_row_by an__law_row_by : Option Addr} {sl__law_row_by : Array (Option Value)} {oc__law_row_by kV__law_row_by dc__law_row_by pm__law_row_by cd__law_row_by ct__law_row_by : Value}
    {f__law_kinds : Addr} {od__law_kinds an__law_kinds : Option Addr} {sl__law_kinds : Array (Option Value)} {oc__law_kinds kV__law_kinds dc__law_kinds pm__law_kinds cd__law_kinds ct__law_kinds : Value}
    {f__law_refused : Addr} {od__law_refused an__law_refused : Option Addr} {sl__law_refused : Array (Option Value)} {oc__law_refused kV__law_refused dc__law_refused pm__law_refused cd__law_refused ct__law_refused : Value}
    {f__law_refused_by_any : Addr} {od__law_refused_by_any an__law_refused_by_any : Option Addr} {sl__law_refused_by_any : Array (Option Value)} {oc__law_refused_by_any kV__law_refused_by_any dc__law_refused_by_any pm__law_refused_by_any cd__law_refused_by_any ct__law_refused_by_any : Value}
    {f__law_row_refused : Addr} {od__law_row_refused an__law_row_refused : Option Addr} {sl__law_row_refused : Array (Option Value)} {oc__law_row_refused kV__law_row_refused dc__law_row_refused pm__law_row_refused cd__law_row_refused ct__law_row_refused : Value}
    {f__law_said : Addr} {od__law_said an__law_said : Option Addr} {sl__law_said : Array (Option Value)} {oc__law_said kV__law_said dc__law_said pm__law_said cd__law_said ct__law_said : Value}
    {f_law : Addr} {od_law an_law : Option Addr} {sl_law : Array (Option Value)} {oc_law kV_law dc_law pm_law cd_law ct_law : Value}
    {C_Grower : Addr}
    {C_RuleError : Addr}
    {C_NoInverse : Addr}
    {C_NoRest : Addr}
    {C_NoStart : Addr}
    {C_NoPlace : Addr}
    (a_Grower : PySem.W.nsIn K mainGlobals "Grower" = some (some (.ref C_Grower)))
    (a_RuleError : PySem.W.nsIn K mainGlobals "RuleError" = some (some (.ref C_RuleError)))
    (a_NoInverse : PySem.W.nsIn K mainGlobals "NoInverse" = some (some (.ref C_NoInverse)))
    (a_NoRest : PySem.W.nsIn K mainGlobals "NoRest" = some (some (.ref C_NoRest)))
    (a_NoStart : PySem.W.nsIn K mainGlobals "NoStart" = some (some (.ref C_NoStart)))
    (a_NoPlace : PySem.W.nsIn K mainGlobals "NoPlace" = some (some (.ref C_NoPlace)))
    (a_inverse : PySem.W.nsIn K mainGlobals "inverse" = some (some (.ref f_inverse)))
    (l_inverse : K.lookup f_inverse = some ⟨oc_inverse, od_inverse, .func (PySem.W.fnOf "inverse" "inverse" (defArgs s_inverse) (defBody s_inverse) (defScope s_inverse) .none kV_inverse dc_inverse pm_inverse an_inverse cd_inverse ct_inverse), sl_inverse⟩)
    (c_inverse : PySem.W.codeIn K cd_inverse "inverse" = true)
    (k_inverse : PySem.W.keepIn K (.ref f_inverse) = true)
    (a_due : PySem.W.nsIn K mainGlobals "due" = some (some (.ref f_due)))
    (l_due : K.lookup f_due = some ⟨oc_due, od_due, .func (PySem.W.fnOf "due" "due" (defArgs s_due) (defBody s_due) (defScope s_due) .none kV_due dc_due pm_due an_due cd_due ct_due), sl_due⟩)
    (c_due : PySem.W.codeIn K cd_due "due" = true)
    (k_due : PySem.W.keepIn K (.ref f_due) = true)
    (a_Grower___init__ : PySem.W.findIn K (.ref C_Grower) "__init__" = some (some (.ref f_Grower___init__)))
    (i_Grower___init__ : PySem.W.isFn K (.ref f_Grower___init__) = true)
    (l_Grower___init__ : K.lookup f_Grower___init__ = some ⟨oc_Grower___init__, od_Grower___init__, .func (PySem.W.fnOf "__init__" "Grower.__init__" (defArgs s_Grower___init__) (defBody s_Grower___init__) (defScope s_Grower___init__) .none kV_Grower___init__ dc_Grower___init__ pm_Grower___init__ an_Grower___init__ cd_Grower___init__ ct_Grower___init__), sl_Grower___init__⟩)
    (c_Grower___init__ : PySem.W.codeIn K cd_Grower___init__ "Grower.__init__" = true)
    (k_Grower___init__ : PySem.W.keepIn K (.ref f_Grower___init__) = true)
    (a_Grower_put : PySem.W.findIn K (.ref C_Grower) "put" = some (some (.ref f_Grower_put)))
    (i_Grower_put : PySem.W.isFn K (.ref f_Grower_put) = true)
    (l_Grower_put : K.lookup f_Grower_put = some ⟨oc_Grower_put, od_Grower_put, .func (PySem.W.fnOf "put" "Grower.put" (defArgs s_Grower_put) (defBody s_Grower_put) (defScope s_Grower_put) .none kV_Grower_put dc_Grower_put pm_Grower_put an_Grower_put cd_Grower_put ct_Grower_put), sl_Grower_put⟩)
    (c_Grower_put : PySem.W.codeIn K cd_Grower_put "Grower.put" = true)
    (k_Grower_put : PySem.W.keepIn K (.ref f_Grower_put) = true)
    (a_Grower_mend : PySem.W.findIn K (.ref C_Grower) "mend" = some (some (.ref f_Grower_mend)))
    (i_Grower_mend : PySem.W.isFn K (.ref f_Grower_mend) = true)
    (l_Grower_mend : K.lookup f_Grower_mend = some ⟨oc_Grower_mend, od_Grower_mend, .func (PySem.W.fnOf "mend" "Grower.mend" (defArgs s_Grower_mend) (defBody s_Grower_mend) (defScope s_Grower_mend) .none kV_Grower_mend dc_Grower_mend pm_Grower_mend an_Grower_mend cd_Grower_mend ct_Grower_mend), sl_Grower_mend⟩)
    (c_Grower_mend : PySem.W.codeIn K cd_Grower_mend "Grower.mend" = true)
    (k_Grower_mend : PySem.W.keepIn K (.ref f_Grower_mend) = true)
    (a_Grower_told : PySem.W.findIn K (.ref C_Grower) "told" = some (some (.ref f_Grower_told)))
    (i_Grower_told : PySem.W.isFn K (.ref f_Grower_told) = true)
    (l_Grower_told : K.lookup f_Grower_told = some ⟨oc_Grower_told, od_Grower_told, .func (PySem.W.fnOf "told" "Grower.told" (defArgs s_Grower_told) (defBody s_Grower_told) (defScope s_Grower_told) .none kV_Grower_told dc_Grower_told pm_Grower_told an_Grower_told cd_Grower_told ct_Grower_told), sl_Grower_told⟩)
    (c_Grower_told : PySem.W.codeIn K cd_Grower_told "Grower.told" = true)
    (k_Grower_told : PySem.W.keepIn K (.ref f_Grower_told) = true)
    (a_Grower_many : PySem.W.findIn K (.ref C_Grower) "many" = some (some (.ref f_Grower_many)))
    (i_Grower_many : PySem.W.isFn K (.ref f_Grower_many) = true)
    (l_Grower_many : K.lookup f_Grower_many = some ⟨oc_Grower_many, od_Grower_many, .func (PySem.W.fnOf "many" "Grower.many" (defArgs s_Grower_many) (defBody s_Grower_many) (defScope s_Grower_many) .none kV_Grower_many dc_Grower_many pm_Grower_many an_Grower_many cd_Grower_many ct_Grower_many), sl_Grower_many⟩)
    (c_Grower_many : PySem.W.codeIn K cd_Grower_many "Grower.many" = true)
    (k_Grower_many : PySem.W.keepIn K (.ref f_Grower_many) = true)
    (a_Grower_why : PySem.W.findIn K (.ref C_Grower) "why" = some (some (.ref f_Grower_why)))
    (i_Grower_why : PySem.W.isFn K (.ref f_Grower_why) = true)
    (l_Grower_why : K.lookup f_Grower_why = some ⟨oc_Grower_why, od_Grower_why, .func (PySem.W.fnOf "why" "Grower.why" (defArgs s_Grower_why) (defBody s_Grower_why) (defScope s_Grower_why) .none kV_Grower_why dc_Grower_why pm_Grower_why an_Grower_why cd_Grower_why ct_Grower_why), sl_Grower_why⟩)
    (c_Grower_why : PySem.W.codeIn K cd_Grower_why "Grower.why" = true)
    (k_Grower_why : PySem.W.keepIn K (.ref f_Grower_why) = true)
    (a_taken : PySem.W.nsIn K mainGlobals "taken" = some (some (.ref f_taken)))
    (l_taken : K.lookup f_taken = some ⟨oc_taken, od_taken, .func (PySem.W.fnOf "taken" "taken" (defArgs s_taken) (defBody s_taken) (defScope s_taken) .none kV_taken dc_taken pm_taken an_taken cd_taken ct_taken), sl_taken⟩)
    (c_taken : PySem.W.codeIn K cd_taken "taken" = true)
    (k_taken : PySem.W.keepIn K (.ref f_taken) = true)
    (a_shortest : PySem.W.nsIn K mainGlobals "shortest" = some (some (.ref f_shortest)))
    (l_shortest : K.lookup f_shortest = some ⟨oc_shortest, od_shortest, .func (PySem.W.fnOf "shortest" "shortest" (defArgs s_shortest) (defBody s_shortest) (defScope s_shortest) .none kV_shortest dc_shortest pm_shortest an_shortest cd_shortest ct_shortest), sl_shortest⟩)
    (c_shortest : PySem.W.codeIn K cd_shortest "shortest" = true)
    (k_shortest : PySem.W.keepIn K (.ref f_shortest) = true)
    (a_showing : PySem.W.nsIn K mainGlobals "showing" = some (some (.ref f_showing)))
    (l_showing : K.lookup f_showing = some ⟨oc_showing, od_showing, .func (PySem.W.fnOf "showing" "showing" (defArgs s_showing) (defBody s_showing) (defScope s_showing) .none kV_showing dc_showing pm_showing an_showing cd_showing ct_showing), sl_showing⟩)
    (c_showing : PySem.W.codeIn K cd_showing "showing" = true)
    (k_showing : PySem.W.keepIn K (.ref f_showing) = true)
    (a__law_cell_at : PySem.W.nsIn K mainGlobals "_law_cell_at" = some (some (.ref f__law_cell_at)))
    (l__law_cell_at : K.lookup f__law_cell_at = some ⟨oc__law_cell_at, od__law_cell_at, .func (PySem.W.fnOf "_law_cell_at" "_law_cell_at" (defArgs s__law_cell_at) (defBody s__law_cell_at) (defScope s__law_cell_at) .none kV__law_cell_at dc__law_cell_at pm__law_cell_at an__law_cell_at cd__law_cell_at ct__law_cell_at), sl__law_cell_at⟩)
    (c__law_cell_at : PySem.W.codeIn K cd__law_cell_at "_law_cell_at" = true)
    (k__law_cell_at : PySem.W.keepIn K (.ref f__law_cell_at) = true)
    (a__law_mixed : PySem.W.nsIn K mainGlobals "_law_mixed" = some (some (.ref f__law_mixed)))
    (l__law_mixed : K.lookup f__law_mixed = some ⟨oc__law_mixed, od__law_mixed, .func (PySem.W.fnOf "_law_mixed" "_law_mixed" (defArgs s__law_mixed) (defBody s__law_mixed) (defScope s__law_mixed) .none kV__law_mixed dc__law_mixed pm__law_mixed an__law_mixed cd__law_mixed ct__law_mixed), sl__law_mixed⟩)
    (c__law_mixed : PySem.W.codeIn K cd__law_mixed "_law_mixed" = true)
    (k__law_mixed : PySem.W.keepIn K (.ref f__law_mixed) = true)
    (a__law_is_prime : PySem.W.nsIn K mainGlobals "_law_is_prime" = some (some (.ref f__law_is_prime)))
    (l__law_is_prime : K.lookup f__law_is_prime = some ⟨oc__law_is_prime, od__law_is_prime, .func (PySem.W.fnOf "_law_is_prime" "_law_is_prime" (defArgs s__law_is_prime) (defBody s__law_is_prime) (defScope s__law_is_prime) .none kV__law_is_prime dc__law_is_prime pm__law_is_prime an__law_is_prime cd__law_is_prime ct__law_is_prime), sl__law_is_prime⟩)
    (c__law_is_prime : PySem.W.codeIn K cd__law_is_prime "_law_is_prime" = true)
    (k__law_is_prime : PySem.W.keepIn K (.ref f__law_is_prime) = true)
    (a__law_wide : PySem.W.nsIn K mainGlobals "_law_wide" = some (some (.ref f__law_wide)))
    (l__law_wide : K.lookup f__law_wide = some ⟨oc__law_wide, od__law_wide, .func (PySem.W.fnOf "_law_wide" "_law_wide" (defArgs s__law_wide) (defBody s__law_wide) (defScope s__law_wide) .none kV__law_wide dc__law_wide pm__law_wide an__law_wide cd__law_wide ct__law_wide), sl__law_wide⟩)
    (c__law_wide : PySem.W.codeIn K cd__law_wide "_law_wide" = true)
    (k__law_wide : PySem.W.keepIn K (.ref f__law_wide) = true)
    (a__law_prime : PySem.W.nsIn K mainGlobals "_law_prime" = some (some (.ref f__law_prime)))
    (l__law_prime : K.lookup f__law_prime = some ⟨oc__law_prime, od__law_prime, .func (PySem.W.fnOf "_law_prime" "_law_prime" (defArgs s__law_prime) (defBody s__law_prime) (defScope s__law_prime) .none kV__law_prime dc__law_prime pm__law_prime an__law_prime cd__law_prime ct__law_prime), sl__law_prime⟩)
    (c__law_prime : PySem.W.codeIn K cd__law_prime "_law_prime" = true)
    (k__law_prime : PySem.W.keepIn K (.ref f__law_prime) = true)
    (a__law_tells : PySem.W.nsIn K mainGlobals "_law_tells" = some (some (.ref f__law_tells)))
    (l__law_tells : K.lookup f__law_tells = some ⟨oc__law_tells, od__law_tells, .func (PySem.W.fnOf "_law_tells" "_law_tells" (defArgs s__law_tells) (defBody s__law_tells) (defScope s__law_tells) .none kV__law_tells dc__law_tells pm__law_tells an__law_tells cd__law_tells ct__law_tells), sl__law_tells⟩)
    (c__law_tells : PySem.W.codeIn K cd__law_tells "_law_tells" = true)
    (k__law_tells : PySem.W.keepIn K (.ref f__law_tells) = true)
    (a__law_drawn : PySem.W.nsIn K mainGlobals "_law_drawn" = some (some (.ref f__law_drawn)))
    (l__law_drawn : K.lookup f__law_drawn = some ⟨oc__law_drawn, od__law_drawn, .func (PySem.W.fnOf "_law_drawn" "_law_drawn" (defArgs s__law_drawn) (defBody s__law_drawn) (defScope s__law_drawn) .none kV__law_drawn dc__law_drawn pm__law_drawn an__law_drawn cd__law_drawn ct__law_drawn), sl__law_drawn⟩)
    (c__law_drawn : PySem.W.codeIn K cd__law_drawn "_law_drawn" = true)
    (k__law_drawn : PySem.W.keepIn K (.ref f__law_drawn) = true)
    (a__law_row_by : PySem.W.nsIn K mainGlobals "_law_row_by" = some (some (.ref f__law_row_by)))
    (l__law_row_by : K.lookup f__law_row_by = some ⟨oc__law_row_by, od__law_row_by, .func (PySem.W.fnOf "_law_row_by" "_law_row_by" (defArgs s__law_row_by) (defBody s__law_row_by) (defScope s__law_row_by) .none kV__law_row_by dc__law_row_by pm__law_row_by an__law_row_by cd__law_row_by ct__law_row_by), sl__law_row_by⟩)
    (c__law_row_by : PySem.W.codeIn K cd__law_row_by "_law_row_by" = true)
    (k__law_row_by : PySem.W.keepIn K (.ref f__law_row_by) = true)
    (a__law_kinds : PySem.W.nsIn K mainGlobals "_law_kinds" = some (some (.ref f__law_kinds)))
    (l__law_kinds : K.lookup f__law_kinds = some ⟨oc__law_kinds, od__law_kinds, .func (PySem.W.fnOf "_law_kinds" "_law_kinds" (defArgs s__law_kinds) (defBody s__law_kinds) (defScope s__law_kinds) .none kV__law_kinds dc__law_kinds pm__law_kinds an__law_kinds cd__law_kinds ct__law_kinds), sl__law_kinds⟩)
    (c__law_kinds : PySem.W.codeIn K cd__law_kinds "_law_kinds" = true)
    (k__law_kinds : PySem.W.keepIn K (.ref f__law_kinds) = true)
    (a__law_refused : PySem.W.nsIn K mainGlobals "_law_refused" = some (some (.ref f__law_refused)))
    (l__law_refused : K.lookup f__law_refused = some ⟨oc__law_refused, od__law_refused, .func (PySem.W.fnOf "_law_refused" "_law_refused" (defArgs s__law_refused) (defBody s__law_refused) (defScope s__law_refused) .none kV__law_refused dc__law_refused pm__law_refused an__law_refused cd__law_refused ct__law_refused), sl__law_refused⟩)
    (c__law_refused : PySem.W.codeIn K cd__law_refused "_law_refused" = true)
    (k__law_refused : PySem.W.keepIn K (.ref f__law_refused) = true)
    (a__law_refused_by_any : PySem.W.nsIn K mainGlobals "_law_refused_by_any" = some (some (.ref f__law_refused_by_any)))
    (l__law_refused_by_any : K.lookup f__law_refused_by_any = some ⟨oc__law_refused_by_any, od__law_refused_by_any, .func (PySem.W.fnOf "_law_refused_by_any" "_law_refused_by_any" (defArgs s__law_refused_by_any) (defBody s__law_refused_by_any) (defScope s__law_refused_by_any) .none kV__law_refused_by_any dc__law_refused_by_any pm__law_refused_by_any an__law_refused_by_any cd__law_refused_by_any ct__law_refused_by_any), sl__law_refused_by_any⟩)
    (c__law_refused_by_any : PySem.W.codeIn K cd__law_refused_by_any "_law_refused_by_any" = true)
    (k__law_refused_by_any : PySem.W.keepIn K (.ref f__law_refused_by_any) = true)
    (a__law_row_refused : PySem.W.nsIn K mainGlobals "_law_row_refused" = some (some (.ref f__law_row_refused)))
    (l__law_row_refused : K.lookup f__law_row_refused = some ⟨oc__law_row_refused, od__law_row_refused, .func (PySem.W.fnOf "_law_row_refused" "_law_row_refused" (defArgs s__law_row_refused) (defBody s__law_row_refused) (defScope s__law_row_refused) .none kV__law_row_refused dc__law_row_refused pm__law_row_refused an__law_row_refused cd__law_row_refused ct__law_row_refused), sl__law_row_refused⟩)
    (c__law_row_refused : PySem.W.codeIn K cd__law_row_refused "_law_row_refused" = true)
    (k__law_row_refused : PySem.W.keepIn K (.ref f__law_row_refused) = true)
    (a__law_said : PySem.W.nsIn K mainGlobals "_law_said" = some (some (.ref f__law_said)))
    (l__law_said : K.lookup f__law_said = some ⟨oc__law_said, od__law_said, .func (PySem.W.fnOf "_law_said" "_law_said" (defArgs s__law_said) (defBody s__law_said) (defScope s__law_said) .none kV__law_said dc__law_said pm__law_said an__law_said cd__law_said ct__law_said), sl__law_said⟩)
    (c__law_said : PySem.W.codeIn K cd__law_said "_law_said" = true)
    (k__law_said : PySem.W.keepIn K (.ref f__law_said) = true)
    (a_law : PySem.W.nsIn K mainGlobals "law" = some (some (.ref f_law)))
    (l_law : K.lookup f_law = some ⟨oc_law, od_law, .func (PySem.W.fnOf "law" "law" (defArgs s_law) (defBody s_law) (defScope s_law) .none kV_law dc_law pm_law an_law cd_law ct_law), sl_law⟩)
    (c_law : PySem.W.codeIn K cd_law "law" = true)
    (k_law : PySem.W.keepIn K (.ref f_law) = true)
    (ex_RuleError : PySem.W.excIn K C_RuleError [.type "ValueError", .type "Exception", .type "BaseException", .type "object"] "ValueError.__new__" = true)
    (ke_RuleError : PySem.W.keepIn K (.ref C_RuleError) = true)
    (be_RuleError : PySem.W.subIn K (.ref C_RuleError) (.type "BaseException") = some true)
    (ty_RuleError : PySem.W.typeIn K (.ref C_RuleError) = some (.type "type"))
    (ga_RuleError : PySem.W.findIn K (.ref C_RuleError) "__getattribute__" = some (some (.builtin "BaseException.__getattribute__")))
    (gg_RuleError : PySem.W.findIn K (.ref C_RuleError) "__getattr__" = some none)
    (hd_RuleError : PySem.W.hasDictIn K C_RuleError = true)
    (ca_RuleError : PySem.W.findIn K (.ref C_RuleError) "__class__" = some (some (.builtin "object.__class__")))
    (mo_RuleError : PySem.W.mroIn K C_RuleError (.type "object") = some true)
    (ve_RuleError : PySem.W.subIn K (.ref C_RuleError) (.type "ValueError") = some true)
    (ex_NoInverse : PySem.W.excIn K C_NoInverse [.type "ValueError", .type "Exception", .type "BaseException", .type "object"] "ValueError.__new__" = true)
    (ke_NoInverse : PySem.W.keepIn K (.ref C_NoInverse) = true)
    (be_NoInverse : PySem.W.subIn K (.ref C_NoInverse) (.type "BaseException") = some true)
    (ty_NoInverse : PySem.W.typeIn K (.ref C_NoInverse) = some (.type "type"))
    (ga_NoInverse : PySem.W.findIn K (.ref C_NoInverse) "__getattribute__" = some (some (.builtin "BaseException.__getattribute__")))
    (gg_NoInverse : PySem.W.findIn K (.ref C_NoInverse) "__getattr__" = some none)
    (hd_NoInverse : PySem.W.hasDictIn K C_NoInverse = true)
    (ca_NoInverse : PySem.W.findIn K (.ref C_NoInverse) "__class__" = some (some (.builtin "object.__class__")))
    (mo_NoInverse : PySem.W.mroIn K C_NoInverse (.type "object") = some true)
    (ve_NoInverse : PySem.W.subIn K (.ref C_NoInverse) (.type "ValueError") = some true)
    (ex_NoRest : PySem.W.excIn K C_NoRest [.type "ValueError", .type "Exception", .type "BaseException", .type "object"] "ValueError.__new__" = true)
    (ke_NoRest : PySem.W.keepIn K (.ref C_NoRest) = true)
    (be_NoRest : PySem.W.subIn K (.ref C_NoRest) (.type "BaseException") = some true)
    (ty_NoRest : PySem.W.typeIn K (.ref C_NoRest) = some (.type "type"))
    (ga_NoRest : PySem.W.findIn K (.ref C_NoRest) "__getattribute__" = some (some (.builtin "BaseException.__getattribute__")))
    (gg_NoRest : PySem.W.findIn K (.ref C_NoRest) "__getattr__" = some none)
    (hd_NoRest : PySem.W.hasDictIn K C_NoRest = true)
    (ca_NoRest : PySem.W.findIn K (.ref C_NoRest) "__class__" = some (some (.builtin "object.__class__")))
    (mo_NoRest : PySem.W.mroIn K C_NoRest (.type "object") = some true)
    (ve_NoRest : PySem.W.subIn K (.ref C_NoRest) (.type "ValueError") = some true)
    (ex_NoStart : PySem.W.excIn K C_NoStart [.type "ValueError", .type "Exception", .type "BaseException", .type "object"] "ValueError.__new__" = true)
    (ke_NoStart : PySem.W.keepIn K (.ref C_NoStart) = true)
    (be_NoStart : PySem.W.subIn K (.ref C_NoStart) (.type "BaseException") = some true)
    (ty_NoStart : PySem.W.typeIn K (.ref C_NoStart) = some (.type "type"))
    (ga_NoStart : PySem.W.findIn K (.ref C_NoStart) "__getattribute__" = some (some (.builtin "BaseException.__getattribute__")))
    (gg_NoStart : PySem.W.findIn K (.ref C_NoStart) "__getattr__" = some none)
    (hd_NoStart : PySem.W.hasDictIn K C_NoStart = true)
    (ca_NoStart : PySem.W.findIn K (.ref C_NoStart) "__class__" = some (some (.builtin "object.__class__")))
    (mo_NoStart : PySem.W.mroIn K C_NoStart (.type "object") = some true)
    (ve_NoStart : PySem.W.subIn K (.ref C_NoStart) (.type "ValueError") = some true)
    (ex_NoPlace : PySem.W.excIn K C_NoPlace [.type "ValueError", .type "Exception", .type "BaseException", .type "object"] "ValueError.__new__" = true)
    (ke_NoPlace : PySem.W.keepIn K (.ref C_NoPlace) = true)
    (be_NoPlace : PySem.W.subIn K (.ref C_NoPlace) (.type "BaseException") = some true)
    (ty_NoPlace : PySem.W.typeIn K (.ref C_NoPlace) = some (.type "type"))
    (ga_NoPlace : PySem.W.findIn K (.ref C_NoPlace) "__getattribute__" = some (some (.builtin "BaseException.__getattribute__")))
    (gg_NoPlace : PySem.W.findIn K (.ref C_NoPlace) "__getattr__" = some none)
    (hd_NoPlace : PySem.W.hasDictIn K C_NoPlace = true)
    (ca_NoPlace : PySem.W.findIn K (.ref C_NoPlace) "__class__" = some (some (.builtin "object.__class__")))
    (mo_NoPlace : PySem.W.mroIn K C_NoPlace (.type "object") = some true)
    (ve_NoPlace : PySem.W.subIn K (.ref C_NoPlace) (.type "ValueError") = some true)
    (sg : PySem.W.specialIn K (.builtin "object.__class__") "__get__" = some (some (.builtin "getset_descriptor.__get__")))
    (tk : PySem.W.takesIn K (.builtin "object.__class__") = some true)
    (sub_RuleError_RuleError : PySem.W.subIn K (.ref C_RuleError) (.ref C_RuleError) = some true)
    (sub_RuleError_NoInverse : PySem.W.subIn K (.ref C_RuleError) (.ref C_NoInverse) = some false)
    (sub_RuleError_NoRest : PySem.W.subIn K (.ref C_RuleError) (.ref C_NoRest) = some false)
    (sub_RuleError_NoStart : PySem.W.subIn K (.ref C_RuleError) (.ref C_NoStart) = some false)
    (sub_RuleError_NoPlace : PySem.W.subIn K (.ref C_RuleError) (.ref C_NoPlace) = some false)
    (sub_NoInverse_RuleError : PySem.W.subIn K (.ref C_NoInverse) (.ref C_RuleError) = some true)
    (sub_NoInverse_NoInverse : PySem.W.subIn K (.ref C_NoInverse) (.ref C_NoInverse) = some true)
    (sub_NoInverse_NoRest : PySem.W.subIn K (.ref C_NoInverse) (.ref C_NoRest) = some false)
    (sub_NoInverse_NoStart : PySem.W.subIn K (.ref C_NoInverse) (.ref C_NoStart) = some false)
    (sub_NoInverse_NoPlace : PySem.W.subIn K (.ref C_NoInverse) (.ref C_NoPlace) = some false)
    (sub_NoRest_RuleError : PySem.W.subIn K (.ref C_NoRest) (.ref C_RuleError) = some true)
    (sub_NoRest_NoInverse : PySem.W.subIn K (.ref C_NoRest) (.ref C_NoInverse) = some false)
    (sub_NoRest_NoRest : PySem.W.subIn K (.ref C_NoRest) (.ref C_NoRest) = some true)
    (sub_NoRest_NoStart : PySem.W.subIn K (.ref C_NoRest) (.ref C_NoStart) = some false)
    (sub_NoRest_NoPlace : PySem.W.subIn K (.ref C_NoRest) (.ref C_NoPlace) = some false)
    (sub_NoStart_RuleError : PySem.W.subIn K (.ref C_NoStart) (.ref C_RuleError) = some true)
    (sub_NoStart_NoInverse : PySem.W.subIn K (.ref C_NoStart) (.ref C_NoInverse) = some false)
    (sub_NoStart_NoRest : PySem.W.subIn K (.ref C_NoStart) (.ref C_NoRest) = some false)
    (sub_NoStart_NoStart : PySem.W.subIn K (.ref C_NoStart) (.ref C_NoStart) = some true)
    (sub_NoStart_NoPlace : PySem.W.subIn K (.ref C_NoStart) (.ref C_NoPlace) = some false)
    (sub_NoPlace_RuleError : PySem.W.subIn K (.ref C_NoPlace) (.ref C_RuleError) = some true)
    (sub_NoPlace_NoInverse : PySem.W.subIn K (.ref C_NoPlace) (.ref C_NoInverse) = some false)
    (sub_NoPlace_NoRest : PySem.W.subIn K (.ref C_NoPlace) (.ref C_NoRest) = some false)
    (sub_NoPlace_NoStart : PySem.W.subIn K (.ref C_NoPlace) (.ref C_NoStart) = some false)
    (sub_NoPlace_NoPlace : PySem.W.subIn K (.ref C_NoPlace) (.ref C_NoPlace) = some true)
    (pg : PySem.W.plainGet K C_Grower Str.empty = true)
    (hdi : PySem.W.hasDictIn K C_Grower = true)
    (po : PySem.W.plainOver K C_Grower = true)
    (sa : PySem.W.findIn K (.ref C_Grower) "__setattr__" = some (some (.builtin "object.__setattr__")))
    (mkc : PySem.W.makesIn K C_Grower = true)
    (kcc : PySem.W.keepIn K (.ref C_Grower) = true)
    (n_prime : PySem.W.findIn K (.ref C_Grower) "prime" = some none)
    (n_row : PySem.W.findIn K (.ref C_Grower) "row" = some none)
    (n_rule : PySem.W.findIn K (.ref C_Grower) "rule" = some none)
    (n_elder : PySem.W.findIn K (.ref C_Grower) "elder" = some none)
    (n_lack : PySem.W.findIn K (.ref C_Grower) "lack" = some none)
    (n_place : PySem.W.findIn K (.ref C_Grower) "place" = some none)
    (z_len : PySem.W.nsIn K mainGlobals "len" = some none)
    (z_range : PySem.W.nsIn K mainGlobals "range" = some none)
    (z_isinstance : PySem.W.nsIn K mainGlobals "isinstance" = some none)
    (z_int : PySem.W.nsIn K mainGlobals "int" = some none)
    (z_bool : PySem.W.nsIn K mainGlobals "bool" = some none)
    (z_list : PySem.W.nsIn K mainGlobals "list" = some none)
    (z_tuple : PySem.W.nsIn K mainGlobals "tuple" = some none)
    (z_max : PySem.W.nsIn K mainGlobals "max" = some none)
    (z_min : PySem.W.nsIn K mainGlobals "min" = some none)
    (z_reversed : PySem.W.nsIn K mainGlobals "reversed" = some none)
    (z_ValueError : PySem.W.nsIn K mainGlobals "ValueError" = some none) :
    ∃ fd : FuncData, (∀ (s : Shared) (v : Value), BindsTo s fd ⟨[v], []⟩ [("_law_script", v)]) ∧ ∀ base : Heap, K.In base → base.Ns mainGlobals mg → FnOk P w K mg base CX0 7 fa fd ["_law_script"] (spLaw K) := by
  obtain rfl : f_law = fa := by
    have e := hfa.symm.trans (PySem.W.mg_of X G a_law)
    cases e
    rfl
  have T : Bt mg := ⟨PySem.W.mg_none_of X G z_len, PySem.W.mg_none_of X G z_range, PySem.W.mg_none_of X G z_isinstance, PySem.W.mg_none_of X G z_int, PySem.W.mg_none_of X G z_bool, PySem.W.mg_none_of X G z_list, PySem.W.mg_none_of X G z_tuple, PySem.W.mg_none_of X G z_max, PySem.W.mg_none_of X G z_min, PySem.W.mg_none_of X G z_reversed, PySem.W.mg_none_of X G z_ValueError⟩
  have XT_RuleError : XC K mg "RuleError" C_RuleError := ⟨PySem.W.mg_of X G a_RuleError, ex_RuleError, ke_RuleError, be_RuleError, ty_RuleError, ⟨ga_RuleError, gg_RuleError, be_RuleError, hd_RuleError, ca_RuleError, sg, tk, mo_RuleError⟩, kit_ve ve_RuleError⟩
  have XT_NoInverse : XC K mg "NoInverse" C_NoInverse := ⟨PySem.W.mg_of X G a_NoInverse, ex_NoInverse, ke_NoInverse, be_NoInverse, ty_NoInverse, ⟨ga_NoInverse, gg_NoInverse, be_NoInverse, hd_NoInverse, ca_NoInverse, sg, tk, mo_NoInverse⟩, kit_ve ve_NoInverse⟩
  have XT_NoRest : XC K mg "NoRest" C_NoRest := ⟨PySem.W.mg_of X G a_NoRest, ex_NoRest, ke_NoRest, be_NoRest, ty_NoRest, ⟨ga_NoRest, gg_NoRest, be_NoRest, hd_NoRest, ca_NoRest, sg, tk, mo_NoRest⟩, kit_ve ve_NoRest⟩
  have XT_NoStart : XC K mg "NoStart" C_NoStart := ⟨PySem.W.mg_of X G a_NoStart, ex_NoStart, ke_NoStart, be_NoStart, ty_NoStart, ⟨ga_NoStart, gg_NoStart, be_NoStart, hd_NoStart, ca_NoStart, sg, tk, mo_NoStart⟩, kit_ve ve_NoStart⟩
  have XT_NoPlace : XC K mg "NoPlace" C_NoPlace := ⟨PySem.W.mg_of X G a_NoPlace, ex_NoPlace, ke_NoPlace, be_NoPlace, ty_NoPlace, ⟨ga_NoPlace, gg_NoPlace, be_NoPlace, hd_NoPlace, ca_NoPlace, sg, tk, mo_NoPlace⟩, kit_ve ve_NoPlace⟩
  have F_inverse := fun_mk (st := s_inverse) l_inverse c_inverse k_inverse
  have b_inverse := F_inverse.binds (ps := ["number", "prime"]) fun _ _ _ _ _ _ us hl => match us, hl with | [_, _], _ => rfl
  have A_inverse : At K mg "inverse" s_inverse ["number", "prime"] f_inverse _ := ⟨F_inverse, PySem.W.mg_of X G a_inverse, b_inverse⟩
  have F_due := fun_mk (st := s_due) l_due c_due k_due
  have b_due := F_due.binds (ps := ["rule", "row", "place", "prime"]) fun _ _ _ _ _ _ us hl => match us, hl with | [_, _, _, _], _ => rfl
  have A_due : At K mg "due" s_due ["rule", "row", "place", "prime"] f_due _ := ⟨F_due, PySem.W.mg_of X G a_due, b_due⟩
  have F_Grower___init__ := fun_mk (st := s_Grower___init__) l_Grower___init__ c_Grower___init__ k_Grower___init__
  have b_Grower___init__ := F_Grower___init__.binds (ps := ["self", "prime"]) fun _ _ _ _ _ _ us hl => match us, hl with | [_, _], _ => rfl
  have F_Grower_put := fun_mk (st := s_Grower_put) l_Grower_put c_Grower_put k_Grower_put
  have b_Grower_put := F_Grower_put.binds (ps := ["self", "number"]) fun _ _ _ _ _ _ us hl => match us, hl with | [_, _], _ => rfl
  have F_Grower_mend := fun_mk (st := s_Grower_mend) l_Grower_mend c_Grower_mend k_Grower_mend
  have b_Grower_mend := F_Grower_mend.binds (ps := ["self", "place", "lack"]) fun _ _ _ _ _ _ us hl => match us, hl with | [_, _, _], _ => rfl
  have F_Grower_told := fun_mk (st := s_Grower_told) l_Grower_told c_Grower_told k_Grower_told
  have b_Grower_told := F_Grower_told.binds (ps := ["self"]) fun _ _ _ _ _ _ us hl => match us, hl with | [_], _ => rfl
  have F_Grower_many := fun_mk (st := s_Grower_many) l_Grower_many c_Grower_many k_Grower_many
  have b_Grower_many := F_Grower_many.binds (ps := ["self"]) fun _ _ _ _ _ _ us hl => match us, hl with | [_], _ => rfl
  have F_Grower_why := fun_mk (st := s_Grower_why) l_Grower_why c_Grower_why k_Grower_why
  have b_Grower_why := F_Grower_why.binds (ps := ["self"]) fun _ _ _ _ _ _ us hl => match us, hl with | [_], _ => rfl
  have F_taken := fun_mk (st := s_taken) l_taken c_taken k_taken
  have b_taken := F_taken.binds (ps := ["row", "prime"]) fun _ _ _ _ _ _ us hl => match us, hl with | [_, _], _ => rfl
  have A_taken : At K mg "taken" s_taken ["row", "prime"] f_taken _ := ⟨F_taken, PySem.W.mg_of X G a_taken, b_taken⟩
  have F_shortest := fun_mk (st := s_shortest) l_shortest c_shortest k_shortest
  have b_shortest := F_shortest.binds (ps := ["row", "prime"]) fun _ _ _ _ _ _ us hl => match us, hl with | [_, _], _ => rfl
  have A_shortest : At K mg "shortest" s_shortest ["row", "prime"] f_shortest _ := ⟨F_shortest, PySem.W.mg_of X G a_shortest, b_shortest⟩
  have F_showing := fun_mk (st := s_showing) l_showing c_showing k_showing
  have b_showing := F_showing.binds (ps := ["row", "prime"]) fun _ _ _ _ _ _ us hl => match us, hl with | [_, _], _ => rfl
  have A_showing : At K mg "showing" s_showing ["row", "prime"] f_showing _ := ⟨F_showing, PySem.W.mg_of X G a_showing, b_showing⟩
  have F__law_cell_at := fun_mk (st := s__law_cell_at) l__law_cell_at c__law_cell_at k__law_cell_at
  have b__law_cell_at := F__law_cell_at.binds (ps := ["_law_script", "_law_k"]) fun _ _ _ _ _ _ us hl => match us, hl with | [_, _], _ => rfl
  have A__law_cell_at : At K mg "_law_cell_at" s__law_cell_at ["_law_script", "_law_k"] f__law_cell_at _ := ⟨F__law_cell_at, PySem.W.mg_of X G a__law_cell_at, b__law_cell_at⟩
  have F__law_mixed := fun_mk (st := s__law_mixed) l__law_mixed c__law_mixed k__law_mixed
  have b__law_mixed := F__law_mixed.binds (ps := ["_law_cell", "_law_k"]) fun _ _ _ _ _ _ us hl => match us, hl with | [_, _], _ => rfl
  have A__law_mixed : At K mg "_law_mixed" s__law_mixed ["_law_cell", "_law_k"] f__law_mixed _ := ⟨F__law_mixed, PySem.W.mg_of X G a__law_mixed, b__law_mixed⟩
  have F__law_is_prime := fun_mk (st := s__law_is_prime) l__law_is_prime c__law_is_prime k__law_is_prime
  have b__law_is_prime := F__law_is_prime.binds (ps := ["_law_number"]) fun _ _ _ _ _ _ us hl => match us, hl with | [_], _ => rfl
  have A__law_is_prime : At K mg "_law_is_prime" s__law_is_prime ["_law_number"] f__law_is_prime _ := ⟨F__law_is_prime, PySem.W.mg_of X G a__law_is_prime, b__law_is_prime⟩
  have F__law_wide := fun_mk (st := s__law_wide) l__law_wide c__law_wide k__law_wide
  have b__law_wide := F__law_wide.binds (ps := ["_law_cell"]) fun _ _ _ _ _ _ us hl => match us, hl with | [_], _ => rfl
  have A__law_wide : At K mg "_law_wide" s__law_wide ["_law_cell"] f__law_wide _ := ⟨F__law_wide, PySem.W.mg_of X G a__law_wide, b__law_wide⟩
  have F__law_prime := fun_mk (st := s__law_prime) l__law_prime c__law_prime k__law_prime
  have b__law_prime := F__law_prime.binds (ps := ["_law_cell"]) fun _ _ _ _ _ _ us hl => match us, hl with | [_], _ => rfl
  have A__law_prime : At K mg "_law_prime" s__law_prime ["_law_cell"] f__law_prime _ := ⟨F__law_prime, PySem.W.mg_of X G a__law_prime, b__law_prime⟩
  have F__law_tells := fun_mk (st := s__law_tells) l__law_tells c__law_tells k__law_tells
  have b__law_tells := F__law_tells.binds (ps := ["_law_rule", "_law_row", "_law_place", "_law_prime_here"]) fun _ _ _ _ _ _ us hl => match us, hl with | [_, _, _, _], _ => rfl
  have A__law_tells : At K mg "_law_tells" s__law_tells ["_law_rule", "_law_row", "_law_place", "_law_prime_here"] f__law_tells _ := ⟨F__law_tells, PySem.W.mg_of X G a__law_tells, b__law_tells⟩
  have F__law_drawn := fun_mk (st := s__law_drawn) l__law_drawn c__law_drawn k__law_drawn
  have b__law_drawn := F__law_drawn.binds (ps := ["_law_script", "_law_k"]) fun _ _ _ _ _ _ us hl => match us, hl with | [_, _], _ => rfl
  have A__law_drawn : At K mg "_law_drawn" s__law_drawn ["_law_script", "_law_k"] f__law_drawn _ := ⟨F__law_drawn, PySem.W.mg_of X G a__law_drawn, b__law_drawn⟩
  have F__law_row_by := fun_mk (st := s__law_row_by) l__law_row_by c__law_row_by k__law_row_by
  have b__law_row_by := F__law_row_by.binds (ps := ["_law_script", "_law_size", "_law_prime_here"]) fun _ _ _ _ _ _ us hl => match us, hl with | [_, _, _], _ => rfl
  have A__law_row_by : At K mg "_law_row_by" s__law_row_by ["_law_script", "_law_size", "_law_prime_here"] f__law_row_by _ := ⟨F__law_row_by, PySem.W.mg_of X G a__law_row_by, b__law_row_by⟩
  have F__law_kinds := fun_mk (st := s__law_kinds) l__law_kinds c__law_kinds k__law_kinds
  have b__law_kinds := F__law_kinds.binds (ps := ["_law_error"]) fun _ _ _ _ _ _ us hl => match us, hl with | [_], _ => rfl
  have A__law_kinds : At K mg "_law_kinds" s__law_kinds ["_law_error"] f__law_kinds _ := ⟨F__law_kinds, PySem.W.mg_of X G a__law_kinds, b__law_kinds⟩
  have F__law_refused := fun_mk (st := s__law_refused) l__law_refused c__law_refused k__law_refused
  have b__law_refused := F__law_refused.binds (ps := ["_law_grower", "_law_number"]) fun _ _ _ _ _ _ us hl => match us, hl with | [_, _], _ => rfl
  have A__law_refused : At K mg "_law_refused" s__law_refused ["_law_grower", "_law_number"] f__law_refused _ := ⟨F__law_refused, PySem.W.mg_of X G a__law_refused, b__law_refused⟩
  have F__law_refused_by_any := fun_mk (st := s__law_refused_by_any) l__law_refused_by_any c__law_refused_by_any k__law_refused_by_any
  have b__law_refused_by_any := F__law_refused_by_any.binds (ps := ["_law_grower", "_law_number"]) fun _ _ _ _ _ _ us hl => match us, hl with | [_, _], _ => rfl
  have A__law_refused_by_any : At K mg "_law_refused_by_any" s__law_refused_by_any ["_law_grower", "_law_number"] f__law_refused_by_any _ := ⟨F__law_refused_by_any, PySem.W.mg_of X G a__law_refused_by_any, b__law_refused_by_any⟩
  have F__law_row_refused := fun_mk (st := s__law_row_refused) l__law_row_refused c__law_row_refused k__law_row_refused
  have b__law_row_refused := F__law_row_refused.binds (ps := ["_law_row", "_law_prime_here"]) fun _ _ _ _ _ _ us hl => match us, hl with | [_, _], _ => rfl
  have A__law_row_refused : At K mg "_law_row_refused" s__law_row_refused ["_law_row", "_law_prime_here"] f__law_row_refused _ := ⟨F__law_row_refused, PySem.W.mg_of X G a__law_row_refused, b__law_row_refused⟩
  have F__law_said := fun_mk (st := s__law_said) l__law_said c__law_said k__law_said
  have b__law_said := F__law_said.binds (ps := ["_law_grower"]) fun _ _ _ _ _ _ us hl => match us, hl with | [_], _ => rfl
  have A__law_said : At K mg "_law_said" s__law_said ["_law_grower"] f__law_said _ := ⟨F__law_said, PySem.W.mg_of X G a__law_said, b__law_said⟩
  have F_law := fun_mk (st := s_law) l_law c_law k_law
  have b_law := F_law.binds (ps := ["_law_script"]) fun _ _ _ _ _ _ us hl => match us, hl with | [_], _ => rfl
  have A_law : At K mg "law" s_law ["_law_script"] f_law _ := ⟨F_law, PySem.W.mg_of X G a_law, b_law⟩
  refine ⟨PySem.W.fnOf "law" "law" (defArgs s_law) (defBody s_law) (defScope s_law) .none kV_law dc_law pm_law an_law cd_law ct_law, fun s v => .of_eq rfl, fun base _ _ => ?_⟩
  have GG : GT K C_Grower := ⟨⟨pg, hdi, po, sa⟩, n_prime, n_row, n_rule, n_elder, n_lack, n_place⟩
  have XC_Grower : HasC P w K mg base CX0 1 C_Grower "Grower" ["self", "prime"] (spInit C_Grower) := ⟨⟨f_Grower___init__, _, ⟨mkc, a_Grower___init__, i_Grower___init__, kcc⟩, ok_init GG F_Grower___init__, b_Grower___init__⟩, PySem.W.mg_of X G a_Grower⟩
  have hMend := ok_mend (P := P) (w := w) (base := base) T GG ⟨F_Grower_mend, ⟨a_Grower_mend, i_Grower_mend, k_Grower_mend⟩, b_Grower_mend⟩ (ok_inverse A_inverse XT_NoInverse)
  have hPut := ok_put (P := P) (w := w) (base := base) T GG ⟨F_Grower_put, ⟨a_Grower_put, i_Grower_put, k_Grower_put⟩, b_Grower_put⟩ XT_NoRest (ok_due T A_due XT_NoPlace) hMend
  have hTold := ok_told (P := P) (w := w) (base := base) T GG ⟨F_Grower_told, ⟨a_Grower_told, i_Grower_told, k_Grower_told⟩, b_Grower_told⟩
  have XK : Kinds K mg C_NoInverse C_NoRest C_NoStart C_NoPlace := ⟨XT_NoInverse.g, XT_NoRest.g, XT_NoStart.g, XT_NoPlace.g⟩
  have kr : IsKind K C_NoInverse C_NoRest C_NoStart C_NoPlace C_NoRest false true false false :=
    ⟨XT_NoRest.e, XT_NoRest.v, kit_other hd_NoInverse ty_NoInverse sub_NoRest_NoInverse sub_NoInverse_NoInverse, kit_self, kit_other hd_NoStart ty_NoStart sub_NoRest_NoStart sub_NoStart_NoStart, kit_other hd_NoPlace ty_NoPlace sub_NoRest_NoPlace sub_NoPlace_NoPlace⟩
  have exR := PySem.W.exm_ref (K := K) be_RuleError hd_RuleError ty_RuleError sub_NoRest_RuleError
  have exS := PySem.W.exm_ref (K := K) be_NoRest hd_NoRest ty_NoRest sub_NoRest_NoRest
  have hWhy := ok_why (P := P) (w := w) (base := base) T GG ⟨F_Grower_why, ⟨a_Grower_why, i_Grower_why, k_Grower_why⟩, b_Grower_why⟩
  have hMany := ok_many (P := P) (w := w) (base := base) T GG ⟨F_Grower_many, ⟨a_Grower_many, i_Grower_many, k_Grower_many⟩, b_Grower_many⟩
  have hTaken := ok_taken GG A_taken XC_Grower hPut
  have hSho := ok_shortest GG A_shortest hTaken hTold
  have hShw := ok_showing GG A_showing hTaken hWhy
  have hCell := ok_cell (P := P) (w := w) (base := base) T A__law_cell_at
  have hTells := ok_tells (P := P) (w := w) (base := base) T A__law_tells
  exact ok_law T GG A_law (ok_prime A__law_prime (ok_wide A__law_wide) (ok_isPr A__law_is_prime)) hCell (ok_mixed A__law_mixed) (ok_row T A__law_row_by hCell (ok_drawn T A__law_drawn hCell) hTells) XC_Grower hPut hMany
    (ok_said GG A__law_said hTold hMany hWhy) (ok_refused GG A__law_refused XT_NoRest exS hPut) (ok_rba T GG A__law_refused_by_any XT_RuleError kr exR hPut (ok_kinds T XK A__law_kinds)) (ok_rowRefused A__law_row_refused XT_NoRest exS hSho hShw)
theorem walk {l : PySem.W.OpenLaw} {q : Program} {loose : List Str} {XP : (Str → Option Value) → Heap → Prop} {YP : World → Heap → Prop} {d : DefRec} {K : Params → PySem.W.Frag} (hn : l.most = some 63) (hdf : d.params.defaults = [])
    (hY : ∀ (w : World) (h : Heap), YP w h → (K w.params).In h)
    (F : ∀ (w : World) (mg : Str → Option Value) (fa : Addr) (h : Heap), (K w.params).In h → h.Ns mainGlobals mg → mg d.name = some (.ref fa) →
      ∃ fd : FuncData, (∀ (s : Shared) (u : Value), BindsTo s fd ⟨[u], []⟩ [("_law_script", u)]) ∧ ∀ base : Heap, (K w.params).In base → base.Ns mainGlobals mg → FnOk l.prog w (K w.params) mg base CX0 7 fa fd ["_law_script"] (spLaw (K w.params))) :
    PySem.W.WalkO q loose XP YP l.row.toRowW d [] (fun f vs => PySem.call f vs) :=
  L2.walk_of (n := 63) (k := 7) (x := "_law_script") (CX := fun _ => CX0) (sp := fun w => spLaw (K w.params)) hn (by decide) hdf ⟨rfl, by decide, by decide⟩ hY F (fun _ _ a ns hl _ hS => ⟨a, ns, rfl, hS, hl, fun _ => rfl⟩) fun _ _ _ _ _ z => z
end SR
open PySem PySem.W PyProof.Rows
set_option maxRecDepth 100000 in
set_option maxHeartbeats 0 in
theorem PySem.Challenge.cw_shortrule_k05_no_rests_holds : PySem.Challenge.rw_shortrule_k05_no_rests.Holds := by
  w_on; o_law; k_head; (case hw => w_witness2)
  k_fill
  refine SR.walk (l := PySem.Challenge.rw_shortrule_k05_no_rests) rfl rfl (fun w h Y => PySem.W.kIn_of Y) ?F
  case F =>
    intro w mg fa h KX G hmg
    refine' SR.all_mk KX G hmg ?a_Grower ?a_RuleError ?a_NoInverse ?a_NoRest ?a_NoStart ?a_NoPlace ?a_inverse ?l_inverse ?c_inverse ?k_inverse ?a_due ?l_due ?c_due ?k_due ?a_Grower___init__ ?i_Grower___init__ ?l_Grower___init__ ?c_Grower___init__ ?k_Grower___init__ ?a_Grower_put ?i_Grower_put ?l_Grower_put ?c_Grower_put ?k_Grower_put ?a_Grower_mend ?i_Grower_mend ?l_Grower_mend ?c_Grower_mend ?k_Grower_mend ?a_Grower_told ?i_Grower_told ?l_Grower_told ?c_Grower_told ?k_Grower_told ?a_Grower_many ?i_Grower_many ?l_Grower_many ?c_Grower_many ?k_Grower_many ?a_Grower_why ?i_Grower_why ?l_Grower_why ?c_Grower_why ?k_Grower_why ?a_taken ?l_taken ?c_taken ?k_taken ?a_shortest ?l_shortest ?c_shortest ?k_shortest ?a_showing ?l_showing ?c_showing ?k_showing ?a__law_cell_at ?l__law_cell_at ?c__law_cell_at ?k__law_cell_at ?a__law_mixed ?l__law_mixed ?c__law_mixed ?k__law_mixed ?a__law_is_prime ?l__law_is_prime ?c__law_is_prime ?k__law_is_prime ?a__law_wide ?l__law_wide ?c__law_wide ?k__law_wide ?a__law_prime ?l__law_prime ?c__law_prime ?k__law_prime ?a__law_tells ?l__law_tells ?c__law_tells ?k__law_tells ?a__law_drawn ?l__law_drawn ?c__law_drawn ?k__law_drawn ?a__law_row_by ?l__law_row_by ?c__law_row_by ?k__law_row_by ?a__law_kinds ?l__law_kinds ?c__law_kinds ?k__law_kinds ?a__law_refused ?l__law_refused ?c__law_refused ?k__law_refused ?a__law_refused_by_any ?l__law_refused_by_any ?c__law_refused_by_any ?k__law_refused_by_any ?a__law_row_refused ?l__law_row_refused ?c__law_row_refused ?k__law_row_refused ?a__law_said ?l__law_said ?c__law_said ?k__law_said ?a_law ?l_law ?c_law ?k_law ?ex_RuleError ?ke_RuleError ?be_RuleError ?ty_RuleError ?ga_RuleError ?gg_RuleError ?hd_RuleError ?ca_RuleError ?mo_RuleError ?ve_RuleError ?ex_NoInverse ?ke_NoInverse ?be_NoInverse ?ty_NoInverse ?ga_NoInverse ?gg_NoInverse ?hd_NoInverse ?ca_NoInverse ?mo_NoInverse ?ve_NoInverse ?ex_NoRest ?ke_NoRest ?be_NoRest ?ty_NoRest ?ga_NoRest ?gg_NoRest ?hd_NoRest ?ca_NoRest ?mo_NoRest ?ve_NoRest ?ex_NoStart ?ke_NoStart ?be_NoStart ?ty_NoStart ?ga_NoStart ?gg_NoStart ?hd_NoStart ?ca_NoStart ?mo_NoStart ?ve_NoStart ?ex_NoPlace ?ke_NoPlace ?be_NoPlace ?ty_NoPlace ?ga_NoPlace ?gg_NoPlace ?hd_NoPlace ?ca_NoPlace ?mo_NoPlace ?ve_NoPlace ?sg ?tk ?sub_RuleError_RuleError ?sub_RuleError_NoInverse ?sub_RuleError_NoRest ?sub_RuleError_NoStart ?sub_RuleError_NoPlace ?sub_NoInverse_RuleError ?sub_NoInverse_NoInverse ?sub_NoInverse_NoRest ?sub_NoInverse_NoStart ?sub_NoInverse_NoPlace ?sub_NoRest_RuleError ?sub_NoRest_NoInverse ?sub_NoRest_NoRest ?sub_NoRest_NoStart ?sub_NoRest_NoPlace ?sub_NoStart_RuleError ?sub_NoStart_NoInverse ?sub_NoStart_NoRest ?sub_NoStart_NoStart ?sub_NoStart_NoPlace ?sub_NoPlace_RuleError ?sub_NoPlace_NoInverse ?sub_NoPlace_NoRest ?sub_NoPlace_NoStart ?sub_NoPlace_NoPlace ?pg ?hdi ?po ?sa ?mkc ?kcc ?n_prime ?n_row ?n_rule ?n_elder ?n_lack ?n_place ?z_len ?z_range ?z_isinstance ?z_int ?z_bool ?z_list ?z_tuple ?z_max ?z_min ?z_reversed ?z_ValueError
    (case a_Grower => k_is)
    (case a_RuleError => k_is)
    (case a_NoInverse => k_is)
    (case a_NoRest => k_is)
    (case a_NoStart => k_is)
    (case a_NoPlace => k_is)
    (case a_inverse => k_is)
    (case l_inverse => k_is)
    (case c_inverse => k_is)
    (case k_inverse => k_is)
    (case a_due => k_is)
    (case l_due => k_is)
    (case c_due => k_is)
    (case k_due => k_is)
    (case a_Grower___init__ => k_is)
    (case i_Grower___init__ => k_is)
    (case l_Grower___init__ => k_is)
    (case c_Grower___init__ => k_is)
    (case k_Grower___init__ => k_is)
    (case a_Grower_put => k_is)
    (case i_Grower_put => k_is)
    (case l_Grower_put => k_is)
    (case c_Grower_put => k_is)
    (case k_Grower_put => k_is)
    (case a_Grower_mend => k_is)
    (case i_Grower_mend => k_is)
    (case l_Grower_mend => k_is)
    (case c_Grower_mend => k_is)
    (case k_Grower_mend => k_is)
    (case a_Grower_told => k_is)
    (case i_Grower_told => k_is)
    (case l_Grower_told => k_is)
    (case c_Grower_told => k_is)
    (case k_Grower_told => k_is)
    (case a_Grower_many => k_is)
    (case i_Grower_many => k_is)
    (case l_Grower_many => k_is)
    (case c_Grower_many => k_is)
    (case k_Grower_many => k_is)
    (case a_Grower_why => k_is)
    (case i_Grower_why => k_is)
    (case l_Grower_why => k_is)
    (case c_Grower_why => k_is)
    (case k_Grower_why => k_is)
    (case a_taken => k_is)
    (case l_taken => k_is)
    (case c_taken => k_is)
    (case k_taken => k_is)
    (case a_shortest => k_is)
    (case l_shortest => k_is)
    (case c_shortest => k_is)
    (case k_shortest => k_is)
    (case a_showing => k_is)
    (case l_showing => k_is)
    (case c_showing => k_is)
    (case k_showing => k_is)
    (case a__law_cell_at => k_is)
    (case l__law_cell_at => k_is)
    (case c__law_cell_at => k_is)
    (case k__law_cell_at => k_is)
    (case a__law_mixed => k_is)
    (case l__law_mixed => k_is)
    (case c__law_mixed => k_is)
    (case k__law_mixed => k_is)
    (case a__law_is_prime => k_is)
    (case l__law_is_prime => k_is)
    (case c__law_is_prime => k_is)
    (case k__law_is_prime => k_is)
    (case a__law_wide => k_is)
    (case l__law_wide => k_is)
    (case c__law_wide => k_is)
    (case k__law_wide => k_is)
    (case a__law_prime => k_is)
    (case l__law_prime => k_is)
    (case c__law_prime => k_is)
    (case k__law_prime => k_is)
    (case a__law_tells => k_is)
    (case l__law_tells => k_is)
    (case c__law_tells => k_is)
    (case k__law_tells => k_is)
    (case a__law_drawn => k_is)
    (case l__law_drawn => k_is)
    (case c__law_drawn => k_is)
    (case k__law_drawn => k_is)
    (case a__law_row_by => k_is)
    (case l__law_row_by => k_is)
    (case c__law_row_by => k_is)
    (case k__law_row_by => k_is)
    (case a__law_kinds => k_is)
    (case l__law_kinds => k_is)
    (case c__law_kinds => k_is)
    (case k__law_kinds => k_is)
    (case a__law_refused => k_is)
    (case l__law_refused => k_is)
    (case c__law_refused => k_is)
    (case k__law_refused => k_is)
    (case a__law_refused_by_any => k_is)
    (case l__law_refused_by_any => k_is)
    (case c__law_refused_by_any => k_is)
    (case k__law_refused_by_any => k_is)
    (case a__law_row_refused => k_is)
    (case l__law_row_refused => k_is)
    (case c__law_row_refused => k_is)
    (case k__law_row_refused => k_is)
    (case a__law_said => k_is)
    (case l__law_said => k_is)
    (case c__law_said => k_is)
    (case k__law_said => k_is)
    (case a_law => k_is)
    (case l_law => k_is)
    (case c_law => k_is)
    (case k_law => k_is)
    (case ex_RuleError => k_exc)
    (case ke_RuleError => k_is)
    (case be_RuleError => k_is)
    (case ty_RuleError => k_is)
    (case ga_RuleError => k_is)
    (case gg_RuleError => k_is)
    (case hd_RuleError => k_is)
    (case ca_RuleError => k_is)
    (case mo_RuleError => k_is)
    (case ve_RuleError => k_is)
    (case ex_NoInverse => k_exc)
    (case ke_NoInverse => k_is)
    (case be_NoInverse => k_is)
    (case ty_NoInverse => k_is)
    (case ga_NoInverse => k_is)
    (case gg_NoInverse => k_is)
    (case hd_NoInverse => k_is)
    (case ca_NoInverse => k_is)
    (case mo_NoInverse => k_is)
    (case ve_NoInverse => k_is)
    (case ex_NoRest => k_exc)
    (case ke_NoRest => k_is)
    (case be_NoRest => k_is)
    (case ty_NoRest => k_is)
    (case ga_NoRest => k_is)
    (case gg_NoRest => k_is)
    (case hd_NoRest => k_is)
    (case ca_NoRest => k_is)
    (case mo_NoRest => k_is)
    (case ve_NoRest => k_is)
    (case ex_NoStart => k_exc)
    (case ke_NoStart => k_is)
    (case be_NoStart => k_is)
    (case ty_NoStart => k_is)
    (case ga_NoStart => k_is)
    (case gg_NoStart => k_is)
    (case hd_NoStart => k_is)
    (case ca_NoStart => k_is)
    (case mo_NoStart => k_is)
    (case ve_NoStart => k_is)
    (case ex_NoPlace => k_exc)
    (case ke_NoPlace => k_is)
    (case be_NoPlace => k_is)
    (case ty_NoPlace => k_is)
    (case ga_NoPlace => k_is)
    (case gg_NoPlace => k_is)
    (case hd_NoPlace => k_is)
    (case ca_NoPlace => k_is)
    (case mo_NoPlace => k_is)
    (case ve_NoPlace => k_is)
    (case sg => k_is)
    (case tk => k_is)
    (case sub_RuleError_RuleError => (first | rfl | k_is))
    (case sub_RuleError_NoInverse => (first | rfl | k_is))
    (case sub_RuleError_NoRest => (first | rfl | k_is))
    (case sub_RuleError_NoStart => (first | rfl | k_is))
    (case sub_RuleError_NoPlace => (first | rfl | k_is))
    (case sub_NoInverse_RuleError => (first | rfl | k_is))
    (case sub_NoInverse_NoInverse => (first | rfl | k_is))
    (case sub_NoInverse_NoRest => (first | rfl | k_is))
    (case sub_NoInverse_NoStart => (first | rfl | k_is))
    (case sub_NoInverse_NoPlace => (first | rfl | k_is))
    (case sub_NoRest_RuleError => (first | rfl | k_is))
    (case sub_NoRest_NoInverse => (first | rfl | k_is))
    (case sub_NoRest_NoRest => (first | rfl | k_is))
    (case sub_NoRest_NoStart => (first | rfl | k_is))
    (case sub_NoRest_NoPlace => (first | rfl | k_is))
    (case sub_NoStart_RuleError => (first | rfl | k_is))
    (case sub_NoStart_NoInverse => (first | rfl | k_is))
    (case sub_NoStart_NoRest => (first | rfl | k_is))
    (case sub_NoStart_NoStart => (first | rfl | k_is))
    (case sub_NoStart_NoPlace => (first | rfl | k_is))
    (case sub_NoPlace_RuleError => (first | rfl | k_is))
    (case sub_NoPlace_NoInverse => (first | rfl | k_is))
    (case sub_NoPlace_NoRest => (first | rfl | k_is))
    (case sub_NoPlace_NoStart => (first | rfl | k_is))
    (case sub_NoPlace_NoPlace => (first | rfl | k_is))
    (case pg => k_is)
    (case hdi => k_is)
    (case po => k_is)
    (case sa => k_is)
    (case mkc => k_is)
    (case kcc => k_is)
    (case n_prime => k_is)
    (case n_row => k_is)
    (case n_rule => k_is)
    (case n_elder => k_is)
    (case n_lack => k_is)
    (case n_place => k_is)
    (case z_len => k_is)
    (case z_range => k_is)
    (case z_isinstance => k_is)
    (case z_int => k_is)
    (case z_bool => k_is)
    (case z_list => k_is)
    (case z_tuple => k_is)
    (case z_max => k_is)
    (case z_min => k_is)
    (case z_reversed => k_is)
    (case z_ValueError => k_is)
#print axioms PySem.Challenge.cw_shortrule_k05_no_rests_holds
