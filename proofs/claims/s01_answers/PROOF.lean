import PyProof.Rows.All
import Wide.All
import OpenK.AllK
import Wide.FinOn
import Open.SpecLaws
import KE.OsGo
import KE.DataMinMax
import HandS.ForSpec
import HandS.Comp
import HandS.ExcInit
import HandS.ExcField
import HandS.Codes
import PySem.Challenge.RW_groundwater_s01_answers
set_option Elab.async false
set_option linter.all false
set_option maxRecDepth 100000
set_option maxHeartbeats 4000000
/-! The mathematics of the ground: places beside, drops, levels, banks; plain lists and numbers. -/
namespace GW
open Uw11

/-- what a ground keeps to -/
structure Wf (g : Ground) (B : Nat) : Prop where
  r1 : 1 ≤ g.rows
  c1 : 1 ≤ g.cols
  pl : g.rows * g.cols ≤ 25
  len : g.heights.length = g.rows * g.cols
  bd : ∀ p, g.height p ≤ B

theorem Wf.pos {g : Ground} {B : Nat} (W : Wf g B) : 1 ≤ g.places := Nat.mul_le_mul W.r1 W.c1

/-! ### counting -/
def cnt (f : Nat → Bool) : Nat → Nat
  | 0 => 0
  | n + 1 => cnt f n + if f n = true then 1 else 0
theorem cnt_le (f : Nat → Bool) : ∀ n, cnt f n ≤ n
  | 0 => Nat.le_refl _
  | n + 1 => by
    have := cnt_le f n
    unfold cnt
    split <;> omega
theorem cnt_mono {f g : Nat → Bool} : ∀ n, (∀ x, x < n → f x = true → g x = true) → cnt f n ≤ cnt g n
  | 0, _ => Nat.le_refl _
  | n + 1, h => by
    have ih := cnt_mono n fun x hx => h x (by omega)
    have hn := h n (by omega)
    unfold cnt
    by_cases c : f n = true
    · rw [if_pos c, if_pos (hn c)]
      omega
    · rw [if_neg c]
      omega
theorem cnt_lt {f g : Nat → Bool} {y : Nat} : ∀ n, (∀ x, x < n → f x = true → g x = true) → y < n → f y = false → g y = true → cnt f n < cnt g n
  | 0, _, hy, _, _ => absurd hy (Nat.not_lt_zero _)
  | n + 1, h, hy, hf, hg => by
    unfold cnt
    by_cases e : y = n
    · subst e
      have ih := cnt_mono y fun x hx => h x (by omega)
      rw [if_neg (by rw [hf]; decide), if_pos hg]
      omega
    · have ih := cnt_lt n (fun x hx => h x (by omega)) (by omega : y < n) hf hg
      have hn := h n (by omega)
      by_cases c : f n = true
      · rw [if_pos c, if_pos (hn c)]
        omega
      · rw [if_neg c]
        omega

/-! ### places beside -/
theorem mem_if {c : Prop} [Decidable c] {q r : Nat} : q ∈ (if c then [r] else []) ↔ c ∧ q = r := by
  by_cases h : c
  · simp [h]
  · simp [h]
theorem mem_beside {g : Ground} {p q : Nat} : q ∈ g.beside p ↔ (g.cols ≤ p ∧ q = p - g.cols) ∨ (0 < p % g.cols ∧ q = p - 1) ∨ (p % g.cols + 1 < g.cols ∧ q = p + 1) ∨ (p + g.cols < g.places ∧ q = p + g.cols) := by
  unfold Ground.beside
  rw [List.mem_append, List.mem_append, List.mem_append, mem_if, mem_if, mem_if, mem_if]
/-- the row and the column -/
theorem row_lt {g : Ground} {p : Nat} (hp : p < g.places) : p / g.cols < g.rows := Nat.div_lt_of_lt_mul (by rw [Nat.mul_comm]; exact hp)
theorem mod_next {p c : Nat} (h : p % c + 1 < c) : p / c * c + c > p + 1 := by
  have := Nat.div_add_mod p c
  rw [Nat.mul_comm] at this
  omega
theorem beside_lt {g : Ground} {B p q : Nat} (W : Wf g B) (hp : p < g.places) (hq : q ∈ g.beside p) : q < g.places := by
  rcases mem_beside.mp hq with ⟨_, e⟩ | ⟨_, e⟩ | ⟨h, e⟩ | ⟨h, e⟩
  · omega
  · omega
  · have h1 := mod_next h
    have h2 := row_lt hp
    have h3 : (p / g.cols + 1) * g.cols ≤ g.rows * g.cols := Nat.mul_le_mul_right _ h2
    rw [Nat.succ_mul] at h3
    show q < g.rows * g.cols
    omega
  · omega
theorem pw_if {c : Prop} [Decidable c] {r : Nat} : (if c then [r] else []).Pairwise (· < ·) := by
  by_cases h : c
  · simp [h]
  · simp [h]
theorem beside_sorted {g : Ground} {B p : Nat} (W : Wf g B) : (g.beside p).Pairwise (· < ·) := by
  have c1 := W.c1
  unfold Ground.beside
  rw [List.pairwise_append, List.pairwise_append, List.pairwise_append]
  refine ⟨pw_if, ⟨pw_if, ⟨pw_if, pw_if, ?_⟩, ?_⟩, ?_⟩
  · intro a ha b hb
    obtain ⟨h1, rfl⟩ := mem_if.mp ha
    obtain ⟨h2, rfl⟩ := mem_if.mp hb
    omega
  · intro a ha b hb
    obtain ⟨h1, rfl⟩ := mem_if.mp ha
    have h5 : p ≠ 0 := fun e => by
      rw [e, Nat.zero_mod] at h1
      exact Nat.lt_irrefl _ h1
    rcases List.mem_append.mp hb with hb | hb
    · obtain ⟨h2, rfl⟩ := mem_if.mp hb
      omega
    · obtain ⟨h2, rfl⟩ := mem_if.mp hb
      omega
  · intro a ha b hb
    obtain ⟨h1, rfl⟩ := mem_if.mp ha
    rcases List.mem_append.mp hb with hb | hb
    · obtain ⟨h2, rfl⟩ := mem_if.mp hb
      have := Nat.mod_lt p c1
      omega
    · rcases List.mem_append.mp hb with hb | hb
      · obtain ⟨h2, rfl⟩ := mem_if.mp hb
        omega
      · obtain ⟨h2, rfl⟩ := mem_if.mp hb
        omega
theorem beside_self {g : Ground} {B p : Nat} (W : Wf g B) : ¬ p ∈ g.beside p := fun hq => by
  have c1 := W.c1
  rcases mem_beside.mp hq with ⟨_, e⟩ | ⟨h1, e⟩ | ⟨h, e⟩ | ⟨h, e⟩
  · omega
  · have h5 : p ≠ 0 := fun e => by
      rw [e, Nat.zero_mod] at h1
      exact Nat.lt_irrefl _ h1
    omega
  · omega
  · omega

/-! ### where a drop runs -/
/-- q has the least height beside p and at p, of several the first -/
def IsLow (g : Ground) (p q : Nat) : Prop := (q ∈ g.beside p ∨ q = p) ∧ ∀ r, (r ∈ g.beside p ∨ r = p) → g.height q < g.height r ∨ (g.height q = g.height r ∧ q ≤ r)
def downF (g : Ground) (p : Nat) (b : Option Nat) (q : Nat) : Option Nat := if g.height q < g.height p then match b with
  | none => some q
  | some r => if g.height q < g.height r then some q else some r else b
theorem down_eq (g : Ground) (p : Nat) : g.down p = (g.beside p).foldl (downF g p) none := rfl
theorem downF_stay {g : Ground} {p : Nat} : ∀ (l : List Nat) (b : Option Nat), (∀ r ∈ l, ¬ g.height r < g.height p) → l.foldl (downF g p) b = b
  | [], _, _ => rfl
  | r :: l, b, h => by
    rw [List.foldl_cons]
    have e : downF g p b r = b := if_neg (h r List.mem_cons_self)
    rw [e]
    exact downF_stay l b fun x hx => h x (List.mem_cons_of_mem _ hx)
theorem downF_keep {g : Ground} {p q : Nat} : ∀ (l : List Nat), (∀ r ∈ l, g.height q ≤ g.height r) → l.foldl (downF g p) (some q) = some q
  | [], _ => rfl
  | r :: l, h => by
    rw [List.foldl_cons]
    have hr := h r List.mem_cons_self
    have e : downF g p (some q) r = some q := by
      unfold downF
      by_cases c : g.height r < g.height p
      · rw [if_pos c]
        exact if_neg (by omega)
      · rw [if_neg c]
    rw [e]
    exact downF_keep l fun x hx => h x (List.mem_cons_of_mem _ hx)
theorem downF_over {g : Ground} {p q : Nat} : ∀ (l : List Nat) (b : Option Nat), (∀ r ∈ l, g.height q < g.height r) → (∀ r, b = some r → g.height q < g.height r) → ∀ r, l.foldl (downF g p) b = some r → g.height q < g.height r
  | [], _, _, hb => hb
  | x :: l, b, h, hb => by
    rw [List.foldl_cons]
    refine downF_over l _ (fun y hy => h y (List.mem_cons_of_mem _ hy)) fun r hr => ?_
    have hx := h x List.mem_cons_self
    unfold downF at hr
    by_cases c : g.height x < g.height p
    · rw [if_pos c] at hr
      cases b with
      | none =>
        cases hr
        exact hx
      | some y =>
        have hy := hb y rfl
        by_cases d : g.height x < g.height y
        · have hr : (if g.height x < g.height y then some x else some y) = some r := hr
          rw [if_pos d] at hr
          cases hr
          exact hx
        · have hr : (if g.height x < g.height y then some x else some y) = some r := hr
          rw [if_neg d] at hr
          cases hr
          exact hy
    · rw [if_neg c] at hr
      exact hb r hr
theorem down_low {g : Ground} {B p q : Nat} (W : Wf g B) (h : IsLow g p q) : g.down p = if g.height q < g.height p then some q else none := by
  obtain ⟨hq, hall⟩ := h
  rw [down_eq]
  by_cases c : g.height q < g.height p
  · rw [if_pos c]
    rcases hq with hq | hq
    · obtain ⟨l1, l2, e⟩ := List.append_of_mem hq
      have hs := beside_sorted (p := p) W
      rw [e] at hs
      rw [e, List.foldl_append, List.foldl_cons]
      have h1 : ∀ r ∈ l1, g.height q < g.height r := fun r hr => by
        have hrq : r < q := (List.pairwise_append.mp hs).2.2 r hr q List.mem_cons_self
        rcases hall r (.inl (by rw [e]; exact List.mem_append_left _ hr)) with a | ⟨_, b⟩
        · exact a
        · omega
      have h2 : ∀ r ∈ l2, g.height q ≤ g.height r := fun r hr => by
        rcases hall r (.inl (by rw [e]; exact List.mem_append_right _ (List.mem_cons_of_mem _ hr))) with a | ⟨a, _⟩
        · omega
        · omega
      have h3 := downF_over (g := g) (p := p) (q := q) l1 none h1 (fun r hr => by cases hr)
      have h4 : downF g p (l1.foldl (downF g p) none) q = some q := by
        unfold downF
        rw [if_pos c]
        cases e2 : l1.foldl (downF g p) none with
        | none =>
          unfold downF at e2
          rw [e2]
        | some r =>
          have z := h3 r e2
          unfold downF at e2
          rw [e2]
          exact if_pos z
      rw [h4]
      exact downF_keep l2 h2
    · rw [hq] at c
      exact absurd c (Nat.lt_irrefl _)
  · rw [if_neg c]
    refine downF_stay _ _ fun r hr => ?_
    rcases hall r (.inl hr) with a | ⟨a, _⟩ <;> omega
/-- places lower than c -/
def below (g : Ground) (c : Nat) : Nat := cnt (fun r => decide (g.height r < g.height c)) g.places
theorem below_lt {g : Ground} {q c : Nat} (hq : q < g.places) (h : g.height q < g.height c) : below g q < below g c := by
  refine cnt_lt (y := q) _ (fun x _ hx => ?_) hq ?_ ?_
  · rw [decide_eq_true_eq] at hx ⊢
    omega
  · simp
  · rw [decide_eq_true_eq]
    exact h
theorem down_some {g : Ground} {p q : Nat} (h : g.down p = some q) : q ∈ g.beside p ∧ g.height q < g.height p := by
  have key : ∀ (l : List Nat) (b : Option Nat), (∀ x ∈ l, x ∈ g.beside p) → (∀ r, b = some r → r ∈ g.beside p ∧ g.height r < g.height p) → ∀ r, l.foldl (downF g p) b = some r → r ∈ g.beside p ∧ g.height r < g.height p := by
    intro l
    induction l with
    | nil => exact fun b _ hb => hb
    | cons x l ih =>
      intro b hl hb
      rw [List.foldl_cons]
      refine ih _ (fun y hy => hl y (List.mem_cons_of_mem _ hy)) fun r hr => ?_
      have hx := hl x List.mem_cons_self
      unfold downF at hr
      by_cases c : g.height x < g.height p
      · rw [if_pos c] at hr
        cases b with
        | none =>
          cases hr
          exact ⟨hx, c⟩
        | some y =>
          have hy := hb y rfl
          have hr : (if g.height x < g.height y then some x else some y) = some r := hr
          by_cases d : g.height x < g.height y
          · rw [if_pos d] at hr
            cases hr
            exact ⟨hx, c⟩
          · rw [if_neg d] at hr
            cases hr
            exact hy
      · rw [if_neg c] at hr
        exact hb r hr
  exact key _ none (fun _ hx => hx) (fun r hr => by cases hr) q h
theorem runs_none {g : Ground} {c : Nat} (h : g.down c = none) : ∀ n, g.runs n c = [c]
  | 0 => rfl
  | n + 1 => by
    unfold Ground.runs
    rw [h]
theorem runs_some {g : Ground} {c q : Nat} (h : g.down c = some q) (n : Nat) : g.runs (n + 1) c = c :: g.runs n q := by
  unfold Ground.runs
  rw [h]
  cases n <;> rfl
theorem runs_enough {g : Ground} {B : Nat} (W : Wf g B) : ∀ (n m c : Nat), c < g.places → below g c ≤ n → below g c ≤ m → g.runs n c = g.runs m c
  | n, m, c, hc, hn, hm => by
    cases e : g.down c with
    | none => rw [runs_none e, runs_none e]
    | some q =>
      obtain ⟨hb, hh⟩ := down_some e
      have hq := beside_lt W hc hb
      have lt := below_lt hq hh
      cases n with
      | zero => omega
      | succ n =>
        cases m with
        | zero => omega
        | succ m =>
          rw [runs_some e, runs_some e]
          exact congrArg _ (runs_enough W n m q hq (by omega) (by omega))
/-- the places that a drop from c comes to -/
def course (g : Ground) (c : Nat) : List Nat := g.runs g.places c
theorem course_stop {g : Ground} {c : Nat} (h : g.down c = none) : course g c = [c] := runs_none h _
theorem course_step {g : Ground} {B c q : Nat} (W : Wf g B) (hc : c < g.places) (h : g.down c = some q) : course g c = c :: course g q := by
  obtain ⟨hb, hh⟩ := down_some h
  have hq := beside_lt W hc hb
  have lt := below_lt hq hh
  have le : below g c ≤ g.places := cnt_le _ _
  unfold course
  have e : g.places = g.places - 1 + 1 := by omega
  rw [e, runs_some h, ← e]
  exact congrArg _ (runs_enough W _ _ q hq (by omega) (by omega))
end GW
/-! The mathematics of the ground: how high water stands. -/
namespace GW
open Uw11

/-! ### least of a list -/
theorem le_foldl_min {x : Nat} : ∀ (l : List Nat) (a : Nat), x ≤ l.foldl min a ↔ x ≤ a ∧ ∀ y ∈ l, x ≤ y
  | [], a => by simp
  | y :: l, a => by
    rw [List.foldl_cons, le_foldl_min l]
    constructor
    · rintro ⟨h1, h2⟩
      refine ⟨by omega, fun z hz => ?_⟩
      rcases List.mem_cons.mp hz with rfl | hz
      · omega
      · exact h2 z hz
    · rintro ⟨h1, h2⟩
      have := h2 y List.mem_cons_self
      exact ⟨by omega, fun z hz => h2 z (List.mem_cons_of_mem _ hz)⟩
theorem foldl_min_le {x : Nat} : ∀ (l : List Nat) (a : Nat), l.foldl min a ≤ x ↔ a ≤ x ∨ ∃ y ∈ l, y ≤ x
  | [], a => by simp
  | y :: l, a => by
    rw [List.foldl_cons, foldl_min_le l]
    constructor
    · rintro (h | ⟨z, hz, h⟩)
      · by_cases c : a ≤ x
        · exact .inl c
        · exact .inr ⟨y, List.mem_cons_self, by omega⟩
      · exact .inr ⟨z, List.mem_cons_of_mem _ hz, h⟩
    · rintro (h | ⟨z, hz, h⟩)
      · exact .inl (by omega)
      · rcases List.mem_cons.mp hz with rfl | hz
        · exact .inl (by omega)
        · exact .inr ⟨z, hz, h⟩

/-! ### the specification's steps, by functions -/
def Fn (g : Ground) (u : Nat → Nat) (p : Nat) : Nat := max (g.height p) (if g.edge p = true then 0 else ((g.beside p).map u).foldl min HIGH)
def it (g : Ground) : Nat → Nat → Nat
  | 0 => fun _ => HIGH
  | k + 1 => Fn g (it g k)
theorem Fn_mono {g : Ground} {u v : Nat → Nat} {p : Nat} (h : ∀ q ∈ g.beside p, u q ≤ v q) : Fn g u p ≤ Fn g v p := by
  unfold Fn
  by_cases e : g.edge p = true
  · rw [if_pos e, if_pos e]
    exact Nat.le_refl _
  · rw [if_neg e, if_neg e]
    have : ((g.beside p).map u).foldl min HIGH ≤ ((g.beside p).map v).foldl min HIGH := by
      rw [le_foldl_min]
      refine ⟨?_, fun y hy => ?_⟩
      · rw [foldl_min_le]
        exact .inl (Nat.le_refl _)
      · obtain ⟨q, hq, rfl⟩ := List.mem_map.mp hy
        rw [foldl_min_le]
        exact .inr ⟨u q, List.mem_map.mpr ⟨q, hq, rfl⟩, h q hq⟩
    omega
theorem Fn_high {g : Ground} {B : Nat} (W : Wf g B) (hB : B ≤ HIGH) (u : Nat → Nat) (p : Nat) : Fn g u p ≤ HIGH := by
  have h1 := W.bd p
  have h2 : ((g.beside p).map u).foldl min HIGH ≤ HIGH := (foldl_min_le _ _).mpr (.inl (Nat.le_refl _))
  unfold Fn
  by_cases e : g.edge p = true
  · rw [if_pos e]
    omega
  · rw [if_neg e]
    omega
theorem it_high {g : Ground} {B : Nat} (W : Wf g B) (hB : B ≤ HIGH) : ∀ k p, it g k p ≤ HIGH
  | 0, _ => Nat.le_refl _
  | _ + 1, p => Fn_high W hB _ p
/-- which places are no higher than t behind k steps hangs on which are behind the step before -/
theorem Fn_le {g : Ground} {u : Nat → Nat} {p t : Nat} (ht : t < HIGH) : Fn g u p ≤ t ↔ g.height p ≤ t ∧ (g.edge p = true ∨ ∃ q ∈ g.beside p, u q ≤ t) := by
  unfold Fn
  by_cases e : g.edge p = true
  · rw [if_pos e]
    constructor
    · intro h
      exact ⟨by omega, .inl e⟩
    · rintro ⟨h, _⟩
      omega
  · rw [if_neg e]
    have z : ((g.beside p).map u).foldl min HIGH ≤ t ↔ ∃ q ∈ g.beside p, u q ≤ t := by
      rw [foldl_min_le]
      constructor
      · rintro (h | ⟨y, hy, h⟩)
        · omega
        · obtain ⟨q, hq, rfl⟩ := List.mem_map.mp hy
          exact ⟨q, hq, h⟩
      · rintro ⟨q, hq, h⟩
        exact .inr ⟨_, List.mem_map.mpr ⟨q, hq, rfl⟩, h⟩
    constructor
    · intro h
      exact ⟨by omega, .inr (z.mp (by omega))⟩
    · rintro ⟨h, h2 | h2⟩
      · exact absurd h2 e
      · have := z.mpr h2
        omega
theorem it_down {g : Ground} {B : Nat} (W : Wf g B) (hB : B ≤ HIGH) : ∀ k p, it g (k + 1) p ≤ it g k p
  | 0, p => it_high W hB 1 p
  | k + 1, p => Fn_mono fun q _ => it_down W hB k q
def low (g : Ground) (t k : Nat) : Nat → Bool := fun p => decide (it g k p ≤ t)
theorem low_grows {g : Ground} {B t : Nat} (W : Wf g B) (hB : B ≤ HIGH) (ht : t < HIGH) : ∀ k, (∀ p, p < g.places → it g (k + 1) p ≤ t → it g k p ≤ t) ∨ k + 1 ≤ cnt (low g t (k + 1)) g.places
  | 0 => by
    by_cases c : ∀ p, p < g.places → it g 1 p ≤ t → it g 0 p ≤ t
    · exact .inl c
    · refine .inr ?_
      obtain ⟨p, hp⟩ := Classical.not_forall.mp c
      obtain ⟨h1, hp⟩ := Classical.not_imp.mp hp
      obtain ⟨h2, h3⟩ := Classical.not_imp.mp hp
      have := cnt_lt (f := fun _ => false) (g := low g t 1) (y := p) g.places (fun _ _ z => by cases z) h1 rfl (decide_eq_true h2)
      show 1 ≤ cnt (low g t 1) g.places
      omega
  | k + 1 => by
    by_cases c : ∀ p, p < g.places → it g (k + 1 + 1) p ≤ t → it g (k + 1) p ≤ t
    · exact .inl c
    · refine .inr ?_
      rcases low_grows W hB ht k with h | h
      · refine absurd (fun p hp h1 => ?_) c
        have h1' : Fn g (it g (k + 1)) p ≤ t := h1
        show Fn g (it g k) p ≤ t
        rw [Fn_le ht] at h1' ⊢
        refine ⟨h1'.1, ?_⟩
        rcases h1'.2 with e | ⟨q, hq, hl⟩
        · exact .inl e
        · exact .inr ⟨q, hq, h q (beside_lt W hp hq) hl⟩
      · obtain ⟨p, hp⟩ := Classical.not_forall.mp c
        obtain ⟨h1, hp⟩ := Classical.not_imp.mp hp
        obtain ⟨h2, h3⟩ := Classical.not_imp.mp hp
        have := cnt_lt (f := low g t (k + 1)) (g := low g t (k + 1 + 1)) (y := p) g.places (fun x _ z => ?_) h1 (decide_eq_false h3) (decide_eq_true h2)
        · omega
        · have z := of_decide_eq_true z
          exact decide_eq_true (Nat.le_trans (it_down W hB (k + 1) x) z)
/-- behind as many steps as there are places nothing falls any more -/
theorem it_still {g : Ground} {B : Nat} (W : Wf g B) (hB : B ≤ HIGH) {p : Nat} (hp : p < g.places) : it g g.places p ≤ Fn g (it g g.places) p := by
  show it g g.places p ≤ it g (g.places + 1) p
  by_cases c : it g (g.places + 1) p < HIGH
  · rcases low_grows W hB c g.places with h | h
    · exact h p hp (Nat.le_refl _)
    · have := cnt_le (low g (it g (g.places + 1) p) (g.places + 1)) g.places
      omega
  · have := it_high W hB g.places p
    omega

/-! ### the specification's levels -/
theorem getD_range_map {f : Nat → Nat} {n p d : Nat} (hp : p < n) : ((List.range n).map f).getD p d = f p := by
  rw [List.getD_eq_getElem?_getD, List.getElem?_map, List.getElem?_range hp]
  rfl
theorem after_it {g : Ground} {B : Nat} (W : Wf g B) : ∀ (n k : Nat) (w : List Nat), (∀ p, p < g.places → w.getD p HIGH = it g k p) → ∀ p, p < g.places → (g.after n w).getD p HIGH = it g (n + k) p
  | 0, k, w, h, p, hp => by
    rw [Nat.zero_add]
    exact h p hp
  | n + 1, k, w, h, p, hp => by
    have e : n + 1 + k = n + (k + 1) := by omega
    rw [e]
    refine after_it W n (k + 1) (g.nearer w) (fun q hq => ?_) p hp
    unfold Ground.nearer
    rw [getD_range_map hq]
    show Fn g (fun q => w.getD q HIGH) q = Fn g (it g k) q
    refine Nat.le_antisymm (Fn_mono fun r hr => ?_) (Fn_mono fun r hr => ?_)
    · exact Nat.le_of_eq (h r (beside_lt W hq hr))
    · exact Nat.le_of_eq (h r (beside_lt W hq hr)).symm
theorem nearer_len (g : Ground) (w : List Nat) : (g.nearer w).length = g.places := by
  unfold Ground.nearer
  rw [List.length_map, List.length_range]
theorem after_len (g : Ground) : ∀ (n : Nat) (w : List Nat), w.length = g.places → (g.after n w).length = g.places
  | 0, _, h => h
  | n + 1, w, _ => after_len g n _ (nearer_len g w)
theorem levels_len (g : Ground) : g.levels.length = g.places := after_len g _ _ (List.length_replicate ..)
theorem levels_it {g : Ground} {B p : Nat} (W : Wf g B) (hp : p < g.places) : g.levels.getD p HIGH = it g g.places p := by
  unfold Ground.levels
  rw [after_it W g.places 0 _ (fun q hq => ?_) p hp]
  · rfl
  · rw [List.getD_eq_getElem?_getD, List.getElem?_replicate, if_pos hq]
    rfl
theorem getD_lt {l : List Nat} {p d e : Nat} (h : p < l.length) : l.getD p d = l.getD p e := by
  rw [List.getD_eq_getElem?_getD, List.getD_eq_getElem?_getD, List.getElem?_eq_getElem h]
  rfl
theorem levels_ge {g : Ground} {B p : Nat} (W : Wf g B) (hp : p < g.places) : g.height p ≤ g.levels.getD p 0 := by
  rw [getD_lt (e := HIGH) (by rw [levels_len]; exact hp), levels_it W hp]
  obtain ⟨n, hn⟩ : ∃ n, g.places = n + 1 := ⟨g.places - 1, by omega⟩
  rw [hn]
  show g.height p ≤ max _ _
  omega

/-! ### what the program keeps: for each place a level, or none as yet -/
def ov : Option Nat → Nat
  | none => HIGH
  | some x => x
def lv (l : List (Option Nat)) (p : Nat) : Nat := ov (l.getD p none)
/-- what the ways beside a place allow -/
def overM (g : Ground) (l : List (Option Nat)) (p : Nat) : Option Nat := if (g.beside p).filterMap (fun q => l.getD q none) = [] then none else some (max (g.height p) (((g.beside p).filterMap (fun q => l.getD q none)).foldl min HIGH))
def better (a b : Option Nat) : Bool := match a, b with
  | none, _ => false
  | some _, none => true
  | some x, some y => decide (x < y)
structure Good (g : Ground) (B : Nat) (l : List (Option Nat)) : Prop where
  len : l.length = g.places
  edge : ∀ p, p < g.places → g.edge p = true → l.getD p none = some (g.height p)
  over : ∀ p, p < g.places → it g g.places p ≤ lv l p
  bd : ∀ p x, l.getD p none = some x → x ≤ B
theorem foldl_filterMap (f : Nat → Option Nat) : ∀ (l : List Nat) (a : Nat), a ≤ HIGH → (l.filterMap f).foldl min a = (l.map fun q => ov (f q)).foldl min a
  | [], _, _ => rfl
  | q :: l, a, ha => by
    rw [List.map_cons, List.foldl_cons]
    cases e : f q with
    | none =>
      rw [List.filterMap_cons_none e, foldl_filterMap f l a ha]
      have : min a (ov none) = a := Nat.min_eq_left ha
      rw [this]
    | some x =>
      rw [List.filterMap_cons_some e, List.foldl_cons]
      exact foldl_filterMap f l _ (by omega)
theorem overM_Fn {g : Ground} {B p : Nat} {l : List (Option Nat)} (W : Wf g B) (hB : B ≤ HIGH) (he : ¬ g.edge p = true) : ov (overM g l p) = Fn g (lv l) p := by
  have h1 := W.bd p
  have h2 := foldl_filterMap (fun q => l.getD q none) (g.beside p) HIGH (Nat.le_refl _)
  unfold Fn
  rw [if_neg he]
  show _ = max _ (((g.beside p).map fun q => ov (l.getD q none)).foldl min HIGH)
  rw [← h2]
  unfold overM
  by_cases c : (g.beside p).filterMap (fun q => l.getD q none) = []
  · rw [if_pos c, c]
    show HIGH = max _ HIGH
    omega
  · rw [if_neg c]
    rfl
theorem overM_bd {g : Ground} {B p x : Nat} {l : List (Option Nat)} (W : Wf g B) (G : Good g B l) (h : overM g l p = some x) : x ≤ B := by
  have h1 := W.bd p
  unfold overM at h
  by_cases c : (g.beside p).filterMap (fun q => l.getD q none) = []
  · rw [if_pos c] at h
    cases h
  · rw [if_neg c] at h
    have h := Option.some.inj h
    obtain ⟨y, hy⟩ := List.exists_mem_of_ne_nil _ c
    obtain ⟨q, _, hq⟩ := List.mem_filterMap.mp hy
    have h3 := G.bd q y hq
    have h4 : ((g.beside p).filterMap (fun q => l.getD q none)).foldl min HIGH ≤ B := (foldl_min_le _ _).mpr (.inr ⟨y, hy, h3⟩)
    omega
theorem better_iff {a b : Option Nat} (ha : ∀ x, a = some x → x < HIGH) (hb : ∀ x, b = some x → x < HIGH) : better a b = true ↔ ov a < ov b := by
  cases a with
  | none =>
    cases b with
    | none =>
      show false = true ↔ HIGH < HIGH
      simp
    | some y =>
      have := hb y rfl
      show false = true ↔ HIGH < y
      simp
      omega
  | some x =>
    have := ha x rfl
    cases b with
    | none =>
      show true = true ↔ x < HIGH
      simp [this]
    | some y =>
      show decide (x < y) = true ↔ x < y
      simp
theorem getD_set {α : Type} {l : List α} {p q : Nat} {x d : α} (hp : p < l.length) : (l.set p x).getD q d = if q = p then x else l.getD q d := by
  rw [List.getD_eq_getElem?_getD, List.getD_eq_getElem?_getD, List.getElem?_set]
  by_cases c : q = p
  · subst c
    rw [if_pos rfl, if_pos rfl, if_pos hp]
    rfl
  · rw [if_neg (Ne.symm c), if_neg c]
theorem lv_high {g : Ground} {B : Nat} {l : List (Option Nat)} (hB : B ≤ HIGH) (G : Good g B l) (p : Nat) : lv l p ≤ HIGH := by
  unfold lv
  cases e : l.getD p none with
  | none => exact Nat.le_refl _
  | some x =>
    have := G.bd p x e
    show x ≤ HIGH
    omega
/-- a better way is kept -/
theorem Good.put {g : Ground} {B p x : Nat} {l : List (Option Nat)} (W : Wf g B) (hB : B < HIGH) (G : Good g B l) (hp : p < g.places) (he : ¬ g.edge p = true) (hx : overM g l p = some x) : Good g B (l.set p (some x)) := by
  have hl : p < l.length := by rw [G.len]; exact hp
  refine ⟨by rw [List.length_set]; exact G.len, fun q hq e => ?_, fun q hq => ?_, fun q y hy => ?_⟩
  · rw [getD_set hl, if_neg (fun z => he (by rw [← z]; exact e))]
    exact G.edge q hq e
  · unfold lv
    rw [getD_set hl]
    by_cases c : q = p
    · subst c
      rw [if_pos rfl]
      show _ ≤ x
      have h1 := overM_Fn (p := q) (l := l) W (Nat.le_of_lt hB) he
      rw [hx] at h1
      have h1 : x = Fn g (lv l) q := h1
      rw [h1]
      exact Nat.le_trans (it_still W (Nat.le_of_lt hB) hq) (Fn_mono fun r hr => G.over r (beside_lt W hq hr))
    · rw [if_neg c]
      exact G.over q hq
  · rw [getD_set hl] at hy
    by_cases c : q = p
    · rw [if_pos c] at hy
      have hy := Option.some.inj hy
      rw [← hy]
      exact overM_bd W G hx
    · rw [if_neg c] at hy
      exact G.bd q y hy
def meas (l : List (Option Nat)) : Nat := (l.map ov).sum
theorem sum_set : ∀ (l : List Nat) (p x : Nat), p < l.length → (l.set p x).sum + l.getD p 0 = l.sum + x
  | [], _, _, h => absurd h (Nat.not_lt_zero _)
  | y :: l, 0, x, _ => by
    show (x :: l).sum + y = (y :: l).sum + x
    rw [List.sum_cons, List.sum_cons]
    omega
  | y :: l, p + 1, x, h => by
    have ih := sum_set l p x (by simpa using h)
    show (y :: l.set p x).sum + l.getD p 0 = (y :: l).sum + x
    rw [List.sum_cons, List.sum_cons]
    omega
theorem meas_put {l : List (Option Nat)} {p : Nat} {x : Option Nat} (hp : p < l.length) (h : ov x < lv l p) : meas (l.set p x) < meas l := by
  have h1 := sum_set (l.map ov) p (ov x) (by rw [List.length_map]; exact hp)
  have h2 : (l.map ov).getD p 0 = lv l p := by
    unfold lv
    rw [List.getD_eq_getElem?_getD, List.getElem?_map, List.getD_eq_getElem?_getD, List.getElem?_eq_getElem hp]
    rfl
  unfold meas
  rw [List.map_set]
  omega
/-- nothing is better at p -/
def Still (g : Ground) (l : List (Option Nat)) (p : Nat) : Prop := g.edge p = true ∨ better (overM g l p) (l.getD p none) = false
theorem still_le {g : Ground} {B p : Nat} {l : List (Option Nat)} (W : Wf g B) (hB : B < HIGH) (G : Good g B l) (hp : p < g.places) (h : Still g l p) : lv l p ≤ Fn g (lv l) p := by
  by_cases e : g.edge p = true
  · unfold lv
    rw [G.edge p hp e]
    unfold Fn
    rw [if_pos e]
    show g.height p ≤ _
    omega
  · rcases h with h | h
    · exact absurd h e
    · rw [← overM_Fn W (Nat.le_of_lt hB) e]
      by_cases c : ov (overM g l p) < ov (l.getD p none)
      · rw [(better_iff (fun x hx => Nat.lt_of_le_of_lt (overM_bd W G hx) hB) (fun x hx => Nat.lt_of_le_of_lt (G.bd p x hx) hB)).mpr c] at h
        cases h
      · exact Nat.le_of_not_lt c
theorem still_it {g : Ground} {B : Nat} {l : List (Option Nat)} (W : Wf g B) (hB : B < HIGH) (G : Good g B l) (h : ∀ p, p < g.places → Still g l p) : ∀ k p, p < g.places → lv l p ≤ it g k p
  | 0, p, _ => lv_high (Nat.le_of_lt hB) G p
  | k + 1, p, hp => Nat.le_trans (still_le W hB G hp (h p hp)) (Fn_mono fun q hq => still_it W hB G h k q (beside_lt W hp hq))
theorem inner_up {g : Ground} {B p : Nat} (W : Wf g B) (he : ¬ g.edge p = true) : g.cols ≤ p := by
  by_cases c : g.cols ≤ p
  · exact c
  · refine absurd ?_ he
    unfold Ground.edge
    rw [decide_eq_true_eq]
    unfold Ground.beside
    rw [if_neg c]
    by_cases a : 0 < p % g.cols <;> by_cases b : p % g.cols + 1 < g.cols <;> by_cases d : p + g.cols < g.places <;> simp [a, b, d]
theorem still_known {g : Ground} {B : Nat} {l : List (Option Nat)} (W : Wf g B) (G : Good g B l) (h : ∀ p, p < g.places → Still g l p) : ∀ n p, p ≤ n → p < g.places → l.getD p none ≠ none
  | n, p, hn, hp => by
    have c1 := W.c1
    by_cases e : g.edge p = true
    · rw [G.edge p hp e]
      exact fun z => by cases z
    · intro z
      have up := inner_up W e
      have k : l.getD (p - g.cols) none ≠ none := by
        cases n with
        | zero => omega
        | succ n => exact still_known W G h n (p - g.cols) (by omega) (by omega)
      have mb : p - g.cols ∈ g.beside p := mem_beside.mpr (.inl ⟨up, rfl⟩)
      rcases h p hp with h | h
      · exact e h
      · rw [z] at h
        have ne : (g.beside p).filterMap (fun q => l.getD q none) ≠ [] := fun en => by
          cases ek : l.getD (p - g.cols) none with
          | none => exact k ek
          | some y =>
            have : y ∈ (g.beside p).filterMap (fun q => l.getD q none) := List.mem_filterMap.mpr ⟨_, mb, ek⟩
            rw [en] at this
            cases this
        unfold overM at h
        rw [if_neg ne] at h
        cases h
/-- where nothing is better any more the levels are those of the specification -/
theorem still_levels {g : Ground} {B : Nat} {l : List (Option Nat)} (W : Wf g B) (hB : B < HIGH) (G : Good g B l) (h : ∀ p, p < g.places → Still g l p) : l = g.levels.map some := by
  refine List.ext_getElem? fun p => ?_
  by_cases hp : p < g.places
  · have hl : p < l.length := by rw [G.len]; exact hp
    have hL : p < g.levels.length := by rw [levels_len]; exact hp
    have k := still_known W G h p p (Nat.le_refl _) hp
    have e1 : l.getD p none = l[p] := by
      rw [List.getD_eq_getElem?_getD, List.getElem?_eq_getElem hl]
      rfl
    have e2 : g.levels.getD p HIGH = g.levels[p] := by
      rw [List.getD_eq_getElem?_getD, List.getElem?_eq_getElem hL]
      rfl
    have a1 := still_it W hB G h g.places p hp
    have a2 := G.over p hp
    rw [← levels_it W hp, e2] at a1 a2
    unfold lv at a1 a2
    rw [e1] at a1 a2 k
    rw [List.getElem?_map, List.getElem?_eq_getElem hl, List.getElem?_eq_getElem hL]
    cases ek : l[p] with
    | none => exact absurd ek k
    | some x =>
      rw [ek] at a1 a2
      have a1 : x ≤ g.levels[p] := a1
      have a2 : g.levels[p] ≤ x := a2
      show some (some x) = some (some g.levels[p])
      rw [Nat.le_antisymm a1 a2]
  · rw [List.getElem?_eq_none (by rw [G.len]; omega), List.getElem?_eq_none (by rw [List.length_map, levels_len]; omega)]
/-- at the edge first -/
def firstM (g : Ground) : List (Option Nat) := (List.range g.places).map fun p => if g.edge p = true then some (g.height p) else none
theorem getD_range_mapO {f : Nat → Option Nat} {n p : Nat} {d : Option Nat} (hp : p < n) : ((List.range n).map f).getD p d = f p := by
  rw [List.getD_eq_getElem?_getD, List.getElem?_map, List.getElem?_range hp]
  rfl
theorem firstM_good {g : Ground} {B : Nat} (W : Wf g B) (hB : B < HIGH) : Good g B (firstM g) := by
  have gd : ∀ p, (firstM g).getD p none = if p < g.places then (if g.edge p = true then some (g.height p) else none) else none := fun p => by
    by_cases hp : p < g.places
    · rw [if_pos hp]
      exact getD_range_mapO hp
    · rw [if_neg hp, List.getD_eq_getElem?_getD, List.getElem?_eq_none]
      · rfl
      · unfold firstM
        rw [List.length_map, List.length_range]
        omega
  refine ⟨by unfold firstM; rw [List.length_map, List.length_range], fun p hp e => ?_, fun p hp => ?_, fun p x hx => ?_⟩
  · rw [gd, if_pos hp, if_pos e]
  · unfold lv
    rw [gd, if_pos hp]
    by_cases e : g.edge p = true
    · rw [if_pos e]
      obtain ⟨n, hn⟩ : ∃ n, g.places = n + 1 := ⟨g.places - 1, by omega⟩
      rw [hn]
      show Fn g (it g n) p ≤ g.height p
      unfold Fn
      rw [if_pos e]
      omega
    · rw [if_neg e]
      exact it_high W (Nat.le_of_lt hB) _ _
  · rw [gd] at hx
    by_cases hp : p < g.places
    · rw [if_pos hp] at hx
      by_cases e : g.edge p = true
      · rw [if_pos e] at hx
        have hx := Option.some.inj hx
        rw [← hx]
        exact W.bd p
      · rw [if_neg e] at hx
        cases hx
    · rw [if_neg hp] at hx
      cases hx
end GW
/-! The mathematics of the ground: how much is kept, banks, the best bank. -/
namespace GW
open Uw11

/-! ### what is kept -/
theorem foldl_add : ∀ (l : List Nat) (a : Nat), l.foldl (fun a b => a + b) a = a + l.sum
  | [], a => by simp
  | x :: l, a => by
    rw [List.foldl_cons, foldl_add l, List.sum_cons]
    omega
theorem sum_part (f h : Nat → Nat) : ∀ (n : Nat), (∀ p, p < n → h p ≤ f p) → ((List.range n).map fun p => f p - h p).sum + ((List.range n).map h).sum = ((List.range n).map f).sum
  | 0, _ => rfl
  | n + 1, hle => by
    have ih := sum_part f h n fun p hp => hle p (by omega)
    have hn := hle n (by omega)
    rw [List.range_succ, List.map_append, List.map_append, List.map_append, List.sum_append, List.sum_append, List.sum_append]
    show _ + (f n - h n + 0) + (_ + (h n + 0)) = _ + (f n + 0)
    omega
theorem range_getD (l : List Nat) (d : Nat) : (List.range l.length).map (fun p => l.getD p d) = l := by
  refine List.ext_getElem? fun p => ?_
  by_cases hp : p < l.length
  · rw [List.getElem?_map, List.getElem?_range hp, List.getElem?_eq_getElem hp]
    show some (l.getD p d) = some l[p]
    rw [List.getD_eq_getElem?_getD, List.getElem?_eq_getElem hp]
    rfl
  · rw [List.getElem?_eq_none (by rw [List.length_map, List.length_range]; omega), List.getElem?_eq_none (by omega)]
def intsOf (l : List Nat) : List Int := l.map fun (n : Nat) => (n : Int)
theorem sum_ints : ∀ (l : List Nat), (intsOf l).sum = (l.sum : Int)
  | [] => rfl
  | x :: l => by
    show ((x : Int) :: intsOf l).sum = _
    rw [List.sum_cons, List.sum_cons, sum_ints l]
    exact (Int.natCast_add _ _).symm
theorem kept_nat {g : Ground} {B : Nat} (W : Wf g B) : g.kept + g.heights.sum = g.levels.sum := by
  have h1 := sum_part (fun p => g.levels.getD p 0) g.height g.places fun p hp => levels_ge W hp
  have h2 : (List.range g.places).map (fun p => g.levels.getD p 0) = g.levels := by
    rw [← levels_len g]
    exact range_getD _ _
  have h3 : (List.range g.places).map g.height = g.heights := by
    show (List.range (g.rows * g.cols)).map _ = _
    rw [← W.len]
    exact range_getD _ _
  rw [h2, h3] at h1
  have h4 : g.kept = ((List.range g.places).map fun p => g.levels.getD p 0 - g.height p).sum := by
    show List.foldl (fun a b => a + b) 0 _ = _
    rw [foldl_add, Nat.zero_add]
  omega
theorem kept_int {g : Ground} {B : Nat} (W : Wf g B) : (intsOf g.levels).sum - (intsOf g.heights).sum = (g.kept : Int) := by
  have := kept_nat W
  rw [sum_ints, sum_ints]
  omega

/-! ### banks -/
theorem height_set {g : Ground} {p x q : Nat} (hp : p < g.heights.length) : ({ g with heights := g.heights.set p x } : Ground).height q = if q = p then x else g.height q := getD_set hp
theorem Wf.set {g : Ground} {B C p x : Nat} (W : Wf g B) (hp : p < g.places) (hx : x ≤ C) (hBC : B ≤ C) : Wf { g with heights := g.heights.set p x } C := by
  refine ⟨W.r1, W.c1, W.pl, by show (g.heights.set p x).length = _; rw [List.length_set]; exact W.len, fun q => ?_⟩
  rw [height_set (by rw [W.len]; exact hp)]
  have := W.bd q
  by_cases c : q = p
  · rw [if_pos c]
    exact hx
  · rw [if_neg c]
    omega
theorem Wf.raised {g : Ground} {B C p n : Nat} (W : Wf g B) (hp : p < g.places) (hn : B + n ≤ C) : Wf (g.raised p n) C := by
  have := W.bd p
  exact W.set hp (by omega) (by omega)
theorem Wf.wide {g : Ground} {B C : Nat} (W : Wf g B) (h : B ≤ C) : Wf g C := ⟨W.r1, W.c1, W.pl, W.len, fun p => Nat.le_trans (W.bd p) h⟩
theorem set_cut {α : Type} : ∀ (l : List α) (p : Nat) (x : α), p < l.length → l.take p ++ [x] ++ l.drop (p + 1) = l.set p x
  | [], _, _, h => absurd h (Nat.not_lt_zero _)
  | _ :: _, 0, _, _ => rfl
  | y :: l, p + 1, x, h => by
    show y :: (l.take p ++ [x] ++ l.drop (p + 1)) = y :: l.set p x
    rw [set_cut l p x (by simpa using h)]
theorem raised_zero {g : Ground} {B p : Nat} (W : Wf g B) (hp : p < g.places) : g.raised p 0 = g := by
  have hl : p < g.heights.length := by rw [W.len]; exact hp
  have e : g.heights.set p (g.height p + 0) = g.heights := by
    unfold Ground.height
    rw [Nat.add_zero, List.getD_eq_getElem?_getD, List.getElem?_eq_getElem hl]
    exact List.set_getElem_self hl
  unfold Ground.raised
  rw [e]

/-! ### the best bank -/
def more (b x : Best) : Best := if b.kept < x.kept then x else b
def bank (g : Ground) (h p : Nat) : Best := ⟨(g.raised p h).kept, p, h⟩
/-- behind all banks lower than h, and of those of h the first k places -/
def upTo (g : Ground) (h : Nat) : Best := ((List.range h).flatMap fun h => (List.range g.places).map fun p => bank g h p).foldl more ⟨g.kept, 0, 0⟩
def inTo (g : Ground) (h k : Nat) : Best := ((List.range k).map fun p => bank g h p).foldl more (upTo g h)
theorem best_upTo (g : Ground) (n : Nat) : g.best n = upTo g (n + 1) := rfl
theorem inTo_zero (g : Ground) (h : Nat) : inTo g h 0 = upTo g h := rfl
theorem inTo_succ (g : Ground) (h k : Nat) : inTo g h (k + 1) = more (inTo g h k) (bank g h k) := by
  unfold inTo
  rw [List.range_succ, List.map_append, List.foldl_append]
  rfl
theorem upTo_succ (g : Ground) (h : Nat) : upTo g (h + 1) = inTo g h g.places := by
  unfold inTo upTo
  rw [List.range_succ, List.flatMap_append, List.foldl_append]
  simp
theorem upTo_one {g : Ground} {B : Nat} (W : Wf g B) : upTo g 1 = ⟨g.kept, 0, 0⟩ := by
  rw [upTo_succ]
  have key : ∀ k, k ≤ g.places → inTo g 0 k = ⟨g.kept, 0, 0⟩ := by
    intro k
    induction k with
    | zero => exact fun _ => rfl
    | succ k ih =>
      intro hk
      rw [inTo_succ, ih (by omega)]
      unfold more bank
      rw [raised_zero W (by omega)]
      exact if_neg (Nat.lt_irrefl _)
  exact key _ (Nat.le_refl _)
/-- what stands is a bank that came before -/
theorem inTo_before {g : Ground} {B : Nat} (W : Wf g B) : ∀ h k, k ≤ g.places → 1 ≤ h → (inTo g h k).higher ≤ h ∧ ((inTo g h k).higher = h → (inTo g h k).place < k)
  | 0, _, _, h1 => absurd h1 (by omega)
  | h + 1, 0, _, _ => by
    rw [inTo_zero]
    cases h with
    | zero =>
      rw [upTo_one W]
      exact ⟨Nat.zero_le _, fun z => by cases z⟩
    | succ h =>
      have := inTo_before W (h + 1) g.places (Nat.le_refl _) (by omega)
      rw [upTo_succ]
      exact ⟨by omega, fun z => by omega⟩
  | h + 1, k + 1, hk, h1 => by
    have ih := inTo_before W (h + 1) k (by omega) h1
    rw [inTo_succ]
    unfold more
    by_cases c : (inTo g (h + 1) k).kept < (bank g (h + 1) k).kept
    · rw [if_pos c]
      exact ⟨Nat.le_refl _, fun _ => Nat.lt_succ_self _⟩
    · rw [if_neg c]
      exact ⟨ih.1, fun z => Nat.lt_succ_of_lt (ih.2 z)⟩
end GW
/-! The machine: a flat list of calls, one call behind another. -/
namespace GW
open Uw11

def NUMS : List Int := [2, 2, 1, 0, 2, 1, 2]
/-- what the calls of cs answer from g on -/
def told (g : Ground) (cs : List (List (List Int))) : List Int := PyFlat.told (PyFlat.played (fun s c => Uw11Neutral.step s (c.headD [])) g (cs.map PyUw11.whole))
/-- what one call answers -/
def ans (g : Ground) (x : Uw11.Call) : List Int := Uw11Neutral.out (Uw11.step g x).2
structure At (ns : List Int) (i : Nat) (g : Ground) (found : List Int) : Prop where
  ex : ∃ f cs, PyFlat.calls PyUw11.shape f (ns.drop i) = some cs ∧ (∀ c ∈ cs, Uw11Neutral.asked1 ((PyUw11.whole c).headD []) = true) ∧ PyUw11.answers ns = found ++ told g cs
  short : (PyUw11.answers ns).length ≤ 10000000
theorem answers_eq {ns : List Int} {cs : List (List (List Int))} (h : PyFlat.calls PyUw11.shape ns.length ns = some cs) : PyUw11.answers ns = told Uw11.init cs := by
  unfold PyUw11.answers PyUw11.calls
  rw [h]
  rfl
theorem At_start {ns : List Int} (h : PyUw11.answers_asked ns = true) : At ns 0 Uw11.init [] := by
  unfold PyUw11.answers_asked at h
  cases e : PyFlat.calls PyUw11.shape ns.length ns with
  | none =>
    rw [e] at h
    cases h
  | some cs =>
    rw [e] at h
    have h : (!cs.isEmpty && PyFlat.atMost 80 cs && PyInside.calls PyUw11.bound cs && Uw11Neutral.asked ((cs.map PyUw11.whole).map fun c => c.headD []) && PyFlat.short 10000000 (PyUw11.answers ns)) = true := h
    rw [Bool.and_eq_true, Bool.and_eq_true] at h
    obtain ⟨⟨_, h1⟩, h2⟩ := h
    unfold Uw11Neutral.asked at h1
    rw [Bool.and_eq_true] at h1
    have h3 := List.all_eq_true.mp h1.1
    refine ⟨⟨ns.length, cs, e, fun c hc => ?_, answers_eq e⟩, of_decide_eq_true h2⟩
    exact h3 _ (List.mem_map.mpr ⟨_, List.mem_map.mpr ⟨c, hc, rfl⟩, rfl⟩)
theorem calls_nil {f : Nat} {cs : List (List (List Int))} (h : PyFlat.calls PyUw11.shape f [] = some cs) : cs = [] := by
  cases f <;> exact (Option.some.inj h).symm
theorem At_end {ns : List Int} {i : Nat} {g : Ground} {found : List Int} (h : At ns i g found) (hi : ns.length ≤ i) : found = PyUw11.answers ns := by
  obtain ⟨f, cs, e, _, ea⟩ := h.ex
  rw [List.drop_eq_nil_of_le hi] at e
  rw [calls_nil e] at ea
  rw [ea]
  show found = found ++ []
  rw [List.append_nil]
theorem shape_num {p : Int} {n k : Nat} (h : PyUw11.shape p = some (n, k)) : k = 0 ∧ 0 ≤ p ∧ p < 7 ∧ NUMS[p.toNat]? = some (n : Int) := by
  unfold PyUw11.shape at h
  have key : ∀ (a : Nat) (q : Int), p = q → q = (a : Int) → some (2, 0) = some (n, k) ∨ some (1, 0) = some (n, k) ∨ some (0, 0) = some (n, k) → (NUMS[a]? = some (n : Int)) → a < 7 → k = 0 ∧ 0 ≤ p ∧ p < 7 ∧ NUMS[p.toNat]? = some (n : Int) := by
    intro a q e1 e2 e3 e4 e5
    subst e1
    subst e2
    refine ⟨?_, by omega, by omega, e4⟩
    rcases e3 with e | e | e <;> cases e <;> rfl
  split at h
  · next e => exact key 0 0 e rfl (.inl h) (by cases h; rfl) (by decide)
  · split at h
    · next e => exact key 1 1 e rfl (.inl h) (by cases h; rfl) (by decide)
    · split at h
      · next e => exact key 2 2 e rfl (.inr (.inl h)) (by cases h; rfl) (by decide)
      · split at h
        · next e => exact key 3 3 e rfl (.inr (.inr h)) (by cases h; rfl) (by decide)
        · split at h
          · next e => exact key 4 4 e rfl (.inl h) (by cases h; rfl) (by decide)
          · split at h
            · next e => exact key 5 5 e rfl (.inr (.inl h)) (by cases h; rfl) (by decide)
            · split at h
              · next e => exact key 6 6 e rfl (.inl h) (by cases h; rfl) (by decide)
              · cases h
/-- a call, by its numbers -/
inductive CallIs : Int → List Int → Uw11.Call → Prop
  | begins (r c : Nat) (hr : r < 2 ^ 32) (hc : c < 2 ^ 32) : CallIs 0 [r, c] (.begins r c)
  | height (p h : Nat) : CallIs 1 [p, h] (.height p h)
  | drop (p : Nat) : CallIs 2 [p] (.drop p)
  | levels : CallIs 3 [] .levels
  | check (p n : Nat) : CallIs 4 [p, n] (.check p n)
  | best (n : Nat) : CallIs 5 [n] (.best n)
  | throw (p n : Nat) : CallIs 6 [p, n] (.raise p n)
theorem nat_back : ∀ (l : List Int), l.all Uw11Neutral.nat = true → l = intsOf (l.map Int.toNat) ∧ ∀ n ∈ l.map Int.toNat, n < 2 ^ 32
  | [], _ => ⟨rfl, fun _ h => by cases h⟩
  | z :: l, h => by
    rw [List.all_cons, Bool.and_eq_true] at h
    obtain ⟨ih, ib⟩ := nat_back l h.2
    have hz : (decide (0 ≤ z) && decide (z < 2 ^ 32)) = true := h.1
    rw [Bool.and_eq_true, decide_eq_true_eq, decide_eq_true_eq] at hz
    constructor
    · show z :: l = (z.toNat : Int) :: intsOf (l.map Int.toNat)
      rw [← ih, Int.toNat_of_nonneg hz.1]
    · intro n hn
      rcases List.mem_cons.mp hn with rfl | hn
      · omega
      · exact ib n hn
theorem callIs_of {p : Int} {args : List Int} {x : Uw11.Call} (h : Uw11Neutral.callOf (p :: args) = some x) : CallIs p args x := by
  unfold Uw11Neutral.callOf at h
  by_cases c : (p :: args).all Uw11Neutral.nat = true
  · rw [if_neg (by rw [c]; decide)] at h
    obtain ⟨e, b⟩ := nat_back _ c
    generalize (p :: args).map Int.toNat = m at h e b
    unfold Uw11Neutral.callIn at h
    split at h
    · cases h
      cases e
      exact .begins _ _ (b _ (by simp)) (b _ (by simp))
    · cases h
      cases e
      exact .height _ _
    · cases h
      cases e
      exact .drop _
    · cases h
      cases e
      exact .levels
    · cases h
      cases e
      exact .check _ _
    · cases h
      cases e
      exact .best _
    · cases h
      cases e
      exact .throw _ _
    · cases h
  · rw [if_pos (by simpa using c)] at h
    cases h
theorem whole_one {p : Int} {args : List Int} : (PyUw11.whole [p :: args]).headD [] = p :: args := by
  unfold PyUw11.whole
  split <;> first | rfl | (next e => cases e; rfl)
theorem told_cons {g : Ground} {p : Int} {args : List Int} {x : Uw11.Call} {cs : List (List (List Int))} (h : Uw11Neutral.callOf (p :: args) = some x) :
    told g ([p :: args] :: cs) = ((ans g x).length : Int) :: ans g x ++ told (Uw11.step g x).1 cs := by
  have e : Uw11Neutral.step g ((PyUw11.whole [p :: args]).headD []) = ((Uw11.step g x).1, ans g x) := by
    rw [whole_one]
    unfold Uw11Neutral.step
    rw [h]
    rfl
  unfold told
  rw [List.map_cons]
  show PyFlat.told ((Uw11Neutral.step g ((PyUw11.whole [p :: args]).headD [])).2 :: PyFlat.played _ (Uw11Neutral.step g ((PyUw11.whole [p :: args]).headD [])).1 (cs.map PyUw11.whole)) = _
  rw [e]
  rfl
theorem At_turn {ns : List Int} {i : Nat} {g : Ground} {found : List Int} (h : At ns i g found) (hi : i < ns.length) :
    ∃ (p : Int) (n : Nat) (args : List Int) (x : Uw11.Call), ns[i]? = some p ∧ 0 ≤ p ∧ p < 7 ∧ NUMS[p.toNat]? = some (n : Int) ∧ (ns.drop (i + 1)).take n = args ∧ i + 1 + n ≤ ns.length ∧ CallIs p args x ∧
      At ns (i + 1 + n) (Uw11.step g x).1 (found ++ [((ans g x).length : Int)] ++ ans g x) ∧ found.length + 1 + (ans g x).length ≤ 10000000 := by
  obtain ⟨⟨f, cs, e, hall, ea⟩, hs⟩ := h
  obtain ⟨p, r, er⟩ : ∃ p r, ns.drop i = p :: r := by
    cases ed : ns.drop i with
    | nil =>
      have : (ns.drop i).length = 0 := by rw [ed]; rfl
      rw [List.length_drop] at this
      omega
    | cons p r => exact ⟨p, r, rfl⟩
  have hp : ns[i]? = some p := by
    have : (ns.drop i)[0]? = some p := by rw [er]; rfl
    rw [List.getElem?_drop] at this
    exact this
  have er1 : ns.drop (i + 1) = r := by
    have : (ns.drop i).drop 1 = r := by rw [er]; rfl
    rw [List.drop_drop] at this
    exact this
  have hlen : ns.length = i + 1 + r.length := by
    have : (ns.drop i).length = r.length + 1 := by rw [er]; rfl
    rw [List.length_drop] at this
    omega
  rw [er] at e
  cases f with
  | zero => cases e
  | succ f =>
    have e : (match PyFlat.call PyUw11.shape (p :: r) with
      | none => none
      | some (c, t) => match PyFlat.calls PyUw11.shape f t with
        | none => none
        | some cs => some (c :: cs)) = some cs := e
    cases ec : PyFlat.call PyUw11.shape (p :: r) with
    | none =>
      rw [ec] at e
      cases e
    | some ct =>
      obtain ⟨c, t⟩ := ct
      rw [ec] at e
      have e : (match PyFlat.calls PyUw11.shape f t with
        | none => none
        | some cs => some (c :: cs)) = some cs := e
      cases et : PyFlat.calls PyUw11.shape f t with
      | none =>
        rw [et] at e
        cases e
      | some cs2 =>
        rw [et] at e
        have e := (Option.some.inj e).symm
        subst e
        have ec : (match PyUw11.shape p with
          | none => none
          | some (n, k) => if r.length < n then none else match PyFlat.rows k (r.drop n) with
            | none => none
            | some (xs, t) => some ((p :: r.take n) :: xs, t)) = some (c, t) := ec
        cases esh : PyUw11.shape p with
        | none =>
          rw [esh] at ec
          cases ec
        | some nk =>
          obtain ⟨n, k⟩ := nk
          obtain ⟨k0, p0, p7, hn⟩ := shape_num esh
          subst k0
          rw [esh] at ec
          have ec : (if r.length < n then none else some ([p :: r.take n], r.drop n)) = some (c, t) := ec
          by_cases hr : r.length < n
          · rw [if_pos hr] at ec
            cases ec
          · rw [if_neg hr] at ec
            have ec := Option.some.inj ec
            cases ec
            have h1 := hall _ List.mem_cons_self
            rw [whole_one] at h1
            unfold Uw11Neutral.asked1 at h1
            obtain ⟨x, hx⟩ := Option.isSome_iff_exists.mp h1
            rw [told_cons hx] at ea
            refine ⟨p, n, r.take n, x, hp, p0, p7, hn, by rw [er1], by omega, callIs_of hx, ⟨⟨f, cs2, ?_, fun c hc => hall c (List.mem_cons_of_mem _ hc), ?_⟩, hs⟩, ?_⟩
            · rw [← et, ← er1, List.drop_drop]
            · rw [ea]
              simp
            · rw [ea] at hs
              simp at hs
              omega
end GW
/-! Rules that the layer lacks: min over a list of tuples of ints; min of two such tuples. -/
namespace GwMin
open PySem PySem.Spec PyProof.Rows L2

/-! ### the order of tuples of ints -/
theorem lt_irr : ∀ a : List Int, HT.lexLt a a = false
  | [] => rfl
  | x :: a => by
    rw [HT.lexLt_cons, if_pos rfl]
    exact lt_irr a
theorem lt_trans : ∀ {a b c : List Int}, HT.lexLt a b = true → HT.lexLt b c = true → HT.lexLt a c = true
  | [], [], _, h, _ => by cases h
  | [], _ :: _, [], _, h => by cases h
  | [], _ :: _, _ :: _, _, _ => rfl
  | _ :: _, [], _, h, _ => by cases h
  | _ :: _, _ :: _, [], _, h => by cases h
  | x :: a, y :: b, z :: c, h1, h2 => by
    rw [HT.lexLt_cons] at h1 h2 ⊢
    by_cases e1 : x = y
    · rw [if_pos e1] at h1
      by_cases e2 : y = z
      · rw [if_pos e2] at h2
        rw [if_pos (e1.trans e2)]
        exact lt_trans h1 h2
      · rw [if_neg e2] at h2
        have h2 := of_decide_eq_true h2
        rw [if_neg (by omega)]
        exact decide_eq_true (by omega)
    · rw [if_neg e1] at h1
      have h1 := of_decide_eq_true h1
      by_cases e2 : y = z
      · rw [if_neg (by omega)]
        exact decide_eq_true (by omega)
      · rw [if_neg e2] at h2
        have h2 := of_decide_eq_true h2
        rw [if_neg (by omega)]
        exact decide_eq_true (by omega)
/-- the best of the first ones has none before it that is less -/
theorem best_lt (f : Nat → List Int) : ∀ k, argBest (fun i j => HT.lexLt (f i) (f j)) k ≤ k ∧ ∀ j, j ≤ k → HT.lexLt (f j) (f (argBest (fun i j => HT.lexLt (f i) (f j)) k)) = false
  | 0 => ⟨Nat.le_refl _, fun j hj => by
    have e : j = 0 := by omega
    subst e
    exact lt_irr _⟩
  | k + 1 => by
    obtain ⟨h1, h2⟩ := best_lt f k
    by_cases c : HT.lexLt (f (k + 1)) (f (argBest (fun i j => HT.lexLt (f i) (f j)) k)) = true
    · have e : argBest (fun i j => HT.lexLt (f i) (f j)) (k + 1) = k + 1 := if_pos c
      rw [e]
      refine ⟨Nat.le_refl _, fun j hj => ?_⟩
      by_cases ej : j = k + 1
      · rw [ej]
        exact lt_irr _
      · cases d : HT.lexLt (f j) (f (k + 1)) with
        | false => rfl
        | true =>
          have z := lt_trans d c
          rw [h2 j (by omega)] at z
          cases z
    · have e : argBest (fun i j => HT.lexLt (f i) (f j)) (k + 1) = argBest (fun i j => HT.lexLt (f i) (f j)) k := if_neg c
      rw [e]
      refine ⟨by omega, fun j hj => ?_⟩
      by_cases ej : j = k + 1
      · rw [ej]
        simpa using c
      · exact h2 j (by omega)

/-! ### the calls, over a heap -/
section
variable {prog : Program} {w : World} {A : Around} {E : Value → Shared → Prop} {s : Shared}
/-- v is a tuple of the ints ns -/
def TupIs (h : Heap) (v : Value) (ns : List Int) : Prop := ∃ (b : Addr) (items : Array Value), v = .ref b ∧ IsTup h b items ∧ IntsAre items.toList ns
theorem tup_kept {h h' : Heap} {b : Addr} {items : Array Value} (k : ∀ b o, h.get? b = some o → h'.get? b = some o) (t : IsTup h b items) : IsTup h' b items := by
  obtain ⟨o, e, c⟩ := t
  exact ⟨o, k _ _ e, c⟩
theorem cmp_tups {h : Heap} {vs : Array Value} {f : Nat → List Int} (hv : ∀ i v, vs[i]? = some v → TupIs h v (f i)) (hu : A.units < cLine) : CmpIn prog w A .Lt h (fun i v => vs[i]? = some v) (fun i j => HT.lexLt (f i) (f j)) :=
  fun i j vi vj s' Q E hk hi hj hq => by
    obtain ⟨a, xs, rfl, t1, n1⟩ := hv i vi hi
    obtain ⟨b, ys, rfl, t2, n2⟩ := hv j vj hj
    exact (HT.lt_tupInts (tup_kept hk t1) (tup_kept hk t2) n1 n2 hu hq : wpAny (model prog w) A (compareOp .Lt (.ref a) (.ref b)) Q E s')
/-- min of a list of tuples of ints -/
theorem min_list_tups {l : Addr} {vs : Array Value} {f : Nat → List Int} {Q : Value → Shared → Prop} (hh : A.handled = none) (hl : s.heap.IsList l vs) (hv : ∀ i v, vs[i]? = some v → TupIs s.heap v (f i)) (hn : 0 < vs.size) (hu : A.units + 1 < cLine)
    (h : ∀ (i : Nat) v h' tk, vs[i]? = some v → (∀ j, j < vs.size → HT.lexLt (f j) (f i) = false) → (∀ b o, s.heap.get? b = some o → h'.get? b = some o) → Q v { s with heap := h', toks := tk }) :
    wpAny (model prog w) A (call (.builtin "min") [.ref l]) Q E s := by
  refine call_min_walkH (PySem.W.iter_listW (A := A.in1) hh hl fun s₂ e W st hfp hw hk => ?_)
  refine ⟨_, _, _, _, _, _, _, s.heap, _, rfl, W, st, hfp, hn, hw, hk, cmp_tups (A := A.in1) hv (by show A.units + 1 < _; exact hu), fun v s' hP m => ?_⟩
  obtain ⟨h', tk, rfl, hk'⟩ := PySem.W.moved_old e rfl m
  exact h _ v h' tk hP (fun j hj => (best_lt f (vs.size - 1)).2 j (by omega)) hk'
/-- min of two tuples of ints -/
theorem min_two_tups {a b : Value} {f : Nat → List Int} {Q : Value → Shared → Prop} (hh : A.handled = none) (ha : TupIs s.heap a (f 0)) (hb : TupIs s.heap b (f 1)) (hu : A.units + 1 < cLine)
    (h : ∀ h' tk, (∀ b o, s.heap.get? b = some o → h'.get? b = some o) → Q (if HT.lexLt (f 1) (f 0) = true then b else a) { s with heap := h', toks := tk }) :
    wpAny (model prog w) A (call (.builtin "min") [a, b]) Q E s := by
  have hnm : (toString "min" ++ toString ".loop" : String) = "min.loop" := by decide
  refine call_function_tree F.kind_min F.plain_min F.entry_min (F.args_min2 a b) ?_
  show wpAny _ A.in1 (Builtin.Builtins.bindParams "min" ["key", "default"] 0 ⟨[], []⟩ >>= _) _ _ s
  have e0 : Builtin.Builtins.bindParams "min" ["key", "default"] 0 ⟨[], []⟩ = pure [none, none] := rfl
  refine wpAny_bind (wpAny_of_eq e0 ?_)
  show wpAny _ A.in1 (newTuple [a, b] >>= _) _ _ s
  refine wpAny_bind (wpAny_newObj_type ?_)
  generalize hs1 : ({ s with heap := s.heap.push { cls := .type "tuple", data := .seq #[a, b] } } : Shared) = s1
  have k1 : ∀ c o, s.heap.get? c = some o → s1.heap.get? c = some o := fun c o e => by
    rw [← hs1]
    exact Heap.get?_push_of_some _ e
  have hT : s1.heap.IsTuple s.heap.objs.size #[a, b] := by
    rw [← hs1]
    exact ⟨_, Heap.get?_push_size _ rfl, rfl, 0, rfl⟩
  have hv : ∀ i v, (#[a, b] : Array Value)[i]? = some v → TupIs s1.heap v (f i) := fun i v hi => by
    match i with
    | 0 =>
      have e : a = v := Option.some.inj hi
      rw [← e]
      obtain ⟨p, its, e1, t, n⟩ := ha
      exact ⟨p, its, e1, tup_kept k1 t, n⟩
    | 1 =>
      have e : b = v := Option.some.inj hi
      rw [← e]
      obtain ⟨p, its, e1, t, n⟩ := hb
      exact ⟨p, its, e1, tup_kept k1 t, n⟩
    | i + 2 => simp at hi
  refine wpAny_bind (wpAny_mono (PySem.W.iter_tupleW (Q := fun it s₂ => ∃ W : WalksS prog w A.in1 s1.heap.objs.size [s1.heap.objs.size, s.heap.objs.size] [s1.heap.objs.size] (fun a b => b = a) 2 (fun i v => (#[a, b] : Array Value)[i]? = some v) (fun i s' => s'.heap.IsTupleIter s1.heap.objs.size s.heap.objs.size i ∧ s'.heap.IsTuple s.heap.objs.size #[a, b]),
      it = .ref s1.heap.objs.size ∧ s₂ = { s1 with heap := s1.heap.push { cls := .type "tuple_iterator", data := .fields #[.ref s.heap.objs.size, .int 0 0] } } ∧ (s₂.heap.IsTupleIter s1.heap.objs.size s.heap.objs.size 0 ∧ s₂.heap.IsTuple s.heap.objs.size #[a, b]) ∧
      (∀ b ∈ [s1.heap.objs.size, s.heap.objs.size], b < s₂.heap.objs.size) ∧ (∀ b o, s1.heap.get? b = some o → b ∉ [s1.heap.objs.size]) ∧ (∀ b o, s1.heap.get? b = some o → s₂.heap.get? b = some o)) (A := A.in1) hh hT fun s₂ e W st hfp hw hk => ⟨W, rfl, e, st, hfp, hw, hk⟩) (fun itv s₂ hq => ?_) fun _ _ e => e)
  obtain ⟨W, rfl, es, st, hfp, hw, hk⟩ := hq
  refine wpAny_bind (wpAny_newObj_type ?_)
  have hSf : s₂.heap.objs.size ∉ [s1.heap.objs.size, s.heap.objs.size] := fun hm => Nat.lt_irrefl _ (hfp _ hm)
  rw [hnm]
  refine wpAny_pure ⟨plainId_quiet F.plain_min_loop _, ?_⟩
  refine codeAny_min_loop_firstH W s1.heap hw (fun i j => HT.lexLt (f i) (f j)) (cmp_tups (A := A.in1) hv (by show A.units + 1 < _; exact hu)) s₂.heap.objs.size hSf (fresh_in hk) _ (by decide) (fun b o e => Heap.get?_push_of_some _ (hk b o e))
    (W.frame 0 s₂ _ s₂.toks st (Nat.le_refl _) fun b _ o e => Heap.get?_push_of_some _ e) (Heap.get?_push_size _ rfl) fun v s' hP hm => ?_
  have m := Moved.drop_new (tk := s₂.toks) hm (Nat.le_refl _)
  obtain ⟨h', tk, e2, hk'⟩ := PySem.W.moved_old es rfl m
  subst e2
  have hv2 : v = if HT.lexLt (f 1) (f 0) = true then b else a := by
    have hP : (#[a, b] : Array Value)[argBest (fun i j => HT.lexLt (f i) (f j)) 1]? = some v := hP
    by_cases c : HT.lexLt (f 1) (f 0) = true
    · have e : argBest (fun i j => HT.lexLt (f i) (f j)) 1 = 1 := if_pos c
      rw [e] at hP
      rw [if_pos c]
      exact (Option.some.inj hP).symm
    · have e : argBest (fun i j => HT.lexLt (f i) (f j)) 1 = 0 := if_neg c
      rw [e] at hP
      rw [if_neg c]
      exact (Option.some.inj hP).symm
  rw [hv2]
  have q := h h' tk fun b o e => hk' b o (k1 b o e)
  rw [← hs1]
  exact q
end

/-! ### the calls, by values -/
section
variable {X : Cx}
/-- min(xs), xs a list of tuples of ints: one that none is less than -/
def rMinT (K : PySem.W.Frag) : List V → Hp → VK → Prop := fun vs H Q => ∃ (a : Addr) (as : List Addr) (f : Nat → List Int), vs = [V.ref a] ∧ SqL K H a (as.map V.ref) ∧ 0 < as.length ∧ (∀ i b, as[i]? = some b → SqT K H b ((f i).map V.int)) ∧
  ∀ i b, as[i]? = some b → (∀ j, j < as.length → HT.lexLt (f j) (f i) = false) → Q (.ref b) H
theorem cr_minT (hc : X.calm = true) (hu : X.A.units + 1 < cLine) : CallR X (.builtin "min") (rMinT X.K) := by
  intro pins s σ H vs us Q I r h
  obtain ⟨a, as, f, rfl, hs, hn, ht, q⟩ := h
  obtain ⟨its, rv, hl, _⟩ := I.list hs
  rw [Vals.ref1 r]
  have hlen : as.length = its.length := by
    have := rv.length
    rw [List.length_map] at this
    exact this
  have look : ∀ (i : Nat) (v : Value), its.toArray[i]? = some v → ∃ b : Addr, as[i]? = some b ∧ v = Value.ref b := fun i v hi => by
    have hi' : its[i]? = some v := by simpa using hi
    have hlt : i < as.length := by
      rw [hlen]
      exact (List.getElem?_eq_some_iff.mp hi').1
    obtain ⟨u, e1, e2⟩ := Vals.get (i := i) (x := V.ref as[i]) rv (by rw [List.getElem?_map, List.getElem?_eq_getElem hlt]; rfl)
    rw [hi'] at e1
    cases e1
    exact ⟨as[i], List.getElem?_eq_getElem hlt, e2⟩
  refine min_list_tups (f := f) (I.ok.hd hc) hl.isList (fun i v hi => ?_) (by simpa using hlen ▸ hn) hu fun i v h' tk hi hmin hk => ?_
  · obtain ⟨b, e1, e2⟩ := look i v hi
    obtain ⟨its2, r2, p2, _⟩ := I.tuple (ht i b e1)
    exact ⟨b, _, e2, p2, intsAre_of r2⟩
  · obtain ⟨b, e1, e2⟩ := look i v hi
    refine ⟨.ref b, H, I.kept hk, e2, q i b e1 fun j hj => hmin j ?_⟩
    simpa using hlen ▸ hj
/-- min(t, u) of two tuples of ints -/
def rMin2T (K : PySem.W.Frag) : List V → Hp → VK → Prop := fun vs H Q => ∃ (a b : Addr) (ns ms : List Int), vs = [V.ref a, V.ref b] ∧ SqT K H a (ns.map V.int) ∧ SqT K H b (ms.map V.int) ∧ Q (.ref (if HT.lexLt ms ns = true then b else a)) H
theorem call_min2T (hc : X.calm = true) (hu : X.A.units + 1 < cLine) : CallR X (.builtin "min") (rMin2T X.K) := by
  intro pins s σ H vs us Q I r h
  obtain ⟨a, b, ns, ms, rfl, ha, hb, q⟩ := h
  obtain ⟨u, u', rfl, r1, r2⟩ := vals2 r
  cases r1
  cases r2
  obtain ⟨its, v1, p1, _⟩ := I.tuple ha
  obtain ⟨its2, v2, p2, _⟩ := I.tuple hb
  refine min_two_tups (f := fun i => if i = 0 then ns else ms) (I.ok.hd hc) ⟨a, _, rfl, p1, intsAre_of v1⟩ ⟨b, _, rfl, p2, intsAre_of v2⟩ hu fun h' tk k => ⟨.ref (if HT.lexLt ms ns = true then b else a), H, I.kept k, ?_, q⟩
  show RelV _ (if HT.lexLt ms ns = true then Value.ref b else Value.ref a)
  by_cases c : HT.lexLt ms ns = true
  · rw [if_pos c, if_pos c]
    rfl
  · rw [if_neg c, if_neg c]
    rfl
end
end GwMin
/-! The walk, first part: the text by places, the heap, the places of a field. -/
namespace GW
open PySem PySem.Spec PyProof.Rows L2
open Uw11 (Ground)
open C8 (tCut pss_cut)
/-! ### the text by places -/
def top (i : Nat) : Stmt := PySem.Challenge.pw_groundwater_s01_answers.main.body.getD i (.Pass ⟨0, 0, 0, 0⟩)
abbrev sFI : Stmt := inClass (top 2) 0
abbrev sEdge : Stmt := inClass (top 2) 1
abbrev sNeigh : Stmt := top 3
abbrev sLow : Stmt := top 5
abbrev sDrop : Stmt := top 6
abbrev sOver : Stmt := top 7
abbrev sBetter : Stmt := top 8
abbrev sLev : Stmt := top 9
abbrev sKept : Stmt := top 10
abbrev sBank : Stmt := top 11
abbrev sBest : Stmt := top 12
abbrev sRI : Stmt := inClass (top 21) 0
abbrev sWant : Stmt := top 22
abbrev sGI : Stmt := inClass (top 23) 0
abbrev sWP : Stmt := inClass (top 23) 1
abbrev sBegins : Stmt := inClass (top 23) 2
abbrev sHeight : Stmt := inClass (top 23) 3
abbrev sGDrop : Stmt := inClass (top 23) 4
abbrev sTold : Stmt := inClass (top 23) 5
abbrev sCheck : Stmt := inClass (top 23) 6
abbrev sGBest : Stmt := inClass (top 23) 7
abbrev sThrow : Stmt := inClass (top 23) 8
abbrev sOf : Stmt := top 24
abbrev sAnd : Stmt := top 25
abbrev sAns : Stmt := top 26

/-! ### defs and methods as callers see them -/
section
variable (P : Program) (w : World) (K : PySem.W.Frag) (mg : Str → Option Value) (base : Heap) (CX : CXT)
/-- the def that the name x holds keeps its promise -/
def DefOk (x : Str) (k : Nat) (ps : List Str) (sp : Sp) : Prop := ∃ (f : Addr) (fd : FuncData), FnOk P w K mg base CX k f fd ps sp ∧ Binds K fd ps [] ∧ mg x = some (.ref f) ∧ PySem.W.keepIn K (.ref f) = true
/-- the method m of the class at C keeps its promise -/
def MethOk (C : Addr) (m : Str) (k : Nat) (ps : List Str) (sp : Sp) : Prop := ∃ (f : Addr) (fd : FuncData), FnOk P w K mg base CX k f fd ps sp ∧ Binds K fd ps [] ∧ Meth K C m f
/-- the class at C, which the name x holds, is made by an __init__ that keeps its promise -/
def MakeOk (x : Str) (C : Addr) (k : Nat) (ps : List Str) (sp : Sp) : Prop := ∃ (f : Addr) (fd : FuncData), FnOk P w K mg base CX k f fd ps sp ∧ Binds K fd ps [] ∧ Mk K C f ∧ mg x = some (.ref C)
end
/-- what the top has written of names and classes -/
structure Txt (K : PySem.W.Frag) (mg : Str → Option Value) (CF CG CR : Addr) : Prop where
  clF : Cls K CF
  nMany : NoAttr K CF "many"
  nNear : NoAttr K CF "near"
  clG : Cls K CG
  nField : NoAttr K CG "field"
  nHeights : NoAttr K CG "heights"
  len : mg "len" = none
  min : mg "min" = none
  max : mg "max" = none
  sum : mg "sum" = none
  range : mg "range" = none
  int : mg "int" = none
  list : mg "list" = none
  valErr : mg "ValueError" = none
  sides : ∃ t, mg "ALL_SIDES" = some (.int 4 t)
  bad : ∃ t, mg "BAD" = some (.int (-1) t)
  noPlace : ∃ t, mg "NO_PLACE" = some (.int (-2) t)
  mPlaces : ∃ t, mg "MOST_PLACES" = some (.int 25 t)
  mHeight : ∃ t, mg "MOST_HEIGHT" = some (.int 1000 t)
  mMore : ∃ t, mg "MOST_MORE" = some (.int 1000 t)
  mBest : ∃ t, mg "MOST_BEST" = some (.int 20 t)
  gR : mg "Refused" = some (.ref CR)

/-! ### the heap -/
abbrev nv (l : List Nat) : List V := (intsOf l).map V.int
theorem nv_get {l : List Nat} {i x : Nat} (h : l[i]? = some x) : (nv l)[i]? = some (V.int x) := by
  rw [List.getElem?_map]
  unfold intsOf
  rw [List.getElem?_map, h]
  rfl
theorem nv_len (l : List Nat) : (nv l).length = l.length := by
  rw [List.length_map]
  unfold intsOf
  rw [List.length_map]
theorem nv_app (l m : List Nat) : nv (l ++ m) = nv l ++ nv m := by
  unfold nv intsOf
  rw [List.map_append, List.map_append]
theorem nv_one (x : Nat) : nv [x] = [V.int x] := rfl
/-- Field's attributes -/
def fF (n : Nat) (l : Addr) : List (Str × V) := [("many", .int n), ("near", .ref l)]
theorem lk_here {k : Str} {v : V} {r : List (Str × V)} : List.lookup k ((k, v) :: r) = some v := by
  have e : (k == k) = true := beq_self_eq_true k
  simp only [List.lookup, e]
theorem lk_past {k g : Str} {v : V} {r : List (Str × V)} (h : (k == g) = false) : List.lookup k ((g, v) :: r) = List.lookup k r := by
  simp only [List.lookup, h]
theorem put_here {f : Str} {v x : V} {r : List (Str × V)} : putF f v ((f, x) :: r) = (f, v) :: r := if_pos rfl
theorem put_past {f g : Str} {v x : V} {r : List (Str × V)} (h : ¬ g = f) : putF f v ((g, x) :: r) = (g, x) :: putF f v r := if_neg h
theorem fF_many (n : Nat) (l : Addr) : (fF n l).lookup ("many" : Str) = some (.int n) := lk_here
theorem fF_near (n : Nat) (l : Addr) : (fF n l).lookup ("near" : Str) = some (.ref l) := (lk_past (by decide +kernel)).trans lk_here
theorem fF_edge (n : Nat) (l : Addr) : (fF n l).lookup ("is_edge" : Str) = none := (lk_past (by decide +kernel)).trans ((lk_past (by decide +kernel)).trans rfl)
theorem fF_new (n : Nat) (l : Addr) : putF "near" (.ref l) (putF "many" (.int n) []) = fF n l := (put_past (by decide +kernel)).trans rfl
/-- Ground's attributes -/
def gF (f h : Addr) : List (Str × V) := [("field", .ref f), ("heights", .ref h)]
theorem gF_field (f h : Addr) : (gF f h).lookup ("field" : Str) = some (.ref f) := lk_here
theorem gF_heights (f h : Addr) : (gF f h).lookup ("heights" : Str) = some (.ref h) := (lk_past (by decide +kernel)).trans lk_here
theorem gF_no (f h : Addr) {m : Str} (h1 : (m == "field") = false) (h2 : (m == "heights") = false) : (gF f h).lookup m = none := (lk_past h1).trans ((lk_past h2).trans rfl)
theorem gF_new (f h : Addr) : putF "heights" (.ref h) (putF "field" (.ref f) []) = gF f h := (put_past (by decide +kernel)).trans rfl
theorem gF_putF (f h x : Addr) : putF "field" (.ref x) (gF f h) = gF x h := put_here
theorem gF_putH (f h x : Addr) : putF "heights" (.ref x) (gF f h) = gF f x := (put_past (by decide +kernel)).trans (congrArg _ put_here)
/-- at a: the Field of g's rows and columns, all its parts new behind H0 -/
structure FieldAt (CF : Addr) (H0 H : Hp) (a : Addr) (g : Ground) : Prop where
  na : H0 a = none
  ex : ∃ (dx l : Addr) (as : List Addr), H a = some (.ins CF dx (fF g.places l)) ∧ H0 l = none ∧ H l = some (.lst (as.map V.ref)) ∧ as.length = g.places ∧ ∀ p b, as[p]? = some b → H0 b = none ∧ H b = some (.lst (nv (g.beside p)))
theorem FieldAt.keep {CF : Addr} {H0 H H0' H' : Hp} {a : Addr} {g g' : Ground} (F : FieldAt CF H0 H a g) (h0 : ∀ b, H0 b = none → H0' b = none) (h : ∀ b o, H0 b = none → H b = some o → H' b = some o) (hr : g'.rows = g.rows) (hc : g'.cols = g.cols) : FieldAt CF H0' H' a g' := by
  obtain ⟨na, dx, l, as, e1, e2, e3, e4, e5⟩ := F
  have ep : g'.places = g.places := by
    show g'.rows * g'.cols = g.rows * g.cols
    rw [hr, hc]
  refine ⟨h0 _ na, dx, l, as, by rw [ep]; exact h _ _ na e1, h0 _ e2, h _ _ e2 e3, by rw [ep]; exact e4, fun p b hb => ?_⟩
  obtain ⟨q1, q2⟩ := e5 p b hb
  have eb : g'.beside p = g.beside p := by
    unfold Ground.beside
    rw [ep, hc]
  rw [eb]
  exact ⟨h0 _ q1, h _ _ q1 q2⟩
theorem FieldAt.same {CF : Addr} {H0 H H' : Hp} {a : Addr} {g : Ground} (F : FieldAt CF H0 H a g) (s : Same H H') : FieldAt CF H0 H' a g := F.keep (fun _ h => h) (fun b o _ h => s b o h) rfl rfl
theorem yes_ite {A B : Hp → Prop} {σ : L2.St} {H : Hp} (h : A H) : tYes σ H (fun b H3 => if b = true then A H3 else B H3) := iteT (A := A H) (B := B H) h
/-- a new object leaves what stood -/
theorem same_new {H : Hp} {p : Addr} {o : HO} (hp : H p = none) : Same H (upd H p o) := fun b u e => by
  rw [upd_ne (ne_of_none e hp)]
  exact e
/-- a list of one's own is changed: what stood ahead of it stands -/
theorem same_own {H H' : Hp} {l : Addr} {o : HO} (s : Same H H') (hl : H l = none) : Same H (upd H' l o) := fun b u e => by
  rw [upd_ne (ne_of_none e hl)]
  exact s b u e

/-! ### the promises -/
/-- neighbours(place, rows, columns) -/
def spNeigh : Sp := fun vs H Q _ => ∃ (g : Ground) (B p : Nat), vs = [.int p, .int g.rows, .int g.cols] ∧ Wf g B ∧ p < g.places ∧
  ∀ H' l, Same H H' → H l = none → H' l = some (.lst (nv (g.beside p))) → Q (.ref l) H'
/-- Field.__init__ -/
def spFI (CF : Addr) : Sp := fun vs H Q _ => ∃ (H0 : Hp) (g : Ground) (B : Nat) (p dx : Addr), vs = [.ref p, .int g.rows, .int g.cols] ∧ Wf g B ∧ Same H0 H ∧ H0 p = none ∧ H p = some (.ins CF dx []) ∧
  ∀ H' : Hp, FieldAt CF H0 H' p g → (∀ b o, H b = some o → b ≠ p → H' b = some o) → Q .non H'
/-- Field.is_edge -/
def spEdge (CF : Addr) : Sp := fun vs H Q _ => ∃ (H0 : Hp) (g : Ground) (B p : Nat) (a : Addr), vs = [.ref a, .int p] ∧ Wf g B ∧ FieldAt CF H0 H a g ∧ p < g.places ∧ Q (.bl (g.edge p)) H
/-- is_better -/
def vO : Option Nat → V
  | none => .non
  | some x => .int x
def spBetter : Sp := fun vs H Q _ => ∃ a b : Option Nat, vs = [vO a, vO b] ∧ Q (.bl (better a b)) H
/-- with_bank -/
def spBank (K : PySem.W.Frag) : Sp := fun vs H Q _ => ∃ (g : Ground) (B p n : Nat) (h : Addr), vs = [.ref h, .int p, .int n] ∧ Wf g B ∧ p < g.places ∧ H h = some (.lst (nv g.heights)) ∧
  ∀ H' l, Same H H' → H l = none → H' l = some (.lst (nv (g.raised p n).heights)) → Q (.ref l) H'

section
variable {P : Program} {w : World} {K : PySem.W.Frag} {mg : Str → Option Value} {base : Heap} {CF CG CR : Addr}
/-! ### neighbours -/
theorem small25 {n : Nat} (h : n ≤ 1000000) : n < sizeLine := Nat.lt_of_le_of_lt h (by decide)
theorem scN : FnScope ["place", "rows", "columns", "row", "column", "found"] ["place", "rows", "columns"] (defScope sNeigh) := ⟨rfl, rfl, rfl, by decide +kernel, rfl, by decide +kernel, by decide +kernel⟩
/-- found so far -/
def NeighMid (H : Hp) (l : Addr) (g : Ground) (p : Nat) (acc : List Nat) (σ : L2.St) (H' : Hp) : Prop :=
  σ = [some (.int p), some (.int g.rows), some (.int g.cols), some (.int (p / g.cols : Nat)), some (.int (p % g.cols : Nat)), some (.ref l)] ∧ Same H H' ∧ H l = none ∧ H' l = some (.lst (nv acc))
theorem NeighMid.put {H : Hp} {l : Addr} {g : Ground} {p x : Nat} {acc acc' : List Nat} {σ : L2.St} {H' : Hp} (M : NeighMid H l g p acc σ H') (z : Int) (hz : z = x) (he : acc' = acc ++ [x]) : NeighMid H l g p acc' σ (upd H' l (.lst (nv acc ++ [.int z]))) := by
  obtain ⟨e, s, n, _⟩ := M
  refine ⟨e, same_own s n, n, ?_⟩
  rw [upd_same, hz, he, nv_app]
  rfl
theorem ok_neigh {f : Addr} {fd : FuncData} (F : Fun K "neighbours" "neighbours" sNeigh f fd) : FnOk P w K mg base CX0 1 f fd ["place", "rows", "columns"] spNeigh := by
  refine F.ok scN (fun vs H Q E h => ?_) (fun cdv A outer s H vs Q E hr h => ?_)
  · obtain ⟨g, B, p, rfl, _⟩ := h
    rfl
  · obtain ⟨g, B, p, rfl, W, hp, k⟩ := h
    have c1 := W.c1
    have r1 := W.r1
    have hpl := W.pl
    have hc25 : g.cols ≤ 25 := by
      have := Nat.mul_le_mul_right g.cols r1
      omega
    refine ⟨_, pss_cons (ps_par (i := 3) (j := 4) (by rfl) scN.nd rfl rfl (by decide) rfl rfl (pa_cons (pe_op op_fdivN (pv 0) (pv 2)) (pa_cons (pe_op op_modN (pv 0) (pv 2)) pa_nil)) (by rfl))
      (pss_cons (ps_set (i := 5) scN.nd rfl (Or.inl rfl) (pe_lst pa_nil))
      (pss_cut (ps_if (pt_cmpR op_gt (pv 3) pe_int (nomark _)) (pss_one (ps_expr (pe_bm PySem.F.plainAttrs_list PySem.F.slot_list_append PySem.F.type_list_append mt_append (pv 5) (pa_cons (pe_op op_sub (pv 0) (pv 2)) pa_nil)))) pss_nil)
      (pss_cut (ps_if (pt_cmpR op_gt (pv 4) pe_int (nomark _)) (pss_one (ps_expr (pe_bm PySem.F.plainAttrs_list PySem.F.slot_list_append PySem.F.type_list_append mt_append (pv 5) (pa_cons (pe_op op_sub (pv 0) pe_int) pa_nil)))) pss_nil)
      (pss_cut (ps_if (pt_cmpR op_lt (pv 4) (pe_op op_sub (pv 2) pe_int) (nomark _)) (pss_one (ps_expr (pe_bm PySem.F.plainAttrs_list PySem.F.slot_list_append PySem.F.type_list_append mt_append (pv 5) (pa_cons (pe_op op_add (pv 0) pe_int) pa_nil)))) pss_nil)
      (pss_cut (ps_if (pt_cmpR op_lt (pv 3) (pe_op op_sub (pv 1) pe_int) (nomark _)) (pss_one (ps_expr (pe_bm PySem.F.plainAttrs_list PySem.F.slot_list_append PySem.F.type_list_append mt_append (pv 5) (pa_cons (pe_op op_add (pv 0) (pv 2)) pa_nil)))) pss_nil)
      (pss_one (ps_ret (pv 5)))))))), ?_⟩
    have ed : (p : Int).fdiv g.cols = ((p / g.cols : Nat) : Int) := by rw [Int.fdiv_eq_ediv_of_nonneg _ (by omega)]; rfl
    have em : (p : Int).fmod g.cols = ((p % g.cols : Nat) : Int) := by rw [Int.fmod_eq_emod_of_nonneg _ (by omega)]; rfl
    have hdm := Nat.div_add_mod p g.cols
    refine ⟨_, rfl, _, rfl, _, _, rfl, rfl, ⟨by omega, by omega⟩, _, rfl, _, rfl, _, _, rfl, rfl, (show (g.cols : Int) ≠ 0 by omega), _, _, rfl, Nat.zero_le _, fun l hl => ?_⟩
    have M0 : NeighMid H l g p [] [some (.int p), some (.int g.rows), some (.int g.cols), some (.int ((p : Int).fdiv g.cols)), some (.int ((p : Int).fmod g.cols)), some (.ref l)] (upd H l (.lst [])) := ⟨by rw [ed, em], same_new hl, hl, upd_same⟩
    have hmod := Nat.mod_lt p c1
    have hrow := row_lt hp
    refine ⟨NeighMid H l g p (if g.cols ≤ p then [p - g.cols] else []), ?_, ?_⟩
    · refine ⟨_, rfl, _, _, rfl, rfl, _, rfl, ?_⟩
      refine ite2 (fun c => ?_) (fun c => ?_)
      · have c := of_decide_eq_true c
        rw [ed] at c
        have c2 : g.cols ≤ p := (Nat.div_pos_iff.mp (by omega : 0 < p / g.cols)).2
        refine ⟨_, rfl, .inl ⟨rfl, _, SqL.of M0.2.2.2⟩, _, rfl, _, rfl, _, _, rfl, rfl, _, _, _, rfl, rfl, M0.2.2.2, by decide, ?_⟩
        exact M0.put (x := p - g.cols) _ (by omega) (by rw [if_pos c2]; rfl)
      · have c : ¬ (0 : Int) < ((p : Int).fdiv g.cols) := fun z => c (decide_eq_true z)
        rw [ed] at c
        have c2 : ¬ g.cols ≤ p := fun z => by
          have := Nat.div_pos z c1
          omega
        rw [if_neg c2]
        exact M0
    rintro σ1 H1 M1
    obtain ⟨rfl, s1, -, h1⟩ := id M1
    refine ⟨NeighMid H l g p ((if g.cols ≤ p then [p - g.cols] else []) ++ if 0 < p % g.cols then [p - 1] else []), ?_, ?_⟩
    · refine ⟨_, rfl, _, _, rfl, rfl, _, rfl, ?_⟩
      refine ite2 (fun c => ?_) (fun c => ?_)
      · have c := of_decide_eq_true c
        have c2 : 0 < p % g.cols := by omega
        have c3 : p ≠ 0 := fun z => by
          rw [z, Nat.zero_mod] at c2
          exact Nat.lt_irrefl _ c2
        refine ⟨_, rfl, .inl ⟨rfl, _, SqL.of h1⟩, _, rfl, _, _, rfl, rfl, _, _, _, rfl, rfl, h1, small25 (by rw [nv_len]; split <;> simp), ?_⟩
        exact M1.put (x := p - 1) _ (by omega) (by rw [if_pos c2])
      · have c : ¬ (0 : Int) < ((p % g.cols : Nat) : Int) := fun z => c (decide_eq_true z)
        rw [if_neg (by omega : ¬ 0 < p % g.cols), List.append_nil]
        exact M1
    rintro σ2 H2 M2
    obtain ⟨rfl, s2, -, h2⟩ := id M2
    refine ⟨NeighMid H l g p (((if g.cols ≤ p then [p - g.cols] else []) ++ if 0 < p % g.cols then [p - 1] else []) ++ if p % g.cols + 1 < g.cols then [p + 1] else []), ?_, ?_⟩
    · refine ⟨_, rfl, _, rfl, _, _, rfl, rfl, _, _, rfl, rfl, _, rfl, ?_⟩
      refine ite2 (fun c => ?_) (fun c => ?_)
      · have c := of_decide_eq_true c
        have c2 : p % g.cols + 1 < g.cols := by omega
        refine ⟨_, rfl, .inl ⟨rfl, _, SqL.of h2⟩, _, rfl, _, _, rfl, rfl, _, _, _, rfl, rfl, h2, small25 (by rw [nv_len, List.length_append]; split <;> split <;> simp), ?_⟩
        exact M2.put (x := p + 1) _ (by omega) (by rw [if_pos c2])
      · have c : ¬ ((p % g.cols : Nat) : Int) < (g.cols : Int) - 1 := fun z => c (decide_eq_true z)
        rw [if_neg (by omega : ¬ p % g.cols + 1 < g.cols), List.append_nil]
        exact M2
    rintro σ3 H3 M3
    obtain ⟨rfl, s3, -, h3⟩ := id M3
    refine ⟨NeighMid H l g p (g.beside p), ?_, ?_⟩
    · refine ⟨_, rfl, _, rfl, _, _, rfl, rfl, _, _, rfl, rfl, _, rfl, ?_⟩
      have eb : g.beside p = (((if g.cols ≤ p then [p - g.cols] else []) ++ if 0 < p % g.cols then [p - 1] else []) ++ if p % g.cols + 1 < g.cols then [p + 1] else []) ++ if p + g.cols < g.places then [p + g.cols] else [] := by
        unfold Ground.beside
        rw [List.append_assoc, List.append_assoc]
      have hlast : p / g.cols + 1 < g.rows ↔ p + g.cols < g.places := by
        show _ ↔ p + g.cols < g.rows * g.cols
        rw [← Nat.add_div_right p c1]
        exact Nat.div_lt_iff_lt_mul c1
      refine ite2 (fun c => ?_) (fun c => ?_)
      · have c := of_decide_eq_true c
        have c2 : p + g.cols < g.places := hlast.mp (by omega)
        refine ⟨_, rfl, .inl ⟨rfl, _, SqL.of h3⟩, _, rfl, _, rfl, _, _, rfl, rfl, _, _, _, rfl, rfl, h3, small25 (by rw [nv_len, List.length_append, List.length_append]; split <;> split <;> split <;> simp), ?_⟩
        exact M3.put (x := p + g.cols) _ (by omega) (by rw [eb, if_pos c2])
      · have c : ¬ ((p / g.cols : Nat) : Int) < (g.rows : Int) - 1 := fun z => c (decide_eq_true z)
        have c2 : ¬ p + g.cols < g.places := fun z => c (by
          have := hlast.mpr z
          omega)
        rw [eb, if_neg c2, List.append_nil]
        exact M3
    rintro σ4 H4 M4
    obtain ⟨rfl, s4, -, h4⟩ := id M4
    exact ⟨_, rfl, k _ _ s4 hl h4⟩
/-! ### Field.is_edge -/
theorem scE : FnScope ["self", "place"] ["self", "place"] (defScope sEdge) := ⟨rfl, rfl, rfl, by decide +kernel, rfl, by decide +kernel, by decide +kernel⟩
theorem ok_edge {f : Addr} {fd : FuncData} (T : Txt K mg CF CG CR) (F : Fun K "is_edge" "Field.is_edge" sEdge f fd) : FnOk P w K mg base CX0 1 f fd ["self", "place"] (spEdge CF) := by
  refine F.ok scE (fun vs H Q E h => ?_) (fun cdv A outer s H vs Q E hr h => ?_)
  · obtain ⟨H0, g, B, p, a, rfl, _⟩ := h
    rfl
  · obtain ⟨H0, g, B, p, a, rfl, W, ⟨na, dx, l, as, e1, e2, e3, e4, e5⟩, hp, k⟩ := h
    obtain ⟨t, hs⟩ := T.sides
    have hp2 : p < as.length := by rw [e4]; exact hp
    have hb : as[p]? = some as[p] := List.getElem?_eq_getElem hp2
    have e6 := (e5 p _ hb).2
    refine ⟨_, pss_one (ps_ret (pe_cmpR op_lt (pe_callB call_len_seq (by rfl) T.len PySem.boot_len (pa_cons (pe_ix ix_list (pe_fld (pv 0) rfl) (pv 1) (fun _ _ => rfl)) pa_nil)) (pe_glob (v := .int 4) rfl hs ⟨_, rfl⟩) (nomark _))), ?_⟩
    refine ⟨_, rfl, a, CF, dx, _, _, rfl, e1, T.clF, T.nNear, fF_near _ _, _, rfl, l, _, _, .ref as[p], rfl, rfl, SqL.of e3, atI_nat (by rw [List.getElem?_map, hb]; rfl), as[p], _, rfl, .inl (SqL.of e6), ?_⟩
    refine ⟨_, _, rfl, rfl, ?_⟩
    have ee : decide (((nv (g.beside p)).length : Int) < 4) = g.edge p := by
      rw [nv_len]
      unfold Ground.edge
      by_cases c : (g.beside p).length < 4
      · rw [decide_eq_true c, decide_eq_true (by omega)]
      · rw [decide_eq_false c, decide_eq_false (by omega)]
    show Q (.bl (decide (((nv (g.beside p)).length : Int) < 4))) H
    rw [ee]
    exact k
/-! ### is_better -/
theorem scB : FnScope ["found", "known"] ["found", "known"] (defScope sBetter) := ⟨rfl, rfl, rfl, by decide +kernel, rfl, by decide +kernel, by decide +kernel⟩
theorem ok_better {f : Addr} {fd : FuncData} (F : Fun K "is_better" "is_better" sBetter f fd) : FnOk P w K mg base CX0 1 f fd ["found", "known"] spBetter := by
  refine F.ok scB (fun vs H Q E h => ?_) (fun cdv A outer s H vs Q E hr h => ?_)
  · obtain ⟨a, b, rfl, _⟩ := h
    rfl
  · obtain ⟨a, b, rfl, k⟩ := h
    refine ⟨_, pss_one (ps_ret (pe_and (pe_cmpR op_notN (pv 0) pe_non (nomark _)) (pe_one (pe_or (pe_cmpR op_isN (pv 1) pe_non (nomark _)) (pe_one (pe_cmpR op_lt (pv 0) (pv 1) (nomark _))))))), ?_⟩
    cases a with
    | none =>
      refine ⟨_, rfl, rfl, _, rfl, ?_⟩
      exact iteF k
    | some x =>
      refine ⟨_, rfl, rfl, _, rfl, ?_⟩
      refine iteT ?_
      cases b with
      | none =>
        refine ⟨_, rfl, rfl, _, rfl, ?_⟩
        exact iteT k
      | some y =>
        refine ⟨_, rfl, rfl, _, rfl, ?_⟩
        refine iteF ?_
        refine ⟨_, rfl, _, rfl, _, _, rfl, rfl, ?_⟩
        have e : decide ((x : Int) < (y : Int)) = better (some x) (some y) := by
          show _ = decide (x < y)
          by_cases c : x < y
          · rw [decide_eq_true c, decide_eq_true (by omega)]
          · rw [decide_eq_false c, decide_eq_false (by omega)]
        show Q (.bl (decide ((x : Int) < (y : Int)))) H
        rw [e]
        exact k
/-! ### with_bank -/
theorem cut_take (xs : List V) (n : Nat) (h : n ≤ xs.length) : cutV xs none (some (n : Int)) = xs.take n := by
  have e0 : HT.sIx xs.length 0 none = 0 := rfl
  have e1 : HT.sIx xs.length xs.length (some (n : Int)) = n := by
    rw [HT.sIx_nat]
    omega
  unfold cutV
  rw [e0, e1, List.drop_zero, Nat.sub_zero]
theorem cut_drop (xs : List V) (n : Nat) (z : Int) (hz : z = n) (h : n ≤ xs.length) : cutV xs (some z) none = xs.drop n := by
  subst hz
  have e0 : HT.sIx xs.length 0 (some (n : Int)) = n := by
    rw [HT.sIx_nat]
    omega
  have e1 : HT.sIx xs.length xs.length none = xs.length := rfl
  unfold cutV
  rw [e0, e1, List.take_of_length_le (by rw [List.length_drop]; exact Nat.le_refl _)]
theorem cut_mid (xs : List V) (a b : Nat) (y z : Int) (hy : y = a) (hz : z = b) (ha : a ≤ b) (h : b ≤ xs.length) : cutV xs (some y) (some z) = (xs.drop a).take (b - a) := by
  subst hy
  subst hz
  have e0 : HT.sIx xs.length 0 (some (a : Int)) = a := by
    rw [HT.sIx_nat]
    omega
  have e1 : HT.sIx xs.length xs.length (some (b : Int)) = b := by
    rw [HT.sIx_nat]
    omega
  unfold cutV
  rw [e0, e1]
theorem scBank : FnScope ["heights", "place", "more"] ["heights", "place", "more"] (defScope sBank) := ⟨rfl, rfl, rfl, by decide +kernel, rfl, by decide +kernel, by decide +kernel⟩
theorem height_get {g : Ground} {B p : Nat} (W : Wf g B) (hp : p < g.places) : g.heights[p]? = some (g.height p) := by
  have hl : p < g.heights.length := by rw [W.len]; exact hp
  unfold Ground.height
  rw [List.getD_eq_getElem?_getD, List.getElem?_eq_getElem hl]
  rfl
theorem nv_set (l : List Nat) (p x : Nat) (hp : p < l.length) : (nv l).take p ++ [V.int x] ++ (nv l).drop (p + 1) = nv (l.set p x) := by
  have e : nv (l.set p x) = (nv l).set p (V.int x) := by
    unfold nv intsOf
    rw [List.map_set, List.map_set]
  rw [e]
  exact set_cut _ _ _ (by rw [nv_len]; exact hp)
theorem ok_bank {f : Addr} {fd : FuncData} (F : Fun K "with_bank" "with_bank" sBank f fd) : FnOk P w K mg base CX0 1 f fd ["heights", "place", "more"] (spBank K) := by
  refine F.ok scBank (fun vs H Q E h => ?_) (fun cdv A outer s H vs Q E hr h => ?_)
  · obtain ⟨g, B, p, n, a, rfl, _⟩ := h
    rfl
  · obtain ⟨g, B, p, n, a, rfl, W, hp, ha, k⟩ := h
    have hl : p < g.heights.length := by rw [W.len]; exact hp
    have hl25 : g.heights.length ≤ 25 := by
      rw [W.len]
      exact W.pl
    refine ⟨_, pss_one (ps_ret (pe_op op_cat (pe_op op_cat (pe_slice sl_list (pv 0) po_none (po_some (pv 1))) (pe_lst (pa_cons (pe_op op_add (pe_ix ix_list (pv 0) (pv 1) (fun _ _ => rfl)) (pv 2)) pa_nil))) (pe_slice sl_list (pv 0) (po_some (pe_op op_add (pv 1) pe_int)) po_none))), ?_⟩
    refine ⟨_, rfl, _, rfl, _, rfl, a, _, rfl, SqL.of ha, fun l1 n1 => ?_⟩
    rw [cut_take _ _ (by rw [nv_len]; omega)]
    have s1 := same_new (o := .lst ((nv g.heights).take p)) n1
    refine ⟨_, rfl, _, rfl, a, _, _, _, rfl, rfl, SqL.of (s1 _ _ ha), atI_nat (nv_get (height_get W hp)), _, rfl, _, _, rfl, rfl, (show 1 ≤ sizeLine by decide), fun l2 n2 => ?_⟩
    have s2 := same_new (o := .lst [V.int ((g.height p : Int) + (n : Int))]) n2
    refine ⟨l1, l2, _, _, rfl, rfl, s2 _ _ upd_same, upd_same, Nat.le_of_lt (small25 (by rw [List.length_take, nv_len]; simp; omega)), fun l3 n3 => ?_⟩
    have s3 := same_new (o := .lst ((nv g.heights).take p ++ [V.int ((g.height p : Int) + (n : Int))])) n3
    refine ⟨_, rfl, _, rfl, _, _, rfl, rfl, _, rfl, a, _, rfl, SqL.of (s3 _ _ (s2 _ _ (s1 _ _ ha))), fun l4 n4 => ?_⟩
    rw [cut_drop _ (p + 1) _ (by omega) (by rw [nv_len]; omega)]
    have s4 := same_new (o := .lst ((nv g.heights).drop (p + 1))) n4
    refine ⟨l3, l4, _, _, rfl, rfl, s4 _ _ upd_same, upd_same, Nat.le_of_lt (small25 (by rw [List.length_append, List.length_take, List.length_drop, nv_len]; simp; omega)), fun l5 n5 => ?_⟩
    refine k _ l5 ((((s1.trans s2).trans s3).trans s4).trans (same_new n5)) ?_ ?_
    · exact (((s1.trans s2).trans s3).trans s4).free n5
    · rw [upd_same]
      show some (HO.lst ((nv g.heights).take p ++ [V.int ((g.height p + n : Nat) : Int)] ++ (nv g.heights).drop (p + 1))) = _
      rw [nv_set _ _ _ hl]
      rfl
/-! ### Field.__init__ -/
theorem scFI : FnScope ["self", "rows", "columns", "place"] ["self", "rows", "columns"] (defScope sFI) := ⟨rfl, rfl, rfl, by decide +kernel, rfl, by decide +kernel, by decide +kernel⟩
theorem ok_fi {f : Addr} {fd : FuncData} (T : Txt K mg CF CG CR) (F : Fun K "__init__" "Field.__init__" sFI f fd) (D : DefOk P w K mg base CX0 "neighbours" 1 ["place", "rows", "columns"] spNeigh) : FnOk P w K mg base CX0 2 f fd ["self", "rows", "columns"] (spFI CF) := by
  obtain ⟨fN, fdN, GN, bN, mN, kN⟩ := D
  refine F.ok scFI (fun vs H Q E h => ?_) (fun cdv A outer s H vs Q E hr h => ?_)
  · obtain ⟨H0, g, B, p, dx, rfl, _⟩ := h
    rfl
  · obtain ⟨H0, g, B, p, dx, rfl, W, s0, np, hp, k⟩ := h
    have hr1 : Room 1 _ := hr
    refine ⟨_, pss_cons (ps_fld (pv 0) (pe_op op_mul (pv 1) (pv 2)) rfl)
      (pss_one (ps_fld (pv 0) (pe_lc (own := [("place", 3)]) (g := gName 3) (tt := tYes) rfl scFI.nd (pi_range1 rfl T.range (pa_cons (pe_op op_mul (pv 1) (pv 2)) pa_nil)) (blkOk_by (N := ["self", "rows", "columns", "place"]) (sc := defScope sFI) (by decide +kernel))
        (fun _ _ _ _ _ => pg_name (i := 3) scFI.nd rfl (Or.inl rfl)) (fun _ _ _ _ _ => pts_nil) (fun _ _ _ _ _ => pe_call GN hr1 rfl mN kN bN .nil pass0 (pa_cons (pv 3) (pa_cons (pv 1) (pa_cons (pv 2) pa_nil))))) rfl)), ?_⟩
    have hpl := W.pl
    have emul : ((g.rows : Int) * (g.cols : Int)) = ((g.places : Nat) : Int) := (Int.natCast_mul _ _).symm
    have hrow : g.rows ≤ 25 := by
      have := Nat.mul_le_mul_left g.rows W.c1
      omega
    have cm : CMul (g.rows : Int) (g.cols : Int) := .inl ⟨by omega, by omega⟩
    have hp25 : g.places ≤ 25 := W.pl
    refine ⟨_, rfl, _, rfl, _, _, rfl, rfl, cm, _, rfl, p, CF, dx, [], rfl, hp, T.clF, T.nMany, (by show 0 < 1000; decide), ?_⟩
    generalize hH1 : upd H p (.ins CF dx (putF "many" (.int ((g.rows : Int) * (g.cols : Int))) [])) = H1
    have h1p : H1 p = some (.ins CF dx (putF "many" (.int ((g.rows : Int) * (g.cols : Int))) [])) := by
      rw [← hH1]
      exact upd_same
    have h1o : ∀ b o, H b = some o → b ≠ p → H1 b = some o := fun b o e hb => by
      rw [← hH1, upd_ne hb]
      exact e
    have h1n : ∀ b, H1 b = none → H0 b = none := fun b e => by
      refine s0.free ?_
      rw [← hH1] at e
      by_cases c : b = p
      · rw [c, upd_same] at e
        cases e
      · rw [upd_ne c] at e
        exact e
    refine ⟨_, rfl, _, rfl, _, _, rfl, rfl, cm, _, rfl, by omega, by omega, fun D nD => ?_⟩
    refine lc_range (lo := 0) (n := ((g.rows : Int) * (g.cols : Int)).toNat) (fun i H' => ∃ as : List Addr, Same H1 H' ∧ H' D = some (.lst (as.map V.ref)) ∧ as.length = i ∧ ∀ q b, as[q]? = some b → b ≠ D ∧ H0 b = none ∧ H' b = some (.lst (nv (g.beside q)))) ?_ ?_ ?_
    · exact ⟨[], same_new nD, upd_same, rfl, fun q b e => by cases e⟩
    · rintro i H' hi ⟨as, key, eD, el, ea⟩
      have hi2 : i < g.places := by omega
      refine ⟨rfl, yes_ite ?_⟩
      refine ⟨_, rfl, _, rfl, _, rfl, g, B, i, by rw [Int.zero_add]; rfl, W, hi2, fun H2 l s2 nl e2 => ?_⟩
      have hlD : l ≠ D := fun z => by
        rw [z, eD] at nl
        cases nl
      refine ⟨_, s2 _ _ eD, small25 (by rw [List.length_map]; omega), as ++ [l], same_own (key.trans s2) nD, by rw [upd_same, List.map_append]; rfl, by rw [List.length_append, el]; rfl, fun q b e => ?_⟩
      · by_cases c : q < as.length
        · rw [List.getElem?_append_left c] at e
          obtain ⟨q1, q2, q3⟩ := ea q b e
          refine ⟨q1, q2, ?_⟩
          rw [upd_ne q1]
          exact s2 _ _ q3
        · rw [List.getElem?_append_right (by omega)] at e
          have c2 : q - as.length = 0 := by
            have := (List.getElem?_eq_some_iff.mp e).1
            simp at this
            omega
          rw [c2] at e
          have e : l = b := Option.some.inj e
          subst e
          have eq : q = i := by omega
          subst eq
          refine ⟨hlD, h1n l ?_, ?_⟩
          · cases z : H1 l with
            | none => rfl
            | some o =>
              rw [key l o z] at nl
              cases nl
          · rw [upd_ne hlD]
            exact e2
    · rintro H' ⟨as, key, eD, el, ea⟩
      have hpD : p ≠ D := ne_of_none h1p nD
      refine ⟨_, rfl, p, CF, dx, _, rfl, key _ _ h1p, T.clF, T.nNear, (by show 1 < 1000; decide), ?_⟩
      refine k _ ⟨np, dx, D, as, ?_, h1n D nD, ?_, by omega, fun q b e => ?_⟩ fun b o e hb => ?_
      · rw [upd_same, emul, fF_new]
      · rw [upd_ne hpD.symm]
        exact eD
      · obtain ⟨q1, q2, q3⟩ := ea q b e
        refine ⟨q2, ?_⟩
        have hbp : b ≠ p := fun z => by
          rw [z, key _ _ h1p] at q3
          cases q3
        rw [upd_ne hbp]
        exact q3
      · rw [upd_ne hb]
        exact key _ _ (h1o b o e hb)
end
end GW
/-! The walk, second part: how high water stands. -/
namespace GW
open PySem PySem.Spec PyProof.Rows L2
open Uw11 (Ground)
open C8 (tCut pss_cut)
/-- over(heights, levels, field, place) -/
def spOver (CF : Addr) : Sp := fun vs H Q _ => ∃ (H0 : Hp) (g : Ground) (B p : Nat) (l : List (Option Nat)) (hh ll f : Addr), vs = [.ref hh, .ref ll, .ref f, .int p] ∧ Wf g B ∧ FieldAt CF H0 H f g ∧ p < g.places ∧
  H hh = some (.lst (nv g.heights)) ∧ H ll = some (.lst (l.map vO)) ∧ l.length = g.places ∧ (∀ q x, l.getD q none = some x → x ≤ Uw11.HIGH) ∧ ∀ H', Same H H' → Q (vO (overM g l p)) H'
/-- levels_of(field, heights) -/
def spLev (CF : Addr) : Sp := fun vs H Q _ => ∃ (H0 : Hp) (g : Ground) (B : Nat) (f hh : Addr), vs = [.ref f, .ref hh] ∧ Wf g B ∧ B < Uw11.HIGH ∧ FieldAt CF H0 H f g ∧ H hh = some (.lst (nv g.heights)) ∧
  ∀ H' l, Same H H' → H l = none → H' l = some (.lst (nv g.levels)) → Q (.ref l) H'
/-- kept(field, heights) -/
def spKept (CF : Addr) : Sp := fun vs H Q _ => ∃ (H0 : Hp) (g : Ground) (B : Nat) (f hh : Addr), vs = [.ref f, .ref hh] ∧ Wf g B ∧ B < Uw11.HIGH ∧ FieldAt CF H0 H f g ∧ H hh = some (.lst (nv g.heights)) ∧
  ∀ H', Same H H' → Q (.int g.kept) H'
theorem shaped_zs (ns : List Int) : SeqAt.shaped (.list (ns.map PyData.int)) = true := by
  have h1 : ∀ l : List Int, PyData.canLayAll0 (l.map PyData.int) = true := by
    intro l
    induction l with
    | nil => rfl
    | cons a r ih => simp [PyData.canLayAll0, PyData.canLay0, ih]
  have h2 : ∀ l : List Int, PyData.depthAll (l.map PyData.int) = 0 := by
    intro l
    induction l with
    | nil => rfl
    | cons a r ih => simp [PyData.depthAll, PyData.depth, ih]
  unfold SeqAt.shaped
  rw [Bool.and_eq_true]
  refine ⟨?_, decide_eq_true ?_⟩
  · simpa [PyData.canLay0] using h1 ns
  · have := h2 ns
    simp [PyData.depth, this]
theorem dp_zs (K : PySem.W.Frag) (H : Hp) : ∀ ns : List Int, DpAll K H (ns.map V.int) (ns.map PyData.int)
  | [] => .nil
  | n :: ns => .cons (.int n) (dp_zs K H ns)
theorem eqv_nil (ns : List Int) : PyData.eqv (.list (ns.map PyData.int)) (.list []) = decide (ns = []) := by
  cases ns with
  | nil => simp [PyData.eqv, PyData.eqvAll]
  | cons n ns => simp [PyData.eqv, PyData.eqvAll]
theorem min_is {s : List Nat} {m : Int} (hs : ∀ x ∈ s, x ≤ Uw11.HIGH) (hm : m ∈ intsOf s) (hall : ∀ y ∈ intsOf s, m ≤ y) : m = (s.foldl min Uw11.HIGH : Nat) := by
  obtain ⟨x, hx, rfl⟩ := List.mem_map.mp hm
  refine congrArg _ (Nat.le_antisymm ?_ ?_)
  · rw [le_foldl_min]
    refine ⟨hs x hx, fun y hy => ?_⟩
    have := hall y (List.mem_map.mpr ⟨y, hy, rfl⟩)
    omega
  · rw [foldl_min_le]
    exact .inr ⟨x, hx, Nat.le_refl _⟩
theorem take_more {α : Type} {l : List α} {i : Nat} {x : α} (h : l[i]? = some x) : l.take (i + 1) = l.take i ++ [x] := by
  rw [List.take_add_one, h]
  rfl

section
variable {P : Program} {w : World} {K : PySem.W.Frag} {mg : Str → Option Value} {base : Heap} {CF CG CR : Addr}
theorem scOver : FnScope ["heights", "levels", "field", "place", "some", "other"] ["heights", "levels", "field", "place"] (defScope sOver) := ⟨rfl, rfl, rfl, by decide +kernel, rfl, by decide +kernel, by decide +kernel⟩
theorem ok_over {f : Addr} {fd : FuncData} (T : Txt K mg CF CG CR) (F : Fun K "over" "over" sOver f fd) : FnOk P w K mg base CX0 1 f fd ["heights", "levels", "field", "place"] (spOver CF) := by
  refine F.ok scOver (fun vs H Q E h => ?_) (fun cdv A outer s H vs Q E hr h => ?_)
  · obtain ⟨H0, g, B, p, l, hh, ll, f, rfl, _⟩ := h
    rfl
  · obtain ⟨H0, g, B, p, l, hh, ll, f, rfl, W, ⟨na, dx, nl, as, e1, e2, e3, e4, e5⟩, hp, hH, hL, hlen, hbd, k⟩ := h
    have hp2 : p < as.length := by rw [e4]; exact hp
    have hb : as[p]? = some as[p] := List.getElem?_eq_getElem hp2
    have e6 := (e5 p _ hb).2
    generalize as[p] = bl at hb e6
    refine ⟨_, pss_cons (ps_setLc (i := 4) (own := [("other", 5)]) (g := gName 5) (tt := tTest (tOp (fun x y H Q => y = .non ∧ Q (.bl (!decide (x = .non))) H) (tOp (rIxL K) (tVar 1) (tVar 5)) (tC .non))) (te := tOp (rIxL K) (tVar 1) (tVar 5)) rfl scOver.nd rfl rfl (sw_true rfl rfl rfl (by decide +kernel)) (pi_list (pe_ix ix_list (pe_fld (pv 2) rfl) (pv 3) (fun _ _ => rfl)))
        (blkOk_by (N := ["heights", "levels", "field", "place", "some", "other"]) (sc := defScope sOver) (by decide +kernel)) (fun _ _ _ _ _ => pg_name (i := 5) scOver.nd rfl (Or.inl rfl))
        (fun _ _ _ _ _ => pts_one (pt_cmpR op_notN (pe_ix ix_list (pv 1) (pv 5) (fun _ _ => rfl)) pe_non (nomark _))) (fun _ _ _ _ _ => pe_ix ix_list (pv 1) (pv 5) (fun _ _ => rfl)))
      (pss_one (ps_ret (pe_ifExp (pt_cmpR (op_neD hr.units) (pv 4) (pe_lst pa_nil) (nomark _))
        (pe_callB (call_max2 rfl) (by rfl) T.max (by decide +kernel) (pa_cons (pe_ix ix_list (pv 0) (pv 3) (fun _ _ => rfl)) (pa_cons (pe_callB (cr_min rfl) (by rfl) T.min (by decide +kernel) (pa_cons (pv 4) pa_nil)) pa_nil))) pe_non))), ?_⟩
    refine ⟨_, rfl, f, CF, dx, _, _, rfl, e1, T.clF, T.nNear, fF_near _ _, _, rfl, nl, _, _, .ref bl, rfl, rfl, SqL.of e3, atI_nat (by rw [List.getElem?_map, hb]; rfl), bl, rfl, ⟨_, SqL.of e6⟩, fun D nD => ?_⟩
    refine lc_list (K := K) (a := bl) (xs := nv (g.beside p)) (fun i H' => Same H H' ∧ H' D = some (.lst (nv (((g.beside p).take i).filterMap fun q => l.getD q none)))) ?_ (fun i H' _ ⟨sm, _⟩ => SqL.of (sm _ _ e6)) ?_ ?_
    · exact ⟨same_new nD, upd_same⟩
    · rintro i x H' hx ⟨sm, eD⟩
      obtain ⟨q, hq, rfl⟩ : ∃ q, (g.beside p)[i]? = some q ∧ x = V.int (q : Nat) := by
        rw [List.getElem?_map] at hx
        unfold intsOf at hx
        rw [List.getElem?_map] at hx
        cases e : (g.beside p)[i]? with
        | none =>
          rw [e] at hx
          cases hx
        | some q =>
          rw [e] at hx
          exact ⟨q, rfl, (Option.some.inj hx).symm⟩
      have hql := beside_lt W hp (List.mem_of_getElem? hq)
      have hqv : (l.map vO)[q]? = some (vO (l.getD q none)) := by
        have : q < l.length := by omega
        rw [List.getElem?_map, List.getD_eq_getElem?_getD, List.getElem?_eq_getElem this]
        rfl
      have et := take_more hq
      have i25 : i ≤ 25 := by
        have h1 := (List.getElem?_eq_some_iff.mp hq).1
        have h2 : (g.beside p).length ≤ 4 := by
          unfold Ground.beside
          rw [List.length_append, List.length_append, List.length_append]
          split <;> split <;> split <;> split <;> simp
        omega
      refine ⟨rfl, _, rfl, _, rfl, ll, _, _, _, rfl, rfl, SqL.of (sm _ _ hL), atI_nat hqv, rfl, _, rfl, ?_⟩
      cases ec : l.getD q none with
      | none =>
        show Same H H' ∧ _
        refine ⟨sm, ?_⟩
        have ef : List.filterMap (fun q => l.getD q none) [q] = [] := List.filterMap_cons_none (f := fun q => l.getD q none) ec
        rw [et, List.filterMap_append, ef, List.append_nil]
        exact eD
      | some y =>
        refine ⟨_, rfl, _, rfl, ll, _, _, _, rfl, rfl, SqL.of (sm _ _ hL), atI_nat hqv, ?_⟩
        refine ⟨_, eD, ?_, same_own sm nD, ?_⟩
        · refine small25 ?_
          rw [nv_len]
          have := List.length_filterMap_le (fun q => l.getD q none) ((g.beside p).take i)
          rw [List.length_take] at this
          omega
        · have ef : List.filterMap (fun q => l.getD q none) [q] = [y] := List.filterMap_cons_some (f := fun q => l.getD q none) ec
          rw [upd_same, et, List.filterMap_append, ef, nv_app, ec]
          rfl
    · rintro H' ⟨sm, eD⟩
      rw [nv_len, List.take_length] at eD
      generalize hS : (g.beside p).filterMap (fun q => l.getD q none) = S at eD
      have hSb : ∀ x ∈ S, x ≤ Uw11.HIGH := fun x hx => by
        rw [← hS] at hx
        obtain ⟨q, _, hq⟩ := List.mem_filterMap.mp hx
        exact hbd q x hq
      have hov : overM g l p = if S = [] then none else some (max (g.height p) (S.foldl min Uw11.HIGH)) := by
        unfold overM
        rw [hS]
      refine ⟨_, rfl, Nat.zero_le _, fun D2 nD2 => ?_⟩
      have s2 := same_new (o := .lst []) nD2
      refine ⟨.list ((intsOf S).map PyData.int), .list [], .lst (SqL.of (s2 _ _ eD)) (dp_zs K _ _), .lst (SqL.of upd_same) .nil, shaped_zs _, shaped_zs [], _, rfl, ?_⟩
      rw [eqv_nil]
      cases S with
      | nil =>
        show Q .non _
        rw [if_pos rfl] at hov
        have q := k (upd H' D2 (.lst [])) (sm.trans s2)
        rw [hov] at q
        exact q
      | cons a S =>
        refine ⟨_, rfl, _, rfl, hh, _, _, _, rfl, rfl, SqL.of (s2 _ _ (sm _ _ hH)), atI_nat (nv_get (height_get W hp)), _, rfl, D, intsOf (a :: S), rfl, SqL.of (s2 _ _ eD), Nat.succ_pos _, fun m hm hmin => ?_⟩
        have em := min_is hSb hm hmin
        refine ⟨_, _, rfl, ?_⟩
        rw [if_neg (fun z => by cases z)] at hov
        have q := k (upd H' D2 (.lst [])) (sm.trans s2)
        rw [hov] at q
        have e : (if m > (g.height p : Int) then m else (g.height p : Int)) = ((max (g.height p) ((a :: S).foldl min Uw11.HIGH) : Nat) : Int) := by
          rw [em]
          by_cases c : g.height p < (a :: S).foldl min Uw11.HIGH
          · rw [if_pos (by omega), Nat.max_eq_right (by omega)]
          · rw [if_neg (by omega), Nat.max_eq_left (by omega)]
        show Q (.int (if m > (g.height p : Int) then m else (g.height p : Int))) _
        rw [e]
        exact q
/-! ### levels_of -/
theorem ixN_nat {n j : Nat} (h : j < n) : ixN n (j : Int) = some j := by
  unfold ixN
  rw [if_pos (by omega), if_pos (by omega)]
  rfl
theorem scLev : FnScope ["field", "heights", "levels", "is_new", "place", "found"] ["field", "heights"] (defScope sLev) := ⟨rfl, rfl, rfl, by decide +kernel, rfl, by decide +kernel, by decide +kernel⟩
/-- ahead of a turn of the while -/
def LevW (H : Hp) (f hh L : Addr) (g : Ground) (B : Nat) (m : Nat) (σ : L2.St) (H' : Hp) : Prop := ∃ (b : Bool) (v4 v5 : Option V) (l : List (Option Nat)), σ = [some (.ref f), some (.ref hh), some (.ref L), some (.bl b), v4, v5] ∧ Same H H' ∧ H' L = some (.lst (l.map vO)) ∧ Good g B l ∧
  (b = false → ∀ p, p < g.places → Still g l p) ∧ m = meas l + (if b = true then 1 else 0)
/-- within the for, behind i places -/
def LevF (H : Hp) (f hh L : Addr) (g : Ground) (B : Nat) (l0 : List (Option Nat)) (i : Nat) (σ : L2.St) (H' : Hp) : Prop := ∃ (b : Bool) (v4 v5 : Option V) (l : List (Option Nat)), σ = [some (.ref f), some (.ref hh), some (.ref L), some (.bl b), v4, v5] ∧ Same H H' ∧ H' L = some (.lst (l.map vO)) ∧ Good g B l ∧
  (b = false → l = l0 ∧ ∀ q, q < i → Still g l q) ∧ (b = true → meas l < meas l0)
theorem vO_get {l : List (Option Nat)} {p : Nat} (hp : p < l.length) : (l.map vO)[p]? = some (vO (l.getD p none)) := by
  rw [List.getElem?_map, List.getD_eq_getElem?_getD, List.getElem?_eq_getElem hp]
  rfl
theorem ok_lev {f : Addr} {fd : FuncData} (T : Txt K mg CF CG CR) (F : Fun K "levels_of" "levels_of" sLev f fd) (DE : MethOk P w K mg base CX0 CF "is_edge" 1 ["self", "place"] (spEdge CF))
    (DO : DefOk P w K mg base CX0 "over" 1 ["heights", "levels", "field", "place"] (spOver CF)) (DB : DefOk P w K mg base CX0 "is_better" 1 ["found", "known"] spBetter) : FnOk P w K mg base CX0 2 f fd ["field", "heights"] (spLev CF) := by
  obtain ⟨fE, fdE, GE, bE, mE⟩ := DE
  obtain ⟨fO, fdO, GO, bO, mO, kO⟩ := DO
  obtain ⟨fB, fdB, GB, bB, mB, kB⟩ := DB
  refine F.ok scLev (fun vs H Q E h => ?_) (fun cdv A outer s H vs Q E hr h => ?_)
  · obtain ⟨H0, g, B, f, hh, rfl, _⟩ := h
    rfl
  · obtain ⟨H0, g, B, f, hh, rfl, W, hB, FA, hH, k⟩ := h
    have hr1 : Room 1 _ := hr
    obtain ⟨dx, nl, as, e1, -, -, -, -⟩ := id FA.ex
    have hp25 : g.places ≤ 25 := W.pl
    refine ⟨_, pss_cons (ps_setLc (i := 2) (own := [("place", 4)]) (g := gName 4) (tt := tYes) (te := tIf (tB (tMeth CF "is_edge" (spEdge CF) [] E0 (tVar 0) (tCons (tVar 4) tNil))) (tOp (rIxL K) (tVar 1) (tVar 4)) (tC .non)) rfl scLev.nd rfl rfl (sw_true rfl rfl rfl (by decide +kernel))
        (pi_range1 rfl T.range (pa_cons (pe_fld (pv 0) rfl) pa_nil)) (blkOk_by (N := ["field", "heights", "levels", "is_new", "place", "found"]) (sc := defScope sLev) (by decide +kernel)) (fun _ _ _ _ _ => pg_name (i := 4) scLev.nd rfl (Or.inl rfl)) (fun _ _ _ _ _ => pts_nil)
        (fun _ _ _ _ _ => pe_ifExp (pt_val (pe_meth (pv 0) T.clF mE GE hr1 bE .nil pass0 (pa_cons (pv 4) pa_nil))) (pe_ix ix_list (pv 1) (pv 4) (fun _ _ => rfl)) pe_non))
      (pss_cons (ps_set (i := 3) scLev.nd rfl (Or.inl rfl) pe_bl)
      (pss_cons (ps_while PassesOwn.never (pt_val (pv 3))
        (pss_cons (ps_set (i := 3) scLev.nd rfl (Or.inl rfl) pe_bl)
        (pss_one (ps_for PassesOwn.never rfl (pi_range1 rfl T.range (pa_cons (pe_fld (pv 0) rfl) pa_nil)) (pg_name (i := 4) scLev.nd rfl (Or.inl rfl))
          (pss_cons (ps_set (i := 5) scLev.nd rfl (Or.inl rfl) (pe_call GO hr1 rfl mO kO bO .nil pass0 (pa_cons (pv 1) (pa_cons (pv 2) (pa_cons (pv 0) (pa_cons (pv 4) pa_nil))))))
          (pss_one (ps_if (PW.pt (pw_and (pt_not (pt_val (pe_meth (pv 0) T.clF mE GE hr1 bE .nil pass0 (pa_cons (pv 4) pa_nil)))) (pw_and1 (pt_val (pe_call GB hr1 rfl mB kB bB .nil pass0 (pa_cons (pv 5) (pa_cons (pe_ix ix_list (pv 2) (pv 4) (fun _ _ => rfl)) pa_nil)))))))
            (pss_cons (ps_asg (pv 5) (pg_sub (pv 2) (pv 4) set_list)) (pss_one (ps_set (i := 3) scLev.nd rfl (Or.inl rfl) pe_bl))) pss_nil)))))))
      (pss_one (ps_ret (pv 2))))), ?_⟩
    refine ⟨_, rfl, f, CF, dx, _, _, rfl, e1, T.clF, T.nMany, fF_many _ _, _, rfl, by omega, by omega, fun L nL => ?_⟩
    refine lc_range (lo := 0) (n := ((g.places : Nat) : Int).toNat) (fun i H' => Same H H' ∧ H' L = some (.lst (((firstM g).take i).map vO))) ⟨same_new nL, upd_same⟩ ?_ ?_
    · rintro i H' hi ⟨sm, eL⟩
      have hi2 : i < g.places := by omega
      rw [Int.zero_add]
      have fL : (firstM g).length = g.places := by
        unfold firstM
        rw [List.length_map, List.length_range]
      have fg : (firstM g)[i]? = some (if g.edge i = true then some (g.height i) else none) := by
        unfold firstM
        rw [List.getElem?_map, List.getElem?_range hi2]
        rfl
      have et := take_more fg
      refine ⟨rfl, yes_ite ?_⟩
      refine ⟨_, rfl, f, dx, _, rfl, sm _ _ e1, fF_edge _ _, _, rfl, H0, g, B, i, f, rfl, W, FA.same sm, hi2, _, rfl, ?_⟩
      refine ite2 (fun c => ?_) (fun c => ?_)
      · refine ⟨_, rfl, _, rfl, hh, _, _, _, rfl, rfl, SqL.of (sm _ _ hH), atI_nat (nv_get (height_get W hi2)), _, eL, small25 (by rw [List.length_map, List.length_take]; omega), same_own sm nL, ?_⟩
        rw [upd_same, et, List.map_append, if_pos c]
        rfl
      · refine ⟨_, eL, small25 (by rw [List.length_map, List.length_take]; omega), same_own sm nL, ?_⟩
        rw [upd_same, et, List.map_append, if_neg c]
        rfl
    · rintro H1 ⟨sm1, eL1⟩
      have fL : (firstM g).length = g.places := by
        unfold firstM
        rw [List.length_map, List.length_range]
      have e25 : (((g.places : Nat) : Int).toNat) = (firstM g).length := by rw [fL]; rfl
      rw [e25, List.take_length] at eL1
      refine ⟨LevW H f hh L g B, ⟨_, true, none, none, firstM g, rfl, sm1, eL1, firstM_good W hB, (fun z => by cases z), rfl⟩, ?_⟩
      rintro m σ H2 ⟨b, v4, v5, l, rfl, sm2, eL2, G, hst, rfl⟩
      refine ⟨_, rfl, _, rfl, ?_⟩
      cases b with
      | false =>
        refine iteF ?_
        refine ⟨_, rfl, k _ L sm2 nL ?_⟩
        have e := still_levels W hB G (hst rfl)
        rw [eL2, e, List.map_map]
        unfold nv intsOf
        rw [List.map_map]
        rfl
      | true =>
        refine iteT ?_
        refine ⟨fun σ' H' => ∃ m', m' < meas l + 1 ∧ LevW H f hh L g B m' σ' H', fun σ' H' z => z, ?_⟩
        refine ⟨_, rfl, f, CF, dx, _, _, rfl, sm2 _ _ e1, T.clF, T.nMany, fF_many _ _, _, rfl, by omega, by omega, ?_⟩
        refine for_range (lo := 0) (n := ((g.places : Nat) : Int).toNat) (LevF H f hh L g B l) ⟨false, v4, v5, l, rfl, sm2, eL2, G, fun _ => ⟨rfl, fun q hq => absurd hq (Nat.not_lt_zero _)⟩, fun z => by cases z⟩ ?_ ?_
        · rintro i σ H3 hi ⟨b, v4, v5, l', rfl, sm3, eL3, G3, hf, ht⟩
          have hi2 : i < g.places := by omega
          have hil : i < l'.length := by rw [G3.len]; exact hi2
          rw [Int.zero_add]
          refine ⟨_, rfl, _, rfl, _, rfl, _, rfl, H0, g, B, i, l', hh, L, f, rfl, W, FA.same sm3, hi2, sm3 _ _ hH, eL3, G3.len, fun q x hx => Nat.le_trans (G3.bd q x hx) (Nat.le_of_lt hB), fun H4 sm4 => ?_⟩
          have sm5 := sm3.trans sm4
          have eL4 := sm4 _ _ eL3
          refine ⟨_, rfl, f, dx, _, rfl, sm5 _ _ e1, fF_edge _ _, _, rfl, H0, g, B, i, f, rfl, W, FA.same sm5, hi2, _, rfl, ?_⟩
          cases ee : g.edge i with
          | true =>
            refine iteF ?_
            refine iteF ?_
            refine ⟨b, _, _, l', rfl, sm5, eL4, G3, fun z => ⟨(hf z).1, fun q hq => ?_⟩, ht⟩
            by_cases c : q = i
            · rw [c]
              exact .inl ee
            · exact (hf z).2 q (by omega)
          | false =>
            refine iteT ?_
            refine ⟨_, rfl, _, rfl, _, rfl, L, _, _, _, rfl, rfl, SqL.of eL4, atI_nat (vO_get hil), overM g l' i, l'.getD i none, rfl, _, rfl, ?_⟩
            cases eb : better (overM g l' i) (l'.getD i none) with
            | false =>
              refine iteF ?_
              refine ⟨b, _, _, l', rfl, sm5, eL4, G3, fun z => ⟨(hf z).1, fun q hq => ?_⟩, ht⟩
              by_cases c : q = i
              · rw [c]
                exact .inr eb
              · exact (hf z).2 q (by omega)
            | true =>
              refine iteT ?_
              obtain ⟨x, hx⟩ : ∃ x, overM g l' i = some x := by
                cases eo : overM g l' i with
                | none =>
                  rw [eo] at eb
                  cases eb
                | some x => exact ⟨x, rfl⟩
              refine ⟨_, rfl, _, rfl, _, rfl, L, _, _, i, rfl, rfl, eL4, ixN_nat (by rw [List.length_map]; exact hil), ?_⟩
              have hne : ¬ g.edge i = true := by rw [ee]; decide
              have hm : meas (l'.set i (some x)) < meas l' := by
                refine meas_put hil ?_
                rw [hx] at eb
                exact (better_iff (fun y hy => Nat.lt_of_le_of_lt (overM_bd W G3 (hx.trans hy)) hB) (fun y hy => Nat.lt_of_le_of_lt (G3.bd i y hy) hB)).mp eb
              refine ⟨true, _, _, l'.set i (some x), rfl, same_own sm5 nL, ?_, G3.put W hB hi2 hne hx, (fun z => by cases z), fun _ => ?_⟩
              · rw [upd_same, List.map_set, hx]
              · cases b with
                | false =>
                  rw [(hf rfl).1] at hm ⊢
                  exact hm
                | true =>
                  have := ht rfl
                  omega
        · rintro σ H3 ⟨b, v4, v5, l', rfl, sm3, eL3, G3, hf, ht⟩
          have e25 : (((g.places : Nat) : Int).toNat) = g.places := rfl
          rw [e25] at hf
          cases b with
          | false =>
            obtain ⟨rfl, hs⟩ := hf rfl
            exact ⟨meas l', by omega, false, v4, v5, l', rfl, sm3, eL3, G3, fun _ => hs, rfl⟩
          | true =>
            have := ht rfl
            exact ⟨meas l' + 1, by omega, true, v4, v5, l', rfl, sm3, eL3, G3, (fun z => by cases z), rfl⟩
/-! ### kept -/
theorem scKept : FnScope ["field", "heights"] ["field", "heights"] (defScope sKept) := ⟨rfl, rfl, rfl, by decide +kernel, rfl, by decide +kernel, by decide +kernel⟩
theorem ok_kept {f : Addr} {fd : FuncData} (T : Txt K mg CF CG CR) (F : Fun K "kept" "kept" sKept f fd) (DL : DefOk P w K mg base CX0 "levels_of" 2 ["field", "heights"] (spLev CF)) : FnOk P w K mg base CX0 3 f fd ["field", "heights"] (spKept CF) := by
  obtain ⟨fL, fdL, GL, bL, mL, kL⟩ := DL
  refine F.ok scKept (fun vs H Q E h => ?_) (fun cdv A outer s H vs Q E hr h => ?_)
  · obtain ⟨H0, g, B, f, hh, rfl, _⟩ := h
    rfl
  · obtain ⟨H0, g, B, f, hh, rfl, W, hB, FA, hH, k⟩ := h
    refine ⟨_, pss_one (ps_ret (pe_op op_sub (pe_callB (cr_sum rfl) (by rfl) T.sum (by decide +kernel) (pa_cons (pe_call GL hr rfl mL kL bL .nil pass0 (pa_cons (pv 0) (pa_cons (pv 1) pa_nil))) pa_nil))
      (pe_callB (cr_sum rfl) (by rfl) T.sum (by decide +kernel) (pa_cons (pv 1) pa_nil)))), ?_⟩
    refine ⟨_, rfl, _, rfl, H0, g, B, f, hh, rfl, W, hB, FA, hH, fun H1 l sm nl el => ?_⟩
    refine ⟨l, _, rfl, SqL.of el, _, rfl, hh, _, rfl, SqL.of (sm _ _ hH), _, _, rfl, rfl, ?_⟩
    have q := k H1 sm
    rw [← kept_int W] at q
    exact q
end
end GW
/-! The walk, third part: drops, the best bank. -/
namespace GW
open PySem PySem.Spec PyProof.Rows L2
open Uw11 (Ground)
open C8 (tCut pss_cut)
open GwMin (cr_minT call_min2T)
/-- lowest_beside(field, heights, place) -/
def spLow (CF : Addr) : Sp := fun vs H Q _ => ∃ (H0 : Hp) (g : Ground) (B p : Nat) (f hh : Addr), vs = [.ref f, .ref hh, .int p] ∧ Wf g B ∧ FieldAt CF H0 H f g ∧ H hh = some (.lst (nv g.heights)) ∧ p < g.places ∧
  ∀ (H' : Hp) (q : Nat), Same H H' → IsLow g p q → Q (.int q) H'
/-- drop_from(field, heights, place) -/
def spDrop (CF : Addr) : Sp := fun vs H Q _ => ∃ (H0 : Hp) (g : Ground) (B p : Nat) (f hh : Addr), vs = [.ref f, .ref hh, .int p] ∧ Wf g B ∧ FieldAt CF H0 H f g ∧ H hh = some (.lst (nv g.heights)) ∧ p < g.places ∧
  ∀ (H' : Hp) (l : Addr), Same H H' → H' l = some (.lst (nv (course g p))) → Q (.ref l) H'
/-- best_bank(field, heights, most) -/
def spBest (CF : Addr) : Sp := fun vs H Q _ => ∃ (H0 : Hp) (g : Ground) (B n : Nat) (f hh : Addr), vs = [.ref f, .ref hh, .int n] ∧ Wf g B ∧ n ≤ 1000 ∧ B + n < Uw11.HIGH ∧ FieldAt CF H0 H f g ∧ H hh = some (.lst (nv g.heights)) ∧
  ∀ (H' : Hp) (t : Addr), Same H H' → H' t = some (.tup [.int (g.best n).kept, .int (g.best n).place, .int (g.best n).higher]) → Q (.ref t) H'
/-- heights and places, as tuples -/
def pair (g : Ground) (q : Nat) : List Int := [(g.height q : Int), (q : Int)]
theorem pair_lt {g : Ground} {r q : Nat} (h : HT.lexLt (pair g r) (pair g q) = false) : g.height q < g.height r ∨ (g.height q = g.height r ∧ q ≤ r) := by
  unfold pair at h
  rw [HT.lexLt_cons] at h
  by_cases c : g.height r = g.height q
  · rw [if_pos (by omega), HT.lexLt_cons] at h
    by_cases d : r = q
    · omega
    · rw [if_neg (by omega)] at h
      have := of_decide_eq_false h
      omega
  · rw [if_neg (by omega)] at h
    have := of_decide_eq_false h
    omega
theorem low_of {g : Ground} {p i q : Nat} (hq : (g.beside p ++ [p])[i]? = some q) (h : ∀ j, j < (g.beside p ++ [p]).length → HT.lexLt (pair g ((g.beside p ++ [p]).getD j 0)) (pair g q) = false) : IsLow g p q := by
  have mem : ∀ r, r ∈ g.beside p ++ [p] ↔ r ∈ g.beside p ∨ r = p := fun r => by rw [List.mem_append, List.mem_singleton]
  refine ⟨(mem q).mp (List.mem_of_getElem? hq), fun r hr => ?_⟩
  obtain ⟨j, hj, e⟩ := List.getElem_of_mem ((mem r).mpr hr)
  have := h j hj
  rw [List.getD_eq_getElem?_getD, List.getElem?_eq_getElem hj, e] at this
  exact pair_lt this
theorem runs_len (g : Ground) : ∀ n p, (g.runs n p).length ≤ n + 1
  | 0, _ => Nat.le_refl _
  | n + 1, p => by
    cases e : g.down p with
    | none =>
      rw [runs_none e]
      simp
    | some q =>
      rw [runs_some e]
      have := runs_len g n q
      simp
      omega
theorem runs_pos (g : Ground) : ∀ n p, 1 ≤ (g.runs n p).length
  | 0, _ => Nat.le_refl _
  | n + 1, p => by
    cases e : g.down p with
    | none =>
      rw [runs_none e]
      simp
    | some q =>
      rw [runs_some e]
      simp
section
variable {P : Program} {w : World} {K : PySem.W.Frag} {mg : Str → Option Value} {base : Heap} {CF CG CR : Addr}
theorem scLow : FnScope ["field", "heights", "place", "other"] ["field", "heights", "place"] (defScope sLow) := ⟨rfl, rfl, rfl, by decide +kernel, rfl, by decide +kernel, by decide +kernel⟩
theorem ok_low {f : Addr} {fd : FuncData} (T : Txt K mg CF CG CR) (F : Fun K "lowest_beside" "lowest_beside" sLow f fd) : FnOk P w K mg base CX0 1 f fd ["field", "heights", "place"] (spLow CF) := by
  refine F.ok scLow (fun vs H Q E h => ?_) (fun cdv A outer s H vs Q E hr h => ?_)
  · obtain ⟨H0, g, B, p, f, hh, rfl, _⟩ := h
    rfl
  · obtain ⟨H0, g, B, p, f, hh, rfl, W, ⟨na, dx, nl, as, e1, e2, e3, e4, e5⟩, hH, hp, k⟩ := h
    have hp2 : p < as.length := by rw [e4]; exact hp
    have hb : as[p]? = some as[p] := List.getElem?_eq_getElem hp2
    have e6 := (e5 p _ hb).2
    generalize as[p] = bl at hb e6
    have h4 : (g.beside p).length ≤ 4 := by
      unfold Ground.beside
      rw [List.length_append, List.length_append, List.length_append]
      split <;> split <;> split <;> split <;> simp
    refine ⟨_, pss_one (ps_ret (pe_ix ix_tup (pe_callB (cr_minT rfl (hu_of hr)) (by rfl) T.min (by decide +kernel) (pa_cons (pe_op op_cat
      (pe_lc (own := [("other", 3)]) (g := gName 3) (tt := tYes) (te := tTup (tCons (tOp (rIxL K) (tVar 1) (tVar 3)) (tCons (tVar 3) tNil))) rfl scLow.nd (pi_list (pe_ix ix_list (pe_fld (pv 0) rfl) (pv 2) (fun _ _ => rfl)))
        (blkOk_by (N := ["field", "heights", "place", "other"]) (sc := defScope sLow) (by decide +kernel)) (fun _ _ _ _ _ => pg_name (i := 3) scLow.nd rfl (Or.inl rfl)) (fun _ _ _ _ _ => pts_nil)
        (fun _ _ _ _ _ => pe_tup (pa_cons (pe_ix ix_list (pv 1) (pv 3) (fun _ _ => rfl)) (pa_cons (pv 3) pa_nil))))
      (pe_lst (pa_cons (pe_tup (pa_cons (pe_ix ix_list (pv 1) (pv 2) (fun _ _ => rfl)) (pa_cons (pv 2) pa_nil))) pa_nil))) pa_nil)) pe_int (fun _ _ => rfl))), ?_⟩
    refine ⟨_, rfl, f, CF, dx, _, _, rfl, e1, T.clF, T.nNear, fF_near _ _, _, rfl, nl, _, _, .ref bl, rfl, rfl, SqL.of e3, atI_nat (by rw [List.getElem?_map, hb]; rfl), bl, rfl, ⟨_, SqL.of e6⟩, fun D nD => ?_⟩
    refine lc_list (K := K) (a := bl) (xs := nv (g.beside p)) (fun i H' => ∃ ts : List Addr, Same H H' ∧ H' D = some (.lst (ts.map V.ref)) ∧ ts.length = i ∧ ∀ (j : Nat) (b : Addr), ts[j]? = some b → ∃ q : Nat, (g.beside p)[j]? = some q ∧ H' b = some (.tup ((pair g q).map V.int))) ?_ (fun i H' _ ⟨_, sm, _⟩ => SqL.of (sm _ _ e6)) ?_ ?_
    · exact ⟨[], same_new nD, upd_same, rfl, fun j b e => by cases e⟩
    · rintro i x H' hx ⟨ts, sm, eD, el, ea⟩
      obtain ⟨q, hq, rfl⟩ : ∃ q, (g.beside p)[i]? = some q ∧ x = V.int (q : Nat) := by
        rw [List.getElem?_map] at hx
        unfold intsOf at hx
        rw [List.getElem?_map] at hx
        cases e : (g.beside p)[i]? with
        | none =>
          rw [e] at hx
          cases hx
        | some q =>
          rw [e] at hx
          exact ⟨q, rfl, (Option.some.inj hx).symm⟩
      have hql := beside_lt W hp (List.mem_of_getElem? hq)
      have i4 : i < 4 := by
        have := (List.getElem?_eq_some_iff.mp hq).1
        omega
      refine ⟨rfl, yes_ite ?_⟩
      refine ⟨_, rfl, _, rfl, hh, _, _, _, rfl, rfl, SqL.of (sm _ _ hH), atI_nat (nv_get (height_get W hql)), _, rfl, (show 2 ≤ sizeLine by decide), fun t nt => ?_⟩
      have s2 := same_new (o := .tup [V.int (g.height q : Nat), V.int (q : Nat)]) nt
      refine ⟨_, s2 _ _ eD, small25 (by rw [List.length_map]; omega), ts ++ [t], same_own (sm.trans s2) nD, by rw [upd_same, List.map_append]; rfl, by rw [List.length_append, el]; rfl, fun j b e => ?_⟩
      have htD : t ≠ D := fun z => by
        rw [z, eD] at nt
        cases nt
      by_cases c : j < ts.length
      · rw [List.getElem?_append_left c] at e
        obtain ⟨r, q1, q2⟩ := ea j b e
        refine ⟨r, q1, ?_⟩
        have hbD : b ≠ D := fun z => by
          rw [z, eD] at q2
          cases q2
        rw [upd_ne hbD]
        exact s2 _ _ q2
      · rw [List.getElem?_append_right (by omega)] at e
        have c2 : j - ts.length = 0 := by
          have := (List.getElem?_eq_some_iff.mp e).1
          simp at this
          omega
        rw [c2] at e
        have e : t = b := Option.some.inj e
        subst e
        have ej : j = i := by omega
        subst ej
        refine ⟨q, hq, ?_⟩
        rw [upd_ne htD, upd_same]
        rfl
    · rintro H' ⟨ts, sm, eD, el, ea⟩
      rw [nv_len] at el
      refine ⟨_, rfl, _, rfl, hh, _, _, _, rfl, rfl, SqL.of (sm _ _ hH), atI_nat (nv_get (height_get W hp)), _, rfl, (show 2 ≤ sizeLine by decide), fun t nt => ?_⟩
      have s2 := same_new (o := .tup [V.int (g.height p : Nat), V.int (p : Nat)]) nt
      refine ⟨(show 1 ≤ sizeLine by decide), fun l2 n2 => ?_⟩
      have s3 := same_new (o := .lst [V.ref t]) n2
      refine ⟨D, l2, _, _, rfl, rfl, s3 _ _ (s2 _ _ eD), upd_same, Nat.le_of_lt (small25 (by rw [List.length_map]; simp; omega)), fun l3 n3 => ?_⟩
      have s4 := same_new (o := .lst (ts.map V.ref ++ [V.ref t])) n3
      have eT : ∀ i b, (ts ++ [t])[i]? = some b → ∃ q, (g.beside p ++ [p])[i]? = some q ∧ (upd (upd (upd H' t (.tup [V.int (g.height p : Nat), V.int (p : Nat)])) l2 (.lst [V.ref t])) l3 (.lst (ts.map V.ref ++ [V.ref t]))) b = some (.tup ((pair g q).map V.int)) := fun i b e => by
        by_cases c : i < ts.length
        · rw [List.getElem?_append_left c] at e
          obtain ⟨r, q1, q2⟩ := ea i b e
          refine ⟨r, ?_, s4 _ _ (s3 _ _ (s2 _ _ q2))⟩
          rw [List.getElem?_append_left (by omega)]
          exact q1
        · rw [List.getElem?_append_right (by omega)] at e
          have c2 : i - ts.length = 0 := by
            have := (List.getElem?_eq_some_iff.mp e).1
            simp at this
            omega
          rw [c2] at e
          have e : t = b := Option.some.inj e
          subst e
          refine ⟨p, ?_, s4 _ _ (s3 _ _ ?_)⟩
          · rw [List.getElem?_append_right (by omega), show i - (g.beside p).length = 0 by omega]
            rfl
          · rw [upd_same]
            rfl
      refine ⟨l3, ts ++ [t], fun i => pair g ((g.beside p ++ [p]).getD i 0), rfl, SqL.of (by rw [upd_same, List.map_append]; rfl), by rw [List.length_append]; simp, fun i b e => ?_, fun i b e hmin => ?_⟩
      · obtain ⟨q, q1, q2⟩ := eT i b e
        show SqT _ _ b ((pair g ((g.beside p ++ [p]).getD i 0)).map V.int)
        rw [List.getD_eq_getElem?_getD, q1]
        exact SqT.of q2
      · obtain ⟨q, q1, q2⟩ := eT i b e
        refine ⟨b, (pair g q).map V.int, _, V.int (q : Nat), rfl, rfl, SqT.of q2, rfl, ?_⟩
        refine k _ q (((sm.trans s2).trans s3).trans s4) (low_of q1 fun j hj => ?_)
        have z := hmin j (by
          rw [List.length_append] at hj ⊢
          rw [el]
          exact hj)
        have z2 : HT.lexLt (pair g ((g.beside p ++ [p]).getD j 0)) (pair g ((g.beside p ++ [p]).getD i 0)) = false := z
        rw [List.getD_eq_getElem?_getD (i := i), q1] at z2
        exact z2
/-! ### drop_from -/
theorem scDrop : FnScope ["field", "heights", "place", "found", "following"] ["field", "heights", "place"] (defScope sDrop) := ⟨rfl, rfl, rfl, by decide +kernel, rfl, by decide +kernel, by decide +kernel⟩
theorem ok_drop {f : Addr} {fd : FuncData} (T : Txt K mg CF CG CR) (F : Fun K "drop_from" "drop_from" sDrop f fd) (DL : DefOk P w K mg base CX0 "lowest_beside" 1 ["field", "heights", "place"] (spLow CF)) : FnOk P w K mg base CX0 2 f fd ["field", "heights", "place"] (spDrop CF) := by
  obtain ⟨fL, fdL, GL, bL, mL, kL⟩ := DL
  refine F.ok scDrop (fun vs H Q E h => ?_) (fun cdv A outer s H vs Q E hr h => ?_)
  · obtain ⟨H0, g, B, p, f, hh, rfl, _⟩ := h
    rfl
  · obtain ⟨H0, g, B, p, f, hh, rfl, W, FA, hH, hp, k⟩ := h
    have hp25 : g.places ≤ 25 := W.pl
    refine ⟨_, pss_cons (ps_set (i := 3) scDrop.nd rfl (Or.inl rfl) (pe_lst (pa_cons (pv 2) pa_nil)))
      (pss_cons (ps_set (i := 4) scDrop.nd rfl (Or.inl rfl) (pe_call GL hr rfl mL kL bL .nil pass0 (pa_cons (pv 0) (pa_cons (pv 1) (pa_cons (pv 2) pa_nil)))))
      (pss_cons (ps_while PassesOwn.never (pt_cmpR op_lt (pe_ix ix_list (pv 1) (pv 4) (fun _ _ => rfl)) (pe_ix ix_list (pv 1) (pe_ix ix_list (pv 3) (pe_un un_neg pe_int) (fun _ _ => rfl)) (fun _ _ => rfl)) (nomark _))
        (pss_cons (ps_expr (pe_bm PySem.F.plainAttrs_list PySem.F.slot_list_append PySem.F.type_list_append mt_append (pv 3) (pa_cons (pv 4) pa_nil)))
        (pss_one (ps_set (i := 4) scDrop.nd rfl (Or.inl rfl) (pe_call GL hr rfl mL kL bL .nil pass0 (pa_cons (pv 0) (pa_cons (pv 1) (pa_cons (pv 4) pa_nil))))))))
      (pss_one (ps_ret (pv 3))))), ?_⟩
    refine ⟨_, rfl, (show 1 ≤ sizeLine by decide), fun L nL => ?_⟩
    have s1 := same_new (o := .lst [V.int (p : Nat)]) nL
    refine ⟨_, rfl, _, rfl, _, rfl, H0, g, B, p, f, hh, rfl, W, FA.same s1, s1 _ _ hH, hp, fun H1 q s2 hq => ?_⟩
    refine ⟨fun m σ H' => ∃ (pre : List Nat) (c q : Nat), σ = [some (.ref f), some (.ref hh), some (.int p), some (.ref L), some (.int q)] ∧ Same H H' ∧ H' L = some (.lst (nv (pre ++ [c]))) ∧ c < g.places ∧ course g p = pre ++ course g c ∧ IsLow g c q ∧ m = g.height c,
      ⟨_, [], p, q, rfl, s1.trans s2, s2 _ _ upd_same, hp, rfl, hq, rfl⟩, ?_⟩
    rintro m σ H2 ⟨pre, c, q, rfl, sm, eL, hc, ec, hq, rfl⟩
    have hqp : q < g.places := by
      rcases hq.1 with z | z
      · exact beside_lt W hc z
      · omega
    have hlen : pre.length + 1 ≤ 26 := by
      have h1 := runs_len g g.places p
      have h2 : (course g p).length = pre.length + (course g c).length := by rw [ec, List.length_append]
      have h3 := runs_pos g g.places c
      have h1 : (course g p).length ≤ g.places + 1 := h1
      have h3 : 1 ≤ (course g c).length := h3
      omega
    have last : atI (nv (pre ++ [c])) (-1) = some (V.int (c : Nat)) := by
      rw [nv_app]
      exact atI_last _ _
    refine ⟨_, rfl, _, rfl, hh, _, _, _, rfl, rfl, SqL.of (sm _ _ hH), atI_nat (nv_get (height_get W hqp)), _, rfl, _, rfl, _, rfl, L, _, _, _, rfl, rfl, SqL.of eL, last, hh, _, _, _, rfl, rfl, SqL.of (sm _ _ hH), atI_nat (nv_get (height_get W hc)), _, _, rfl, rfl, _, rfl, ?_⟩
    have dl := down_low W hq
    refine ite2 (fun d => ?_) (fun d => ?_)
    · have d := of_decide_eq_true d
      have d2 : g.height q < g.height c := by omega
      rw [if_pos d2] at dl
      refine ⟨fun σ' H' => ∃ m', m' < g.height c ∧ ∃ (pre : List Nat) (c q : Nat), σ' = [some (.ref f), some (.ref hh), some (.int p), some (.ref L), some (.int q)] ∧ Same H H' ∧ H' L = some (.lst (nv (pre ++ [c]))) ∧ c < g.places ∧ course g p = pre ++ course g c ∧ IsLow g c q ∧ m' = g.height c, fun σ' H' z => z, ?_⟩
      refine ⟨_, rfl, .inl ⟨rfl, _, SqL.of eL⟩, _, rfl, L, _, _, rfl, rfl, eL, small25 (by rw [nv_len, List.length_append]; simp; omega), ?_⟩
      have sm2 := same_own (o := .lst (nv (pre ++ [c]) ++ [V.int (q : Nat)])) sm nL
      refine ⟨_, rfl, _, rfl, _, rfl, H0, g, B, q, f, hh, rfl, W, FA.same sm2, sm2 _ _ hH, hqp, fun H3 r s3 hr3 => ?_⟩
      refine ⟨_, d2, pre ++ [c], q, r, rfl, sm2.trans s3, s3 _ _ ?_, hqp, ?_, hr3, rfl⟩
      · rw [upd_same, nv_app (pre ++ [c])]
        rfl
      · rw [ec, course_step W hc dl, List.append_assoc]
        rfl
    · have d2 : ¬ g.height q < g.height c := fun z => d (decide_eq_true (by omega))
      rw [if_neg d2] at dl
      refine ⟨_, rfl, k H2 L sm ?_⟩
      rw [eL, ec, course_stop dl]
/-! ### best_bank -/
/-- a bank as the program's tuple has it -/
def trip (b : Uw11.Best) : List Int := [-(b.kept : Int), (b.higher : Int), (b.place : Int)]
theorem trip_lt {b x : Uw11.Best} (h1 : b.higher ≤ x.higher) (h2 : b.higher = x.higher → b.place < x.place) : HT.lexLt (trip x) (trip b) = decide (b.kept < x.kept) := by
  unfold trip
  rw [HT.lexLt_cons]
  by_cases c : x.kept = b.kept
  · rw [if_pos (by omega), HT.lexLt_cons, decide_eq_false (by omega : ¬ b.kept < x.kept)]
    by_cases d : x.higher = b.higher
    · have := h2 d.symm
      rw [if_pos (by omega), HT.lexLt_cons, if_neg (by omega)]
      exact decide_eq_false (by omega)
    · rw [if_neg (by omega)]
      exact decide_eq_false (by omega)
  · rw [if_neg (by omega)]
    by_cases d : b.kept < x.kept
    · rw [decide_eq_true d, decide_eq_true (by omega)]
    · rw [decide_eq_false d, decide_eq_false (by omega)]
theorem scBest : FnScope ["field", "heights", "most", "best", "more", "place"] ["field", "heights", "most"] (defScope sBest) := ⟨rfl, rfl, rfl, by decide +kernel, rfl, by decide +kernel, by decide +kernel⟩
theorem ok_best {f : Addr} {fd : FuncData} (T : Txt K mg CF CG CR) (F : Fun K "best_bank" "best_bank" sBest f fd) (DK : DefOk P w K mg base CX0 "kept" 3 ["field", "heights"] (spKept CF)) (DB : DefOk P w K mg base CX0 "with_bank" 1 ["heights", "place", "more"] (spBank K)) :
    FnOk P w K mg base CX0 4 f fd ["field", "heights", "most"] (spBest CF) := by
  obtain ⟨fK, fdK, GK, bK, mK, kK⟩ := DK
  obtain ⟨fB, fdB, GB, bB, mB, kB⟩ := DB
  refine F.ok scBest (fun vs H Q E h => ?_) (fun cdv A outer s H vs Q E hr h => ?_)
  · obtain ⟨H0, g, B, n, f, hh, rfl, _⟩ := h
    rfl
  · obtain ⟨H0, g, B, n, f, hh, rfl, W, hn, hB, FA, hH, k⟩ := h
    have hp25 : g.places ≤ 25 := W.pl
    have hr1 : Room 1 _ := hr.mono (by decide)
    obtain ⟨dx, nl, as, e1, -, -, -, -⟩ := id FA.ex
    refine ⟨_, pss_cons (ps_set (i := 3) scBest.nd rfl (Or.inl rfl) (pe_tup (pa_cons (pe_un un_neg (pe_call GK hr rfl mK kK bK .nil pass0 (pa_cons (pv 0) (pa_cons (pv 1) pa_nil)))) (pa_cons pe_int (pa_cons pe_int pa_nil)))))
      (pss_cons (ps_for PassesOwn.never rfl (pi_range2 rfl T.range (pa_cons pe_int (pa_cons (pe_op op_add (pv 2) pe_int) pa_nil))) (pg_name (i := 4) scBest.nd rfl (Or.inl rfl))
        (pss_one (ps_for PassesOwn.never rfl (pi_range1 rfl T.range (pa_cons (pe_fld (pv 0) rfl) pa_nil)) (pg_name (i := 5) scBest.nd rfl (Or.inl rfl))
          (pss_one (ps_set (i := 3) scBest.nd rfl (Or.inl rfl) (pe_callB (call_min2T rfl (hu_of hr)) (by rfl) T.min (by decide +kernel) (pa_cons (pv 3) (pa_cons (pe_tup (pa_cons (pe_un un_neg (pe_call GK hr rfl mK kK bK .nil pass0
            (pa_cons (pv 0) (pa_cons (pe_call GB hr1 rfl mB kB bB .nil pass0 (pa_cons (pv 1) (pa_cons (pv 5) (pa_cons (pv 4) pa_nil)))) pa_nil)))) (pa_cons (pv 4) (pa_cons (pv 5) pa_nil)))) pa_nil))))))))
      (pss_one (ps_ret (pe_tup (pa_cons (pe_un un_neg (pe_ix ix_tup (pv 3) pe_int (fun _ _ => rfl))) (pa_cons (pe_ix ix_tup (pv 3) pe_int (fun _ _ => rfl)) (pa_cons (pe_ix ix_tup (pv 3) pe_int (fun _ _ => rfl)) pa_nil))))))), ?_⟩
    refine ⟨_, rfl, _, rfl, H0, g, B, f, hh, rfl, W, by omega, FA, hH, fun H1 s1 => ?_⟩
    refine ⟨_, rfl, (show 3 ≤ sizeLine by decide), fun t0 nt0 => ?_⟩
    have s2 := s1.trans (same_new (o := .tup ((trip ⟨g.kept, 0, 0⟩).map V.int)) nt0)
    refine ⟨_, rfl, _, _, rfl, rfl, _, _, rfl, ⟨by omega, by omega, by omega, by omega⟩, ?_⟩
    have en : ((n : Int) + 1 - 1).toNat = n := by omega
    refine for_range (lo := 1) (n := ((n : Int) + 1 - 1).toNat) (fun i σ H' => ∃ (t : Addr) (v4 v5 : Option V), σ = [some (.ref f), some (.ref hh), some (.int n), some (.ref t), v4, v5] ∧ Same H H' ∧ H' t = some (.tup ((trip (upTo g (i + 1))).map V.int)))
      ⟨t0, none, none, rfl, s2, by rw [upTo_one W]; exact upd_same⟩ ?_ ?_
    · rintro i σ H2 hi ⟨t, v4, v5, rfl, sm, et⟩
      have hi2 : i < n := by omega
      have ei : (1 : Int) + (i : Int) = ((i + 1 : Nat) : Int) := by omega
      rw [ei]
      refine ⟨_, rfl, f, CF, dx, _, _, rfl, sm _ _ e1, T.clF, T.nMany, fF_many _ _, _, rfl, by omega, by omega, ?_⟩
      refine for_range (lo := 0) (n := ((g.places : Nat) : Int).toNat) (fun j σ H' => ∃ (t : Addr) (v5 : Option V), σ = [some (.ref f), some (.ref hh), some (.int n), some (.ref t), some (.int (i + 1 : Nat)), v5] ∧ Same H H' ∧ H' t = some (.tup ((trip (inTo g (i + 1) j)).map V.int)))
        ⟨t, v5, rfl, sm, et⟩ ?_ ?_
      · rintro j σ H3 hj ⟨t, v5, rfl, sm, et⟩
        have hj2 : j < g.places := by omega
        rw [Int.zero_add]
        refine ⟨_, rfl, _, rfl, _, rfl, _, rfl, _, rfl, g, B, j, i + 1, hh, rfl, W, hj2, sm _ _ hH, fun H4 h4 s4 nh4 eh4 => ?_⟩
        have sm4 := sm.trans s4
        have FA4 : FieldAt CF H0 H4 f (g.raised j (i + 1)) := (FA.same sm4).keep (fun _ z => z) (fun _ _ _ z => z) rfl rfl
        refine ⟨H0, g.raised j (i + 1), B + (i + 1), f, h4, rfl, W.raised hj2 (Nat.le_refl _), by omega, FA4, eh4, fun H5 s5 => ?_⟩
        refine ⟨_, rfl, _, rfl, _, rfl, (show 3 ≤ sizeLine by decide), fun t6 nt6 => ?_⟩
        have s6 := same_new (o := .tup ((trip (bank g (i + 1) j)).map V.int)) nt6
        refine ⟨t, t6, trip (inTo g (i + 1) j), trip (bank g (i + 1) j), rfl, SqT.of (s6 _ _ (s5 _ _ (s4 _ _ et))), SqT.of upd_same, ?_⟩
        have bf := inTo_before W (i + 1) j (Nat.le_of_lt hj2) (by omega)
        have lt := trip_lt (b := inTo g (i + 1) j) (x := bank g (i + 1) j) bf.1 bf.2
        refine ⟨_, _, rfl, (sm4.trans s5).trans s6, ?_⟩
        rw [inTo_succ, lt]
        unfold more
        by_cases c : (inTo g (i + 1) j).kept < (bank g (i + 1) j).kept
        · rw [if_pos (decide_eq_true c), if_pos c]
          exact upd_same
        · rw [if_neg (by simpa using c), if_neg c]
          exact s6 _ _ (s5 _ _ (s4 _ _ et))
      · rintro σ H3 ⟨t, v5, rfl, sm, et⟩
        have e25 : (((g.places : Nat) : Int).toNat) = g.places := rfl
        rw [e25, ← upTo_succ] at et
        exact ⟨t, _, v5, rfl, sm, et⟩
    · rintro σ H2 ⟨t, v4, v5, rfl, sm, et⟩
      rw [en, ← best_upTo] at et
      refine ⟨_, rfl, t, _, _, _, rfl, rfl, SqT.of et, rfl, _, rfl, _, rfl, t, _, _, _, rfl, rfl, SqT.of et, rfl, _, rfl, t, _, _, _, rfl, rfl, SqT.of et, rfl, (show 3 ≤ sizeLine by decide), fun t2 nt2 => ?_⟩
      refine k _ t2 (sm.trans (same_new nt2)) ?_
      rw [upd_same]
      show some (HO.tup [V.int (- -((g.best n).kept : Int)), _, _]) = _
      rw [Int.neg_neg]
end
end GW
/-! The walk, fourth part: the refusal, the methods of a ground. -/
namespace GW
open PySem PySem.Spec PyProof.Rows L2
open Uw11 (Ground)
open C8 (tCut pss_cut)
/-- what the top has written of the refusal's class -/
structure RefT (K : PySem.W.Frag) (mg : Str → Option Value) (CR fR : Addr) : Prop where
  ox : OexC K CR
  iC : PySem.W.findIn K (.ref CR) "__init__" = some (some (.ref fR))
  tI : PySem.W.typeIn K (.ref fR) = some (.type "function")
  nC : PySem.W.findIn K (.ref CR) "code" = some none
  gR : mg "Refused" = some (.ref CR)
theorem veInit (K : PySem.W.Frag) : PySem.W.findCls K (.type "ValueError") (.type "type") "__init__" = some (.val (.builtin "ValueError.__init__")) := by
  first
    | kernel_rfl
    | rfl
/-- a refusal's own fields -/
def cF (c : Int) : List (Str × V) := [("code", .int c)]
/-- Refused.__init__(self, code) -/
def spRI (CR : Addr) : Sp := fun vs H Q _ => ∃ (a : Addr) (c : Int), vs = [.ref a, .int c] ∧ H a = some (exo a CR none) ∧
  ∀ H' d, (∀ b o, H b = some o → b ≠ a → H' b = some o) → H' a = some (exo a CR (some d)) → H' d = some (exd d (cF c)) → H d = none → Q .non H'
/-- want(truth, code) -/
def spWant (CR : Addr) : Sp := fun vs H Q E => ∃ (t : Bool) (c : Int), vs = [.bl t, .int c] ∧ (t = true → Q .non H) ∧ (t = false → ∀ H' d, Same H H' → H' d = some (.xd (cF c)) → E (.ref CR) (some d) H')
/-- at a: the ground g, all its parts new behind H0 -/
structure GroundAt (CF CG : Addr) (H0 H : Hp) (a : Addr) (g : Ground) : Prop where
  sm : Same H0 H
  na : H0 a = none
  ex : ∃ (dx f h : Addr), H a = some (.ins CG dx (gF f h)) ∧ FieldAt CF H0 H f g ∧ H0 h = none ∧ H h = some (.lst (nv g.heights))
theorem GroundAt.same {CF CG : Addr} {H0 H H' : Hp} {a : Addr} {g : Ground} (G : GroundAt CF CG H0 H a g) (s : Same H H') : GroundAt CF CG H0 H' a g := by
  obtain ⟨sm, na, dx, f, h, e1, e2, e3, e4⟩ := G
  exact ⟨sm.trans s, na, dx, f, h, s _ _ e1, e2.same s, e3, s _ _ e4⟩
theorem fF_gF {C C' dx dx' l f h : Addr} {n : Nat} (e : HO.ins C dx (fF n l) = HO.ins C' dx' (gF f h)) : False := by
  unfold fF gF at e
  injection e with _ _ e
  injection e with e _
  injection e with _ e
  cases e
/-- the ground's own attributes are stored: its field stands -/
theorem FieldAt.ins {CF CG : Addr} {H0 H : Hp} {f a dx ff hh : Addr} {g : Ground} {o : HO} (F : FieldAt CF H0 H f g) (ha : H a = some (.ins CG dx (gF ff hh))) : FieldAt CF H0 (upd H a o) f g := by
  obtain ⟨na, dx', l, as, e1, e2, e3, e4, e5⟩ := F
  have n1 : f ≠ a := fun z => by
    rw [z, ha] at e1
    exact fF_gF (Option.some.inj e1).symm
  have n2 : l ≠ a := fun z => by
    rw [z, ha] at e3
    cases e3
  refine ⟨na, dx', l, as, by rw [upd_ne n1]; exact e1, e2, by rw [upd_ne n2]; exact e3, e4, fun p b hb => ?_⟩
  obtain ⟨q1, q2⟩ := e5 p b hb
  have n3 : b ≠ a := fun z => by
    rw [z, ha] at q2
    cases q2
  exact ⟨q1, by rw [upd_ne n3]; exact q2⟩
theorem FieldAt.shape {CF : Addr} {H0 H : Hp} {f : Addr} {g g' : Ground} (F : FieldAt CF H0 H f g) (hr : g'.rows = g.rows) (hc : g'.cols = g.cols) : FieldAt CF H0 H f g' := F.keep (fun _ z => z) (fun _ _ _ z => z) hr hc
/-- other heights are stored -/
theorem GroundAt.put {CF CG : Addr} {H0 H H' : Hp} {a dx f h l : Addr} {g g' : Ground} (G : GroundAt CF CG H0 H a g) (e1 : H a = some (.ins CG dx (gF f h))) (F : FieldAt CF H0 H f g) (s : Same H H') (hr : g'.rows = g.rows) (hc : g'.cols = g.cols) (hl : H0 l = none)
    (el : H' l = some (.lst (nv g'.heights))) : GroundAt CF CG H0 (upd H' a (.ins CG dx (putF "heights" (.ref l) (gF f h)))) a g' := by
  have n : l ≠ a := fun z => by
    rw [z, s _ _ e1] at el
    cases el
  refine ⟨same_own (G.sm.trans s) G.na, G.na, dx, f, l, by rw [upd_same, gF_putH], ((F.same s).shape hr hc).ins (s _ _ e1), hl, by rw [upd_ne n]; exact el⟩
/-- behind a call that x is: its answer and the ground then, or a refusal, nothing changed -/
def Post (CF CG CR : Addr) (H0 H : Hp) (a : Addr) (g : Ground) (x : Uw11.Call) (Q : VK) (E : XK) : Prop :=
  (∀ H' l, GroundAt CF CG H0 H' a (Uw11.step g x).1 → H0 l = none → H' l = some (.lst ((ans g x).map V.int)) → Q (.ref l) H') ∧
    ∀ H' d c, Same H H' → H' d = some (.xd (cF c)) → ans g x = [c] → (Uw11.step g x).1 = g → E (.ref CR) (some d) H'
/-- a method's promise -/
def spM (CF CG CR : Addr) (args : Uw11.Call → List V → Prop) : Sp := fun vs H Q E => ∃ (H0 : Hp) (g : Ground) (a : Addr) (x : Uw11.Call) (ws : List V), vs = .ref a :: ws ∧ args x ws ∧ GroundAt CF CG H0 H a g ∧ Wf g 1000 ∧ Post CF CG CR H0 H a g x Q E
/-- Ground.want_place -/
def spWP (CF CG CR : Addr) : Sp := fun vs H Q E => ∃ (H0 : Hp) (g : Ground) (a : Addr) (p : Nat), vs = [.ref a, .int p] ∧ GroundAt CF CG H0 H a g ∧ (p < g.places → Q .non H) ∧ (¬ p < g.places → ∀ H' d, Same H H' → H' d = some (.xd (cF (-2))) → E (.ref CR) (some d) H')
/-- Ground.told_levels -/
def spTold (CF CG : Addr) : Sp := fun vs H Q _ => ∃ (H0 : Hp) (g0 g : Ground) (a hh : Addr) (B : Nat), vs = [.ref a, .ref hh] ∧ GroundAt CF CG H0 H a g0 ∧ g.rows = g0.rows ∧ g.cols = g0.cols ∧ H hh = some (.lst (nv g.heights)) ∧ Wf g B ∧ B < Uw11.HIGH ∧
  ∀ H' l, Same H H' → H l = none → H' l = some (.lst (V.int g.kept :: nv g.levels)) → Q (.ref l) H'
/-- Ground.__init__ -/
def spGI (CF CG : Addr) : Sp := fun vs H Q _ => ∃ (H0 : Hp) (a dx : Addr), vs = [.ref a] ∧ Same H0 H ∧ H0 a = none ∧ H a = some (.ins CG dx []) ∧ ∀ H', GroundAt CF CG H0 H' a Uw11.init → Q .non H'
theorem wf_flat {r c : Nat} (hr : 1 ≤ r) (hc : 1 ≤ c) (h : r * c ≤ 25) : Wf ⟨r, c, List.replicate (r * c) 0⟩ 0 := ⟨hr, hc, h, List.length_replicate .., fun p => by
  unfold Ground.height
  rw [List.getD_eq_getElem?_getD, List.getElem?_replicate]
  by_cases z : p < r * c
  · rw [if_pos z]
    exact Nat.le_refl _
  · rw [if_neg z]
    exact Nat.le_refl _⟩
theorem wf_init : Wf Uw11.init 0 := wf_flat (r := 1) (c := 1) (Nat.le_refl _) (Nat.le_refl _) (by decide)

section
variable {P : Program} {w : World} {K : PySem.W.Frag} {mg : Str → Option Value} {base : Heap} {CF CG CR fR : Addr}
/-! ### the refusal -/
theorem scRI : FnScope ["self", "code"] ["self", "code"] (defScope sRI) := ⟨rfl, rfl, rfl, by decide +kernel, rfl, by decide +kernel, by decide +kernel⟩
theorem ok_ri {f : Addr} {fd : FuncData} (T : Txt K mg CF CG CR) (R : RefT K mg CR fR) (F : Fun K "__init__" "Refused.__init__" sRI f fd) : FnOk P w K mg base CX0 1 f fd ["self", "code"] (spRI CR) := by
  refine F.ok scRI (fun vs H Q E h => ?_) (fun cdv A outer s H vs Q E hr h => ?_)
  · obtain ⟨a, c, rfl, _⟩ := h
    rfl
  · obtain ⟨a, c, rfl, ha, k⟩ := h
    refine ⟨_, pss_cons (ps_expr (pe_veinit rfl T.valErr (veInit _) (pa_cons (pv 0) (pa_cons pe_str pa_nil)))) (pss_one (ps_ost (pv 0) (pv 1))), ?_⟩
    refine ⟨_, rfl, a, CR, _, rfl, (by show 1 ≤ 1000; decide), R.ox, ha, ?_⟩
    refine ⟨_, rfl, _, rfl, a, CR, rfl, R.ox, R.nC, .inl ⟨ha, fun d nd ne => ?_⟩⟩
    refine k _ d (fun b o e hb => ?_) upd_same ?_ nd
    · rw [upd_ne hb, upd_ne (ne_of_none e nd)]
      exact e
    · rw [upd_ne ne, upd_same]
      rfl
theorem passE {cdv : Value} {A : Around} {outer : List Env} {s : Shared} {H : Hp} {E : XK} {N : List Str} {qual : Str} {scope : Scope} {f : Addr} : Passes (L2.CX P w) (cxOf (L2.CX P w) P w K mg base N qual scope f cdv A outer s H E) E :=
  passes_call (takes_of rfl rfl rfl rfl) (fun _ _ _ _ h => h)
theorem scWant : FnScope ["truth", "code"] ["truth", "code"] (defScope sWant) := ⟨rfl, rfl, rfl, by decide +kernel, rfl, by decide +kernel, by decide +kernel⟩
theorem ok_want {f : Addr} {fd fdR : FuncData} (R : RefT K mg CR fR) (GR : FnOk P w K mg base CX0 1 fR fdR ["self", "code"] (spRI CR)) (bR : Binds K fdR ["self", "code"] []) (F : Fun K "want" "want" sWant f fd) : FnOk P w K mg base (L2.CX P w) 3 f fd ["truth", "code"] (spWant CR) := by
  refine F.okX scWant (fun vs H Q E h => ?_) (fun cdv A outer s H vs Q E hr h => ?_)
  · obtain ⟨t, c, rfl, _⟩ := h
    rfl
  · obtain ⟨t, c, rfl, k1, k2⟩ := h
    refine ⟨_, pss_one (ps_if (pt_not (pt_val (pv 0))) (pss_one (ps_raise rfl (takes_of rfl rfl rfl rfl) (pmk_oex R.ox R.iC R.tI GR hr bR .nil pass0 rfl R.gR (pa_cons (pv 1) pa_nil)))) pss_nil), ?_⟩
    refine ⟨_, rfl, _, rfl, ?_⟩
    cases t with
    | true => exact iteF (k1 rfl)
    | false =>
      refine iteT ?_
      refine ⟨_, rfl, (by show 1 ≤ 1000; decide), fun a na => ?_⟩
      refine ⟨a, c, rfl, upd_same, fun H2 d keep e1 e2 nd => ⟨rfl, d, cF c, e1, e2, ?_, ?_⟩⟩
      · by_cases z : d = a
        · rw [z]
          exact na
        · rw [upd_ne z] at nd
          exact nd
      · have nd0 : H d = none := by
          by_cases z : d = a
          · rw [z]
            exact na
          · rw [upd_ne z] at nd
            exact nd
        refine k2 rfl _ d (fun b o e => ?_) upd_same
        have hba : b ≠ a := ne_of_none e na
        rw [upd_ne (ne_of_none e nd0), del_ne hba]
        exact keep b o (by rw [upd_ne hba]; exact e) hba
/-! ### want_place -/
theorem scWP : FnScope ["self", "place"] ["self", "place"] (defScope sWP) := ⟨rfl, rfl, rfl, by decide +kernel, rfl, by decide +kernel, by decide +kernel⟩
theorem ok_wp {f : Addr} {fd : FuncData} (T : Txt K mg CF CG CR) (F : Fun K "want_place" "Ground.want_place" sWP f fd) (DW : DefOk P w K mg base (L2.CX P w) "want" 3 ["truth", "code"] (spWant CR)) : FnOk P w K mg base (L2.CX P w) 4 f fd ["self", "place"] (spWP CF CG CR) := by
  obtain ⟨fW, fdW, GW, bW, mW, kW⟩ := DW
  refine F.okX scWP (fun vs H Q E h => ?_) (fun cdv A outer s H vs Q E hr h => ?_)
  · obtain ⟨H0, g, a, p, rfl, _⟩ := h
    rfl
  · obtain ⟨H0, g, a, p, rfl, G, k1, k2⟩ := h
    obtain ⟨t, hNP⟩ := T.noPlace
    obtain ⟨dx, f, h, e1, FA, e3, e4⟩ := G.ex
    obtain ⟨dx2, nl, as, e5, -, -, -, -⟩ := FA.ex
    refine ⟨_, pss_one (ps_expr (pe_call GW hr rfl mW kW bW .nil passE (pa_cons (pe_cmpR op_lt (pv 1) (pe_fld (pe_fld (pv 0) rfl) rfl) (nomark _)) (pa_cons (pe_glob (v := .int (-2)) rfl hNP ⟨_, rfl⟩) pa_nil)))), ?_⟩
    refine ⟨_, rfl, _, rfl, a, CG, dx, _, _, rfl, e1, T.clG, T.nField, gF_field _ _, f, CF, dx2, _, _, rfl, e5, T.clF, T.nMany, fF_many _ _, _, _, rfl, rfl, ?_⟩
    refine ⟨decide ((p : Int) < ((g.places : Nat) : Int)), -2, rfl, fun z => ?_, fun z H' d s1 e => ?_⟩
    · have z := of_decide_eq_true z
      exact k1 (by omega)
    · have z := of_decide_eq_false z
      exact k2 (by omega) H' d s1 e
/-! ### told_levels -/
theorem scTold : FnScope ["self", "heights", "levels"] ["self", "heights"] (defScope sTold) := ⟨rfl, rfl, rfl, by decide +kernel, rfl, by decide +kernel, by decide +kernel⟩
theorem ok_told {f : Addr} {fd : FuncData} (T : Txt K mg CF CG CR) (F : Fun K "told_levels" "Ground.told_levels" sTold f fd) (DL : DefOk P w K mg base CX0 "levels_of" 2 ["field", "heights"] (spLev CF)) : FnOk P w K mg base CX0 3 f fd ["self", "heights"] (spTold CF CG) := by
  obtain ⟨fL, fdL, GL, bL, mL, kL⟩ := DL
  refine F.ok scTold (fun vs H Q E h => ?_) (fun cdv A outer s H vs Q E hr h => ?_)
  · obtain ⟨H0, g0, g, a, hh, B, rfl, _⟩ := h
    rfl
  · obtain ⟨H0, g0, g, a, hh, B, rfl, G, er, ec, hH, W, hB, k⟩ := h
    obtain ⟨dx, f, h, e1, FA, e3, e4⟩ := G.ex
    refine ⟨_, pss_cons (ps_set (i := 2) scTold.nd rfl (Or.inl rfl) (pe_call GL hr rfl mL kL bL .nil pass0 (pa_cons (pe_fld (pv 0) rfl) (pa_cons (pv 1) pa_nil))))
      (pss_one (ps_ret (pe_op op_cat (pe_lst (pa_cons (pe_op op_sub (pe_callB (cr_sum rfl) (by rfl) T.sum (by decide +kernel) (pa_cons (pv 2) pa_nil)) (pe_callB (cr_sum rfl) (by rfl) T.sum (by decide +kernel) (pa_cons (pv 1) pa_nil))) pa_nil)) (pv 2)))), ?_⟩
    refine ⟨_, rfl, a, CG, dx, _, _, rfl, e1, T.clG, T.nField, gF_field _ _, _, rfl, H0, g, B, f, hh, rfl, W, hB, FA.shape er ec, hH, fun H1 l s1 nl el => ?_⟩
    refine ⟨_, rfl, l, _, rfl, SqL.of el, _, rfl, hh, _, rfl, SqL.of (s1 _ _ hH), _, _, rfl, rfl, (show 1 ≤ sizeLine by decide), fun l2 n2 => ?_⟩
    have s2 := same_new (o := .lst [V.int ((intsOf g.levels).sum - (intsOf g.heights).sum)]) n2
    have hp25 : g.places ≤ 25 := W.pl
    refine ⟨_, rfl, l2, l, _, _, rfl, rfl, upd_same, s2 _ _ el, Nat.le_of_lt (small25 (by rw [nv_len, levels_len]; simp; omega)), fun l3 n3 => ?_⟩
    refine k _ l3 ((s1.trans s2).trans (same_new n3)) ((s1.trans s2).free n3) ?_
    rw [upd_same]
    show some (HO.lst (V.int ((intsOf g.levels).sum - (intsOf g.heights).sum) :: nv g.levels)) = _
    rw [kept_int W]
/-! ### Ground.__init__ -/
theorem scGI : FnScope ["self"] ["self"] (defScope sGI) := ⟨rfl, rfl, rfl, by decide +kernel, rfl, by decide +kernel, by decide +kernel⟩
theorem ok_gi {f : Addr} {fd : FuncData} (T : Txt K mg CF CG CR) (F : Fun K "__init__" "Ground.__init__" sGI f fd) (DM : MakeOk P w K mg base CX0 "Field" CF 2 ["self", "rows", "columns"] (spFI CF)) : FnOk P w K mg base CX0 4 f fd ["self"] (spGI CF CG) := by
  obtain ⟨fM, fdM, GM, bM, MK, mM⟩ := DM
  refine F.ok scGI (fun vs H Q E h => ?_) (fun cdv A outer s H vs Q E hr h => ?_)
  · obtain ⟨H0, a, dx, rfl, _⟩ := h
    rfl
  · obtain ⟨H0, a, dx, rfl, s0, na, ha, k⟩ := h
    refine ⟨_, pss_cons (ps_fld (pv 0) (pe_make MK GM hr rfl mM bM .nil pass0 (pa_cons pe_int (pa_cons pe_int pa_nil))) rfl) (pss_one (ps_fld (pv 0) (pe_lst (pa_cons pe_int pa_nil)) rfl)), ?_⟩
    intro x dx2 nx ndx nex
    have s1 : Same H (upd (upd H dx2 (.own x)) x (.ins CF dx2 [])) := fun b o e => by
      rw [upd_ne (ne_of_none e nx), upd_ne (ne_of_none e ndx)]
      exact e
    refine ⟨H, Uw11.init, 0, x, dx2, rfl, wf_init, s1, nx, upd_same, fun H1 FA keep => ⟨rfl, ?_⟩⟩
    have s2 : Same H H1 := Same.made nx ndx keep
    refine ⟨_, rfl, a, CG, dx, [], rfl, s2 _ _ ha, T.clG, T.nField, (by show 0 < 1000; decide), ?_⟩
    refine ⟨(show 1 ≤ sizeLine by decide), fun l nl => ?_⟩
    have nla : l ≠ a := fun z => by
      rw [z, upd_same] at nl
      cases nl
    refine ⟨_, rfl, a, CG, dx, _, rfl, by rw [upd_ne nla.symm]; exact upd_same, T.clG, T.nHeights, (by show 1 < 1000; decide), ?_⟩
    have nl1 : H1 l = none := by
      rw [upd_ne nla] at nl
      exact nl
    have hxa : x ≠ a := fun z => by
      rw [z] at nx
      rw [ha] at nx
      cases nx
    refine k _ ⟨fun b o e => ?_, na, dx, x, l, by rw [upd_same]; exact congrArg (fun q => some (HO.ins CG dx q)) (gF_new x l), ?_, (s0.trans s2).free nl1, by rw [upd_ne nla, upd_same]; rfl⟩
    · have hb : b ≠ a := fun z => by
        rw [z, na] at e
        cases e
      have e1 := s2 _ _ (s0 _ _ e)
      rw [upd_ne hb, upd_ne (ne_of_none e1 nl1), upd_ne hb]
      exact e1
    · refine FA.keep (fun _ z => s0.free z) (fun b o hb e => ?_) rfl rfl
      have hba : b ≠ a := fun z => by
        rw [z, ha] at hb
        cases hb
      rw [upd_ne hba, upd_ne (ne_of_none e nl1), upd_ne hba]
      exact e
/-! ### begins -/
def aBegins (x : Uw11.Call) (ws : List V) : Prop := ∃ r c : Nat, r < 2 ^ 32 ∧ c < 2 ^ 32 ∧ x = .begins r c ∧ ws = [.int r, .int c]
theorem scBegins : FnScope ["self", "rows", "columns"] ["self", "rows", "columns"] (defScope sBegins) := ⟨rfl, rfl, rfl, by decide +kernel, rfl, by decide +kernel, by decide +kernel⟩
theorem nv_rep (n : Nat) : (List.replicate n [V.int 0]).flatten = nv (List.replicate n 0) := by
  induction n with
  | zero => rfl
  | succ n ih =>
    rw [List.replicate_succ, List.flatten_cons, ih]
    rfl
theorem ok_begins {f : Addr} {fd : FuncData} (T : Txt K mg CF CG CR) (F : Fun K "begins" "Ground.begins" sBegins f fd) (DW : DefOk P w K mg base (L2.CX P w) "want" 3 ["truth", "code"] (spWant CR)) (DM : MakeOk P w K mg base CX0 "Field" CF 2 ["self", "rows", "columns"] (spFI CF)) :
    FnOk P w K mg base (L2.CX P w) 5 f fd ["self", "rows", "columns"] (spM CF CG CR aBegins) := by
  obtain ⟨fW, fdW, GW, bW, mW, kW⟩ := DW
  obtain ⟨fM, fdM, GM, bM, MK, mM⟩ := DM
  refine F.okX scBegins (fun vs H Q E h => ?_) (fun cdv A outer s H vs Q E hr h => ?_)
  · obtain ⟨H0, g, a, x, ws, rfl, ⟨r, c, -, -, -, rfl⟩, _⟩ := h
    rfl
  · obtain ⟨H0, g, a, x, ws, rfl, ⟨r, c, hr32, hc32, rfl, rfl⟩, G, W, k1, k2⟩ := h
    obtain ⟨tP, hP⟩ := T.mPlaces
    obtain ⟨tB, hB⟩ := T.bad
    obtain ⟨dx, ff, hh, e1, FA0, e3, e4⟩ := G.ex
    have hr3 : Room 3 _ := hr.mono (by decide)
    refine ⟨_, pss_cons (ps_expr (pe_call GW hr3 rfl mW kW bW .nil passE (pa_cons (pe_and (pe_cmpR op_le pe_int (pv 1) (nomark _)) (pe_and (pe_cmpR op_le pe_int (pv 2) (nomark _)) (pe_one (pe_cmpR op_le (pe_op op_mul (pv 1) (pv 2)) (pe_glob (v := .int 25) rfl hP ⟨_, rfl⟩) (nomark _)))))
        (pa_cons (pe_glob (v := .int (-1)) rfl hB ⟨_, rfl⟩) pa_nil))))
      (pss_cons (ps_fld (pv 0) (pe_make MK GM hr3 rfl mM bM .nil pass0 (pa_cons (pv 1) (pa_cons (pv 2) pa_nil))) rfl)
      (pss_cons (ps_fld (pv 0) (pe_op op_rep (pe_lst (pa_cons pe_int pa_nil)) (pe_op op_mul (pv 1) (pv 2))) rfl)
      (pss_one (ps_ret (pe_lst (pa_cons pe_int pa_nil)))))), ?_⟩
    have emul : ((r : Int) * (c : Int)) = ((r * c : Nat) : Int) := (Int.natCast_mul _ _).symm
    have cm : CMul (r : Int) (c : Int) := .inl ⟨by omega, by omega⟩
    -- refused
    have no : (r < 1 ∨ c < 1 ∨ Uw11.PLACES < r * c) → ∀ H' d, Same H H' → H' d = some (.xd (cF (-1))) → E (.ref CR) (some d) H' := fun z H' d s1 e => by
      have st : Uw11.step g (.begins r c) = (g, Uw11.ok (-1)) := if_pos z
      refine k2 H' d (-1) s1 e ?_ ?_
      · unfold ans
        rw [st]
        rfl
      · rw [st]
    refine ⟨_, rfl, _, _, rfl, rfl, _, rfl, ?_⟩
    refine ite2 (fun c1 => ?_) (fun c1 => ?_)
    case refine_2 =>
      have c1 : ¬ (1 : Int) ≤ (r : Int) := fun z => c1 (decide_eq_true z)
      exact ⟨false, -1, rfl, (fun z => by cases z), fun _ => no (.inl (by omega))⟩
    have c1 := of_decide_eq_true c1
    refine ⟨_, rfl, _, _, rfl, rfl, _, rfl, ?_⟩
    refine ite2 (fun c2 => ?_) (fun c2 => ?_)
    case refine_2 =>
      have c2 : ¬ (1 : Int) ≤ (c : Int) := fun z => c2 (decide_eq_true z)
      exact ⟨false, -1, rfl, (fun z => by cases z), fun _ => no (.inr (.inl (by omega)))⟩
    have c2 := of_decide_eq_true c2
    refine ⟨_, rfl, _, rfl, _, _, rfl, rfl, cm, _, _, rfl, rfl, ?_⟩
    refine ⟨decide ((r : Int) * (c : Int) ≤ 25), -1, rfl, fun c3 => ?_, fun c3 => no (.inr (.inr ?_))⟩
    case refine_2 =>
      have c3 := of_decide_eq_false c3
      rw [emul] at c3
      show 25 < r * c
      omega
    have c3 := of_decide_eq_true c3
    rw [emul] at c3
    have c4 : r * c ≤ 25 := by omega
    have WN : Wf ⟨r, c, List.replicate (r * c) 0⟩ 0 := wf_flat (by omega) (by omega) c4
    have st : Uw11.step g (.begins r c) = (⟨r, c, List.replicate (r * c) 0⟩, Uw11.ok 0) := if_neg (by
      show ¬ (r < 1 ∨ c < 1 ∨ 25 < r * c)
      omega)
    refine ⟨_, rfl, _, rfl, ?_⟩
    intro x dx2 nx ndx nex
    have s1 : Same H (upd (upd H dx2 (.own x)) x (.ins CF dx2 [])) := fun b o e => by
      rw [upd_ne (ne_of_none e nx), upd_ne (ne_of_none e ndx)]
      exact e
    refine ⟨H, ⟨r, c, List.replicate (r * c) 0⟩, 0, x, dx2, rfl, WN, s1, nx, upd_same, fun H1 FA keep => ⟨rfl, ?_⟩⟩
    have s2 : Same H H1 := Same.made nx ndx keep
    refine ⟨_, rfl, a, CG, dx, _, rfl, s2 _ _ e1, T.clG, T.nField, (by show 2 < 1000; decide), ?_⟩
    refine ⟨(show 1 ≤ sizeLine by decide), fun l1 n1 => ?_⟩
    refine ⟨_, rfl, _, rfl, _, _, rfl, rfl, cm, l1, _, _, rfl, rfl, upd_same, by omega, by omega, Nat.le_of_lt (small25 (by rw [emul]; show 1 * (r * c) ≤ _; omega)), fun l nl => ?_⟩
    generalize hX : upd H1 a (.ins CG dx (putF "field" (.ref x) (gF ff hh))) = X1 at n1 nl ⊢
    have x1a : X1 a = some (.ins CG dx (gF x hh)) := by
      rw [← hX, upd_same, gF_putF]
    have l1a : l1 ≠ a := (ne_of_none x1a n1).symm
    have la : l ≠ a := fun z => by
      rw [z, upd_ne l1a.symm, x1a] at nl
      cases nl
    have nlX : X1 l = none := by
      by_cases z : l = l1
      · rw [z]
        exact n1
      · rw [upd_ne z] at nl
        exact nl
    have h1n : ∀ b, X1 b = none → H1 b = none := fun b e => by
      rw [← hX] at e
      by_cases z : b = a
      · rw [z, upd_same] at e
        cases e
      · rw [upd_ne z] at e
        exact e
    have sX : ∀ b o, H1 b = some o → b ≠ a → X1 b = some o := fun b o e hb => by
      rw [← hX, upd_ne hb]
      exact e
    refine ⟨_, rfl, a, CG, dx, _, rfl, by rw [upd_ne la.symm, upd_ne l1a.symm]; exact x1a, T.clG, T.nHeights, (by show 2 < 1000; decide), ?_⟩
    have na := G.na
    have GN : GroundAt CF CG H0 (upd (upd (upd X1 l1 (.lst [V.int 0])) l (.lst (List.replicate ((r : Int) * (c : Int)).toNat [V.int 0]).flatten)) a (.ins CG dx (putF "heights" (.ref l) (gF x hh)))) a ⟨r, c, List.replicate (r * c) 0⟩ := by
      refine ⟨fun b o e => ?_, na, dx, x, l, ?_, ?_, (G.sm.trans s2).free (h1n l nlX), ?_⟩
      · have hb : b ≠ a := fun z => by
          rw [z, na] at e
          cases e
        have q := sX b o (s2 _ _ (G.sm _ _ e)) hb
        rw [upd_ne hb, upd_ne (ne_of_none q nlX), upd_ne (ne_of_none q n1)]
        exact q
      · rw [upd_same, gF_putH]
      · refine FA.keep (fun _ z => G.sm.free z) (fun b o hb e => ?_) rfl rfl
        have hba : b ≠ a := fun z => by
          rw [z, e1] at hb
          cases hb
        have q := sX b o e hba
        rw [upd_ne hba, upd_ne (ne_of_none q nlX), upd_ne (ne_of_none q n1)]
        exact q
      · rw [upd_ne la, upd_same, emul]
        exact congrArg (fun q => some (HO.lst q)) (nv_rep (r * c))
    refine ⟨(show 1 ≤ sizeLine by decide), fun p np => ?_⟩
    refine k1 _ p ?_ (GN.sm.free np) ?_
    · rw [st]
      exact GN.same (same_new np)
    · rw [upd_same]
      unfold ans
      rw [st]
      rfl
end
end GW
/-! The walk, fifth part: the other methods of a ground. -/
namespace GW
open PySem PySem.Spec PyProof.Rows L2
open Uw11 (Ground)
open C8 (tCut pss_cut)
theorem runs_lt {g : Ground} {B : Nat} (W : Wf g B) : ∀ n p, p < g.places → ∀ q ∈ g.runs n p, q < g.places
  | 0, p, hp, q, hq => by
    have : q = p := by simpa [Ground.runs] using hq
    omega
  | n + 1, p, hp, q, hq => by
    cases e : g.down p with
    | none =>
      rw [runs_none e] at hq
      have : q = p := by simpa using hq
      omega
    | some r =>
      rw [runs_some e] at hq
      rcases List.mem_cons.mp hq with h | h
      · omega
      · exact runs_lt W n r (beside_lt W hp (down_some e).1) q h
theorem course_last {g : Ground} {B p : Nat} (W : Wf g B) (hp : p < g.places) : ∃ pre c, course g p = pre ++ [c] ∧ c < g.places := by
  have h1 := runs_pos g g.places p
  have ne : course g p ≠ [] := fun z => by
    unfold course at z
    rw [z] at h1
    exact absurd h1 (by decide)
  refine ⟨(course g p).dropLast, (course g p).getLast ne, (List.dropLast_concat_getLast ne).symm, ?_⟩
  exact runs_lt W g.places p hp _ (List.getLast_mem ne)
theorem course_len {g : Ground} {B p : Nat} (W : Wf g B) : (course g p).length ≤ 26 := by
  have h1 := runs_len g g.places p
  have h2 : g.places ≤ 25 := W.pl
  show (g.runs g.places p).length ≤ 26
  omega
def aHeight (x : Uw11.Call) (ws : List V) : Prop := ∃ p h : Nat, x = .height p h ∧ ws = [.int p, .int h]
def aDrop (x : Uw11.Call) (ws : List V) : Prop := ∃ p : Nat, x = .drop p ∧ ws = [.int p]
def aCheck (x : Uw11.Call) (ws : List V) : Prop := ∃ p n : Nat, x = .check p n ∧ ws = [.int p, .int n]
def aBest (x : Uw11.Call) (ws : List V) : Prop := ∃ n : Nat, x = .best n ∧ ws = [.int n]
def aThrow (x : Uw11.Call) (ws : List V) : Prop := ∃ p n : Nat, x = .raise p n ∧ ws = [.int p, .int n]
section
variable {P : Program} {w : World} {K : PySem.W.Frag} {mg : Str → Option Value} {base : Heap} {CF CG CR fR : Addr}
/-! ### height -/
theorem scHeight : FnScope ["self", "place", "height"] ["self", "place", "height"] (defScope sHeight) := ⟨rfl, rfl, rfl, by decide +kernel, rfl, by decide +kernel, by decide +kernel⟩
theorem ok_height {f : Addr} {fd : FuncData} (T : Txt K mg CF CG CR) (F : Fun K "height" "Ground.height" sHeight f fd) (DW : DefOk P w K mg base (L2.CX P w) "want" 3 ["truth", "code"] (spWant CR)) (DP : MethOk P w K mg base (L2.CX P w) CG "want_place" 4 ["self", "place"] (spWP CF CG CR)) :
    FnOk P w K mg base (L2.CX P w) 5 f fd ["self", "place", "height"] (spM CF CG CR aHeight) := by
  obtain ⟨fW, fdW, GW, bW, mW, kW⟩ := DW
  obtain ⟨fP, fdP, GP, bP, mP⟩ := DP
  refine F.okX scHeight (fun vs H Q E h => ?_) (fun cdv A outer s H vs Q E hr h => ?_)
  · obtain ⟨H0, g, a, x, ws, rfl, ⟨p, h, -, rfl⟩, _⟩ := h
    rfl
  · obtain ⟨H0, g, a, x, ws, rfl, ⟨p, v, rfl, rfl⟩, G, W, k1, k2⟩ := h
    obtain ⟨tP, hP⟩ := T.mHeight
    obtain ⟨tB, hB⟩ := T.bad
    obtain ⟨dx, ff, hh, e1, FA, e3, e4⟩ := G.ex
    have hr3 : Room 3 _ := hr.mono (by decide)
    refine ⟨_, pss_cons (ps_expr (pe_meth (pv 0) T.clG mP GP hr bP .nil passE (pa_cons (pv 1) pa_nil)))
      (pss_cons (ps_expr (pe_call GW hr3 rfl mW kW bW .nil passE (pa_cons (pe_cmpR op_le (pv 2) (pe_glob (v := .int 1000) rfl hP ⟨_, rfl⟩) (nomark _)) (pa_cons (pe_glob (v := .int (-1)) rfl hB ⟨_, rfl⟩) pa_nil))))
      (pss_cons (ps_fld (pv 0) (pe_op op_cat (pe_op op_cat (pe_slice sl_list (pe_fld (pv 0) rfl) po_none (po_some (pv 1))) (pe_lst (pa_cons (pv 2) pa_nil))) (pe_slice sl_list (pe_fld (pv 0) rfl) (po_some (pe_op op_add (pv 1) pe_int)) po_none)) rfl)
      (pss_one (ps_ret (pe_lst (pa_cons pe_int pa_nil)))))), ?_⟩
    have hp25 : g.places ≤ 25 := W.pl
    refine ⟨_, rfl, a, dx, _, rfl, e1, gF_no _ _ (by decide +kernel) (by decide +kernel), _, rfl, H0, g, a, p, rfl, G, fun hp => ?_, fun hp H' d s1 e => ?_⟩
    case refine_2 =>
      have st : Uw11.step g (.height p v) = (g, Uw11.ok (-2)) := if_pos (Nat.le_of_not_lt hp)
      refine k2 H' d (-2) s1 e ?_ ?_
      · unfold ans
        rw [st]
        rfl
      · rw [st]
    refine ⟨_, rfl, _, _, rfl, rfl, decide ((v : Int) ≤ 1000), -1, rfl, fun c => ?_, fun c H' d s1 e => ?_⟩
    case refine_2 =>
      have c := of_decide_eq_false c
      have st : Uw11.step g (.height p v) = (g, Uw11.ok (-1)) := (if_neg (Nat.not_le_of_lt hp)).trans (if_pos (show 1000 < v by omega))
      refine k2 H' d (-1) s1 e ?_ ?_
      · unfold ans
        rw [st]
        rfl
      · rw [st]
    have c := of_decide_eq_true c
    have st : Uw11.step g (.height p v) = ({ g with heights := g.heights.set p v }, Uw11.ok 0) := (if_neg (Nat.not_le_of_lt hp)).trans (if_neg (show ¬ 1000 < v by omega))
    have hl : p < g.heights.length := by rw [W.len]; exact hp
    have hl25 : g.heights.length ≤ 25 := by
      rw [W.len]
      exact W.pl
    refine ⟨_, rfl, a, CG, dx, _, _, rfl, e1, T.clG, T.nHeights, gF_heights _ _, _, rfl, _, rfl, hh, _, rfl, SqL.of e4, fun l1 n1 => ?_⟩
    rw [cut_take _ _ (by rw [nv_len]; omega)]
    have s1 := same_new (o := .lst ((nv g.heights).take p)) n1
    refine ⟨_, rfl, (show 1 ≤ sizeLine by decide), fun l2 n2 => ?_⟩
    have s2 := same_new (o := .lst [V.int (v : Nat)]) n2
    refine ⟨l1, l2, _, _, rfl, rfl, s2 _ _ upd_same, upd_same, Nat.le_of_lt (small25 (by rw [List.length_take, nv_len]; simp; omega)), fun l3 n3 => ?_⟩
    have s3 := same_new (o := .lst ((nv g.heights).take p ++ [V.int (v : Nat)])) n3
    have s123 := (s1.trans s2).trans s3
    refine ⟨_, rfl, a, CG, dx, _, _, rfl, s123 _ _ e1, T.clG, T.nHeights, gF_heights _ _, _, rfl, _, _, rfl, rfl, _, rfl, hh, _, rfl, SqL.of (s123 _ _ e4), fun l4 n4 => ?_⟩
    rw [cut_drop _ (p + 1) _ (by omega) (by rw [nv_len]; omega)]
    have s4 := same_new (o := .lst ((nv g.heights).drop (p + 1))) n4
    refine ⟨l3, l4, _, _, rfl, rfl, s4 _ _ upd_same, upd_same, Nat.le_of_lt (small25 (by rw [List.length_append, List.length_take, List.length_drop, nv_len]; simp; omega)), fun l5 n5 => ?_⟩
    have s5 := same_new (o := .lst ((nv g.heights).take p ++ [V.int (v : Nat)] ++ (nv g.heights).drop (p + 1))) n5
    have sAll := (s123.trans s4).trans s5
    refine ⟨_, rfl, a, CG, dx, _, rfl, sAll _ _ e1, T.clG, T.nHeights, (by show 2 < 1000; decide), ?_⟩
    have GN := G.put (g' := { g with heights := g.heights.set p v }) e1 FA sAll rfl rfl ((G.sm.trans (s123.trans s4)).free n5) (by rw [upd_same, nv_set _ _ _ hl])
    refine ⟨(show 1 ≤ sizeLine by decide), fun q nq => ?_⟩
    refine k1 _ q ?_ (GN.sm.free nq) ?_
    · rw [st]
      exact GN.same (same_new nq)
    · rw [upd_same]
      unfold ans
      rw [st]
      rfl
/-! ### drop -/
theorem scGDrop : FnScope ["self", "place", "found"] ["self", "place"] (defScope sGDrop) := ⟨rfl, rfl, rfl, by decide +kernel, rfl, by decide +kernel, by decide +kernel⟩
theorem ok_gdrop {f : Addr} {fd : FuncData} (T : Txt K mg CF CG CR) (F : Fun K "drop" "Ground.drop" sGDrop f fd) (DP : MethOk P w K mg base (L2.CX P w) CG "want_place" 4 ["self", "place"] (spWP CF CG CR))
    (DD : DefOk P w K mg base CX0 "drop_from" 2 ["field", "heights", "place"] (spDrop CF)) (DE : MethOk P w K mg base CX0 CF "is_edge" 1 ["self", "place"] (spEdge CF)) : FnOk P w K mg base (L2.CX P w) 5 f fd ["self", "place"] (spM CF CG CR aDrop) := by
  obtain ⟨fP, fdP, GP, bP, mP⟩ := DP
  obtain ⟨fD, fdD, GD, bD, mD, kD⟩ := DD
  obtain ⟨fE, fdE, GE, bE, mE⟩ := DE
  refine F.okX scGDrop (fun vs H Q E h => ?_) (fun cdv A outer s H vs Q E hr h => ?_)
  · obtain ⟨H0, g, a, x, ws, rfl, ⟨p, -, rfl⟩, _⟩ := h
    rfl
  · obtain ⟨H0, g, a, x, ws, rfl, ⟨p, rfl, rfl⟩, G, W, k1, k2⟩ := h
    obtain ⟨dx, ff, hh, e1, FA, e3, e4⟩ := G.ex
    obtain ⟨dx2, nl, as, e5, -, -, -, -⟩ := id FA.ex
    have hr2 : Room 2 _ := hr.mono (by decide)
    have hr1 : Room 1 _ := hr.mono (by decide)
    refine ⟨_, pss_cons (ps_expr (pe_meth (pv 0) T.clG mP GP hr bP .nil passE (pa_cons (pv 1) pa_nil)))
      (pss_cons (ps_set (i := 2) scGDrop.nd rfl (Or.inl rfl) (pe_call GD hr2 rfl mD kD bD .nil pass0 (pa_cons (pe_fld (pv 0) rfl) (pa_cons (pe_fld (pv 0) rfl) (pa_cons (pv 1) pa_nil)))))
      (pss_one (ps_ret (pe_op op_cat (pe_lst (pa_cons (pe_callTy call_int1 (by rfl) T.int (by decide +kernel) (pa_cons (pe_meth (pe_fld (pv 0) rfl) T.clF mE GE hr1 bE .nil pass0 (pa_cons (pe_ix ix_list (pv 2) (pe_un un_neg pe_int) (fun _ _ => rfl)) pa_nil)) pa_nil)) pa_nil)) (pv 2))))), ?_⟩
    refine ⟨_, rfl, a, dx, _, rfl, e1, gF_no _ _ (by decide +kernel) (by decide +kernel), _, rfl, H0, g, a, p, rfl, G, fun hp => ?_, fun hp H' d s1 e => ?_⟩
    case refine_2 =>
      have st : Uw11.step g (.drop p) = (g, Uw11.ok (-2)) := if_pos (Nat.le_of_not_lt hp)
      refine k2 H' d (-2) s1 e ?_ ?_
      · unfold ans
        rw [st]
        rfl
      · rw [st]
    have st : Uw11.step g (.drop p) = (g, ⟨(Uw11.bit (g.edge ((g.runs g.places p).getLastD p)) : Nat), g.runs g.places p⟩) := if_neg (Nat.not_le_of_lt hp)
    obtain ⟨pre, c, ec, hc⟩ := course_last W hp
    have hlen := course_len (p := p) W
    refine ⟨_, rfl, a, CG, dx, _, _, rfl, e1, T.clG, T.nField, gF_field _ _, _, rfl, a, CG, dx, _, _, rfl, e1, T.clG, T.nHeights, gF_heights _ _, _, rfl, H0, g, 1000, p, ff, hh, rfl, W, FA, e4, hp, fun H1 l s1 el => ?_⟩
    have last : atI (nv (course g p)) (-1) = some (V.int (c : Nat)) := by
      rw [ec, nv_app]
      exact atI_last _ _
    refine ⟨_, rfl, a, CG, dx, _, _, rfl, s1 _ _ e1, T.clG, T.nField, gF_field _ _, ff, dx2, _, rfl, s1 _ _ e5, fF_edge _ _, _, rfl, _, rfl, l, _, _, _, rfl, rfl, SqL.of el, last, H0, g, 1000, c, ff, rfl, W, FA.same s1, hc, .inr ⟨g.edge c, rfl, ?_⟩⟩
    refine ⟨(show 1 ≤ sizeLine by decide), fun l2 n2 => ?_⟩
    have s2 := same_new (o := .lst [V.int (if g.edge c = true then 1 else 0)]) n2
    refine ⟨_, rfl, l2, l, _, _, rfl, rfl, upd_same, s2 _ _ el, Nat.le_of_lt (small25 (by rw [nv_len]; simp; omega)), fun l3 n3 => ?_⟩
    refine k1 _ l3 ?_ ((G.same (s1.trans s2)).sm.free n3) ?_
    · rw [st]
      exact G.same ((s1.trans s2).trans (same_new n3))
    · rw [upd_same]
      unfold ans
      rw [st]
      have e6 : (g.runs g.places p).getLastD p = c := by
        have : g.runs g.places p = pre ++ [c] := ec
        rw [this]
        simp
      show some (HO.lst (V.int (if g.edge c = true then 1 else 0) :: nv (g.runs g.places p))) = some (HO.lst (V.int (Uw11.bit (g.edge ((g.runs g.places p).getLastD p)) : Nat) :: nv (g.runs g.places p)))
      rw [e6]
      cases g.edge c <;> rfl
/-! ### check -/
theorem scCheck : FnScope ["self", "place", "more"] ["self", "place", "more"] (defScope sCheck) := ⟨rfl, rfl, rfl, by decide +kernel, rfl, by decide +kernel, by decide +kernel⟩
theorem ok_check {f : Addr} {fd : FuncData} (T : Txt K mg CF CG CR) (F : Fun K "check" "Ground.check" sCheck f fd) (DW : DefOk P w K mg base (L2.CX P w) "want" 3 ["truth", "code"] (spWant CR)) (DP : MethOk P w K mg base (L2.CX P w) CG "want_place" 4 ["self", "place"] (spWP CF CG CR))
    (DT : MethOk P w K mg base CX0 CG "told_levels" 3 ["self", "heights"] (spTold CF CG)) (DB : DefOk P w K mg base CX0 "with_bank" 1 ["heights", "place", "more"] (spBank K)) : FnOk P w K mg base (L2.CX P w) 5 f fd ["self", "place", "more"] (spM CF CG CR aCheck) := by
  obtain ⟨fW, fdW, GW, bW, mW, kW⟩ := DW
  obtain ⟨fP, fdP, GP, bP, mP⟩ := DP
  obtain ⟨fT, fdT, GT, bT, mT⟩ := DT
  obtain ⟨fB, fdB, GB, bB, mB, kB⟩ := DB
  refine F.okX scCheck (fun vs H Q E h => ?_) (fun cdv A outer s H vs Q E hr h => ?_)
  · obtain ⟨H0, g, a, x, ws, rfl, ⟨p, n, -, rfl⟩, _⟩ := h
    rfl
  · obtain ⟨H0, g, a, x, ws, rfl, ⟨p, n, rfl, rfl⟩, G, W, k1, k2⟩ := h
    obtain ⟨tP, hP⟩ := T.mMore
    obtain ⟨tB, hB⟩ := T.bad
    obtain ⟨dx, ff, hh, e1, FA, e3, e4⟩ := G.ex
    have hr3 : Room 3 _ := hr.mono (by decide)
    have hr1 : Room 1 _ := hr.mono (by decide)
    refine ⟨_, pss_cons (ps_expr (pe_meth (pv 0) T.clG mP GP hr bP .nil passE (pa_cons (pv 1) pa_nil)))
      (pss_cons (ps_expr (pe_call GW hr3 rfl mW kW bW .nil passE (pa_cons (pe_cmpR op_le (pv 2) (pe_glob (v := .int 1000) rfl hP ⟨_, rfl⟩) (nomark _)) (pa_cons (pe_glob (v := .int (-1)) rfl hB ⟨_, rfl⟩) pa_nil))))
      (pss_one (ps_ret (pe_meth (pv 0) T.clG mT GT hr3 bT .nil pass0 (pa_cons (pe_call GB hr1 rfl mB kB bB .nil pass0 (pa_cons (pe_fld (pv 0) rfl) (pa_cons (pv 1) (pa_cons (pv 2) pa_nil)))) pa_nil))))), ?_⟩
    refine ⟨_, rfl, a, dx, _, rfl, e1, gF_no _ _ (by decide +kernel) (by decide +kernel), _, rfl, H0, g, a, p, rfl, G, fun hp => ?_, fun hp H' d s1 e => ?_⟩
    case refine_2 =>
      have st : Uw11.step g (.check p n) = (g, Uw11.ok (-2)) := if_pos (Nat.le_of_not_lt hp)
      refine k2 H' d (-2) s1 e ?_ ?_
      · unfold ans
        rw [st]
        rfl
      · rw [st]
    refine ⟨_, rfl, _, _, rfl, rfl, decide ((n : Int) ≤ 1000), -1, rfl, fun c => ?_, fun c H' d s1 e => ?_⟩
    case refine_2 =>
      have c := of_decide_eq_false c
      have st : Uw11.step g (.check p n) = (g, Uw11.ok (-1)) := (if_neg (Nat.not_le_of_lt hp)).trans (if_pos (show 1000 < n by omega))
      refine k2 H' d (-1) s1 e ?_ ?_
      · unfold ans
        rw [st]
        rfl
      · rw [st]
    have c := of_decide_eq_true c
    have st : Uw11.step g (.check p n) = (g, ⟨((g.raised p n).kept : Nat), (g.raised p n).levels⟩) := (if_neg (Nat.not_le_of_lt hp)).trans (if_neg (show ¬ 1000 < n by omega))
    refine ⟨_, rfl, a, dx, _, rfl, e1, gF_no _ _ (by decide +kernel) (by decide +kernel), _, rfl, a, CG, dx, _, _, rfl, e1, T.clG, T.nHeights, gF_heights _ _, _, rfl, _, rfl, g, 1000, p, n, hh, rfl, W, hp, e4, fun H1 l s1 nl el => ?_⟩
    refine ⟨H0, g, g.raised p n, a, l, 2000, rfl, G.same s1, rfl, rfl, el, W.raised hp (by omega), (by decide), fun H2 l2 s2 nl2 el2 => ?_⟩
    refine k1 _ l2 ?_ ((G.same s1).sm.free nl2) ?_
    · rw [st]
      exact G.same (s1.trans s2)
    · rw [el2]
      unfold ans
      rw [st]
      rfl
/-! ### best -/
theorem scGBest : FnScope ["self", "most"] ["self", "most"] (defScope sGBest) := ⟨rfl, rfl, rfl, by decide +kernel, rfl, by decide +kernel, by decide +kernel⟩
theorem ok_gbest {f : Addr} {fd : FuncData} (T : Txt K mg CF CG CR) (F : Fun K "best" "Ground.best" sGBest f fd) (DW : DefOk P w K mg base (L2.CX P w) "want" 3 ["truth", "code"] (spWant CR)) (DB : DefOk P w K mg base CX0 "best_bank" 4 ["field", "heights", "most"] (spBest CF)) :
    FnOk P w K mg base (L2.CX P w) 5 f fd ["self", "most"] (spM CF CG CR aBest) := by
  obtain ⟨fW, fdW, GW, bW, mW, kW⟩ := DW
  obtain ⟨fB, fdB, GB, bB, mB, kB⟩ := DB
  refine F.okX scGBest (fun vs H Q E h => ?_) (fun cdv A outer s H vs Q E hr h => ?_)
  · obtain ⟨H0, g, a, x, ws, rfl, ⟨n, -, rfl⟩, _⟩ := h
    rfl
  · obtain ⟨H0, g, a, x, ws, rfl, ⟨n, rfl, rfl⟩, G, W, k1, k2⟩ := h
    obtain ⟨tP, hP⟩ := T.mBest
    obtain ⟨tB, hB⟩ := T.bad
    obtain ⟨dx, ff, hh, e1, FA, e3, e4⟩ := G.ex
    have hr3 : Room 3 _ := hr.mono (by decide)
    refine ⟨_, pss_cons (ps_expr (pe_call GW hr3 rfl mW kW bW .nil passE (pa_cons (pe_cmpR op_le (pv 1) (pe_glob (v := .int 20) rfl hP ⟨_, rfl⟩) (nomark _)) (pa_cons (pe_glob (v := .int (-1)) rfl hB ⟨_, rfl⟩) pa_nil))))
      (pss_one (ps_ret (pe_callTy call_list_of (by rfl) T.list (by decide +kernel) (pa_cons (pe_call GB hr rfl mB kB bB .nil pass0 (pa_cons (pe_fld (pv 0) rfl) (pa_cons (pe_fld (pv 0) rfl) (pa_cons (pv 1) pa_nil)))) pa_nil)))), ?_⟩
    refine ⟨_, rfl, _, _, rfl, rfl, decide ((n : Int) ≤ 20), -1, rfl, fun c => ?_, fun c H' d s1 e => ?_⟩
    case refine_2 =>
      have c := of_decide_eq_false c
      have st : Uw11.step g (.best n) = (g, Uw11.ok (-1)) := if_pos (show 20 < n by omega)
      refine k2 H' d (-1) s1 e ?_ ?_
      · unfold ans
        rw [st]
        rfl
      · rw [st]
    have c := of_decide_eq_true c
    have st : Uw11.step g (.best n) = (g, ⟨((g.best n).kept : Nat), [(g.best n).place, (g.best n).higher]⟩) := if_neg (show ¬ 20 < n by omega)
    refine ⟨_, rfl, a, CG, dx, _, _, rfl, e1, T.clG, T.nField, gF_field _ _, _, rfl, a, CG, dx, _, _, rfl, e1, T.clG, T.nHeights, gF_heights _ _, _, rfl, H0, g, 1000, n, ff, hh, rfl, W, by omega, (by show 1000 + n < 1000000; omega), FA, e4, fun H1 t s1 et => ?_⟩
    refine ⟨t, _, rfl, .inr (SqT.of et), fun l nl => ?_⟩
    refine k1 _ l ?_ ((G.same s1).sm.free nl) ?_
    · rw [st]
      exact G.same (s1.trans (same_new nl))
    · rw [upd_same]
      unfold ans
      rw [st]
      rfl
/-! ### throw_up -/
theorem scThrow : FnScope ["self", "place", "more"] ["self", "place", "more"] (defScope sThrow) := ⟨rfl, rfl, rfl, by decide +kernel, rfl, by decide +kernel, by decide +kernel⟩
theorem ok_throw {f : Addr} {fd : FuncData} (T : Txt K mg CF CG CR) (F : Fun K "throw_up" "Ground.throw_up" sThrow f fd) (DW : DefOk P w K mg base (L2.CX P w) "want" 3 ["truth", "code"] (spWant CR)) (DP : MethOk P w K mg base (L2.CX P w) CG "want_place" 4 ["self", "place"] (spWP CF CG CR))
    (DB : DefOk P w K mg base CX0 "with_bank" 1 ["heights", "place", "more"] (spBank K)) : FnOk P w K mg base (L2.CX P w) 5 f fd ["self", "place", "more"] (spM CF CG CR aThrow) := by
  obtain ⟨fW, fdW, GW, bW, mW, kW⟩ := DW
  obtain ⟨fP, fdP, GP, bP, mP⟩ := DP
  obtain ⟨fB, fdB, GB, bB, mB, kB⟩ := DB
  refine F.okX scThrow (fun vs H Q E h => ?_) (fun cdv A outer s H vs Q E hr h => ?_)
  · obtain ⟨H0, g, a, x, ws, rfl, ⟨p, n, -, rfl⟩, _⟩ := h
    rfl
  · obtain ⟨H0, g, a, x, ws, rfl, ⟨p, n, rfl, rfl⟩, G, W, k1, k2⟩ := h
    obtain ⟨tP, hP⟩ := T.mHeight
    obtain ⟨tB, hB⟩ := T.bad
    obtain ⟨dx, ff, hh, e1, FA, e3, e4⟩ := G.ex
    have hr3 : Room 3 _ := hr.mono (by decide)
    have hr1 : Room 1 _ := hr.mono (by decide)
    refine ⟨_, pss_cons (ps_expr (pe_meth (pv 0) T.clG mP GP hr bP .nil passE (pa_cons (pv 1) pa_nil)))
      (pss_cons (ps_expr (pe_call GW hr3 rfl mW kW bW .nil passE (pa_cons (pe_cmpR op_le (pe_op op_add (pe_ix ix_list (pe_fld (pv 0) rfl) (pv 1) (fun _ _ => rfl)) (pv 2)) (pe_glob (v := .int 1000) rfl hP ⟨_, rfl⟩) (nomark _)) (pa_cons (pe_glob (v := .int (-1)) rfl hB ⟨_, rfl⟩) pa_nil))))
      (pss_cons (ps_fld (pv 0) (pe_call GB hr1 rfl mB kB bB .nil pass0 (pa_cons (pe_fld (pv 0) rfl) (pa_cons (pv 1) (pa_cons (pv 2) pa_nil)))) rfl)
      (pss_one (ps_ret (pe_lst (pa_cons (pe_ix ix_list (pe_fld (pv 0) rfl) (pv 1) (fun _ _ => rfl)) pa_nil)))))), ?_⟩
    refine ⟨_, rfl, a, dx, _, rfl, e1, gF_no _ _ (by decide +kernel) (by decide +kernel), _, rfl, H0, g, a, p, rfl, G, fun hp => ?_, fun hp H' d s1 e => ?_⟩
    case refine_2 =>
      have st : Uw11.step g (.raise p n) = (g, Uw11.ok (-2)) := if_pos (Nat.le_of_not_lt hp)
      refine k2 H' d (-2) s1 e ?_ ?_
      · unfold ans
        rw [st]
        rfl
      · rw [st]
    refine ⟨_, rfl, a, CG, dx, _, _, rfl, e1, T.clG, T.nHeights, gF_heights _ _, _, rfl, hh, _, _, _, rfl, rfl, SqL.of e4, atI_nat (nv_get (height_get W hp)), _, rfl, _, _, rfl, rfl, _, _, rfl, rfl, decide ((g.height p : Int) + (n : Int) ≤ 1000), -1, rfl, fun c => ?_, fun c H' d s1 e => ?_⟩
    case refine_2 =>
      have c := of_decide_eq_false c
      have st : Uw11.step g (.raise p n) = (g, Uw11.ok (-1)) := (if_neg (Nat.not_le_of_lt hp)).trans (if_pos (show 1000 < g.height p + n by omega))
      refine k2 H' d (-1) s1 e ?_ ?_
      · unfold ans
        rw [st]
        rfl
      · rw [st]
    have c := of_decide_eq_true c
    have st : Uw11.step g (.raise p n) = (g.raised p n, Uw11.ok ((g.raised p n).height p : Nat)) := (if_neg (Nat.not_le_of_lt hp)).trans (if_neg (show ¬ 1000 < g.height p + n by omega))
    have W2 : Wf (g.raised p n) 2000 := W.raised hp (by omega)
    refine ⟨_, rfl, a, CG, dx, _, _, rfl, e1, T.clG, T.nHeights, gF_heights _ _, _, rfl, _, rfl, g, 1000, p, n, hh, rfl, W, hp, e4, fun H1 l s1 nl el => ?_⟩
    refine ⟨_, rfl, a, CG, dx, _, rfl, s1 _ _ e1, T.clG, T.nHeights, (by show 2 < 1000; decide), ?_⟩
    have GN := G.put (g' := g.raised p n) e1 FA s1 rfl rfl (G.sm.free nl) el
    have la : l ≠ a := fun z => by
      rw [z, s1 _ _ e1] at el
      cases el
    refine ⟨_, rfl, a, CG, dx, gF ff l, .ref l, rfl, by rw [upd_same, gF_putH], T.clG, T.nHeights, gF_heights _ _, _, rfl, l, _, _, _, rfl, rfl, SqL.of (by rw [upd_ne la]; exact el), atI_nat (nv_get (height_get W2 hp)), (show 1 ≤ sizeLine by decide), fun q nq => ?_⟩
    refine k1 _ q ?_ (GN.sm.free nq) ?_
    · rw [st]
      exact GN.same (same_new nq)
    · rw [upd_same]
      unfold ans
      rw [st]
      rfl
end
end GW
/-! The walk, last part: a call, its refusal, the calls one behind another. -/
namespace GW
open PySem PySem.Spec PyProof.Rows L2
open Uw11 (Ground)
theorem dec_t {A B : Prop} {x y : V} (h : x = y) (a : A) : if decide (x = y) = true then A else B := by
  rw [if_pos (decide_eq_true h)]
  exact a
theorem dec_f {A B : Prop} {x y : V} (h : ¬ x = y) (b : B) : if decide (x = y) = true then A else B := by
  rw [if_neg (fun z => h (of_decide_eq_true z))]
  exact b
theorem int_ne {i j : Int} (h : ¬ i = j) : ¬ V.int i = V.int j := fun z => h (V.int.inj z)
/-- of_call(ground, call, some) -/
def spOf (CF CG CR : Addr) (K : PySem.W.Frag) : Sp := fun vs H Q E => ∃ (H0 : Hp) (g : Ground) (a s : Addr) (p : Int) (args : List Int) (x : Uw11.Call), vs = [.ref a, .int p, .ref s] ∧ SqL K H s (args.map V.int) ∧ CallIs p args x ∧ GroundAt CF CG H0 H a g ∧ Wf g 1000 ∧ Post CF CG CR H0 H a g x Q E
/-- answered(ground, call, some) -/
def spAnd (CF CG : Addr) (K : PySem.W.Frag) : Sp := fun vs H Q _ => ∃ (H0 : Hp) (g : Ground) (a s : Addr) (p : Int) (args : List Int) (x : Uw11.Call), vs = [.ref a, .int p, .ref s] ∧ SqL K H s (args.map V.int) ∧ CallIs p args x ∧ GroundAt CF CG H0 H a g ∧ Wf g 1000 ∧
  ∀ H' l, GroundAt CF CG H0 H' a (Uw11.step g x).1 → H0 l = none → H' l = some (.lst ((ans g x).map V.int)) → Q (.ref l) H'
/-- answers(calls) -/
def spAns (K : PySem.W.Frag) : Sp := fun vs H Q _ => ∃ (c : Addr) (ns : List Int), vs = [.ref c] ∧ SqL K H c (ns.map V.int) ∧ PyUw11.answers_asked ns = true ∧
  ∀ (H' : Hp) (p : Addr), H' p = some (.lst ((PyUw11.answers ns).map V.int)) → Q (.ref p) H'
theorem wf_step {g : Ground} (W : Wf g 1000) (x : Uw11.Call) : Wf (Uw11.step g x).1 1000 := by
  cases x with
  | begins r c =>
    show Wf (if r < 1 ∨ c < 1 ∨ 25 < r * c then (g, Uw11.ok (-1)) else (⟨r, c, List.replicate (r * c) 0⟩, Uw11.ok 0)).1 1000
    by_cases z : r < 1 ∨ c < 1 ∨ 25 < r * c
    · rw [if_pos z]
      exact W
    · rw [if_neg z]
      exact (wf_flat (by omega) (by omega) (by omega)).wide (by decide)
  | height p h =>
    show Wf (if g.places ≤ p then (g, Uw11.ok (-2)) else if 1000 < h then (g, Uw11.ok (-1)) else ({ g with heights := g.heights.set p h }, Uw11.ok 0)).1 1000
    by_cases z : g.places ≤ p
    · rw [if_pos z]
      exact W
    · rw [if_neg z]
      by_cases y : 1000 < h
      · rw [if_pos y]
        exact W
      · rw [if_neg y]
        exact W.set (by omega) (by omega) (Nat.le_refl _)
  | drop p =>
    show Wf (if g.places ≤ p then (g, Uw11.ok (-2)) else (g, _)).1 1000
    by_cases z : g.places ≤ p
    · rw [if_pos z]
      exact W
    · rw [if_neg z]
      exact W
  | levels => exact W
  | check p n =>
    show Wf (if g.places ≤ p then (g, Uw11.ok (-2)) else if 1000 < n then (g, Uw11.ok (-1)) else (g, _)).1 1000
    by_cases z : g.places ≤ p
    · rw [if_pos z]
      exact W
    · rw [if_neg z]
      by_cases y : 1000 < n
      · rw [if_pos y]
        exact W
      · rw [if_neg y]
        exact W
  | best n =>
    show Wf (if 20 < n then (g, Uw11.ok (-1)) else (g, _)).1 1000
    by_cases z : 20 < n
    · rw [if_pos z]
      exact W
    · rw [if_neg z]
      exact W
  | raise p n =>
    show Wf (if g.places ≤ p then (g, Uw11.ok (-2)) else if 1000 < g.height p + n then (g, Uw11.ok (-1)) else (g.raised p n, _)).1 1000
    by_cases z : g.places ≤ p
    · rw [if_pos z]
      exact W
    · rw [if_neg z]
      by_cases y : 1000 < g.height p + n
      · rw [if_pos y]
        exact W
      · rw [if_neg y]
        exact W.set (by omega) (by omega) (Nat.le_refl _)
/-- the list of what is found grows: the ground stands -/
theorem GroundAt.found {CF CG : Addr} {H H2 : Hp} {fo a : Addr} {xs ys : List V} {g : Ground} (G : GroundAt CF CG (upd H fo (.lst xs)) H2 a g) : GroundAt CF CG (upd H fo (.lst ys)) (upd H2 fo (.lst ys)) a g := by
  obtain ⟨sm, na, dx, f, h, e1, FA, e3, e4⟩ := G
  have ne : ∀ b, (upd H fo (.lst xs)) b = none → b ≠ fo := fun b e z => by
    rw [z, upd_same] at e
    cases e
  have no : ∀ b, (upd H fo (.lst xs)) b = none → (upd H fo (.lst ys)) b = none := fun b e => by
    have n := ne b e
    rw [upd_ne n] at e ⊢
    exact e
  have kp : ∀ b o, (upd H fo (.lst xs)) b = none → H2 b = some o → (upd H2 fo (.lst ys)) b = some o := fun b o e q => by
    rw [upd_ne (ne b e)]
    exact q
  refine ⟨fun b o e => ?_, no a na, dx, f, h, kp _ _ na e1, FA.keep no kp rfl rfl, no h e3, kp _ _ e3 e4⟩
  by_cases z : b = fo
  · rw [z, upd_same] at e ⊢
    exact e
  · rw [upd_ne z] at e ⊢
    exact sm b o (by rw [upd_ne z]; exact e)
section
variable {P : Program} {w : World} {K : PySem.W.Frag} {mg : Str → Option Value} {base : Heap} {CF CG CR fR : Addr}
theorem scOf : FnScope ["ground", "call", "some"] ["ground", "call", "some"] (defScope sOf) := ⟨rfl, rfl, rfl, by decide +kernel, rfl, by decide +kernel, by decide +kernel⟩
theorem ok_of {f : Addr} {fd : FuncData} (T : Txt K mg CF CG CR) (F : Fun K "of_call" "of_call" sOf f fd)
    (D0 : MethOk P w K mg base (L2.CX P w) CG "begins" 5 ["self", "rows", "columns"] (spM CF CG CR aBegins)) (D1 : MethOk P w K mg base (L2.CX P w) CG "height" 5 ["self", "place", "height"] (spM CF CG CR aHeight))
    (D2 : MethOk P w K mg base (L2.CX P w) CG "drop" 5 ["self", "place"] (spM CF CG CR aDrop)) (D3 : MethOk P w K mg base CX0 CG "told_levels" 3 ["self", "heights"] (spTold CF CG))
    (D4 : MethOk P w K mg base (L2.CX P w) CG "check" 5 ["self", "place", "more"] (spM CF CG CR aCheck)) (D5 : MethOk P w K mg base (L2.CX P w) CG "best" 5 ["self", "most"] (spM CF CG CR aBest))
    (D6 : MethOk P w K mg base (L2.CX P w) CG "throw_up" 5 ["self", "place", "more"] (spM CF CG CR aThrow)) : FnOk P w K mg base (L2.CX P w) 6 f fd ["ground", "call", "some"] (spOf CF CG CR K) := by
  obtain ⟨f0, fd0, G0, b0, m0⟩ := D0
  obtain ⟨f1, fd1, G1, b1, m1⟩ := D1
  obtain ⟨f2, fd2, G2, b2, m2⟩ := D2
  obtain ⟨f3, fd3, G3, b3, m3⟩ := D3
  obtain ⟨f4, fd4, G4, b4, m4⟩ := D4
  obtain ⟨f5, fd5, G5, b5, m5⟩ := D5
  obtain ⟨f6, fd6, G6, b6, m6⟩ := D6
  refine F.okX scOf (fun vs H Q E h => ?_) (fun cdv A outer s H vs Q E hr h => ?_)
  · obtain ⟨H0, g, a, s, p, args, x, rfl, _⟩ := h
    rfl
  · obtain ⟨H0, g, a, s, p, args, x, rfl, hS, hx, G, W, k⟩ := h
    obtain ⟨dx, ff, hh, e1, FA, e3, e4⟩ := id G.ex
    have hr3 : Room 3 _ := hr.mono (by decide)
    refine ⟨_, pss_cons (ps_if (pt_cmpR op_eq (pv 1) pe_int (nomark _)) (pss_one (ps_ret (pe_meth (pv 0) T.clG m0 G0 hr b0 .nil passE (pa_cons (pe_ix ix_list (pv 2) pe_int (fun _ _ => rfl)) (pa_cons (pe_ix ix_list (pv 2) pe_int (fun _ _ => rfl)) pa_nil))))) pss_nil)
      (pss_cons (ps_if (pt_cmpR op_eq (pv 1) pe_int (nomark _)) (pss_one (ps_ret (pe_meth (pv 0) T.clG m1 G1 hr b1 .nil passE (pa_cons (pe_ix ix_list (pv 2) pe_int (fun _ _ => rfl)) (pa_cons (pe_ix ix_list (pv 2) pe_int (fun _ _ => rfl)) pa_nil))))) pss_nil)
      (pss_cons (ps_if (pt_cmpR op_eq (pv 1) pe_int (nomark _)) (pss_one (ps_ret (pe_meth (pv 0) T.clG m2 G2 hr b2 .nil passE (pa_cons (pe_ix ix_list (pv 2) pe_int (fun _ _ => rfl)) pa_nil)))) pss_nil)
      (pss_cons (ps_if (pt_cmpR op_eq (pv 1) pe_int (nomark _)) (pss_one (ps_ret (pe_meth (pv 0) T.clG m3 G3 hr3 b3 .nil pass0 (pa_cons (pe_fld (pv 0) rfl) pa_nil)))) pss_nil)
      (pss_cons (ps_if (pt_cmpR op_eq (pv 1) pe_int (nomark _)) (pss_one (ps_ret (pe_meth (pv 0) T.clG m4 G4 hr b4 .nil passE (pa_cons (pe_ix ix_list (pv 2) pe_int (fun _ _ => rfl)) (pa_cons (pe_ix ix_list (pv 2) pe_int (fun _ _ => rfl)) pa_nil))))) pss_nil)
      (pss_one (ps_ret (pe_ifExp (pt_cmpR op_eq (pv 1) pe_int (nomark _)) (pe_meth (pv 0) T.clG m5 G5 hr b5 .nil passE (pa_cons (pe_ix ix_list (pv 2) pe_int (fun _ _ => rfl)) pa_nil))
        (pe_meth (pv 0) T.clG m6 G6 hr b6 .nil passE (pa_cons (pe_ix ix_list (pv 2) pe_int (fun _ _ => rfl)) (pa_cons (pe_ix ix_list (pv 2) pe_int (fun _ _ => rfl)) pa_nil)))))))))), ?_⟩
    cases hx with
    | begins r c hr32 hc32 =>
      refine ⟨_, rfl, rfl, _, rfl, dec_t rfl ?_⟩
      refine ⟨_, rfl, a, dx, _, rfl, e1, gF_no _ _ (by decide +kernel) (by decide +kernel), _, rfl, s, _, _, _, rfl, rfl, hS, rfl, _, rfl, s, _, _, _, rfl, rfl, hS, rfl, ?_⟩
      exact ⟨H0, g, a, .begins r c, _, rfl, ⟨r, c, hr32, hc32, rfl, rfl⟩, G, W, k⟩
    | height p v =>
      refine ⟨_, rfl, rfl, _, rfl, dec_f (int_ne (by decide)) ?_⟩
      refine ⟨_, rfl, rfl, _, rfl, dec_t rfl ?_⟩
      refine ⟨_, rfl, a, dx, _, rfl, e1, gF_no _ _ (by decide +kernel) (by decide +kernel), _, rfl, s, _, _, _, rfl, rfl, hS, rfl, _, rfl, s, _, _, _, rfl, rfl, hS, rfl, ?_⟩
      exact ⟨H0, g, a, .height p v, _, rfl, ⟨p, v, rfl, rfl⟩, G, W, k⟩
    | drop p =>
      refine ⟨_, rfl, rfl, _, rfl, dec_f (int_ne (by decide)) ?_⟩
      refine ⟨_, rfl, rfl, _, rfl, dec_f (int_ne (by decide)) ?_⟩
      refine ⟨_, rfl, rfl, _, rfl, dec_t rfl ?_⟩
      refine ⟨_, rfl, a, dx, _, rfl, e1, gF_no _ _ (by decide +kernel) (by decide +kernel), _, rfl, s, _, _, _, rfl, rfl, hS, rfl, ?_⟩
      exact ⟨H0, g, a, .drop p, _, rfl, ⟨p, rfl, rfl⟩, G, W, k⟩
    | levels =>
      refine ⟨_, rfl, rfl, _, rfl, dec_f (int_ne (by decide)) ?_⟩
      refine ⟨_, rfl, rfl, _, rfl, dec_f (int_ne (by decide)) ?_⟩
      refine ⟨_, rfl, rfl, _, rfl, dec_f (int_ne (by decide)) ?_⟩
      refine ⟨_, rfl, rfl, _, rfl, dec_t rfl ?_⟩
      refine ⟨_, rfl, a, dx, _, rfl, e1, gF_no _ _ (by decide +kernel) (by decide +kernel), _, rfl, a, CG, dx, _, _, rfl, e1, T.clG, T.nHeights, gF_heights _ _, ?_⟩
      exact ⟨H0, g, g, a, hh, 1000, rfl, G, rfl, rfl, e4, W, (by decide), fun H1 l s1 nl el => k.1 H1 l (G.same s1) (G.sm.free nl) el⟩
    | check p n =>
      refine ⟨_, rfl, rfl, _, rfl, dec_f (int_ne (by decide)) ?_⟩
      refine ⟨_, rfl, rfl, _, rfl, dec_f (int_ne (by decide)) ?_⟩
      refine ⟨_, rfl, rfl, _, rfl, dec_f (int_ne (by decide)) ?_⟩
      refine ⟨_, rfl, rfl, _, rfl, dec_f (int_ne (by decide)) ?_⟩
      refine ⟨_, rfl, rfl, _, rfl, dec_t rfl ?_⟩
      refine ⟨_, rfl, a, dx, _, rfl, e1, gF_no _ _ (by decide +kernel) (by decide +kernel), _, rfl, s, _, _, _, rfl, rfl, hS, rfl, _, rfl, s, _, _, _, rfl, rfl, hS, rfl, ?_⟩
      exact ⟨H0, g, a, .check p n, _, rfl, ⟨p, n, rfl, rfl⟩, G, W, k⟩
    | best n =>
      refine ⟨_, rfl, rfl, _, rfl, dec_f (int_ne (by decide)) ?_⟩
      refine ⟨_, rfl, rfl, _, rfl, dec_f (int_ne (by decide)) ?_⟩
      refine ⟨_, rfl, rfl, _, rfl, dec_f (int_ne (by decide)) ?_⟩
      refine ⟨_, rfl, rfl, _, rfl, dec_f (int_ne (by decide)) ?_⟩
      refine ⟨_, rfl, rfl, _, rfl, dec_f (int_ne (by decide)) ?_⟩
      refine ⟨_, rfl, rfl, _, rfl, dec_t rfl ?_⟩
      refine ⟨_, rfl, a, dx, _, rfl, e1, gF_no _ _ (by decide +kernel) (by decide +kernel), _, rfl, s, _, _, _, rfl, rfl, hS, rfl, ?_⟩
      exact ⟨H0, g, a, .best n, _, rfl, ⟨n, rfl, rfl⟩, G, W, k⟩
    | throw p n =>
      refine ⟨_, rfl, rfl, _, rfl, dec_f (int_ne (by decide)) ?_⟩
      refine ⟨_, rfl, rfl, _, rfl, dec_f (int_ne (by decide)) ?_⟩
      refine ⟨_, rfl, rfl, _, rfl, dec_f (int_ne (by decide)) ?_⟩
      refine ⟨_, rfl, rfl, _, rfl, dec_f (int_ne (by decide)) ?_⟩
      refine ⟨_, rfl, rfl, _, rfl, dec_f (int_ne (by decide)) ?_⟩
      refine ⟨_, rfl, rfl, _, rfl, dec_f (int_ne (by decide)) ?_⟩
      refine ⟨_, rfl, a, dx, _, rfl, e1, gF_no _ _ (by decide +kernel) (by decide +kernel), _, rfl, s, _, _, _, rfl, rfl, hS, rfl, _, rfl, s, _, _, _, rfl, rfl, hS, rfl, ?_⟩
      exact ⟨H0, g, a, .raise p n, _, rfl, ⟨p, n, rfl, rfl⟩, G, W, k⟩
/-! ### answered -/
theorem scAnd : FnScope ["ground", "call", "some", "e"] ["ground", "call", "some"] (defScope sAnd) := ⟨rfl, rfl, rfl, by decide +kernel, rfl, by decide +kernel, by decide +kernel⟩
theorem ok_and {f : Addr} {fd : FuncData} (R : RefT K mg CR fR) (XC : XfC K CR) (te : PySem.W.exmOne K (.ref CR) (.ref CR) = some true) (F : Fun K "answered" "answered" sAnd f fd) (DO : DefOk P w K mg base (L2.CX P w) "of_call" 6 ["ground", "call", "some"] (spOf CF CG CR K)) :
    FnOk P w K mg base CX0 7 f fd ["ground", "call", "some"] (spAnd CF CG K) := by
  obtain ⟨fO, fdO, GO, bO, mO, kO⟩ := DO
  refine F.ok scAnd (fun vs H Q E h => ?_) (fun cdv A outer s H vs Q E hr h => ?_)
  · obtain ⟨H0, g, a, s, p, args, x, rfl, _⟩ := h
    rfl
  · obtain ⟨H0, g, a, s, p, args, x, rfl, hS, hx, G, W, k⟩ := h
    refine ⟨_, pss_one (ps_try_as (i := 3) (tb := fun W => tRet (tCallS (spOf CF CG CR K) (WE W) (tCons (tVar 0) (tCons (tVar 1) (tCons (tVar 2) tNil))))) (ts := fun a cls d => tRet (tLst (tCons (tXf a cls d CR "code" (tVar 3)) tNil))) (Wout := fun _ _ _ _ => False)
      rfl rfl scAnd.nd rfl rfl ⟨rfl, by decide, Or.inl R.gR⟩ takes0
      (fun W pn xe tk _ => pss_one (ps_ret (by exact (pe_callS GO hr rfl mO kO bO (fun σ => passAt tk σ) (by exact (pa_cons (pv 0) (pa_cons (pv 1) (pa_cons (pv 2) pa_nil))))))))
      (fun a oe cls d pn hz hf => pss_one (ps_ret (by exact (pe_lst (pa_cons (pe_xf XC R.nC hz hf (pv 3)) pa_nil)))))), ?_⟩
    refine ⟨_, rfl, _, rfl, _, rfl, H0, g, a, s, p, args, x, rfl, hS, hx, G, W, k, fun H' d c s1 ed ea es => ?_⟩
    refine ⟨true, te, fun _ a0 _ => ?_, fun q => Bool.noConfusion q⟩
    refine ⟨_, rfl, rfl, rfl, d, cF c, _, rfl, ed, lk_here, (show 1 ≤ sizeLine by decide), fun l nl => ?_⟩
    have G2 := G.same s1
    refine k _ l ?_ (G2.sm.free nl) ?_
    · rw [es]
      exact G2.same (same_new nl)
    · rw [upd_same, ea]
      rfl
/-! ### answers -/
theorem scAns : FnScope ["calls", "ground", "found", "at", "call", "behind", "answer"] ["calls"] (defScope sAns) := ⟨rfl, rfl, rfl, by decide +kernel, rfl, by decide +kernel, by decide +kernel⟩
/-- ahead of a turn -/
def AnsW (H : Hp) (c gr fo : Addr) (CF CG : Addr) (ns : List Int) (m : Nat) (σ : L2.St) (H' : Hp) : Prop := ∃ (i : Nat) (g : Ground) (fnd : List Int) (v4 v5 v6 : Option V), σ = [some (.ref c), some (.ref gr), some (.ref fo), some (.int i), v4, v5, v6] ∧ At ns i g fnd ∧ Wf g 1000 ∧
  GroundAt CF CG (upd H fo (.lst (fnd.map V.int))) H' gr g ∧ m = ns.length - i
theorem ok_ans {f aN : Addr} {fd : FuncData} (T : Txt K mg CF CG CR) (F : Fun K "answers" "answers" sAns f fd) (mN : mg "NUMBERS" = some (.ref aN)) (hN : ∀ H, SqT K H aN (NUMS.map V.int)) (DG : MakeOk P w K mg base CX0 "Ground" CG 4 ["self"] (spGI CF CG))
    (DA : DefOk P w K mg base CX0 "answered" 7 ["ground", "call", "some"] (spAnd CF CG K)) : FnOk P w K mg base CX0 8 f fd ["calls"] (spAns K) := by
  obtain ⟨fG, fdG, GG, bG, MG, mG⟩ := DG
  obtain ⟨fA, fdA, GA, bA, mA, kA⟩ := DA
  refine F.ok scAns (fun vs H Q E h => ?_) (fun cdv A outer s H vs Q E hr h => ?_)
  · obtain ⟨c, ns, rfl, _⟩ := h
    rfl
  · obtain ⟨c, ns, rfl, hS, hask, k⟩ := h
    have hr5 : Room 5 _ := hr.mono (by decide)
    refine ⟨_, pss_cons (ps_set (i := 1) scAns.nd rfl (Or.inl rfl) (pe_make0 MG GG hr5 rfl mG bG .nil pass0))
      (pss_cons (ps_set (i := 2) scAns.nd rfl (Or.inl rfl) (pe_lst pa_nil))
      (pss_cons (ps_set (i := 3) scAns.nd rfl (Or.inl rfl) pe_int)
      (pss_cons (ps_while PassesOwn.never (pt_cmpR op_lt (pv 3) (pe_callB call_len_seq (by rfl) T.len PySem.boot_len (pa_cons (pv 0) pa_nil)) (nomark _))
        (pss_cons (ps_set (i := 4) scAns.nd rfl (Or.inl rfl) (pe_ix ix_list (pv 0) (pv 3) (fun _ _ => rfl)))
        (pss_cons (ps_set (i := 5) scAns.nd rfl (Or.inl rfl) (pe_op op_add (pe_op op_add (pv 3) pe_int) (pe_ix ix_tup (pe_glob (v := .ref aN) rfl mN rfl) (pv 4) (fun _ _ => rfl))))
        (pss_cons (ps_set (i := 6) scAns.nd rfl (Or.inl rfl) (pe_call GA hr rfl mA kA bA .nil pass0 (pa_cons (pv 1) (pa_cons (pv 4) (pa_cons (pe_slice sl_list (pv 0) (po_some (pe_op op_add (pv 3) pe_int)) (po_some (pv 5))) pa_nil)))))
        (pss_cons (ps_expr (pe_bm PySem.F.plainAttrs_list PySem.F.slot_list_append PySem.F.type_list_append mt_append (pv 2) (pa_cons (pe_callB call_len_seq (by rfl) T.len PySem.boot_len (pa_cons (pv 6) pa_nil)) pa_nil)))
        (pss_cons (ps_expr (pe_bm PySem.F.plainAttrs_list PySem.F.slot_list_extend PySem.F.type_list_extend mt_extend (pv 2) (pa_cons (pv 6) pa_nil)))
        (pss_one (ps_set (i := 3) scAns.nd rfl (Or.inl rfl) (pv 5)))))))))
      (pss_one (ps_ret (pv 2)))))), ?_⟩
    -- ground = Ground()
    intro gr dx ngr ndx nex
    have s1 : Same H (upd (upd H dx (.own gr)) gr (.ins CG dx [])) := fun b o e => by
      rw [upd_ne (ne_of_none e ngr), upd_ne (ne_of_none e ndx)]
      exact e
    refine ⟨H, gr, dx, rfl, s1, ngr, upd_same, fun H1 G1 => ⟨rfl, ?_⟩⟩
    refine ⟨Nat.zero_le _, fun fo nfo => ?_⟩
    have nfo0 : H fo = none := G1.sm.free nfo
    have nfg : fo ≠ gr := fun z => by
      obtain ⟨dx3, f3, h3, e3, _⟩ := G1.ex
      rw [z, e3] at nfo
      cases nfo
    -- behind found = []
    have GS : GroundAt CF CG (upd H fo (.lst [])) (upd H1 fo (.lst [])) gr Uw11.init := by
      obtain ⟨sm, na, dx3, f3, h3, e1, FA, e3, e4⟩ := G1
      have kp : ∀ b o, H b = none → H1 b = some o → (upd H1 fo (.lst [])) b = some o := fun b o _ q => by
        rw [upd_ne (ne_of_none q nfo)]
        exact q
      have no : ∀ b o, H b = none → H1 b = some o → (upd H fo (.lst [])) b = none := fun b o q e => by
        rw [upd_ne (ne_of_none e nfo)]
        exact q
      obtain ⟨fna, fdx, fl, fas, fe1, fe2, fe3, fe4, fe5⟩ := FA
      refine ⟨fun b o e => ?_, no _ _ na e1, dx3, f3, h3, kp _ _ na e1, ⟨no _ _ fna fe1, fdx, fl, fas, kp _ _ fna fe1, no _ _ fe2 fe3, kp _ _ fe2 fe3, fe4, fun p b hb => ?_⟩, no _ _ e3 e4, kp _ _ e3 e4⟩
      · by_cases z : b = fo
        · rw [z, upd_same] at e ⊢
          exact e
        · rw [upd_ne z] at e ⊢
          exact sm b o e
      · obtain ⟨q1, q2⟩ := fe5 p b hb
        exact ⟨no _ _ q1 q2, kp _ _ q1 q2⟩
    refine ⟨AnsW H c gr fo CF CG ns, ⟨_, 0, Uw11.init, [], none, none, none, rfl, At_start hask, wf_init.wide (by decide), GS, rfl⟩, ?_⟩
    rintro m σ H2 ⟨i, g, fnd, v4, v5, v6, rfl, hat, W, G, rfl⟩
    have sH : Same H H2 := fun b o e => G.sm b o (by rw [upd_ne (ne_of_none e nfo0)]; exact e)
    have eF : H2 fo = some (.lst (fnd.map V.int)) := G.sm _ _ upd_same
    refine ⟨_, rfl, _, rfl, c, _, rfl, .inl (sH.seq hS), _, _, rfl, rfl, _, rfl, ?_⟩
    refine ite2 (fun d => ?_) (fun d => ?_)
    · have d := of_decide_eq_true d
      rw [List.length_map] at d
      have hi : i < ns.length := by omega
      obtain ⟨p, n, args, x, hp, p0, p7, hn, hargs, hlen, hx, hat2, hshort⟩ := At_turn hat hi
      refine ⟨fun σ' H' => ∃ m', m' < ns.length - i ∧ AnsW H c gr fo CF CG ns m' σ' H', fun σ' H' z => z, ?_⟩
      have hnp : atI (NUMS.map V.int) p = some (V.int (n : Nat)) := by
        have e : p = ((p.toNat : Nat) : Int) := (Int.toNat_of_nonneg p0).symm
        rw [e]
        refine atI_nat ?_
        rw [List.getElem?_map, hn]
        rfl
      refine ⟨_, rfl, _, rfl, c, _, _, _, rfl, rfl, sH.seq hS, atI_nat (by rw [List.getElem?_map, hp]; rfl), ?_⟩
      refine ⟨_, rfl, _, _, rfl, rfl, _, rfl, aN, _, _, _, rfl, rfl, hN _, hnp, _, _, rfl, rfl, ?_⟩
      refine ⟨_, rfl, _, rfl, _, rfl, _, rfl, _, _, rfl, rfl, _, rfl, _, rfl, _, rfl, c, _, rfl, sH.seq hS, fun l nl => ?_⟩
      rw [cut_mid (ns.map V.int) (i + 1) (i + 1 + n) _ _ (by omega) (by omega) (by omega) (by rw [List.length_map]; omega)]
      have eargs : (List.drop (i + 1) (ns.map V.int)).take (i + 1 + n - (i + 1)) = args.map V.int := by
        rw [← List.map_drop, ← List.map_take, ← hargs, show i + 1 + n - (i + 1) = n by omega]
      rw [eargs]
      have s3 := same_new (o := .lst (args.map V.int)) nl
      refine ⟨_, g, gr, l, p, args, x, rfl, SqL.of upd_same, hx, G.same s3, W, fun H4 la G4 nla el => ?_⟩
      have nlf : la ≠ fo := fun z => by
        rw [z, upd_same] at nla
        cases nla
      have eF4 : H4 fo = some (.lst (fnd.map V.int)) := G4.sm _ _ upd_same
      have hl1 : (fnd.map V.int).length < sizeLine := by
        rw [List.length_map]
        exact Nat.lt_of_le_of_lt (show fnd.length ≤ 10000000 by omega) (by decide)
      refine ⟨_, rfl, .inl ⟨rfl, _, SqL.of eF4⟩, _, rfl, la, _, rfl, .inl (SqL.of el), fo, _, _, rfl, rfl, eF4, hl1, ?_⟩
      have hl2 : (fnd.map V.int ++ [V.int (((ans g x).map V.int).length : Nat)]).length + ((ans g x).map V.int).length ≤ sizeLine := by
        rw [List.length_append, List.length_map, List.length_map]
        exact Nat.le_trans (show fnd.length + 1 + (ans g x).length ≤ 10000000 by exact hshort) (by decide)
      refine ⟨_, rfl, .inl ⟨rfl, _, SqL.of upd_same⟩, _, rfl, fo, la, _, _, rfl, rfl, upd_same, by rw [upd_ne nlf]; exact el, hl2, ?_⟩
      refine ⟨_, rfl, ns.length - (i + 1 + n), by omega, i + 1 + n, _, _, some (.int p), some (.int ((i : Int) + 1 + (n : Int))), some (.ref la), ?_, hat2, wf_step W x, ?_, rfl⟩
      · have e : ((i : Int) + 1 + (n : Int)) = ((i + 1 + n : Nat) : Int) := by omega
        show [some (V.ref c), some (V.ref gr), some (V.ref fo), some (V.int ((i : Int) + 1 + (n : Int))), some (V.int p), some (V.int ((i : Int) + 1 + (n : Int))), some (V.ref la)] = _
        rw [e]
      · rw [upd_upd, List.length_map]
        have e : (fnd ++ [((ans g x).length : Int)] ++ ans g x).map V.int = fnd.map V.int ++ [V.int ((ans g x).length : Nat)] ++ (ans g x).map V.int := by
          rw [List.map_append, List.map_append]
          rfl
        rw [e]
        exact G4.found
    · have d : ¬ (i : Int) < ((ns.map V.int).length : Nat) := fun z => d (decide_eq_true z)
      rw [List.length_map] at d
      refine ⟨_, rfl, k H2 fo ?_⟩
      rw [eF, At_end hat (by omega)]
end
end GW
/-! The end: what the top has written, put together; the theorem. -/
namespace GW
open PySem PySem.Spec PyProof.Rows L2
/-- an error of the class at S is what «except S» names -/
theorem exm_self {K : PySem.W.Frag} {S : Addr} (h1 : PySem.W.subIn K (.ref S) (.type "BaseException") = some true) (h2 : PySem.W.isClsIn K S = true) (h3 : PySem.W.typeIn K (.ref S) = some (.type "type")) (h4 : PySem.W.subIn K (.ref S) (.ref S) = some true) :
    PySem.W.exmOne K (.ref S) (.ref S) = some true := by
  have e1 : (PySem.W.subIn K (.ref S) (.type "BaseException") == some true) = true := by rw [h1] <;> rfl
  have e2 : ((PySem.W.clsIn K S).isSome && PySem.W.typeIn K (.ref S) == some (.type "type")) = true := by
    have h2' : (PySem.W.clsIn K S).isSome = true := h2
    rw [h2', h3] <;> rfl
  show (if (PySem.W.subIn K (.ref S) (.type "BaseException") == some true) = true then (if ((PySem.W.clsIn K S).isSome && PySem.W.typeIn K (.ref S) == some (.type "type")) = true then PySem.W.subIn K (.ref S) (.ref S) else none) else none) = some true
  rw [if_pos e1, if_pos e2]
  exact h4
theorem all_mk {P : Program} {w : World} {K : PySem.W.Frag} {h : Heap} {mg : Str → Option Value} {fa CF CG CR aN fNb fLw fDr fOv fBt fLv fKp fBk fBs fWt fOf fAn fAs fFI fEd fRI fGI fWP fBe fHe fGD fTo fCh fGB fTh : Addr} (X : K.In h) (G : h.Ns mainGlobals mg) (hfa : mg "answers" = some (.ref fa))
    {odNb anNb : Option Addr} {slNb : Array (Option Value)} {ocNb kVNb dcNb pmNb cdNb ctNb : Value}
    {odLw anLw : Option Addr} {slLw : Array (Option Value)} {ocLw kVLw dcLw pmLw cdLw ctLw : Value}
    {odDr anDr : Option Addr} {slDr : Array (Option Value)} {ocDr kVDr dcDr pmDr cdDr ctDr : Value}
    {odOv anOv : Option Addr} {slOv : Array (Option Value)} {ocOv kVOv dcOv pmOv cdOv ctOv : Value}
    {odBt anBt : Option Addr} {slBt : Array (Option Value)} {ocBt kVBt dcBt pmBt cdBt ctBt : Value}
    {odLv anLv : Option Addr} {slLv : Array (Option Value)} {ocLv kVLv dcLv pmLv cdLv ctLv : Value}
    {odKp anKp : Option Addr} {slKp : Array (Option Value)} {ocKp kVKp dcKp pmKp cdKp ctKp : Value}
    {odBk anBk : Option Addr} {slBk : Array (Option Value)} {ocBk kVBk dcBk pmBk cdBk ctBk : Value}
    {odBs anBs : Option Addr} {slBs : Array (Option Value)} {ocBs kVBs dcBs pmBs cdBs ctBs : Value}
    {odWt anWt : Option Addr} {slWt : Array (Option Value)} {ocWt kVWt dcWt pmWt cdWt ctWt : Value}
    {odOf anOf : Option Addr} {slOf : Array (Option Value)} {ocOf kVOf dcOf pmOf cdOf ctOf : Value}
    {odAn anAn : Option Addr} {slAn : Array (Option Value)} {ocAn kVAn dcAn pmAn cdAn ctAn : Value}
    {odAs anAs : Option Addr} {slAs : Array (Option Value)} {ocAs kVAs dcAs pmAs cdAs ctAs : Value}
    {odFI anFI : Option Addr} {slFI : Array (Option Value)} {ocFI kVFI dcFI pmFI cdFI ctFI : Value}
    {odEd anEd : Option Addr} {slEd : Array (Option Value)} {ocEd kVEd dcEd pmEd cdEd ctEd : Value}
    {odRI anRI : Option Addr} {slRI : Array (Option Value)} {ocRI kVRI dcRI pmRI cdRI ctRI : Value}
    {odGI anGI : Option Addr} {slGI : Array (Option Value)} {ocGI kVGI dcGI pmGI cdGI ctGI : Value}
    {odWP anWP : Option Addr} {slWP : Array (Option Value)} {ocWP kVWP dcWP pmWP cdWP ctWP : Value}
    {odBe anBe : Option Addr} {slBe : Array (Option Value)} {ocBe kVBe dcBe pmBe cdBe ctBe : Value}
    {odHe anHe : Option Addr} {slHe : Array (Option Value)} {ocHe kVHe dcHe pmHe cdHe ctHe : Value}
    {odGD anGD : Option Addr} {slGD : Array (Option Value)} {ocGD kVGD dcGD pmGD cdGD ctGD : Value}
    {odTo anTo : Option Addr} {slTo : Array (Option Value)} {ocTo kVTo dcTo pmTo cdTo ctTo : Value}
    {odCh anCh : Option Addr} {slCh : Array (Option Value)} {ocCh kVCh dcCh pmCh cdCh ctCh : Value}
    {odGB anGB : Option Addr} {slGB : Array (Option Value)} {ocGB kVGB dcGB pmGB cdGB ctGB : Value}
    {odTh anTh : Option Addr} {slTh : Array (Option Value)} {ocTh kVTh dcTh pmTh cdTh ctTh : Value}
    {nmR qR : Str} {NR : Addr} {bsR : List Value} {snR : List Str} {subR : List Value} {abR : Bool} {colR : Option Bool} {ddR : Option Addr} {m0R m1R m2R m3R m5R : Option Value}
    {tsides : Tok}
    {tbad : Tok}
    {tnoPlace : Tok}
    {tmPlaces : Tok}
    {tmHeight : Tok}
    {tmMore : Tok}
    {tmBest : Tok}
    {dN : Option Addr} {nN : Nat} {slN : Array (Option Value)} {u0 u1 u2 u3 u4 u5 u6 : Tok}
    (gCF : PySem.W.nsIn K mainGlobals "Field" = some (some (.ref CF)))
    (gCG : PySem.W.nsIn K mainGlobals "Ground" = some (some (.ref CG)))
    (gCR : PySem.W.nsIn K mainGlobals "Refused" = some (some (.ref CR)))
    (aNb : PySem.W.nsIn K mainGlobals "neighbours" = some (some (.ref fNb)))
    (lNb : K.lookup fNb = some ⟨ocNb, odNb, .func (PySem.W.fnOf "neighbours" "neighbours" (defArgs sNeigh) (defBody sNeigh) (defScope sNeigh) .none kVNb dcNb pmNb anNb cdNb ctNb), slNb⟩)
    (cNb : PySem.W.codeIn K cdNb "neighbours" = true)
    (kNb : PySem.W.keepIn K (.ref fNb) = true)
    (aLw : PySem.W.nsIn K mainGlobals "lowest_beside" = some (some (.ref fLw)))
    (lLw : K.lookup fLw = some ⟨ocLw, odLw, .func (PySem.W.fnOf "lowest_beside" "lowest_beside" (defArgs sLow) (defBody sLow) (defScope sLow) .none kVLw dcLw pmLw anLw cdLw ctLw), slLw⟩)
    (cLw : PySem.W.codeIn K cdLw "lowest_beside" = true)
    (kLw : PySem.W.keepIn K (.ref fLw) = true)
    (aDr : PySem.W.nsIn K mainGlobals "drop_from" = some (some (.ref fDr)))
    (lDr : K.lookup fDr = some ⟨ocDr, odDr, .func (PySem.W.fnOf "drop_from" "drop_from" (defArgs sDrop) (defBody sDrop) (defScope sDrop) .none kVDr dcDr pmDr anDr cdDr ctDr), slDr⟩)
    (cDr : PySem.W.codeIn K cdDr "drop_from" = true)
    (kDr : PySem.W.keepIn K (.ref fDr) = true)
    (aOv : PySem.W.nsIn K mainGlobals "over" = some (some (.ref fOv)))
    (lOv : K.lookup fOv = some ⟨ocOv, odOv, .func (PySem.W.fnOf "over" "over" (defArgs sOver) (defBody sOver) (defScope sOver) .none kVOv dcOv pmOv anOv cdOv ctOv), slOv⟩)
    (cOv : PySem.W.codeIn K cdOv "over" = true)
    (kOv : PySem.W.keepIn K (.ref fOv) = true)
    (aBt : PySem.W.nsIn K mainGlobals "is_better" = some (some (.ref fBt)))
    (lBt : K.lookup fBt = some ⟨ocBt, odBt, .func (PySem.W.fnOf "is_better" "is_better" (defArgs sBetter) (defBody sBetter) (defScope sBetter) .none kVBt dcBt pmBt anBt cdBt ctBt), slBt⟩)
    (cBt : PySem.W.codeIn K cdBt "is_better" = true)
    (kBt : PySem.W.keepIn K (.ref fBt) = true)
    (aLv : PySem.W.nsIn K mainGlobals "levels_of" = some (some (.ref fLv)))
    (lLv : K.lookup fLv = some ⟨ocLv, odLv, .func (PySem.W.fnOf "levels_of" "levels_of" (defArgs sLev) (defBody sLev) (defScope sLev) .none kVLv dcLv pmLv anLv cdLv ctLv), slLv⟩)
    (cLv : PySem.W.codeIn K cdLv "levels_of" = true)
    (kLv : PySem.W.keepIn K (.ref fLv) = true)
    (aKp : PySem.W.nsIn K mainGlobals "kept" = some (some (.ref fKp)))
    (lKp : K.lookup fKp = some ⟨ocKp, odKp, .func (PySem.W.fnOf "kept" "kept" (defArgs sKept) (defBody sKept) (defScope sKept) .none kVKp dcKp pmKp anKp cdKp ctKp), slKp⟩)
    (cKp : PySem.W.codeIn K cdKp "kept" = true)
    (kKp : PySem.W.keepIn K (.ref fKp) = true)
    (aBk : PySem.W.nsIn K mainGlobals "with_bank" = some (some (.ref fBk)))
    (lBk : K.lookup fBk = some ⟨ocBk, odBk, .func (PySem.W.fnOf "with_bank" "with_bank" (defArgs sBank) (defBody sBank) (defScope sBank) .none kVBk dcBk pmBk anBk cdBk ctBk), slBk⟩)
    (cBk : PySem.W.codeIn K cdBk "with_bank" = true)
    (kBk : PySem.W.keepIn K (.ref fBk) = true)
    (aBs : PySem.W.nsIn K mainGlobals "best_bank" = some (some (.ref fBs)))
    (lBs : K.lookup fBs = some ⟨ocBs, odBs, .func (PySem.W.fnOf "best_bank" "best_bank" (defArgs sBest) (defBody sBest) (defScope sBest) .none kVBs dcBs pmBs anBs cdBs ctBs), slBs⟩)
    (cBs : PySem.W.codeIn K cdBs "best_bank" = true)
    (kBs : PySem.W.keepIn K (.ref fBs) = true)
    (aWt : PySem.W.nsIn K mainGlobals "want" = some (some (.ref fWt)))
    (lWt : K.lookup fWt = some ⟨ocWt, odWt, .func (PySem.W.fnOf "want" "want" (defArgs sWant) (defBody sWant) (defScope sWant) .none kVWt dcWt pmWt anWt cdWt ctWt), slWt⟩)
    (cWt : PySem.W.codeIn K cdWt "want" = true)
    (kWt : PySem.W.keepIn K (.ref fWt) = true)
    (aOf : PySem.W.nsIn K mainGlobals "of_call" = some (some (.ref fOf)))
    (lOf : K.lookup fOf = some ⟨ocOf, odOf, .func (PySem.W.fnOf "of_call" "of_call" (defArgs sOf) (defBody sOf) (defScope sOf) .none kVOf dcOf pmOf anOf cdOf ctOf), slOf⟩)
    (cOf : PySem.W.codeIn K cdOf "of_call" = true)
    (kOf : PySem.W.keepIn K (.ref fOf) = true)
    (aAn : PySem.W.nsIn K mainGlobals "answered" = some (some (.ref fAn)))
    (lAn : K.lookup fAn = some ⟨ocAn, odAn, .func (PySem.W.fnOf "answered" "answered" (defArgs sAnd) (defBody sAnd) (defScope sAnd) .none kVAn dcAn pmAn anAn cdAn ctAn), slAn⟩)
    (cAn : PySem.W.codeIn K cdAn "answered" = true)
    (kAn : PySem.W.keepIn K (.ref fAn) = true)
    (aAs : PySem.W.nsIn K mainGlobals "answers" = some (some (.ref fAs)))
    (lAs : K.lookup fAs = some ⟨ocAs, odAs, .func (PySem.W.fnOf "answers" "answers" (defArgs sAns) (defBody sAns) (defScope sAns) .none kVAs dcAs pmAs anAs cdAs ctAs), slAs⟩)
    (cAs : PySem.W.codeIn K cdAs "answers" = true)
    (kAs : PySem.W.keepIn K (.ref fAs) = true)
    (aFI : PySem.W.findIn K (.ref CF) "__init__" = some (some (.ref fFI)))
    (iFI : PySem.W.isFn K (.ref fFI) = true)
    (lFI : K.lookup fFI = some ⟨ocFI, odFI, .func (PySem.W.fnOf "__init__" "Field.__init__" (defArgs sFI) (defBody sFI) (defScope sFI) .none kVFI dcFI pmFI anFI cdFI ctFI), slFI⟩)
    (cFI : PySem.W.codeIn K cdFI "Field.__init__" = true)
    (kFI : PySem.W.keepIn K (.ref fFI) = true)
    (aEd : PySem.W.findIn K (.ref CF) "is_edge" = some (some (.ref fEd)))
    (iEd : PySem.W.isFn K (.ref fEd) = true)
    (lEd : K.lookup fEd = some ⟨ocEd, odEd, .func (PySem.W.fnOf "is_edge" "Field.is_edge" (defArgs sEdge) (defBody sEdge) (defScope sEdge) .none kVEd dcEd pmEd anEd cdEd ctEd), slEd⟩)
    (cEd : PySem.W.codeIn K cdEd "Field.is_edge" = true)
    (kEd : PySem.W.keepIn K (.ref fEd) = true)
    (aRI : PySem.W.findIn K (.ref CR) "__init__" = some (some (.ref fRI)))
    (tRI : PySem.W.typeIn K (.ref fRI) = some (.type "function"))
    (lRI : K.lookup fRI = some ⟨ocRI, odRI, .func (PySem.W.fnOf "__init__" "Refused.__init__" (defArgs sRI) (defBody sRI) (defScope sRI) .none kVRI dcRI pmRI anRI cdRI ctRI), slRI⟩)
    (cRI : PySem.W.codeIn K cdRI "Refused.__init__" = true)
    (kRI : PySem.W.keepIn K (.ref fRI) = true)
    (aGI : PySem.W.findIn K (.ref CG) "__init__" = some (some (.ref fGI)))
    (iGI : PySem.W.isFn K (.ref fGI) = true)
    (lGI : K.lookup fGI = some ⟨ocGI, odGI, .func (PySem.W.fnOf "__init__" "Ground.__init__" (defArgs sGI) (defBody sGI) (defScope sGI) .none kVGI dcGI pmGI anGI cdGI ctGI), slGI⟩)
    (cGI : PySem.W.codeIn K cdGI "Ground.__init__" = true)
    (kGI : PySem.W.keepIn K (.ref fGI) = true)
    (aWP : PySem.W.findIn K (.ref CG) "want_place" = some (some (.ref fWP)))
    (iWP : PySem.W.isFn K (.ref fWP) = true)
    (lWP : K.lookup fWP = some ⟨ocWP, odWP, .func (PySem.W.fnOf "want_place" "Ground.want_place" (defArgs sWP) (defBody sWP) (defScope sWP) .none kVWP dcWP pmWP anWP cdWP ctWP), slWP⟩)
    (cWP : PySem.W.codeIn K cdWP "Ground.want_place" = true)
    (kWP : PySem.W.keepIn K (.ref fWP) = true)
    (aBe : PySem.W.findIn K (.ref CG) "begins" = some (some (.ref fBe)))
    (iBe : PySem.W.isFn K (.ref fBe) = true)
    (lBe : K.lookup fBe = some ⟨ocBe, odBe, .func (PySem.W.fnOf "begins" "Ground.begins" (defArgs sBegins) (defBody sBegins) (defScope sBegins) .none kVBe dcBe pmBe anBe cdBe ctBe), slBe⟩)
    (cBe : PySem.W.codeIn K cdBe "Ground.begins" = true)
    (kBe : PySem.W.keepIn K (.ref fBe) = true)
    (aHe : PySem.W.findIn K (.ref CG) "height" = some (some (.ref fHe)))
    (iHe : PySem.W.isFn K (.ref fHe) = true)
    (lHe : K.lookup fHe = some ⟨ocHe, odHe, .func (PySem.W.fnOf "height" "Ground.height" (defArgs sHeight) (defBody sHeight) (defScope sHeight) .none kVHe dcHe pmHe anHe cdHe ctHe), slHe⟩)
    (cHe : PySem.W.codeIn K cdHe "Ground.height" = true)
    (kHe : PySem.W.keepIn K (.ref fHe) = true)
    (aGD : PySem.W.findIn K (.ref CG) "drop" = some (some (.ref fGD)))
    (iGD : PySem.W.isFn K (.ref fGD) = true)
    (lGD : K.lookup fGD = some ⟨ocGD, odGD, .func (PySem.W.fnOf "drop" "Ground.drop" (defArgs sGDrop) (defBody sGDrop) (defScope sGDrop) .none kVGD dcGD pmGD anGD cdGD ctGD), slGD⟩)
    (cGD : PySem.W.codeIn K cdGD "Ground.drop" = true)
    (kGD : PySem.W.keepIn K (.ref fGD) = true)
    (aTo : PySem.W.findIn K (.ref CG) "told_levels" = some (some (.ref fTo)))
    (iTo : PySem.W.isFn K (.ref fTo) = true)
    (lTo : K.lookup fTo = some ⟨ocTo, odTo, .func (PySem.W.fnOf "told_levels" "Ground.told_levels" (defArgs sTold) (defBody sTold) (defScope sTold) .none kVTo dcTo pmTo anTo cdTo ctTo), slTo⟩)
    (cTo : PySem.W.codeIn K cdTo "Ground.told_levels" = true)
    (kTo : PySem.W.keepIn K (.ref fTo) = true)
    (aCh : PySem.W.findIn K (.ref CG) "check" = some (some (.ref fCh)))
    (iCh : PySem.W.isFn K (.ref fCh) = true)
    (lCh : K.lookup fCh = some ⟨ocCh, odCh, .func (PySem.W.fnOf "check" "Ground.check" (defArgs sCheck) (defBody sCheck) (defScope sCheck) .none kVCh dcCh pmCh anCh cdCh ctCh), slCh⟩)
    (cCh : PySem.W.codeIn K cdCh "Ground.check" = true)
    (kCh : PySem.W.keepIn K (.ref fCh) = true)
    (aGB : PySem.W.findIn K (.ref CG) "best" = some (some (.ref fGB)))
    (iGB : PySem.W.isFn K (.ref fGB) = true)
    (lGB : K.lookup fGB = some ⟨ocGB, odGB, .func (PySem.W.fnOf "best" "Ground.best" (defArgs sGBest) (defBody sGBest) (defScope sGBest) .none kVGB dcGB pmGB anGB cdGB ctGB), slGB⟩)
    (cGB : PySem.W.codeIn K cdGB "Ground.best" = true)
    (kGB : PySem.W.keepIn K (.ref fGB) = true)
    (aTh : PySem.W.findIn K (.ref CG) "throw_up" = some (some (.ref fTh)))
    (iTh : PySem.W.isFn K (.ref fTh) = true)
    (lTh : K.lookup fTh = some ⟨ocTh, odTh, .func (PySem.W.fnOf "throw_up" "Ground.throw_up" (defArgs sThrow) (defBody sThrow) (defScope sThrow) .none kVTh dcTh pmTh anTh cdTh ctTh), slTh⟩)
    (cTh : PySem.W.codeIn K cdTh "Ground.throw_up" = true)
    (kTh : PySem.W.keepIn K (.ref fTh) = true)
    (pgCF : PySem.W.plainGet K CF Str.empty = true)
    (hdCF : PySem.W.hasDictIn K CF = true)
    (poCF : PySem.W.plainOver K CF = true)
    (saCF : PySem.W.findIn K (.ref CF) "__setattr__" = some (some (.builtin "object.__setattr__")))
    (mkCF : PySem.W.makesIn K CF = true)
    (kcCF : PySem.W.keepIn K (.ref CF) = true)
    (pgCG : PySem.W.plainGet K CG Str.empty = true)
    (hdCG : PySem.W.hasDictIn K CG = true)
    (poCG : PySem.W.plainOver K CG = true)
    (saCG : PySem.W.findIn K (.ref CG) "__setattr__" = some (some (.builtin "object.__setattr__")))
    (mkCG : PySem.W.makesIn K CG = true)
    (kcCG : PySem.W.keepIn K (.ref CG) = true)
    (nmany : PySem.W.findIn K (.ref CF) "many" = some none)
    (nnear : PySem.W.findIn K (.ref CF) "near" = some none)
    (nfield : PySem.W.findIn K (.ref CG) "field" = some none)
    (nheights : PySem.W.findIn K (.ref CG) "heights" = some none)
    (ncode : PySem.W.findIn K (.ref CR) "code" = some none)
    (xR : K.lookup CR = some (excClassObj nmR qR CR NR bsR [.type "ValueError", .type "Exception", .type "BaseException", .type "object"] true snR subR abR colR ddR m0R m1R m2R m3R m5R "ValueError.__new__"))
    (saR : PySem.W.findIn K (.ref CR) "__setattr__" = some (some (.builtin "object.__setattr__")))
    (gaR : PySem.W.findIn K (.ref CR) "__getattribute__" = some (some (.builtin "BaseException.__getattribute__")))
    (ggR : PySem.W.findIn K (.ref CR) "__getattr__" = some none)
    (kR : PySem.W.keepIn K (.ref CR) = true)
    (eR : PySem.W.subIn K (.ref CR) (.type "BaseException") = some true)
    (tR : PySem.W.typeIn K (.ref CR) = some (.type "type"))
    (hR : PySem.W.hasDictIn K CR = true)
    (iR : PySem.W.isClsIn K CR = true)
    (sR : PySem.W.subIn K (.ref CR) (.ref CR) = some true)
    (zsides : PySem.W.nsIn K mainGlobals "ALL_SIDES" = some (some (.int 4 tsides)))
    (zbad : PySem.W.nsIn K mainGlobals "BAD" = some (some (.int (-1) tbad)))
    (znoPlace : PySem.W.nsIn K mainGlobals "NO_PLACE" = some (some (.int (-2) tnoPlace)))
    (zmPlaces : PySem.W.nsIn K mainGlobals "MOST_PLACES" = some (some (.int 25 tmPlaces)))
    (zmHeight : PySem.W.nsIn K mainGlobals "MOST_HEIGHT" = some (some (.int 1000 tmHeight)))
    (zmMore : PySem.W.nsIn K mainGlobals "MOST_MORE" = some (some (.int 1000 tmMore)))
    (zmBest : PySem.W.nsIn K mainGlobals "MOST_BEST" = some (some (.int 20 tmBest)))
    (olen : PySem.W.nsIn K mainGlobals "len" = some none)
    (omin : PySem.W.nsIn K mainGlobals "min" = some none)
    (omax : PySem.W.nsIn K mainGlobals "max" = some none)
    (osum : PySem.W.nsIn K mainGlobals "sum" = some none)
    (orange : PySem.W.nsIn K mainGlobals "range" = some none)
    (oint : PySem.W.nsIn K mainGlobals "int" = some none)
    (olist : PySem.W.nsIn K mainGlobals "list" = some none)
    (oValueError : PySem.W.nsIn K mainGlobals "ValueError" = some none)
    (gN : PySem.W.nsIn K mainGlobals "NUMBERS" = some (some (.ref aN)))
    (lN_ : K.lookup aN = some ⟨.type "tuple", dN, .seq #[.int 2 u0, .int 2 u1, .int 1 u2, .int 0 u3, .int 2 u4, .int 1 u5, .int 2 u6] nN, slN⟩)
    : ∃ fd : FuncData, (∀ (s : Shared) (us : List Value), us.length = (["calls"] : List Str).length → BindsTo s fd ⟨us, []⟩ ((["calls"] : List Str).zip us)) ∧ ∀ base : Heap, K.In base → base.Ns mainGlobals mg → FnOk P w K mg base CX0 8 fa fd ["calls"] (spAns K) := by
  have e := hfa.symm.trans (PySem.W.mg_of X G aAs)
  cases e
  have T : Txt K mg CF CG CR :=
    { clF := ⟨pgCF, hdCF, poCF, saCF⟩, nMany := nmany, nNear := nnear, clG := ⟨pgCG, hdCG, poCG, saCG⟩, nField := nfield, nHeights := nheights,
      len := PySem.W.mg_none_of X G olen, min := PySem.W.mg_none_of X G omin, max := PySem.W.mg_none_of X G omax, sum := PySem.W.mg_none_of X G osum, range := PySem.W.mg_none_of X G orange, int := PySem.W.mg_none_of X G oint, list := PySem.W.mg_none_of X G olist, valErr := PySem.W.mg_none_of X G oValueError,
      sides := ⟨_, PySem.W.mg_of X G zsides⟩, bad := ⟨_, PySem.W.mg_of X G zbad⟩, noPlace := ⟨_, PySem.W.mg_of X G znoPlace⟩, mPlaces := ⟨_, PySem.W.mg_of X G zmPlaces⟩, mHeight := ⟨_, PySem.W.mg_of X G zmHeight⟩, mMore := ⟨_, PySem.W.mg_of X G zmMore⟩, mBest := ⟨_, PySem.W.mg_of X G zmBest⟩,
      gR := PySem.W.mg_of X G gCR }
  have R : RefT K mg CR fRI := ⟨⟨⟨nmR, qR, NR, bsR, _, snR, subR, abR, colR, ddR, m0R, m1R, m2R, m3R, m5R, xR, by decide +kernel⟩, saR, eR, tR, kR⟩, aRI, tRI, ncode, PySem.W.mg_of X G gCR⟩
  have XC : XfC K CR := ⟨gaR, ggR, eR, hR⟩
  have te := exm_self eR iR tR sR
  have FNb := fun_mk (st := sNeigh) lNb cNb kNb
  have bNb := FNb.binds (ps := ["place", "rows", "columns"]) fun _ _ _ _ _ _ us hl => match us, hl with | [_, _, _], _ => rfl
  have FLw := fun_mk (st := sLow) lLw cLw kLw
  have bLw := FLw.binds (ps := ["field", "heights", "place"]) fun _ _ _ _ _ _ us hl => match us, hl with | [_, _, _], _ => rfl
  have FDr := fun_mk (st := sDrop) lDr cDr kDr
  have bDr := FDr.binds (ps := ["field", "heights", "place"]) fun _ _ _ _ _ _ us hl => match us, hl with | [_, _, _], _ => rfl
  have FOv := fun_mk (st := sOver) lOv cOv kOv
  have bOv := FOv.binds (ps := ["heights", "levels", "field", "place"]) fun _ _ _ _ _ _ us hl => match us, hl with | [_, _, _, _], _ => rfl
  have FBt := fun_mk (st := sBetter) lBt cBt kBt
  have bBt := FBt.binds (ps := ["found", "known"]) fun _ _ _ _ _ _ us hl => match us, hl with | [_, _], _ => rfl
  have FLv := fun_mk (st := sLev) lLv cLv kLv
  have bLv := FLv.binds (ps := ["field", "heights"]) fun _ _ _ _ _ _ us hl => match us, hl with | [_, _], _ => rfl
  have FKp := fun_mk (st := sKept) lKp cKp kKp
  have bKp := FKp.binds (ps := ["field", "heights"]) fun _ _ _ _ _ _ us hl => match us, hl with | [_, _], _ => rfl
  have FBk := fun_mk (st := sBank) lBk cBk kBk
  have bBk := FBk.binds (ps := ["heights", "place", "more"]) fun _ _ _ _ _ _ us hl => match us, hl with | [_, _, _], _ => rfl
  have FBs := fun_mk (st := sBest) lBs cBs kBs
  have bBs := FBs.binds (ps := ["field", "heights", "most"]) fun _ _ _ _ _ _ us hl => match us, hl with | [_, _, _], _ => rfl
  have FWt := fun_mk (st := sWant) lWt cWt kWt
  have bWt := FWt.binds (ps := ["truth", "code"]) fun _ _ _ _ _ _ us hl => match us, hl with | [_, _], _ => rfl
  have FOf := fun_mk (st := sOf) lOf cOf kOf
  have bOf := FOf.binds (ps := ["ground", "call", "some"]) fun _ _ _ _ _ _ us hl => match us, hl with | [_, _, _], _ => rfl
  have FAn := fun_mk (st := sAnd) lAn cAn kAn
  have bAn := FAn.binds (ps := ["ground", "call", "some"]) fun _ _ _ _ _ _ us hl => match us, hl with | [_, _, _], _ => rfl
  have FAs := fun_mk (st := sAns) lAs cAs kAs
  have FFI := fun_mk (st := sFI) lFI cFI kFI
  have bFI := FFI.binds (ps := ["self", "rows", "columns"]) fun _ _ _ _ _ _ us hl => match us, hl with | [_, _, _], _ => rfl
  have FEd := fun_mk (st := sEdge) lEd cEd kEd
  have bEd := FEd.binds (ps := ["self", "place"]) fun _ _ _ _ _ _ us hl => match us, hl with | [_, _], _ => rfl
  have FRI := fun_mk (st := sRI) lRI cRI kRI
  have bRI := FRI.binds (ps := ["self", "code"]) fun _ _ _ _ _ _ us hl => match us, hl with | [_, _], _ => rfl
  have FGI := fun_mk (st := sGI) lGI cGI kGI
  have bGI := FGI.binds (ps := ["self"]) fun _ _ _ _ _ _ us hl => match us, hl with | [_], _ => rfl
  have FWP := fun_mk (st := sWP) lWP cWP kWP
  have bWP := FWP.binds (ps := ["self", "place"]) fun _ _ _ _ _ _ us hl => match us, hl with | [_, _], _ => rfl
  have FBe := fun_mk (st := sBegins) lBe cBe kBe
  have bBe := FBe.binds (ps := ["self", "rows", "columns"]) fun _ _ _ _ _ _ us hl => match us, hl with | [_, _, _], _ => rfl
  have FHe := fun_mk (st := sHeight) lHe cHe kHe
  have bHe := FHe.binds (ps := ["self", "place", "height"]) fun _ _ _ _ _ _ us hl => match us, hl with | [_, _, _], _ => rfl
  have FGD := fun_mk (st := sGDrop) lGD cGD kGD
  have bGD := FGD.binds (ps := ["self", "place"]) fun _ _ _ _ _ _ us hl => match us, hl with | [_, _], _ => rfl
  have FTo := fun_mk (st := sTold) lTo cTo kTo
  have bTo := FTo.binds (ps := ["self", "heights"]) fun _ _ _ _ _ _ us hl => match us, hl with | [_, _], _ => rfl
  have FCh := fun_mk (st := sCheck) lCh cCh kCh
  have bCh := FCh.binds (ps := ["self", "place", "more"]) fun _ _ _ _ _ _ us hl => match us, hl with | [_, _, _], _ => rfl
  have FGB := fun_mk (st := sGBest) lGB cGB kGB
  have bGB := FGB.binds (ps := ["self", "most"]) fun _ _ _ _ _ _ us hl => match us, hl with | [_, _], _ => rfl
  have FTh := fun_mk (st := sThrow) lTh cTh kTh
  have bTh := FTh.binds (ps := ["self", "place", "more"]) fun _ _ _ _ _ _ us hl => match us, hl with | [_, _, _], _ => rfl
  have hN : ∀ H, SqT K H aN (NUMS.map V.int) := fun H => .inr ⟨_, _, _, lN_, rfl, rfl, (show 7 ≤ sizeLine by decide), .cons ⟨_, rfl⟩ (.cons ⟨_, rfl⟩ (.cons ⟨_, rfl⟩ (.cons ⟨_, rfl⟩ (.cons ⟨_, rfl⟩ (.cons ⟨_, rfl⟩ (.cons ⟨_, rfl⟩ .nil))))))⟩
  refine ⟨PySem.W.fnOf "answers" "answers" (defArgs sAns) (defBody sAns) (defScope sAns) .none kVAs dcAs pmAs anAs cdAs ctAs, fun s us hu => match us, hu with | [_], _ => .of_eq rfl, fun base _ _ => ?_⟩
  have DNb : DefOk P w K mg base CX0 "neighbours" 1 ["place", "rows", "columns"] (spNeigh) := ⟨fNb, _, ok_neigh FNb, bNb, PySem.W.mg_of X G aNb, kNb⟩
  have DEd : MethOk P w K mg base CX0 CF "is_edge" 1 ["self", "place"] (spEdge CF) := ⟨fEd, _, ok_edge T FEd, bEd, ⟨aEd, iEd, kEd⟩⟩
  have DOv : DefOk P w K mg base CX0 "over" 1 ["heights", "levels", "field", "place"] (spOver CF) := ⟨fOv, _, ok_over T FOv, bOv, PySem.W.mg_of X G aOv, kOv⟩
  have DBt : DefOk P w K mg base CX0 "is_better" 1 ["found", "known"] (spBetter) := ⟨fBt, _, ok_better FBt, bBt, PySem.W.mg_of X G aBt, kBt⟩
  have DLv : DefOk P w K mg base CX0 "levels_of" 2 ["field", "heights"] (spLev CF) := ⟨fLv, _, ok_lev T FLv DEd DOv DBt, bLv, PySem.W.mg_of X G aLv, kLv⟩
  have DKp : DefOk P w K mg base CX0 "kept" 3 ["field", "heights"] (spKept CF) := ⟨fKp, _, ok_kept T FKp DLv, bKp, PySem.W.mg_of X G aKp, kKp⟩
  have DBk : DefOk P w K mg base CX0 "with_bank" 1 ["heights", "place", "more"] (spBank K) := ⟨fBk, _, ok_bank FBk, bBk, PySem.W.mg_of X G aBk, kBk⟩
  have DBs : DefOk P w K mg base CX0 "best_bank" 4 ["field", "heights", "most"] (spBest CF) := ⟨fBs, _, ok_best T FBs DKp DBk, bBs, PySem.W.mg_of X G aBs, kBs⟩
  have DLw : DefOk P w K mg base CX0 "lowest_beside" 1 ["field", "heights", "place"] (spLow CF) := ⟨fLw, _, ok_low T FLw, bLw, PySem.W.mg_of X G aLw, kLw⟩
  have DDr : DefOk P w K mg base CX0 "drop_from" 2 ["field", "heights", "place"] (spDrop CF) := ⟨fDr, _, ok_drop T FDr DLw, bDr, PySem.W.mg_of X G aDr, kDr⟩
  have DM : MakeOk P w K mg base CX0 "Field" CF 2 ["self", "rows", "columns"] (spFI CF) := ⟨fFI, _, ok_fi T FFI DNb, bFI, ⟨mkCF, aFI, iFI, kcCF⟩, PySem.W.mg_of X G gCF⟩
  have DWt : DefOk P w K mg base (L2.CX P w) "want" 3 ["truth", "code"] (spWant CR) := ⟨fWt, _, ok_want R (ok_ri T R FRI) bRI FWt, bWt, PySem.W.mg_of X G aWt, kWt⟩
  have DWP : MethOk P w K mg base (L2.CX P w) CG "want_place" 4 ["self", "place"] (spWP CF CG CR) := ⟨fWP, _, ok_wp T FWP DWt, bWP, ⟨aWP, iWP, kWP⟩⟩
  have DTo : MethOk P w K mg base CX0 CG "told_levels" 3 ["self", "heights"] (spTold CF CG) := ⟨fTo, _, ok_told T FTo DLv, bTo, ⟨aTo, iTo, kTo⟩⟩
  have DBe : MethOk P w K mg base (L2.CX P w) CG "begins" 5 ["self", "rows", "columns"] (spM CF CG CR aBegins) := ⟨fBe, _, ok_begins T FBe DWt DM, bBe, ⟨aBe, iBe, kBe⟩⟩
  have DHe : MethOk P w K mg base (L2.CX P w) CG "height" 5 ["self", "place", "height"] (spM CF CG CR aHeight) := ⟨fHe, _, ok_height T FHe DWt DWP, bHe, ⟨aHe, iHe, kHe⟩⟩
  have DGD : MethOk P w K mg base (L2.CX P w) CG "drop" 5 ["self", "place"] (spM CF CG CR aDrop) := ⟨fGD, _, ok_gdrop T FGD DWP DDr DEd, bGD, ⟨aGD, iGD, kGD⟩⟩
  have DCh : MethOk P w K mg base (L2.CX P w) CG "check" 5 ["self", "place", "more"] (spM CF CG CR aCheck) := ⟨fCh, _, ok_check T FCh DWt DWP DTo DBk, bCh, ⟨aCh, iCh, kCh⟩⟩
  have DGB : MethOk P w K mg base (L2.CX P w) CG "best" 5 ["self", "most"] (spM CF CG CR aBest) := ⟨fGB, _, ok_gbest T FGB DWt DBs, bGB, ⟨aGB, iGB, kGB⟩⟩
  have DTh : MethOk P w K mg base (L2.CX P w) CG "throw_up" 5 ["self", "place", "more"] (spM CF CG CR aThrow) := ⟨fTh, _, ok_throw T FTh DWt DWP DBk, bTh, ⟨aTh, iTh, kTh⟩⟩
  have DOf : DefOk P w K mg base (L2.CX P w) "of_call" 6 ["ground", "call", "some"] (spOf CF CG CR K) := ⟨fOf, _, ok_of T FOf DBe DHe DGD DTo DCh DGB DTh, bOf, PySem.W.mg_of X G aOf, kOf⟩
  have DAn : DefOk P w K mg base CX0 "answered" 7 ["ground", "call", "some"] (spAnd CF CG K) := ⟨fAn, _, ok_and R XC te FAn DOf, bAn, PySem.W.mg_of X G aAn, kAn⟩
  have DG : MakeOk P w K mg base CX0 "Ground" CG 4 ["self"] (spGI CF CG) := ⟨fGI, _, ok_gi T FGI DM, bGI, ⟨mkCG, aGI, iGI, kcCG⟩, PySem.W.mg_of X G gCG⟩
  exact ok_ans T FAs (PySem.W.mg_of X G gN) hN DG DAn
end GW
open PySem PySem.W PyProof.Rows
set_option maxRecDepth 100000 in
set_option maxHeartbeats 8000000 in
theorem PySem.Challenge.cw_groundwater_s01_answers_holds : PySem.Challenge.rw_groundwater_s01_answers.Holds := by
  w_on; k_headS; (case hw => exact ⟨[.list [.int 3]], by decide +kernel, by decide +kernel⟩)
  k_fillS
  refine L2.walk_specK (r := PySem.Challenge.rw_groundwater_s01_answers) (k := 8) (CX := L2.CX0) (ps := ["calls"]) (sp := GW.spAns) (by decide +kernel) rfl rfl ⟨rfl, by decide, by decide⟩ (fun w h Y => PySem.W.kIn_of Y) ?F ?S (fun _ _ _ _ z => z)
  case F =>
    intro w mg fa h Y KX G hmg
    refine' GW.all_mk KX G hmg ?gCF ?gCG ?gCR ?aNb ?lNb ?cNb ?kNb ?aLw ?lLw ?cLw ?kLw ?aDr ?lDr ?cDr ?kDr ?aOv ?lOv ?cOv ?kOv ?aBt ?lBt ?cBt ?kBt ?aLv ?lLv ?cLv ?kLv ?aKp ?lKp ?cKp ?kKp ?aBk ?lBk ?cBk ?kBk ?aBs ?lBs ?cBs ?kBs ?aWt ?lWt ?cWt ?kWt ?aOf ?lOf ?cOf ?kOf ?aAn ?lAn ?cAn ?kAn ?aAs ?lAs ?cAs ?kAs ?aFI ?iFI ?lFI ?cFI ?kFI ?aEd ?iEd ?lEd ?cEd ?kEd ?aRI ?tRI ?lRI ?cRI ?kRI ?aGI ?iGI ?lGI ?cGI ?kGI ?aWP ?iWP ?lWP ?cWP ?kWP ?aBe ?iBe ?lBe ?cBe ?kBe ?aHe ?iHe ?lHe ?cHe ?kHe ?aGD ?iGD ?lGD ?cGD ?kGD ?aTo ?iTo ?lTo ?cTo ?kTo ?aCh ?iCh ?lCh ?cCh ?kCh ?aGB ?iGB ?lGB ?cGB ?kGB ?aTh ?iTh ?lTh ?cTh ?kTh ?pgCF ?hdCF ?poCF ?saCF ?mkCF ?kcCF ?pgCG ?hdCG ?poCG ?saCG ?mkCG ?kcCG ?nmany ?nnear ?nfield ?nheights ?ncode ?xR ?saR ?gaR ?ggR ?kR ?eR ?tR ?hR ?iR ?sR ?zsides ?zbad ?znoPlace ?zmPlaces ?zmHeight ?zmMore ?zmBest ?olen ?omin ?omax ?osum ?orange ?oint ?olist ?oValueError ?gN ?lN_
    (case gCF => k_is)
    (case gCG => k_is)
    (case gCR => k_is)
    (case aNb => k_is)
    (case lNb => k_is)
    (case cNb => k_is)
    (case kNb => k_is)
    (case aLw => k_is)
    (case lLw => k_is)
    (case cLw => k_is)
    (case kLw => k_is)
    (case aDr => k_is)
    (case lDr => k_is)
    (case cDr => k_is)
    (case kDr => k_is)
    (case aOv => k_is)
    (case lOv => k_is)
    (case cOv => k_is)
    (case kOv => k_is)
    (case aBt => k_is)
    (case lBt => k_is)
    (case cBt => k_is)
    (case kBt => k_is)
    (case aLv => k_is)
    (case lLv => k_is)
    (case cLv => k_is)
    (case kLv => k_is)
    (case aKp => k_is)
    (case lKp => k_is)
    (case cKp => k_is)
    (case kKp => k_is)
    (case aBk => k_is)
    (case lBk => k_is)
    (case cBk => k_is)
    (case kBk => k_is)
    (case aBs => k_is)
    (case lBs => k_is)
    (case cBs => k_is)
    (case kBs => k_is)
    (case aWt => k_is)
    (case lWt => k_is)
    (case cWt => k_is)
    (case kWt => k_is)
    (case aOf => k_is)
    (case lOf => k_is)
    (case cOf => k_is)
    (case kOf => k_is)
    (case aAn => k_is)
    (case lAn => k_is)
    (case cAn => k_is)
    (case kAn => k_is)
    (case aAs => k_is)
    (case lAs => k_is)
    (case cAs => k_is)
    (case kAs => k_is)
    (case aFI => k_is)
    (case iFI => k_is)
    (case lFI => k_is)
    (case cFI => k_is)
    (case kFI => k_is)
    (case aEd => k_is)
    (case iEd => k_is)
    (case lEd => k_is)
    (case cEd => k_is)
    (case kEd => k_is)
    (case aRI => k_is)
    (case tRI => k_is)
    (case lRI => k_is)
    (case cRI => k_is)
    (case kRI => k_is)
    (case aGI => k_is)
    (case iGI => k_is)
    (case lGI => k_is)
    (case cGI => k_is)
    (case kGI => k_is)
    (case aWP => k_is)
    (case iWP => k_is)
    (case lWP => k_is)
    (case cWP => k_is)
    (case kWP => k_is)
    (case aBe => k_is)
    (case iBe => k_is)
    (case lBe => k_is)
    (case cBe => k_is)
    (case kBe => k_is)
    (case aHe => k_is)
    (case iHe => k_is)
    (case lHe => k_is)
    (case cHe => k_is)
    (case kHe => k_is)
    (case aGD => k_is)
    (case iGD => k_is)
    (case lGD => k_is)
    (case cGD => k_is)
    (case kGD => k_is)
    (case aTo => k_is)
    (case iTo => k_is)
    (case lTo => k_is)
    (case cTo => k_is)
    (case kTo => k_is)
    (case aCh => k_is)
    (case iCh => k_is)
    (case lCh => k_is)
    (case cCh => k_is)
    (case kCh => k_is)
    (case aGB => k_is)
    (case iGB => k_is)
    (case lGB => k_is)
    (case cGB => k_is)
    (case kGB => k_is)
    (case aTh => k_is)
    (case iTh => k_is)
    (case lTh => k_is)
    (case cTh => k_is)
    (case kTh => k_is)
    (case pgCF => k_is)
    (case hdCF => k_is)
    (case poCF => k_is)
    (case saCF => k_is)
    (case mkCF => k_is)
    (case kcCF => k_is)
    (case pgCG => k_is)
    (case hdCG => k_is)
    (case poCG => k_is)
    (case saCG => k_is)
    (case mkCG => k_is)
    (case kcCG => k_is)
    (case nmany => k_is)
    (case nnear => k_is)
    (case nfield => k_is)
    (case nheights => k_is)
    (case ncode => k_is)
    (case xR => k_is)
    (case saR => k_is)
    (case gaR => k_is)
    (case ggR => k_is)
    (case kR => k_is)
    (case eR => k_is)
    (case tR => k_is)
    (case hR => k_is)
    (case iR => k_is)
    (case sR => first | rfl | k_is)
    (case zsides => k_is)
    (case zbad => k_is)
    (case znoPlace => k_is)
    (case zmPlaces => k_is)
    (case zmHeight => k_is)
    (case zmMore => k_is)
    (case zmBest => k_is)
    (case olen => k_is)
    (case omin => k_is)
    (case omax => k_is)
    (case osum => k_is)
    (case orange => k_is)
    (case oint => k_is)
    (case olist => k_is)
    (case oValueError => k_is)
    (case gN => k_is)
    (case lN_ => k_is)
  case S =>
    intro K H xs a hO hwi hask hx
    cases hx with
    | cons h1 h2 =>
      cases h2
      cases h1 with
      | lst hs ha =>
        have e := L2.ints_dw a.1 _ ha
        subst e
        exact ⟨_, a.1, rfl, hs, hask, fun H' p hp => .lst (L2.SqL.of hp) (L2.dw_ints _)⟩
#print axioms PySem.Challenge.cw_groundwater_s01_answers_holds
