import PyProof.Rows.All
import Wide.All
import OpenK.AllK
import Wide.FinOn
import HandS.ForMost
import HandS.Evl
import HandS.Steps
import HandS.IsInst
import HandS.TupMul
import HandS.TupAny
import HandS.DictComp
import HandS.Style
import HandS.Conv
import HandS.Walk
import PySem.Challenge.RW_stepdown_k14_whole_cells_do_the_same
set_option linter.all false
namespace Sd

/-! ### lists of ints: blanks at the end, at the front -/
def trim : List Int → List Int
  | [] => []
  | x :: r => match trim r with
    | [] => if x = 0 then [] else [x]
    | y :: t => x :: y :: t
def lead : List Int → List Int
  | [] => []
  | x :: r => if x = 0 then lead r else x :: r
def strip (xs : List Int) : List Int := trim (lead xs)

theorem trim_cons0 {x : Int} {r : List Int} (h : trim r = []) : trim (x :: r) = if x = 0 then [] else [x] := by
  rw [trim, h]
theorem trim_cons1 {x : Int} {r : List Int} (h : trim r ≠ []) : trim (x :: r) = x :: trim r := by
  rw [trim]
  cases e : trim r with
  | nil => exact absurd e h
  | cons y t => rfl
theorem trim_trim : ∀ r : List Int, trim (trim r) = trim r
  | [] => rfl
  | x :: r => by
    by_cases h : trim r = []
    · rw [trim_cons0 h]
      by_cases hx : x = 0
      · rw [if_pos hx]; rfl
      · rw [if_neg hx]
        rw [trim_cons0 (r := []) rfl, if_neg hx]
    · rw [trim_cons1 h, trim_cons1 (by rw [trim_trim r]; exact h), trim_trim r]
theorem trim_cons_trim (x : Int) (r : List Int) : trim (x :: trim r) = trim (x :: r) := by
  by_cases h : trim r = []
  · rw [trim_cons0 h, h, trim_cons0 (r := []) rfl]
  · rw [trim_cons1 h, trim_cons1 (by rw [trim_trim r]; exact h), trim_trim r]
theorem trim_len : ∀ r : List Int, (trim r).length ≤ r.length
  | [] => Nat.le_refl _
  | x :: r => by
    have ih := trim_len r
    by_cases h : trim r = []
    · rw [trim_cons0 h]
      by_cases hx : x = 0
      · rw [if_pos hx]; exact Nat.zero_le _
      · rw [if_neg hx, List.length_cons, List.length_cons]; simp
    · rw [trim_cons1 h, List.length_cons, List.length_cons]; omega
theorem trim_mem : ∀ {r : List Int} {x : Int}, x ∈ trim r → x ∈ r
  | [], x, h => by cases h
  | y :: r, x, h => by
    by_cases e : trim r = []
    · rw [trim_cons0 e] at h
      by_cases hy : y = 0
      · rw [if_pos hy] at h; cases h
      · rw [if_neg hy] at h
        rcases List.mem_singleton.mp h with rfl
        exact List.mem_cons_self
    · rw [trim_cons1 e] at h
      rcases List.mem_cons.mp h with rfl | h
      · exact List.mem_cons_self
      · exact List.mem_cons_of_mem _ (trim_mem h)
theorem trim_zeros : ∀ {r : List Int}, (∀ x ∈ r, x = 0) → trim r = []
  | [], _ => rfl
  | x :: r, h => by
    rw [trim_cons0 (trim_zeros fun y hy => h y (List.mem_cons_of_mem _ hy)), if_pos (h x List.mem_cons_self)]
/-- the first c of xs, where all behind are blanks and the last of them is none -/
theorem trim_take : ∀ (xs : List Int) (c : Nat), (∀ (i : Nat) (x : Int), c ≤ i → xs[i]? = some x → x = 0) → c ≤ xs.length → (∀ x, 0 < c → xs[c - 1]? = some x → x ≠ 0) → xs.take c = trim xs
  | xs, 0, h, _, _ => by
    rw [List.take_zero, trim_zeros]
    intro x hx
    obtain ⟨i, hi⟩ := List.getElem?_of_mem hx
    exact h i x (Nat.zero_le _) hi
  | [], c + 1, _, hc, _ => by simp at hc
  | x :: r, c + 1, h, hc, hn => by
    rw [List.take_succ_cons]
    cases c with
    | zero =>
      have hx : x ≠ 0 := hn x (by omega) (by simp)
      have hz : trim r = [] := trim_zeros fun y hy => by
        obtain ⟨i, hi⟩ := List.getElem?_of_mem hy
        exact h (i + 1) y (by omega) (by simpa using hi)
      rw [trim_cons0 hz, if_neg hx]
      rfl
    | succ c =>
      have ih : r.take (c + 1) = trim r := trim_take r (c + 1) (fun i y hi e => h (i + 1) y (by omega) (by simpa using e)) (by simpa using hc) (fun y _ e => hn y (by omega) (by simpa using e))
      have hne : trim r ≠ [] := by
        rw [← ih]
        intro e
        have : (r.take (c + 1)).length = 0 := by rw [e]; rfl
        rw [List.length_take] at this
        simp at hc
        omega
      rw [trim_cons1 hne, ih]

theorem trim_append_ne {h : Int} (hh : h ≠ 0) : ∀ (A B : List Int), trim (A ++ h :: B) = A ++ h :: trim B
  | [], B => by
    rw [List.nil_append, List.nil_append]
    by_cases e : trim B = []
    · rw [trim_cons0 e, if_neg hh, e]
    · rw [trim_cons1 e]
  | a :: A, B => by
    rw [List.cons_append, List.cons_append, trim_cons1, trim_append_ne hh A B]
    rw [trim_append_ne hh A B]
    intro e
    have := congrArg List.length e
    simp at this
theorem trim_snoc_zero : ∀ (A : List Int), trim (A ++ [0]) = trim A
  | [] => rfl
  | a :: A => by
    have ih := trim_snoc_zero A
    rw [List.cons_append]
    by_cases e : trim A = []
    · rw [trim_cons0 e, trim_cons0 (by rw [ih]; exact e)]
    · rw [trim_cons1 e, trim_cons1 (by rw [ih]; exact e), ih]
/-- zeros at the front go -/
theorem lead_append {h : Int} (hh : h ≠ 0) : ∀ (A B : List Int), lead (A ++ h :: B) = (trim A.reverse).reverse ++ h :: B
  | [], B => by
    show (if h = 0 then lead B else h :: B) = h :: B
    rw [if_neg hh]
  | a :: A, B => by
    rw [List.cons_append, lead, List.reverse_cons]
    by_cases ha : a = 0
    · rw [if_pos ha, ha, trim_snoc_zero, lead_append hh A B]
    · rw [if_neg ha, trim_append_ne ha A.reverse []]
      show a :: (A ++ h :: B) = (A.reverse ++ [a]).reverse ++ h :: B
      simp
theorem strip_at {h : Int} (hh : h ≠ 0) (A B : List Int) : strip (A ++ h :: B) = (trim A.reverse).reverse ++ h :: trim B := by
  unfold strip
  rw [lead_append hh, trim_append_ne hh]
theorem lead_drop : ∀ (xs : List Int) (b : Nat), (∀ (i : Nat) (x : Int), i < b → xs[i]? = some x → x = 0) → lead xs = lead (xs.drop b)
  | xs, 0, _ => by rw [List.drop_zero]
  | [], b + 1, _ => by simp
  | x :: r, b + 1, h => by
    have hx : x = 0 := h 0 x (by omega) rfl
    rw [List.drop_succ_cons, lead, if_pos hx]
    exact lead_drop r b fun i y hi e => h (i + 1) y (by omega) (by simpa using e)
theorem lead_ne {x : Int} {r : List Int} (h : x ≠ 0) : lead (x :: r) = x :: r := by rw [lead, if_neg h]
/-- what the two loops of without_ends find -/
theorem strip_cut {xs : List Int} {b e : Nat} (hb : b ≤ e) (he : e ≤ xs.length) (h1 : ∀ (i : Nat) (x : Int), i < b → xs[i]? = some x → x = 0) (h2 : ∀ x, b < xs.length → xs[b]? = some x → x ≠ 0)
    (h3 : ∀ (i : Nat) (x : Int), e ≤ i → xs[i]? = some x → x = 0) (h4 : ∀ x, b < e → xs[e - 1]? = some x → x ≠ 0) : (xs.drop b).take (e - b) = strip xs := by
  unfold strip
  rw [lead_drop xs b h1]
  have e1 : lead (xs.drop b) = xs.drop b := by
    by_cases q : b < xs.length
    · have d : xs.drop b = xs[b] :: xs.drop (b + 1) := List.drop_eq_getElem_cons q
      rw [d]
      exact lead_ne (h2 xs[b] q (List.getElem?_eq_getElem q))
    · rw [List.drop_eq_nil_of_le (by omega)]; rfl
  rw [e1]
  refine trim_take (xs.drop b) (e - b) (fun i x hi q => ?_) (by rw [List.length_drop]; omega) (fun x hx q => ?_)
  · rw [List.getElem?_drop] at q
    exact h3 (b + i) x (by omega) q
  · rw [List.getElem?_drop] at q
    exact h4 x (by omega) (by rw [show b + (e - b - 1) = e - 1 by omega] at q; exact q)

/-! ### a step of a line of cells -/
/-- the letters after a step: p stands to the left of the row, 0 to the right -/
def foll (f : Int → Int → Int → Int) : Int → List Int → List Int
  | _, [] => []
  | p, [x] => [f p x 0]
  | p, x :: y :: r => f p x y :: foll f x (y :: r)
theorem foll_len (f : Int → Int → Int → Int) : ∀ (p : Int) (xs : List Int), (foll f p xs).length = xs.length
  | _, [] => rfl
  | _, [_] => rfl
  | p, x :: y :: r => by
    rw [foll, List.length_cons, foll_len f x (y :: r)]
    rfl
theorem foll_get (f : Int → Int → Int → Int) : ∀ (p : Int) (xs : List Int) (i : Nat) (l x r : Int), (p :: xs)[i]? = some l → xs[i]? = some x → (xs ++ [0])[i + 1]? = some r → (foll f p xs)[i]? = some (f l x r)
  | _, [], i, _, _, _, _, h, _ => by simp at h
  | p, [y], 0, l, x, r, h1, h2, h3 => by
    simp at h1 h2 h3
    subst h1 h2 h3
    rfl
  | p, [y], i + 1, l, x, r, _, h2, _ => by simp at h2
  | p, y :: z :: t, 0, l, x, r, h1, h2, h3 => by
    simp at h1 h2 h3
    subst h1 h2 h3
    rfl
  | p, y :: z :: t, i + 1, l, x, r, h1, h2, h3 => by
    rw [foll]
    exact foll_get f y (z :: t) i l x r (by simpa using h1) (by simpa using h2) (by simpa using h3)
def rowsM (f : Int → Int → Int → Int) : Nat → List Int → List (List Int)
  | 0, xs => [xs]
  | n + 1, xs => if foll f 0 (0 :: xs ++ [0]) = 0 :: xs ++ [0] then [xs] else xs :: rowsM f n (foll f 0 xs)
theorem rowsM_head (f : Int → Int → Int → Int) : ∀ (n : Nat) (xs : List Int), (rowsM f n xs)[0]? = some xs
  | 0, _ => rfl
  | n + 1, xs => by
    rw [rowsM]
    by_cases h : foll f 0 (0 :: xs ++ [0]) = 0 :: xs ++ [0]
    · rw [if_pos h]; rfl
    · rw [if_neg h]; rfl
theorem rowsM_len (f : Int → Int → Int → Int) : ∀ (n : Nat) (xs : List Int), (rowsM f n xs).length ≤ n + 1
  | 0, _ => Nat.le_refl _
  | n + 1, xs => by
    rw [rowsM]
    by_cases h : foll f 0 (0 :: xs ++ [0]) = 0 :: xs ++ [0]
    · rw [if_pos h]; simp
    · rw [if_neg h, List.length_cons]
      have := rowsM_len f n (foll f 0 xs)
      omega

/-! ### the tape machine -/
structure Mach where
  m : Int
  s : Int
  rw : List (Option (Int × Int × Int))
def RowOk (m s : Int) : Option (Int × Int × Int) → Prop
  | none => True
  | some (w, v, q) => 0 ≤ w ∧ w < m ∧ (v = 1 ∨ v = -1) ∧ 0 ≤ q ∧ q < s
structure Mach.Ok (M : Mach) : Prop where
  m2 : 2 ≤ M.m
  m8 : M.m ≤ 8
  s1 : 1 ≤ M.s
  s5 : M.s ≤ 5
  len : (M.rw.length : Int) = M.m * M.s
  row : ∀ r ∈ M.rw, RowOk M.m M.s r
def Mach.at (M : Mach) (q a : Int) : Option (Int × Int × Int) := (M.rw[(q * M.m + a).toNat]?).getD none
def ltr (m a q : Int) : Int := m * (q + 1) + a

theorem mul_case {m q : Int} (h0 : 0 ≤ q) (h1 : q < 5) : (q = 0 ∧ q * m = 0) ∨ (q = 1 ∧ q * m = m) ∨ (q = 2 ∧ q * m = m + m) ∨ (q = 3 ∧ q * m = m + m + m) ∨ (q = 4 ∧ q * m = m + m + m + m) := by
  have h : q = 0 ∨ q = 1 ∨ q = 2 ∨ q = 3 ∨ q = 4 := by omega
  rcases h with rfl | rfl | rfl | rfl | rfl <;> omega
theorem idx_bd {m s q a : Int} (hm : 0 < m) (q0 : 0 ≤ q) (q1 : q < s) (a0 : 0 ≤ a) (a1 : a < m) : 0 ≤ q * m + a ∧ q * m + a < m * s := by
  have h1 : (q + 1) * m ≤ s * m := Int.mul_le_mul_of_nonneg_right (by omega) (by omega)
  have h2 : 0 ≤ q * m := Int.mul_nonneg q0 (by omega)
  rw [Int.add_mul, Int.one_mul] at h1
  rw [Int.mul_comm m s]
  omega
theorem ltr_bd {m s q a : Int} (hm : 0 < m) (q0 : 0 ≤ q) (q1 : q < s) (a0 : 0 ≤ a) (a1 : a < m) : m ≤ ltr m a q ∧ ltr m a q < m * (s + 1) := by
  have h := idx_bd hm q0 q1 a0 a1
  unfold ltr
  rw [Int.mul_add, Int.mul_one, Int.mul_add, Int.mul_one, Int.mul_comm m q]
  omega
theorem ltr_div {m q a : Int} (hm : 0 < m) (a0 : 0 ≤ a) (a1 : a < m) : ltr m a q / m - 1 = q := by
  unfold ltr
  rw [Int.add_comm, Int.add_mul_ediv_left a (q + 1) (by omega), Int.ediv_eq_zero_of_lt a0 a1]
  omega
theorem ltr_mod {m q a : Int} (a0 : 0 ≤ a) (a1 : a < m) : ltr m a q % m = a := by
  unfold ltr
  rw [Int.add_comm, Int.add_mul_emod_self_left, Int.emod_eq_of_lt a0 a1]

/-- the changes of [3.8] -/
def chg (M : Mach) (l x r : Int) : Option Int :=
  if l < M.m ∧ M.m ≤ x ∧ r < M.m then (M.at (x / M.m - 1) (x % M.m)).map fun p => p.1
  else if M.m ≤ l ∧ x < M.m ∧ r < M.m then
    match M.at (l / M.m - 1) (l % M.m) with
    | some (_, v, q) => if v = 1 then some (ltr M.m x q) else none
    | none => none
  else if l < M.m ∧ x < M.m ∧ M.m ≤ r then
    match M.at (r / M.m - 1) (r % M.m) with
    | some (_, v, q) => if v = 1 then none else some (ltr M.m x q)
    | none => none
  else none
def chF (M : Mach) (l x r : Int) : Int := (chg M l x r).getD x
section
variable {M : Mach} {q a b c w v q' l x r : Int}
theorem at_ok (O : M.Ok) (q a : Int) : RowOk M.m M.s (M.at q a) := by
  unfold Mach.at
  cases h : M.rw[(q * M.m + a).toNat]? with
  | none => exact trivial
  | some r => exact O.row r (List.mem_of_getElem? h)
theorem chg_mid (O : M.Ok) (q0 : 0 ≤ q) (q1 : q < M.s) (a0 : 0 ≤ a) (a1 : a < M.m) (hb : b < M.m) (hc : c < M.m) : chg M b (ltr M.m a q) c = (M.at q a).map fun p => p.1 := by
  have hm : 0 < M.m := by have := O.m2; omega
  have hl := ltr_bd hm q0 q1 a0 a1
  unfold chg
  rw [if_pos ⟨hb, hl.1, hc⟩, ltr_div hm a0 a1, ltr_mod a0 a1]
theorem chg_right (O : M.Ok) (q0 : 0 ≤ q) (q1 : q < M.s) (a0 : 0 ≤ a) (a1 : a < M.m) (hb : b < M.m) (hc : c < M.m) :
    chg M (ltr M.m a q) b c = match M.at q a with
    | some (_, v, q) => if v = 1 then some (ltr M.m b q) else none
    | none => none := by
  have hm : 0 < M.m := by have := O.m2; omega
  have hl := ltr_bd hm q0 q1 a0 a1
  unfold chg
  rw [if_neg (by omega), if_pos ⟨hl.1, hb, hc⟩, ltr_div hm a0 a1, ltr_mod a0 a1]
theorem chg_left (O : M.Ok) (q0 : 0 ≤ q) (q1 : q < M.s) (a0 : 0 ≤ a) (a1 : a < M.m) (hb : b < M.m) (hc : c < M.m) :
    chg M c b (ltr M.m a q) = match M.at q a with
    | some (_, v, q) => if v = 1 then none else some (ltr M.m b q)
    | none => none := by
  have hm : 0 < M.m := by have := O.m2; omega
  have hl := ltr_bd hm q0 q1 a0 a1
  unfold chg
  rw [if_neg (by omega), if_neg (by omega), if_pos ⟨hc, hb, hl.1⟩, ltr_div hm a0 a1, ltr_mod a0 a1]
theorem chg_marks (hl : l < M.m) (hx : x < M.m) (hr : r < M.m) : chg M l x r = none := by
  unfold chg
  rw [if_neg (by omega), if_neg (by omega), if_neg (by omega)]
theorem chF_mid (O : M.Ok) (q0 : 0 ≤ q) (q1 : q < M.s) (a0 : 0 ≤ a) (a1 : a < M.m) (hb : b < M.m) (hc : c < M.m) : chF M b (ltr M.m a q) c = match M.at q a with
    | some (w, _, _) => w
    | none => ltr M.m a q := by
  unfold chF
  rw [chg_mid O q0 q1 a0 a1 hb hc]
  cases M.at q a with
  | none => rfl
  | some p => rfl
theorem chF_right (O : M.Ok) (q0 : 0 ≤ q) (q1 : q < M.s) (a0 : 0 ≤ a) (a1 : a < M.m) (hb : b < M.m) (hc : c < M.m) : chF M (ltr M.m a q) b c = match M.at q a with
    | some (_, v, q) => if v = 1 then ltr M.m b q else b
    | none => b := by
  unfold chF
  rw [chg_right O q0 q1 a0 a1 hb hc]
  cases M.at q a with
  | none => rfl
  | some p =>
    obtain ⟨w, v, q'⟩ := p
    show (if v = 1 then some (ltr M.m b q') else none).getD b = if v = 1 then ltr M.m b q' else b
    by_cases h : v = 1
    · rw [if_pos h, if_pos h]; rfl
    · rw [if_neg h, if_neg h]; rfl
theorem chF_left (O : M.Ok) (q0 : 0 ≤ q) (q1 : q < M.s) (a0 : 0 ≤ a) (a1 : a < M.m) (hb : b < M.m) (hc : c < M.m) : chF M c b (ltr M.m a q) = match M.at q a with
    | some (_, v, q) => if v = 1 then b else ltr M.m b q
    | none => b := by
  unfold chF
  rw [chg_left O q0 q1 a0 a1 hb hc]
  cases M.at q a with
  | none => rfl
  | some p =>
    obtain ⟨w, v, q'⟩ := p
    show (if v = 1 then none else some (ltr M.m b q')).getD b = if v = 1 then b else ltr M.m b q'
    by_cases h : v = 1
    · rw [if_pos h, if_pos h]; rfl
    · rw [if_neg h, if_neg h]; rfl
theorem chF_marks (hl : l < M.m) (hx : x < M.m) (hr : r < M.m) : chF M l x r = x := by
  unfold chF
  rw [chg_marks hl hx hr]
  rfl
theorem chg_bd (O : M.Ok) {y : Int} (x0 : 0 ≤ x) (h : chg M l x r = some y) : 0 ≤ y ∧ y < M.m * (M.s + 1) := by
  have hm : 0 < M.m := by have := O.m2; omega
  have hs : M.m * (M.s + 1) ≥ M.m * 1 := Int.mul_le_mul_of_nonneg_left (by have := O.s1; omega) (by omega)
  rw [Int.mul_one] at hs
  unfold chg at h
  split at h
  · cases e : M.at (x / M.m - 1) (x % M.m) with
    | none => rw [e] at h; simp at h
    | some p =>
      obtain ⟨w, v, q'⟩ := p
      rw [e] at h
      simp at h
      subst h
      have ok := at_ok O (x / M.m - 1) (x % M.m)
      rw [e] at ok
      obtain ⟨k1, k2, _⟩ := ok
      constructor <;> omega
  · split at h
    · rename_i hx
      cases e : M.at (l / M.m - 1) (l % M.m) with
      | none => rw [e] at h; simp at h
      | some p =>
        obtain ⟨w, v, q'⟩ := p
        rw [e] at h
        simp only at h
        split at h
        · have ok := at_ok O (l / M.m - 1) (l % M.m)
          rw [e] at ok
          obtain ⟨_, _, _, k1, k2⟩ := ok
          have e2 : ltr M.m x q' = y := Option.some.inj h
          have := ltr_bd hm k1 k2 x0 hx.2.1
          rw [e2] at this
          constructor <;> omega
        · cases h
    · split at h
      · rename_i hx
        cases e : M.at (r / M.m - 1) (r % M.m) with
        | none => rw [e] at h; simp at h
        | some p =>
          obtain ⟨w, v, q'⟩ := p
          rw [e] at h
          simp only at h
          split at h
          · cases h
          · have ok := at_ok O (r / M.m - 1) (r % M.m)
            rw [e] at ok
            obtain ⟨_, _, _, k1, k2⟩ := ok
            have e2 : ltr M.m x q' = y := Option.some.inj h
            have := ltr_bd hm k1 k2 x0 hx.2.1
            rw [e2] at this
            constructor <;> omega
      · cases h
theorem chF_bd (O : M.Ok) (x0 : 0 ≤ x) (x1 : x < M.m * (M.s + 1)) : 0 ≤ chF M l x r ∧ chF M l x r < M.m * (M.s + 1) := by
  unfold chF
  cases h : chg M l x r with
  | none => exact ⟨x0, x1⟩
  | some y => exact chg_bd O x0 h
/-- which triples have a change -/
theorem chg_some (O : M.Ok) {y : Int} (l0 : 0 ≤ l) (x0 : 0 ≤ x) (r0 : 0 ≤ r) (l1 : l < M.m * (M.s + 1)) (x1 : x < M.m * (M.s + 1)) (r1 : r < M.m * (M.s + 1)) (h : chg M l x r = some y) :
    ∃ (q a b c w v q' : Int), 0 ≤ q ∧ q < M.s ∧ 0 ≤ a ∧ a < M.m ∧ 0 ≤ b ∧ b < M.m ∧ 0 ≤ c ∧ c < M.m ∧ M.at q a = some (w, v, q') ∧
      ((l = b ∧ x = ltr M.m a q ∧ r = c) ∨ (v = 1 ∧ l = ltr M.m a q ∧ x = b ∧ r = c) ∨ (v ≠ 1 ∧ l = c ∧ x = b ∧ r = ltr M.m a q)) := by
  have hm : 0 < M.m := by have := O.m2; omega
  have dec : ∀ z : Int, M.m ≤ z → z < M.m * (M.s + 1) → 0 ≤ z / M.m - 1 ∧ z / M.m - 1 < M.s ∧ 0 ≤ z % M.m ∧ z % M.m < M.m ∧ z = ltr M.m (z % M.m) (z / M.m - 1) := by
    intro z z0 z1
    have d1 : 1 ≤ z / M.m := (Int.le_ediv_iff_mul_le hm).mpr (by omega)
    have d2 : z / M.m < M.s + 1 := Int.ediv_lt_of_lt_mul hm (by rw [Int.mul_comm]; exact z1)
    have e1 := Int.emod_nonneg z (show M.m ≠ 0 by omega)
    have e2 := Int.emod_lt_of_pos z hm
    have e3 := Int.mul_ediv_add_emod z M.m
    refine ⟨by omega, by omega, e1, e2, ?_⟩
    unfold ltr
    rw [show z / M.m - 1 + 1 = z / M.m by omega]
    exact e3.symm
  unfold chg at h
  split at h
  · rename_i hx
    obtain ⟨k1, k2, k3, k4, k5⟩ := dec x hx.2.1 x1
    cases e : M.at (x / M.m - 1) (x % M.m) with
    | none => rw [e] at h; simp at h
    | some p =>
      obtain ⟨w, v, q'⟩ := p
      exact ⟨_, _, l, r, w, v, q', k1, k2, k3, k4, l0, hx.1, r0, hx.2.2, e, .inl ⟨rfl, k5, rfl⟩⟩
  · split at h
    · rename_i hx
      obtain ⟨k1, k2, k3, k4, k5⟩ := dec l hx.1 l1
      cases e : M.at (l / M.m - 1) (l % M.m) with
      | none => rw [e] at h; simp at h
      | some p =>
        obtain ⟨w, v, q'⟩ := p
        rw [e] at h
        simp only at h
        split at h
        · rename_i hv
          exact ⟨_, _, x, r, w, v, q', k1, k2, k3, k4, x0, hx.2.1, r0, hx.2.2, e, .inr (.inl ⟨hv, k5, rfl, rfl⟩)⟩
        · cases h
    · split at h
      · rename_i hx
        obtain ⟨k1, k2, k3, k4, k5⟩ := dec r hx.2.2 r1
        cases e : M.at (r / M.m - 1) (r % M.m) with
        | none => rw [e] at h; simp at h
        | some p =>
          obtain ⟨w, v, q'⟩ := p
          rw [e] at h
          simp only at h
          split at h
          · cases h
          · rename_i hv
            exact ⟨_, _, x, l, w, v, q', k1, k2, k3, k4, x0, hx.2.1, l0, hx.1, e, .inr (.inr ⟨hv, rfl, rfl, k5⟩)⟩
      · cases h
end

/-! ### configurations, their lines, a step -/
structure Cfg where
  q : Int
  l : List Int
  a : Int
  r : List Int
def Marks (m : Int) (xs : List Int) : Prop := ∀ x ∈ xs, 0 ≤ x ∧ x < m
structure CfgOk (M : Mach) (c : Cfg) : Prop where
  q0 : 0 ≤ c.q
  q1 : c.q < M.s
  a0 : 0 ≤ c.a
  a1 : c.a < M.m
  lm : Marks M.m c.l
  rm : Marks M.m c.r
  lt : trim c.l = c.l
  rt : trim c.r = c.r
def line (M : Mach) (c : Cfg) : List Int := c.l.reverse ++ ltr M.m c.a c.q :: c.r
def goes (c : Cfg) (w v q : Int) : Cfg := if v = 1 then ⟨q, trim (w :: c.l), c.r.headD 0, c.r.tail⟩ else ⟨q, c.l.tail, c.l.headD 0, trim (w :: c.r)⟩
def next (M : Mach) (c : Cfg) : Option Cfg := match M.at c.q c.a with
  | none => none
  | some (w, v, q) => some (goes c w v q)
theorem Marks.trim {m : Int} {xs : List Int} (h : Marks m xs) : Marks m (trim xs) := fun x hx => h x (trim_mem hx)
theorem Marks.tail {m : Int} {xs : List Int} (h : Marks m xs) : Marks m xs.tail := fun x hx => h x (List.mem_of_mem_tail hx)
theorem Marks.cons {m x : Int} {xs : List Int} (h : Marks m xs) (h0 : 0 ≤ x) (h1 : x < m) : Marks m (x :: xs) := fun y hy => by
  rcases List.mem_cons.mp hy with rfl | hy
  · exact ⟨h0, h1⟩
  · exact h y hy
theorem Marks.headD {m : Int} {xs : List Int} (hm : 0 < m) (h : Marks m xs) : 0 ≤ xs.headD 0 ∧ xs.headD 0 < m := by
  cases xs with
  | nil => exact ⟨Int.le_refl 0, hm⟩
  | cons x r => exact h x List.mem_cons_self
theorem trim_tail : ∀ {xs : List Int}, trim xs = xs → trim xs.tail = xs.tail
  | [], _ => rfl
  | x :: r, h => by
    show trim r = r
    by_cases e : trim r = []
    · rw [trim_cons0 e] at h
      by_cases hx : x = 0
      · rw [if_pos hx] at h; cases h
      · rw [if_neg hx] at h
        injection h with _ h2
        rw [← h2]; rfl
    · rw [trim_cons1 e] at h
      injection h
theorem goes_ok {M : Mach} {c : Cfg} {w v q : Int} (O : M.Ok) (C : CfgOk M c) (h : M.at c.q c.a = some (w, v, q)) : CfgOk M (goes c w v q) := by
  have hm : 0 < M.m := by have := O.m2; omega
  have ok := at_ok O c.q c.a
  rw [h] at ok
  obtain ⟨w0, w1, _, q0, q1⟩ := ok
  unfold goes
  by_cases hv : v = 1
  · rw [if_pos hv]
    exact ⟨q0, q1, (C.rm.headD hm).1, (C.rm.headD hm).2, (C.lm.cons w0 w1).trim, C.rm.tail, trim_trim _, trim_tail C.rt⟩
  · rw [if_neg hv]
    exact ⟨q0, q1, (C.lm.headD hm).1, (C.lm.headD hm).2, C.lm.tail, (C.rm.cons w0 w1).trim, trim_tail C.lt, trim_trim _⟩

section
variable {M : Mach} {q a p : Int}
theorem foll_marks : ∀ {B : List Int} {p : Int}, p < M.m → 0 < M.m → Marks M.m B → foll (chF M) p B = B
  | [], _, _, _, _ => rfl
  | [x], p, hp, hm, h => by
    show [chF M p x 0] = [x]
    rw [chF_marks hp (h x List.mem_cons_self).2 hm]
  | x :: y :: r, p, hp, hm, h => by
    rw [foll, chF_marks hp (h x List.mem_cons_self).2 (h y (List.mem_cons_of_mem _ List.mem_cons_self)).2,
      foll_marks (h x List.mem_cons_self).2 hm fun z hz => h z (List.mem_cons_of_mem _ hz)]
/-- behind the head -/
theorem foll_after (O : M.Ok) (q0 : 0 ≤ q) (q1 : q < M.s) (a0 : 0 ≤ a) (a1 : a < M.m) {b : Int} {B : List Int} (h : Marks M.m (b :: B)) : foll (chF M) (ltr M.m a q) (b :: B) = (match M.at q a with
    | some (_, v, q) => if v = 1 then ltr M.m b q else b
    | none => b) :: B := by
  have hm : 0 < M.m := by have := O.m2; omega
  have hb := (h b List.mem_cons_self).2
  cases B with
  | nil =>
    show [chF M (ltr M.m a q) b 0] = _
    rw [chF_right O q0 q1 a0 a1 hb hm]
  | cons x r =>
    have hx := (h x (List.mem_cons_of_mem _ List.mem_cons_self)).2
    rw [foll, chF_right O q0 q1 a0 a1 hb hx, foll_marks hb hm fun z hz => h z (List.mem_cons_of_mem _ hz)]
/-- the head and what is behind it, a mark to its left -/
theorem foll_head (O : M.Ok) (q0 : 0 ≤ q) (q1 : q < M.s) (a0 : 0 ≤ a) (a1 : a < M.m) (hp : p < M.m) {B : List Int} (h : Marks M.m B) : foll (chF M) p (ltr M.m a q :: B) = (match M.at q a with
    | some (w, _, _) => w
    | none => ltr M.m a q) :: foll (chF M) (ltr M.m a q) B := by
  have hm : 0 < M.m := by have := O.m2; omega
  cases B with
  | nil =>
    show [chF M p (ltr M.m a q) 0] = _
    rw [chF_mid O q0 q1 a0 a1 hp hm]
    rfl
  | cons x r => rw [foll, chF_mid O q0 q1 a0 a1 hp (h x List.mem_cons_self).2]
theorem foll_to (O : M.Ok) (q0 : 0 ≤ q) (q1 : q < M.s) (a0 : 0 ≤ a) (a1 : a < M.m) {b : Int} {B : List Int} : ∀ {A : List Int} {p : Int}, p < M.m → Marks M.m (A ++ [b]) →
    foll (chF M) p (A ++ b :: ltr M.m a q :: B) = A ++ (match M.at q a with
      | some (_, v, q) => if v = 1 then b else ltr M.m b q
      | none => b) :: foll (chF M) b (ltr M.m a q :: B)
  | [], p, hp, h => by
    have hb := (h b (by simp)).2
    rw [List.nil_append, List.nil_append, foll, chF_left O q0 q1 a0 a1 hb hp]
  | [x], p, hp, h => by
    have hx := (h x (by simp)).2
    have hb := (h b (by simp)).2
    have ih := foll_to O q0 q1 a0 a1 (b := b) (B := B) (A := []) (p := x) hx (fun z hz => h z (by simp at hz; simp [hz]))
    rw [List.nil_append, List.nil_append] at ih
    rw [List.cons_append, List.nil_append, foll, chF_marks hp hx hb, ih]
    rfl
  | x :: y :: A, p, hp, h => by
    have hx := (h x (by simp)).2
    have hy := (h y (by simp)).2
    have ih := foll_to O q0 q1 a0 a1 (b := b) (B := B) (A := y :: A) (p := x) hx (fun z hz => h z (by
      rw [List.cons_append, List.cons_append]
      exact List.mem_cons_of_mem _ (by rw [← List.cons_append]; exact hz)))
    rw [List.cons_append] at ih
    rw [List.cons_append, List.cons_append, foll, chF_marks hp hx hy, ih]
    rfl
end

/-- a row in which the configuration stands: A to the left of the head, B to the right, blanks at the ends as may be -/
structure RowAt (M : Mach) (c : Cfg) (A B : List Int) : Prop where
  am : Marks M.m A
  bm : Marks M.m B
  al : trim A.reverse = c.l
  br : trim B = c.r
theorem snoc_of : ∀ {A : List Int}, A ≠ [] → ∃ A' b, A = A' ++ [b] := fun {A} h => ⟨A.dropLast, A.getLast h, (List.dropLast_concat_getLast h).symm⟩
theorem row_still {M : Mach} {c : Cfg} {A B : List Int} (O : M.Ok) (C : CfgOk M c) (R : RowAt M c A B) (h : M.at c.q c.a = none) : foll (chF M) 0 (A ++ ltr M.m c.a c.q :: B) = A ++ ltr M.m c.a c.q :: B := by
  have hm : 0 < M.m := by have := O.m2; omega
  have hB : foll (chF M) (ltr M.m c.a c.q) B = B := by
    cases B with
    | nil => rfl
    | cons b B => rw [foll_after O C.q0 C.q1 C.a0 C.a1 R.bm, h]
  by_cases hA : A = []
  · subst hA
    rw [List.nil_append, foll_head O C.q0 C.q1 C.a0 C.a1 hm R.bm, h, hB]
  · obtain ⟨A', b, rfl⟩ := snoc_of hA
    have hb := (R.am b (by simp)).2
    rw [List.append_assoc, List.cons_append, List.nil_append, foll_to O C.q0 C.q1 C.a0 C.a1 hm R.am, foll_head O C.q0 C.q1 C.a0 C.a1 hb R.bm, h, hB]
theorem row_goes {M : Mach} {c : Cfg} {A B : List Int} {w v q : Int} (O : M.Ok) (C : CfgOk M c) (R : RowAt M c A B) (h : M.at c.q c.a = some (w, v, q)) (hA : A ≠ []) (hB : B ≠ []) :
    ∃ A' B', foll (chF M) 0 (A ++ ltr M.m c.a c.q :: B) = A' ++ ltr M.m (goes c w v q).a (goes c w v q).q :: B' ∧ RowAt M (goes c w v q) A' B' ∧ (A'.length : Int) = A.length + v ∧ (B'.length : Int) = B.length - v := by
  have hm : 0 < M.m := by have := O.m2; omega
  have ok := at_ok O c.q c.a
  rw [h] at ok
  obtain ⟨w0, w1, vv, q0, q1⟩ := ok
  obtain ⟨A', b, rfl⟩ := snoc_of hA
  cases B with
  | nil => exact absurd rfl hB
  | cons x B =>
    have hb := R.am b (by simp)
    have hx := R.bm x (by simp)
    have hB' : Marks M.m B := fun z hz => R.bm z (List.mem_cons_of_mem _ hz)
    have hA' : Marks M.m A' := fun z hz => R.am z (List.mem_append_left _ hz)
    have e : foll (chF M) 0 (A' ++ [b] ++ ltr M.m c.a c.q :: x :: B) = A' ++ (if v = 1 then b else ltr M.m b q) :: w :: (if v = 1 then ltr M.m x q else x) :: B := by
      rw [List.append_assoc, List.cons_append, List.nil_append, foll_to O C.q0 C.q1 C.a0 C.a1 hm R.am, foll_head O C.q0 C.q1 C.a0 C.a1 hb.2 R.bm, foll_after O C.q0 C.q1 C.a0 C.a1 R.bm, h]
    have hal := R.al
    rw [List.reverse_append] at hal
    have hal : trim (b :: A'.reverse) = c.l := hal
    have hbr := R.br
    by_cases hv : v = 1
    · rw [if_pos hv, if_pos hv] at e
      have ga : (goes c w v q).a = x ∧ (goes c w v q).q = q ∧ (goes c w v q).l = trim (w :: c.l) ∧ (goes c w v q).r = trim B := by
        unfold goes
        rw [if_pos hv]
        by_cases t : trim B = []
        · rw [trim_cons0 t] at hbr
          by_cases hx0 : x = 0
          · rw [if_pos hx0] at hbr
            rw [← hbr, t, hx0]
            exact ⟨rfl, rfl, rfl, rfl⟩
          · rw [if_neg hx0] at hbr
            rw [← hbr, t]
            exact ⟨rfl, rfl, rfl, rfl⟩
        · rw [trim_cons1 t] at hbr
          rw [← hbr]
          exact ⟨rfl, rfl, rfl, rfl⟩
      obtain ⟨g1, g2, g3, g4⟩ := ga
      refine ⟨A' ++ [b] ++ [w], B, ?_, ⟨?_, hB', ?_, g4.symm⟩, ?_, ?_⟩
      · rw [e, g1, g2]
        simp
      · intro z hz
        rcases List.mem_append.mp hz with hz | hz
        · exact R.am z hz
        · rw [List.mem_singleton.mp hz]
          exact ⟨w0, w1⟩
      · rw [g3, List.reverse_append, ← hal, trim_cons_trim]
        simp
      · simp; omega
      · simp; omega
    · have hv1 : v = -1 := by omega
      rw [if_neg hv, if_neg hv] at e
      have ga : (goes c w v q).a = b ∧ (goes c w v q).q = q ∧ (goes c w v q).l = trim A'.reverse ∧ (goes c w v q).r = trim (w :: c.r) := by
        unfold goes
        rw [if_neg hv]
        by_cases t : trim A'.reverse = []
        · rw [trim_cons0 t] at hal
          by_cases hx0 : b = 0
          · rw [if_pos hx0] at hal
            rw [← hal, t, hx0]
            exact ⟨rfl, rfl, rfl, rfl⟩
          · rw [if_neg hx0] at hal
            rw [← hal, t]
            exact ⟨rfl, rfl, rfl, rfl⟩
        · rw [trim_cons1 t] at hal
          rw [← hal]
          exact ⟨rfl, rfl, rfl, rfl⟩
      obtain ⟨g1, g2, g3, g4⟩ := ga
      refine ⟨A', w :: x :: B, ?_, ⟨hA', R.bm.cons w0 w1, g3.symm, ?_⟩, ?_, ?_⟩
      · rw [e, g1, g2]
      · rw [g4, ← hbr, trim_cons_trim]
      · simp; omega
      · simp; omega
theorem ltr_ne0 {M : Mach} {c : Cfg} (O : M.Ok) (C : CfgOk M c) : ltr M.m c.a c.q ≠ 0 := by
  have := (ltr_bd (s := M.s) (by have := O.m2; omega) C.q0 C.q1 C.a0 C.a1).1
  have := O.m2
  omega
/-- a line's own ends are no blanks -/
theorem line_strip {M : Mach} {c : Cfg} (O : M.Ok) (C : CfgOk M c) : strip (line M c) = line M c := by
  unfold line
  rw [strip_at (ltr_ne0 O C), List.reverse_reverse, C.lt, C.rt]
theorem row_strip {M : Mach} {c : Cfg} {A B : List Int} (O : M.Ok) (C : CfgOk M c) (R : RowAt M c A B) : strip (A ++ ltr M.m c.a c.q :: B) = line M c := by
  unfold line
  rw [strip_at (ltr_ne0 O C), R.al, R.br]
theorem zeros_trim (xs : List Int) : ∀ n : Nat, trim (xs ++ List.replicate n 0) = trim xs
  | 0 => by simp
  | n + 1 => by
    rw [List.replicate_succ', ← List.append_assoc, trim_snoc_zero, zeros_trim xs n]
theorem zeros_marks {m : Int} (hm : 0 < m) (n : Nat) : Marks m (List.replicate n 0) := fun x hx => by
  rw [(List.mem_replicate.mp hx).2]
  exact ⟨Int.le_refl 0, hm⟩
theorem Marks.append {m : Int} {xs ys : List Int} (h : Marks m xs) (k : Marks m ys) : Marks m (xs ++ ys) := fun x hx => (List.mem_append.mp hx).elim (h x) (k x)
theorem Marks.rev {m : Int} {xs : List Int} (h : Marks m xs) : Marks m xs.reverse := fun x hx => h x (List.mem_reverse.mp hx)
/-- n blanks on both sides of the line -/
theorem row_pad {M : Mach} {c : Cfg} (O : M.Ok) (C : CfgOk M c) (n : Nat) : RowAt M c (List.replicate n 0 ++ c.l.reverse) (c.r ++ List.replicate n 0) := by
  have hm : 0 < M.m := by have := O.m2; omega
  refine ⟨(zeros_marks hm n).append C.lm.rev, C.rm.append (zeros_marks hm n), ?_, ?_⟩
  · rw [List.reverse_append, List.reverse_reverse, List.reverse_replicate, zeros_trim, C.lt]
  · rw [zeros_trim, C.rt]
theorem row_moves {M : Mach} {c : Cfg} {A B : List Int} {w v q : Int} (O : M.Ok) (C : CfgOk M c) (R : RowAt M c A B) (h : M.at c.q c.a = some (w, v, q)) (hA : A ≠ []) (hB : B ≠ []) :
    foll (chF M) 0 (A ++ ltr M.m c.a c.q :: B) ≠ A ++ ltr M.m c.a c.q :: B := by
  have hm : 0 < M.m := by have := O.m2; omega
  have ok := at_ok O c.q c.a
  rw [h] at ok
  obtain ⟨_, _, vv, _, _⟩ := ok
  obtain ⟨A', B', e, R', hl, hr⟩ := row_goes O C R h hA hB
  have hh := (ltr_bd (s := M.s) hm C.q0 C.q1 C.a0 C.a1).1
  intro z
  rw [e] at z
  have o1 : (A ++ ltr M.m c.a c.q :: B)[A.length]? = some (ltr M.m c.a c.q) := by simp
  rw [← z] at o1
  rcases vv with rfl | rfl
  · rw [List.getElem?_append_left (by omega)] at o1
    have := (R'.am _ (List.mem_of_getElem? o1)).2
    omega
  · rw [List.getElem?_append_right (by omega), show A.length - A'.length = 0 + 1 by omega, List.getElem?_cons_succ] at o1
    have := (R'.bm _ (List.mem_of_getElem? o1)).2
    omega
theorem pad1 {M : Mach} {c : Cfg} {A B : List Int} (O : M.Ok) (R : RowAt M c A B) : RowAt M c (0 :: A) (B ++ [0]) := by
  have hm : 0 < M.m := by have := O.m2; omega
  refine ⟨R.am.cons (Int.le_refl 0) hm, R.bm.append (fun x hx => by rw [List.mem_singleton.mp hx]; exact ⟨Int.le_refl 0, hm⟩), ?_, ?_⟩
  · rw [List.reverse_cons, trim_snoc_zero, R.al]
  · rw [trim_snoc_zero, R.br]
theorem pad_eq (A B : List Int) (h : Int) : 0 :: (A ++ h :: B) ++ [0] = (0 :: A) ++ h :: (B ++ [0]) := by simp
theorem line_row {M : Mach} {c : Cfg} (C : CfgOk M c) : RowAt M c c.l.reverse c.r := ⟨C.lm.rev, C.rm, by rw [List.reverse_reverse, C.lt], C.rt⟩
/-- a step of a line -/
def stepM (f : Int → Int → Int → Int) (xs : List Int) : Option (List Int) := if foll f 0 (0 :: xs ++ [0]) = 0 :: xs ++ [0] then none else some (strip (foll f 0 (0 :: xs ++ [0])))
theorem stepM_line {M : Mach} {c : Cfg} (O : M.Ok) (C : CfgOk M c) : stepM (chF M) (line M c) = (next M c).map (line M) := by
  unfold stepM next
  have e : (0 : Int) :: line M c ++ [0] = (0 :: c.l.reverse) ++ ltr M.m c.a c.q :: (c.r ++ [0]) := by
    unfold line
    rw [pad_eq]
  rw [e]
  have R := pad1 O (line_row C)
  cases h : M.at c.q c.a with
  | none =>
    rw [row_still O C R h, if_pos rfl]
    rfl
  | some p =>
    obtain ⟨w, v, q⟩ := p
    have nA : (0 : Int) :: c.l.reverse ≠ [] := fun z => by cases z
    have nB : c.r ++ [0] ≠ [] := fun z => by
      have := congrArg List.length z
      simp at this
    rw [if_neg (row_moves O C R h nA nB)]
    obtain ⟨A', B', e2, R', _, _⟩ := row_goes O C R h nA nB
    rw [e2, row_strip O (goes_ok O C h) R']
    rfl
theorem rowsM_all (f : Int → Int → Int → Int) : ∀ (n : Nat) (xs r : List Int), r ∈ rowsM f n xs → r.length = xs.length
  | 0, xs, r, h => by
    rw [List.mem_singleton.mp h]
  | n + 1, xs, r, h => by
    rw [rowsM] at h
    by_cases q : foll f 0 (0 :: xs ++ [0]) = 0 :: xs ++ [0]
    · rw [if_pos q] at h
      rw [List.mem_singleton.mp h]
    · rw [if_neg q] at h
      rcases List.mem_cons.mp h with rfl | h
      · rfl
      · rw [rowsM_all f n _ r h, foll_len]
/-- ahead of turn k of the law's loop -/
def Turn (M : Mach) (shown : List (List Int)) (steps k : Nat) (c : Cfg) (at_ : Int) : Prop :=
  ∃ (pre : List (List Int)) (A B : List Int), shown = pre ++ rowsM (chF M) (steps - k) (A ++ ltr M.m c.a c.q :: B) ∧ pre.length = k ∧ RowAt M c A B ∧ (A.length : Int) = at_ ∧ steps - k ≤ A.length ∧ steps - k ≤ B.length
theorem turn_start {M : Mach} {c : Cfg} (O : M.Ok) (C : CfgOk M c) (n : Nat) : Turn M (rowsM (chF M) n (List.replicate n 0 ++ line M c ++ List.replicate n 0)) n 0 c ((n : Int) + c.l.length) := by
  refine ⟨[], List.replicate n 0 ++ c.l.reverse, c.r ++ List.replicate n 0, ?_, rfl, row_pad O C n, ?_, ?_, ?_⟩
  · rw [List.nil_append, Nat.sub_zero]
    unfold line
    simp
  · simp
  · simp
  · simp
theorem turn_stops {M : Mach} {c : Cfg} {shown : List (List Int)} {steps k : Nat} {at_ : Int} (O : M.Ok) (C : CfgOk M c) (hk : k < steps) (T : Turn M shown steps k c at_) (h : M.at c.q c.a = none) : shown.length = k + 1 := by
  obtain ⟨pre, A, B, rfl, hp, R, _, _, _⟩ := T
  obtain ⟨d, hd⟩ : ∃ d, steps - k = d + 1 := ⟨steps - k - 1, by omega⟩
  rw [hd, rowsM, pad_eq, if_pos (row_still O C (pad1 O R) h), List.length_append, hp]
  rfl
theorem turn_ends {M : Mach} {c : Cfg} {shown : List (List Int)} {steps : Nat} {at_ : Int} (T : Turn M shown steps steps c at_) : shown.length = steps + 1 := by
  obtain ⟨pre, A, B, rfl, hp, R, _, _, _⟩ := T
  rw [Nat.sub_self, List.length_append, hp]
  rfl
theorem turn_goes {M : Mach} {c : Cfg} {shown : List (List Int)} {steps k : Nat} {at_ w v q : Int} (O : M.Ok) (C : CfgOk M c) (hk : k < steps) (T : Turn M shown steps k c at_) (h : M.at c.q c.a = some (w, v, q)) :
    Turn M shown steps (k + 1) (goes c w v q) (at_ + v) ∧ ∃ A B, shown[k + 1]? = some (A ++ ltr M.m (goes c w v q).a (goes c w v q).q :: B) ∧ (A.length : Int) = at_ + v ∧ trim A.reverse = (goes c w v q).l ∧ trim B = (goes c w v q).r := by
  obtain ⟨pre, A, B, rfl, hp, R, ha, hA, hB⟩ := T
  obtain ⟨d, hd⟩ : ∃ d, steps - k = d + 1 := ⟨steps - k - 1, by omega⟩
  have ok := at_ok O c.q c.a
  rw [h] at ok
  obtain ⟨_, _, vv, _, _⟩ := ok
  have nA : A ≠ [] := fun z => by rw [z] at hA; simp at hA; omega
  have nB : B ≠ [] := fun z => by rw [z] at hB; simp at hB; omega
  have nA2 : (0 : Int) :: A ≠ [] := fun z => by cases z
  have nB2 : B ++ [0] ≠ [] := fun z => by
    have := congrArg List.length z
    simp at this
  obtain ⟨A', B', e, R', hl, hr⟩ := row_goes O C R h nA nB
  have e1 : rowsM (chF M) (steps - k) (A ++ ltr M.m c.a c.q :: B) = (A ++ ltr M.m c.a c.q :: B) :: rowsM (chF M) d (A' ++ ltr M.m (goes c w v q).a (goes c w v q).q :: B') := by
    rw [hd, rowsM, pad_eq, if_neg (row_moves O C (pad1 O R) h nA2 nB2), e]
  rw [e1]
  refine ⟨⟨pre ++ [A ++ ltr M.m c.a c.q :: B], A', B', ?_, ?_, R', ?_, ?_, ?_⟩, A', B', ?_, ?_, R'.al, R'.br⟩
  · rw [show steps - (k + 1) = d by omega, List.append_assoc]
    rfl
  · rw [List.length_append, hp]; rfl
  · omega
  · omega
  · omega
  · rw [List.getElem?_append_right (by omega), hp, show k + 1 - k = 0 + 1 by omega, List.getElem?_cons_succ, rowsM_head]
  · omega
end Sd

set_option Elab.async false
set_option linter.all false
set_option maxRecDepth 100000
set_option maxHeartbeats 4000000
namespace Sd
open PySem PySem.Spec PyProof.Rows L2 Evl

/-! ### a reading that leaves a value with a property, all that is known stays -/
abbrev VP := V → Hp → Prop
class Mono (P : VP) : Prop where
  up : ∀ {v : V} {H H' : Hp}, Ex H H' → P v H → P v H'
def EvP (te : TE) (σ : L2.St) (H : Hp) (P : VP) : Prop := ∀ H1, Ex H H1 → ∀ Q : VK, (∀ v H2, Ex H1 H2 → P v H2 → Q v H2) → te σ H1 Q
def RP (r : R2) (x y : V) (H : Hp) (P : VP) : Prop := ∀ Q : VK, (∀ v H2, Ex H H2 → P v H2 → Q v H2) → r x y H Q
def Is (c : V) : VP := fun v _ => v = c
abbrev IsI (i : Int) : VP := Is (.int i)
abbrev IsB (b : Bool) : VP := Is (.bl b)
/-- several values -/
def AllP : List VP → List V → Hp → Prop
  | [], [], _ => True
  | P :: Ps, v :: vs, H => P v H ∧ AllP Ps vs H
  | _, _, _ => False
class MonoA (Ps : List VP) : Prop where
  up : ∀ {vs : List V} {H H' : Hp}, Ex H H' → AllP Ps vs H → AllP Ps vs H'
instance isMono {c : V} : Mono (Is c) := ⟨fun _ h => h⟩
instance nilMono : MonoA [] := ⟨fun {vs _ _} _ h => match vs, h with | [], _ => trivial⟩
instance consMono {P : VP} {Ps : List VP} [mp : Mono P] [mps : MonoA Ps] : MonoA (P :: Ps) := ⟨fun {vs H H'} e h => match vs, h with | _ :: _, h => ⟨mp.up e h.1, mps.up e h.2⟩⟩
def EvPA (ta : TA) (σ : L2.St) (H : Hp) (Ps : List VP) : Prop := ∀ H1, Ex H H1 → ∀ Q : List V → Hp → Prop, (∀ vs H2, Ex H1 H2 → AllP Ps vs H2 → Q vs H2) → ta σ H1 Q
/-- a tuple with such items; one of ints -/
def TupP (K : PySem.W.Frag) (Ps : List VP) : VP := fun v H => ∃ a vs, v = .ref a ∧ SqT K H a vs ∧ AllP Ps vs H
def TupI (K : PySem.W.Frag) (xs : List Int) : VP := fun v H => ∃ a, v = .ref a ∧ SqT K H a (xs.map V.int)
instance tupPMono {K : PySem.W.Frag} {Ps : List VP} [m : MonoA Ps] : Mono (TupP K Ps) := ⟨fun e ⟨a, vs, h1, h2, h3⟩ => ⟨a, vs, h1, ex_t e h2, m.up e h3⟩⟩
instance tupIMono {K : PySem.W.Frag} {xs : List Int} : Mono (TupI K xs) := ⟨fun e ⟨a, h1, h2⟩ => ⟨a, h1, ex_t e h2⟩⟩
/-- a list of ints that stands -/
def LstI (xs : List Int) : VP := fun v H => ∃ a, v = .ref a ∧ H a = some (.lst (xs.map V.int))
instance lstIMono {xs : List Int} : Mono (LstI xs) := ⟨fun e ⟨a, h1, h2⟩ => ⟨a, h1, e a _ h2⟩⟩
theorem allI : ∀ {is : List Int} {vs : List V} {H : Hp}, AllP (is.map IsI) vs H → vs = is.map V.int
  | [], [], _, _ => rfl
  | i :: is, v :: vs, H, h => by
    obtain ⟨h1, h2⟩ := h
    have e : v = V.int i := h1
    rw [e, allI h2]
    rfl
theorem allP_len : ∀ {Ps : List VP} {vs : List V} {H : Hp}, AllP Ps vs H → vs.length = Ps.length
  | [], [], _, _ => rfl
  | P :: Ps, v :: vs, H, h => by
    rw [List.length_cons, List.length_cons, allP_len h.2]

section
variable {K : PySem.W.Frag} {σ : L2.St} {H : Hp} {ta tb te : TE} {P Pa Pb Pc : VP}
theorem EvP.mono {H' : Hp} (e : Ex H H') (h : EvP te σ H P) : EvP te σ H' P := fun H1 a Q q => h H1 (e.trans a) Q q
theorem EvP.imp {P' : VP} (h : EvP te σ H P) (k : ∀ v H1, Ex H H1 → P v H1 → P' v H1) : EvP te σ H P' := fun H1 a Q q => h H1 a Q fun v H2 e p => q v H2 e (k v H2 (a.trans e) p)
theorem ep_var {i : Nat} {v : V} (h : σ[i]? = some (some v)) (hp : P v H) [m : Mono P] : EvP (tVar i) σ H P := fun H1 e Q q => ⟨v, h, q v H1 (Ex.refl H1) (m.up e hp)⟩
theorem ep_vi {i : Nat} {v : V} (h : σ[i]? = some (some v)) : EvP (tVar i) σ H (Is v) := ep_var h rfl
theorem ep_c {v : V} : EvP (tC v) σ H (Is v) := fun H1 _ Q q => q v H1 (Ex.refl H1) rfl
theorem EvP.ev {v : V} (h : EvP te σ H (Is v)) : Ev te σ H v := fun H1 e Q q => h H1 e Q fun x H2 e2 p => by
  have z : x = v := p
  rw [z]
  exact q H2 e2
theorem ep_ev {v : V} (h : Ev te σ H v) : EvP te σ H (Is v) := fun H1 e Q q => h H1 e Q fun H2 e2 => q v H2 e2 rfl
theorem ep_is {v w : V} (h : EvP te σ H (Is v)) (e : v = w) : EvP te σ H (Is w) := e ▸ h
theorem ep_op {r : R2} (ha : EvP ta σ H Pa) (hb : EvP tb σ H Pb) [m : Mono Pa] (hr : ∀ x y H1, Ex H H1 → Pa x H1 → Pb y H1 → RP r x y H1 Pc) : EvP (tOp r ta tb) σ H Pc := fun H1 e Q q =>
  ha H1 e _ fun x H2 e2 p2 => hb H2 (e.trans e2) _ fun y H3 e3 p3 => hr x y H3 ((e.trans e2).trans e3) (m.up e3 p2) p3 Q fun v H4 e4 p4 => q v H4 ((e2.trans e3).trans e4) p4
theorem ep_I0 {g : Int → Int → V} {i j : Int} (ha : EvP ta σ H (IsI i)) (hb : EvP tb σ H (IsI j)) : EvP (tOp (rI0 g) ta tb) σ H (Is (g i j)) :=
  ep_op ha hb fun x y H1 _ p q Q k => ⟨i, j, p, q, k _ H1 (Ex.refl H1) rfl⟩
theorem ep_I {C : Int → Int → Prop} {g : Int → Int → V} {i j : Int} (ha : EvP ta σ H (IsI i)) (hb : EvP tb σ H (IsI j)) (hc : C i j) : EvP (tOp (rI C g) ta tb) σ H (Is (g i j)) :=
  ep_op ha hb fun x y H1 _ p q Q k => ⟨i, j, p, q, hc, k _ H1 (Ex.refl H1) rfl⟩
/-- an int with a bound: what follows knows only that -/
def IntP (φ : Int → Prop) : VP := fun v _ => ∃ i, v = .int i ∧ φ i
instance intPMono {φ : Int → Prop} : Mono (IntP φ) := ⟨fun _ h => h⟩
theorem ep_int {φ : Int → Prop} {i : Int} (h : EvP te σ H (IsI i)) (k : φ i) : EvP te σ H (IntP φ) := h.imp fun v H1 _ p => ⟨i, p, k⟩
theorem ep_P0 {g : Int → Int → V} {φ ψ : Int → Prop} {R : VP} (ha : EvP ta σ H (IntP φ)) (hb : EvP tb σ H (IntP ψ)) (h : ∀ i j H1, φ i → ψ j → R (g i j) H1) : EvP (tOp (rI0 g) ta tb) σ H R :=
  ep_op ha hb fun x y H1 _ p q Q k => let ⟨i, hi, fi⟩ := p; let ⟨j, hj, fj⟩ := q; ⟨i, j, hi, hj, k _ H1 (Ex.refl H1) (h i j H1 fi fj)⟩
theorem ep_PI {C : Int → Int → Prop} {g : Int → Int → V} {φ ψ : Int → Prop} {R : VP} (ha : EvP ta σ H (IntP φ)) (hb : EvP tb σ H (IntP ψ)) (hc : ∀ i j, φ i → ψ j → C i j) (h : ∀ i j H1, φ i → ψ j → R (g i j) H1) : EvP (tOp (rI C g) ta tb) σ H R :=
  ep_op ha hb fun x y H1 _ p q Q k => let ⟨i, hi, fi⟩ := p; let ⟨j, hj, fj⟩ := q; ⟨i, j, hi, hj, hc i j fi fj, k _ H1 (Ex.refl H1) (h i j H1 fi fj)⟩
theorem epa_nil : EvPA tNil σ H [] := fun H1 _ Q q => q [] H1 (Ex.refl H1) trivial
theorem epa_cons {tr : TA} {Ps : List VP} (h : EvP te σ H P) (hr : EvPA tr σ H Ps) [m : Mono P] : EvPA (tCons te tr) σ H (P :: Ps) := fun H1 e Q q =>
  h H1 e _ fun v H2 e2 p2 => hr H2 (e.trans e2) _ fun vs H3 e3 p3 => q (v :: vs) H3 (e2.trans e3) ⟨m.up e3 p2, p3⟩
theorem ep_tup {ta : TA} {Ps : List VP} (h : EvPA ta σ H Ps) [m : MonoA Ps] (hl : Ps.length ≤ 1000 := by decide) : EvP (tTup ta) σ H (TupP K Ps) := fun H1 e Q q =>
  h H1 e _ fun vs H2 e2 p2 => ⟨by rw [allP_len p2]; exact Nat.le_of_lt (small1000 hl), fun p hp => q _ _ (e2.trans (Ex.new hp)) ⟨p, vs, rfl, st_of upd_same, m.up (Ex.new hp) p2⟩⟩
theorem ep_tupI {ta : TA} {is : List Int} (h : EvPA ta σ H (is.map IsI)) (hl : is.length ≤ 1000 := by decide) : EvP (tTup ta) σ H (TupI K is) := fun H1 e Q q =>
  h H1 e _ fun vs H2 e2 p2 => ⟨by rw [allP_len p2, List.length_map]; exact Nat.le_of_lt (small1000 hl), fun p hp => q _ _ (e2.trans (Ex.new hp)) ⟨p, rfl, st_of (by rw [← allI p2]; exact upd_same)⟩⟩
/-- a new tuple that is tracked (a key) -/
def TupN (is : List Int) : VP := fun v H => ∃ a, v = .ref a ∧ H a = some (.tup (is.map V.int))
instance tupNMono {is : List Int} : Mono (TupN is) := ⟨fun e ⟨a, h1, h2⟩ => ⟨a, h1, e a _ h2⟩⟩
theorem ep_tupN {ta : TA} {is : List Int} (h : EvPA ta σ H (is.map IsI)) (hl : is.length ≤ 1000 := by decide) : EvP (tTup ta) σ H (TupN is) := fun H1 e Q q =>
  h H1 e _ fun vs H2 e2 p2 => ⟨by rw [allP_len p2, List.length_map]; exact Nat.le_of_lt (small1000 hl), fun p hp => q _ _ (e2.trans (Ex.new hp)) ⟨p, rfl, by rw [← allI p2]; exact upd_same⟩⟩
/-- calls -/
def SpP (sp : Sp) (vs : List V) (H : Hp) (P : VP) : Prop := ∀ (Q : VK) (E : XK), (∀ v H2, Ex H H2 → P v H2 → Q v H2) → sp vs H Q E
theorem ep_call {sp : Sp} {dvs : List V} {E : XK} {ta : TA} {Ps : List VP} (h : EvPA ta σ H Ps) (hs : ∀ vs H1, Ex H H1 → AllP Ps vs H1 → SpP sp (vs ++ dvs) H1 P) : EvP (tCall sp dvs E ta) σ H P := fun H1 e Q q =>
  h H1 e _ fun vs H2 e2 p2 => hs vs H2 (e.trans e2) p2 Q E fun v H3 e3 p3 => q v H3 (e2.trans e3) p3
theorem ep_meth {C : Addr} {m : Str} {sp : Sp} {dvs : List V} {E : XK} {t : TA} {Po : VP} {Ps : List VP} (ha : EvP ta σ H Po) [mo : Mono Po] (hi : ∀ x H1, Ex H H1 → Po x H1 → ∃ a dx fs, x = .ref a ∧ H1 a = some (.ins C dx fs) ∧ fs.lookup m = none) (ht : EvPA t σ H Ps)
    (hs : ∀ x vs H1, Ex H H1 → Po x H1 → AllP Ps vs H1 → SpP sp (x :: (vs ++ dvs)) H1 P) : EvP (tMeth C m sp dvs E ta t) σ H P := fun H1 e Q q =>
  ha H1 e _ fun x H2 e2 p2 => by
    obtain ⟨a, dx, fs, ex, ho, hl⟩ := hi x H2 (e.trans e2) p2
    exact ⟨a, dx, fs, ex, ho, hl, ht H2 (e.trans e2) _ fun vs H3 e3 p3 => hs x vs H3 ((e.trans e2).trans e3) (mo.up e3 p2) p3 Q E fun v H4 e4 p4 => q v H4 ((e2.trans e3).trans e4) p4⟩
theorem ep_fld {f : Str} {Po : VP} (ha : EvP ta σ H Po) (hf : ∀ x H1, Ex H H1 → Po x H1 → ∃ a C dx fs v, x = .ref a ∧ H1 a = some (.ins C dx fs) ∧ Cls K C ∧ NoAttr K C f ∧ fs.lookup f = some v ∧ P v H1) : EvP (tFld K ta f) σ H P := fun H1 e Q q =>
  ha H1 e _ fun x H2 e2 p2 => by
    obtain ⟨a, C, dx, fs, v, ex, ho, c, n, l, p⟩ := hf x H2 (e.trans e2) p2
    exact ⟨a, C, dx, fs, v, ex, ho, c, n, l, q v H2 e2 p⟩
theorem ep_CB {r : List V → Hp → VK → Prop} {ta : TA} {Ps : List VP} (h : EvPA ta σ H Ps) (hr : ∀ vs H1, Ex H H1 → AllP Ps vs H1 → ∀ Q : VK, (∀ v H2, Ex H1 H2 → P v H2 → Q v H2) → r vs H1 Q) : EvP (tCB r ta) σ H P := fun H1 e Q q =>
  h H1 e _ fun vs H2 e2 p2 => hr vs H2 (e.trans e2) p2 Q fun v H3 e3 p3 => q v H3 (e2.trans e3) p3
theorem ep_if {t : TT} {b : Bool} (h : EvT t σ H b) (h1 : b = true → EvP ta σ H P) (h2 : b = false → EvP tb σ H P) : EvP (tIf t ta tb) σ H P := fun H1 e Q q => h H1 e _ fun H2 e2 => by
  cases b with
  | true =>
    show ta σ H2 Q
    exact h1 rfl H2 (e.trans e2) Q fun v H3 e3 p => q v H3 (e2.trans e3) p
  | false =>
    show tb σ H2 Q
    exact h2 rfl H2 (e.trans e2) Q fun v H3 e3 p => q v H3 (e2.trans e3) p
theorem et_P {b : Bool} (h : EvP te σ H (IsB b)) : EvT (tTest te) σ H b := et_test h.ev
theorem et_PB {b : Bool} (h : EvP te σ H (IsB b)) : EvT (tB te) σ H b := et_B h.ev
/-- x < y < z of ints, as a value -/
theorem ep_chain {g g' : Int → Int → Bool} {tc : TE} {i j k : Int} (ha : EvP ta σ H (IsI i)) (hb : EvP tb σ H (IsI j)) (hc : EvP tc σ H (IsI k)) :
    EvP (tChain (rI0 fun i j => .bl (g i j)) (rI0 fun i j => .bl (g' i j)) ta tb tc) σ H (IsB (g i j && g' j k)) := fun H1 e Q q =>
  ha.ev H1 e _ fun H2 e2 => hb.ev H2 (e.trans e2) _ fun H3 e3 => ⟨i, j, rfl, rfl, g i j, rfl, by
    cases h : g i j with
    | true =>
      show tc σ H3 fun w' H4 => rI0 (fun i j => .bl (g' i j)) (.int j) w' H4 Q
      exact hc.ev H3 ((e.trans e2).trans e3) _ fun H4 e4 => ⟨j, k, rfl, rfl, q _ H4 ((e2.trans e3).trans e4) (by rw [h]; rfl)⟩
    | false =>
      show Q (.bl false) H3
      exact q _ H3 (e2.trans e3) (by rw [h]; rfl)⟩

/-! ### tuples: +, slices, items, len -/
theorem ep_cat {xs ys : List Int} (ha : EvP ta σ H (TupI K xs)) (hb : EvP tb σ H (TupI K ys)) (hz : xs.length + ys.length ≤ 1000) : EvP (tOp (rCatA K) ta tb) σ H (TupI K (xs ++ ys)) :=
  ep_op ha hb fun x y H1 _ p q Q k => by
    obtain ⟨a, rfl, ta⟩ := p
    obtain ⟨b, rfl, tb⟩ := q
    refine ⟨a, b, _, _, rfl, rfl, ta, tb, by rw [List.length_map, List.length_map]; exact Nat.le_of_lt (small1000 hz), fun h => ?_, fun h1 h2 => ?_, fun h1 h2 p hp => ?_⟩
    · have e : xs = [] := List.map_eq_nil_iff.mp h
      subst e
      exact k _ H1 (Ex.refl H1) ⟨b, rfl, tb⟩
    · have e : ys = [] := List.map_eq_nil_iff.mp h2
      subst e
      exact k _ H1 (Ex.refl H1) ⟨a, rfl, by rw [List.append_nil]; exact ta⟩
    · exact k _ _ (Ex.new hp) ⟨p, rfl, st_of (by rw [List.map_append]; exact upd_same)⟩
theorem cut_int (xs : List Int) (lo hi : Option Int) : cutV (xs.map V.int) lo hi = ((xs.drop (HT.sIx xs.length 0 lo)).take (HT.sIx xs.length xs.length hi - HT.sIx xs.length 0 lo)).map V.int := by
  unfold cutV
  rw [List.length_map, List.map_take, List.map_drop]
/-- t[lo:hi] -/
def EvPO (to : TO) (σ : L2.St) (H : Hp) (o : Option Int) : Prop := ∀ H1, Ex H H1 → ∀ Q : Option Int → Hp → Prop, (∀ H2, Ex H1 H2 → Q o H2) → to σ H1 Q
theorem epo_none : EvPO tNoPart σ H none := fun H1 _ Q q => q H1 (Ex.refl H1)
theorem epo_some {i : Int} (h : EvP te σ H (IsI i)) : EvPO (tPart te) σ H (some i) := fun H1 e Q q => h.ev H1 e _ fun H2 e2 => ⟨i, rfl, q H2 e2⟩
theorem ep_slT {xs : List Int} {tl th : TO} {lo hi : Option Int} (ha : EvP ta σ H (TupI K xs)) (hl : EvPO tl σ H lo) (hh : EvPO th σ H hi) :
    EvP (tSl (rSlA K) ta tl th) σ H (TupI K ((xs.drop (HT.sIx xs.length 0 lo)).take (HT.sIx xs.length xs.length hi - HT.sIx xs.length 0 lo))) := fun H1 e Q q =>
  ha H1 e _ fun v H2 e2 p => hl H2 (e.trans e2) _ fun H3 e3 => hh H3 ((e.trans e2).trans e3) _ fun H4 e4 => by
    obtain ⟨a, rfl, t⟩ := p
    have t4 := ex_t (e3.trans e4) t
    refine ⟨a, _, rfl, t4, fun h => ?_, fun _ p hp => ?_⟩
    · rw [List.length_map] at h
      refine q _ H4 ((e2.trans e3).trans e4) ⟨a, rfl, ?_⟩
      rw [h.1, h.2, List.drop_zero, Nat.sub_zero, List.take_length]
      exact t4
    · exact q _ _ (((e2.trans e3).trans e4).trans (Ex.new hp)) ⟨p, rfl, st_of (by rw [← cut_int]; exact upd_same)⟩
theorem ep_slL {xs : List Int} {tl th : TO} {lo hi : Option Int} (ha : EvP ta σ H (LstI xs)) (hl : EvPO tl σ H lo) (hh : EvPO th σ H hi) :
    EvP (tSl (rSlL K) ta tl th) σ H (LstI ((xs.drop (HT.sIx xs.length 0 lo)).take (HT.sIx xs.length xs.length hi - HT.sIx xs.length 0 lo))) := fun H1 e Q q =>
  ha H1 e _ fun v H2 e2 p => hl H2 (e.trans e2) _ fun H3 e3 => hh H3 ((e.trans e2).trans e3) _ fun H4 e4 => by
    obtain ⟨a, rfl, t⟩ := p
    exact ⟨a, _, rfl, sq_of ((e3.trans e4) a _ t), fun p hp => q _ _ (((e2.trans e3).trans e4).trans (Ex.new hp)) ⟨p, rfl, by rw [← cut_int]; exact upd_same⟩⟩
theorem ep_ixT {xs : List Int} {i x : Int} (ha : EvP ta σ H (TupI K xs)) (hb : EvP tb σ H (IsI i)) (hx : 0 ≤ i) (h : xs[i.toNat]? = some x) : EvP (tOp (rIxT K) ta tb) σ H (IsI x) :=
  ep_op ha hb fun v y H1 _ p q Q k => by
    obtain ⟨a, rfl, t⟩ := p
    exact ⟨a, _, i, .int x, rfl, q, t, at_of (j := i.toNat) (by omega) (by rw [List.getElem?_map, h]; rfl), k _ H1 (Ex.refl H1) rfl⟩
theorem ep_ixL {xs : List Int} {i x : Int} (ha : EvP ta σ H (LstI xs)) (hb : EvP tb σ H (IsI i)) (hx : 0 ≤ i) (h : xs[i.toNat]? = some x) : EvP (tOp (rIxL K) ta tb) σ H (IsI x) :=
  ep_op ha hb fun v y H1 _ p q Q k => by
    obtain ⟨a, rfl, t⟩ := p
    exact ⟨a, _, i, .int x, rfl, q, sq_of t, at_of (j := i.toNat) (by omega) (by rw [List.getElem?_map, h]; rfl), k _ H1 (Ex.refl H1) rfl⟩
theorem allP_get : ∀ {Ps : List VP} {vs : List V} {H : Hp} {i : Nat} {P : VP}, AllP Ps vs H → Ps[i]? = some P → ∃ v, vs[i]? = some v ∧ P v H
  | [], _, _, _, _, _, h => by simp at h
  | P :: Ps, [], _, _, _, h, _ => h.elim
  | P :: Ps, v :: vs, H, 0, _, h, e => by
    simp at e
    subst e
    exact ⟨v, rfl, h.1⟩
  | P :: Ps, v :: vs, H, i + 1, _, h, e => allP_get (i := i) h.2 (by simpa using e)
theorem ep_ixP {Ps : List VP} {i : Int} (ha : EvP ta σ H (TupP K Ps)) (hb : EvP tb σ H (IsI i)) [m : MonoA Ps] (hx : 0 ≤ i) (h : Ps[i.toNat]? = some P) : EvP (tOp (rIxT K) ta tb) σ H P :=
  ep_op ha hb fun v y H1 _ p q Q k => by
    obtain ⟨a, vs, rfl, t, ps⟩ := p
    obtain ⟨z, hz, pz⟩ := allP_get ps h
    exact ⟨a, _, i, z, rfl, q, t, at_of (j := i.toNat) (by omega) hz, k _ H1 (Ex.refl H1) pz⟩
theorem rLenS_ok {X : Cx} : CallR X (.builtin "len") (rLenS X.K) := call_len_seq
theorem ep_lenT {xs : List Int} (ha : EvP ta σ H (TupI K xs)) : EvP (tCB (rLenS K) (tCons ta tNil)) σ H (IsI xs.length) := fun H1 e Q q =>
  ha H1 e _ fun v H2 e2 p => by
    obtain ⟨a, rfl, t⟩ := p
    exact ⟨a, _, rfl, .inr t, q _ H2 e2 (by rw [List.length_map]; rfl)⟩
theorem ep_lenL {xs : List Int} (ha : EvP ta σ H (LstI xs)) : EvP (tCB (rLenS K) (tCons ta tNil)) σ H (IsI xs.length) := fun H1 e Q q =>
  ha H1 e _ fun v H2 e2 p => by
    obtain ⟨a, rfl, t⟩ := p
    exact ⟨a, _, rfl, .inl (sq_of t), q _ H2 e2 (by rw [List.length_map]; rfl)⟩

/-! ### statements -/
variable {D : Ends} {tu tw : TS}
theorem s_seq {t u : TS} (h : t { D with nx := u D } σ H) : tSeq t u D σ H := h
theorem s_set {i : Nat} (h : EvP te σ H P) (k : ∀ v H1, Ex H H1 → P v H1 → D.nx (σ.set i (some v)) H1) : tAsg te (gName i) D σ H := h H (Ex.refl H) _ fun v H1 e p => k v H1 e p
theorem s_setI {i : Nat} {v : V} (h : EvP te σ H (Is v)) (k : ∀ H1, Ex H H1 → D.nx (σ.set i (some v)) H1) : tAsg te (gName i) D σ H := h H (Ex.refl H) _ fun x H1 e p => by
  have z : x = v := p
  rw [z]
  exact k H1 e
theorem s_retP (h : EvP te σ H P) (k : ∀ v H1, Ex H H1 → P v H1 → D.rt v H1) : tRet te D σ H := h H (Ex.refl H) _ k
theorem s_dropP (h : EvP te σ H P) (k : ∀ v H1, Ex H H1 → P v H1 → D.nx σ H1) : tDrop te D σ H := h H (Ex.refl H) _ k
/-- xs.append(e) -/
theorem s_appP {l : Addr} {xs : List V} (hl : H l = some (.lst xs)) (ha : Ev ta σ H (.ref l)) (h : EvP te σ H P) (hz : xs.length < 100000) (k : ∀ v H1, Ex H H1 → P v H1 → D.nx σ (upd H1 l (.lst (xs ++ [v])))) :
    tDrop (tBM K "list" rAppend ta (tCons te tNil)) D σ H := ha H (Ex.refl H) _ fun H1 e1 =>
  ⟨Or.inl ⟨rfl, xs, sq_of (e1 l _ hl)⟩, h H1 e1 _ fun v H2 e2 p => ⟨l, xs, v, rfl, rfl, e2 l _ (e1 l _ hl), sz_lt hz, k v H2 (e1.trans e2) p⟩⟩
end
end Sd

set_option Elab.async false
set_option linter.all false
set_option maxRecDepth 100000
set_option maxHeartbeats 4000000
namespace Sd
open PySem PySem.Spec PyProof.Rows L2 Evl

/-! ### t[::-1], t a tuple -/
section
variable {prog : Program} {w : World} {A : Around} {E : Value → Shared → Prop} {s : Shared}
theorem adj_rev (n : Nat) : Builtin.Slice.sliceAdjust none none (-1) (n : Int) = ((n : Int) - 1, -1) := rfl
theorem places_rev (n : Nat) : Builtin.Slice.slicePlaces ((n : Int) - 1) (-1) (-1) = n := by
  unfold Builtin.Slice.slicePlaces
  rw [if_neg (by decide)]
  by_cases h : (n : Int) - 1 > -1
  · rw [if_pos h, show (- (-1) : Int) = 1 by decide, Int.ediv_one]
    omega
  · rw [if_neg h]
    omega
theorem applied_rev {z : Addr} {c : Value} {n : Nat} {Q : Int × Int × Nat → Shared → Prop} (hz : s.heap.IsSliceOf z .none .none c) (pc : IsPart c (some (-1))) (k : Q ((n : Int) - 1, -1, n) s) :
    wpAny (model prog w) A (Builtin.Slice.sliceApplied (.ref z) (pure (n : Int))) Q E s := by
  obtain ⟨o, ho, _, hd⟩ := id hz
  unfold Builtin.Slice.sliceApplied Builtin.Slice.sliceFields
  refine wpAny_bind (wpAny_bind (wpAny_field ho hd (x := .none) rfl ?_))
  refine wpAny_bind (wpAny_field ho hd (x := .none) rfl ?_)
  refine wpAny_bind (wpAny_field ho hd (x := c) rfl (wpAny_pure ?_))
  refine wpAny_bind (HT.slicePart_ pc ?_)
  show wpAny _ _ (if ((-1 : Int) == 0) = true then _ else _) _ _ s
  rw [if_neg (by decide)]
  refine wpAny_bind (slicePart_none ?_)
  refine wpAny_bind (slicePart_none ?_)
  refine wpAny_bind (wpAny_pure ?_)
  show wpAny _ _ (match Builtin.Slice.sliceAdjust none none (-1) (n : Int) with | (a, b) => pure (a, (-1 : Int), Builtin.Slice.slicePlaces a b (-1))) _ _ s
  rw [adj_rev]
  show wpAny _ _ (pure ((n : Int) - 1, (-1 : Int), Builtin.Slice.slicePlaces ((n : Int) - 1) (-1) (-1))) _ _ s
  rw [places_rev]
  exact wpAny_pure k
theorem fm_congr {α β : Type} {f g : α → Option β} : ∀ {l : List α}, (∀ x ∈ l, f x = g x) → l.filterMap f = l.filterMap g
  | [], _ => rfl
  | x :: l, h => by
    rw [List.filterMap_cons, List.filterMap_cons, h x List.mem_cons_self, fm_congr fun y hy => h y (List.mem_cons_of_mem _ hy)]
theorem pick_rev (xs : Array Value) : ((List.range xs.size).filterMap fun (k : Nat) => xs[((xs.size : Int) - 1 + (k : Int) * -1).toNat]?).toArray = xs.toList.reverse.toArray := by
  have e : ((List.range xs.size).filterMap fun (k : Nat) => xs[((xs.size : Int) - 1 + (k : Int) * -1).toNat]?) = ((List.range xs.size).map fun k => xs.size - 1 - k).filterMap (xs[·]?) := by
    rw [List.filterMap_map]
    refine fm_congr fun k hk => ?_
    have := List.mem_range.mp hk
    show xs[((xs.size : Int) - 1 + (k : Int) * -1).toNat]? = xs[xs.size - 1 - k]?
    rw [show ((xs.size : Int) - 1 + (k : Int) * -1).toNat = xs.size - 1 - k by omega]
  rw [e, PySem.W.krv_range, List.filterMap_reverse, PySem.W.krv_all]
theorem getItem_tup_rev {t z : Addr} {items : Array Value} {c : Value} {Q : Value → Shared → Prop} (ht : IsTup s.heap t items) (hz : s.heap.IsSliceOf z .none .none c) (pc : IsPart c (some (-1)))
    (k : Q (.ref s.heap.objs.size) { s with heap := s.heap.push { cls := .type "tuple", data := .seq items.toList.reverse.toArray } }) (hs : items.size ≤ sizeLine) : wpAny (model prog w) A (getItem (.ref t) (.ref z)) Q E s := by
  have room : sizeOk (.seq items.toList.reverse.toArray) := by
    show items.toList.reverse.toArray.size ≤ sizeLine
    rw [List.size_toArray, List.length_reverse, Array.length_toList]
    exact hs
  obtain ⟨o, ho, hc, hd⟩ := id hz
  have tz : s.TypeIs (.ref z) "slice" := ⟨o, ho, hc⟩
  unfold getItem
  try with_reducible refine wpAny_holding ?_
  first | refine wpAny_bind (wpAny_pure ?_) | skip
  refine wpAny_bind (wpAny_sequenceKey ht.typeIs (by decide) ?_)
  refine wpAny_bind (wpAny_callSpecial?_slot (name := Str.ofString "__getitem__") ht.typeIs slot_tuple_getitem ?_)
  refine wpAny_call_entry slot_tuple_getitem ht.typeIs entry_tuple_getitem ?_ (args_tuple_getitem _ _)
  show wpAny _ _ (Builtin.Tuple.tupleItemsOf (.ref t) >>= _) _ _ s
  refine wpAny_bind (tupleItemsOf_ ht ?_)
  refine wpAny_bind (wpAny_typeOf tz ?_)
  rw [if_pos (by decide)]
  refine wpAny_bind (applied_rev hz pc ?_)
  have no : ¬ (((items.size : Int) - 1 == 0 && (-1 : Int) == 1 && items.size == items.size) = true) := by
    rw [show ((-1 : Int) == 1) = false by decide, Bool.and_false, Bool.false_and]
    exact Bool.false_ne_true
  show wpAny _ _ (if ((items.size : Int) - 1 == 0 && (-1 : Int) == 1 && items.size == items.size) = true then _ else _) _ _ s
  rw [if_neg no, pick_rev]
  first
    | exact wpAny_bind (m := Builtin.Tuple.tupleExact _) (wpAny_newObj_type (wpAny_pure ⟨_, rfl, wpAny_pure k⟩) room)
    | exact wpAny_bind (m := Builtin.Tuple.tupleExact _) (wpAny_newObj_type (wpAny_bind (wpAny_pure (wpAny_pure ⟨_, rfl, wpAny_pure k⟩))) room)
    | exact wpAny_bind (wpAny_bind (m := Builtin.Tuple.tupleExact _) (wpAny_newObj_type (wpAny_pure (wpAny_pure ⟨_, rfl, wpAny_pure k⟩)) room))
    | exact wpAny_bind (wpAny_bind (m := Builtin.Tuple.tupleExact _) (wpAny_newObj_type (wpAny_pure ⟨_, rfl, wpAny_pure k⟩) room))
end
section
variable {X : Cx}
def tRevT (K : PySem.W.Frag) (te : TE) : TE := fun σ H Q => te σ H fun x H1 => ∃ a xs, x = .ref a ∧ SqT K H1 a xs ∧ ∀ p, H1 p = none → Q (.ref p) (upd H1 p (.tup xs.reverse))
theorem pe_revT {e : Expr} {te : TE} {k : Nat} {p1 p2 p3 pos : Pos} (he : PE X e te) : PE X (.Subscript e (.Slice none none (some (.UnaryOp .USub (.Constant (.int 1) k p1) p2)) p3) pos) (tRevT X.K te) := by
  refine ⟨fun pins s σ H Q I h => ?_⟩
  refine Subscript_ (thn (he.run pins s σ H _ I h) fun v s1 ⟨x, H1, I1, r1, q1⟩ => ?_)
  obtain ⟨a, xs, rfl, hx, q⟩ := q1
  cases r1
  have minus : PO X (some (.UnaryOp .USub (.Constant (.int 1) k p1) p2)) (tPart (tUn (rU fun i => .int (-i)) (tC (.int 1)))) := po_some (pe_un un_neg pe_int)
  refine wpAny_Slice ?_
  rw [evalPart_none]
  refine wpAny_pure (wpAny_pure ?_)
  refine thn (minus.run pins s1 σ H1 (fun o H4 => o = some (-1) ∧ H4 = H1) I1 ⟨1, rfl, -1, rfl, rfl, rfl⟩) fun c s4 ⟨o, H4, I4, pc, eo, e4⟩ => ?_
  subst eo
  subst e4
  have I5 : Inv X pins σ H4 { s4 with heap := s4.heap.push { cls := .type "slice", data := .fields #[.none, .none, c] } } := I4.kept (t' := s4.toks) fun b ob q => Heap.get?_push_of_some _ q
  obtain ⟨its, r, ht, hz⟩ := I5.tuple hx
  have hlen : its.toArray.size = xs.length := by rw [List.size_toArray]; exact r.length.symm
  show wpAny (model X.prog X.w) X.A (subscriptTail e (.Slice none none (some (.UnaryOp .USub (.Constant (.int 1) k p1) p2)) p3) (.ref a) (.ref s4.heap.objs.size)) (EP X pins σ Q) X.xe { s4 with heap := s4.heap.push { cls := .type "slice", data := .fields #[.none, .none, c] } }
  refine tail_any (ops := [.ref a, .ref s4.heap.objs.size]) ht.typeIs slot_tuple_getitem.lookup ?_ (by with_unfolding_all rfl)
  refine getItem_tup_rev ht (Heap.IsSliceOf.new _ .none .none c) pc ?_ (by rw [hlen]; exact hz)
  refine ⟨.ref _, _, I5.laid (t' := s4.toks) (o := .tup xs.reverse) (fun b ob q => Heap.get?_push_of_some _ q) (Nat.le_refl _) ?_, rfl, q _ (I5.hok.fresh (Nat.le_refl _))⟩
  exact ⟨by rw [List.length_reverse]; exact hz, _, r.reverse, IsTup.new _ _⟩
end
end Sd

set_option Elab.async false
set_option linter.all false
set_option maxRecDepth 100000
set_option maxHeartbeats 4000000
namespace Sd
open PySem PySem.Spec PyProof.Rows L2 Evl
open PySem.AutoSeq1 (wpAny_loadPart')
/-! ### t * 1: t itself -/
theorem tuple_mul_one (l : Addr) (its : Array Value) (n : Nat) (dd : Option Addr) (sl : Array (Option Value)) (u : Tok) :
    Meets (Builtin.«tuple.__mul__» ⟨[.ref l, .int 1 u], []⟩) (fun _ R s => s.heap.get? l = some { cls := .type "tuple", dict := dd, data := .seq its n, slots := sl } ∧ R (.ok (.ret (Value.ref l))) s) :=
  .of_wp fun prog w A R s h => by
    obtain ⟨hp, g, d, tk, os⟩ := s
    obtain ⟨hl, h⟩ := h
    have f1 := AutoSeq1.idx_int
    have c0 : (decide ((1 : Int) < -(2 ^ 63)) || decide ((1 : Int) ≥ 2 ^ 63)) = false := by decide
    have c1 : (its.isEmpty || (1 : Int) == 1) = true := by simp
    wp_walk using wpAny_loadPart' hl
    repeat (first
      | (refine wpAny_ite_false (decide_eq_false (by rw [c0]; exact Bool.false_ne_true)) ?_; wp_walk using wpAny_loadPart' hl)
      | (refine wpAny_ite_true (decide_eq_true (by rw [c1])) ?_; wp_walk using wpAny_loadPart' hl))
    exact ⟨_, rfl, h⟩
def rRepA (K : PySem.W.Frag) : R2 := fun x y H Q => ∃ l k xs, x = .ref l ∧ y = .int k ∧ SqT K H l xs ∧ xs ≠ [] ∧ 1 ≤ k ∧ k ≤ 1000 ∧ xs.length ≤ 1000 ∧ (k = 1 → Q (.ref l) H) ∧
  (k ≠ 1 → ∀ p, H p = none → Q (.ref p) (upd H p (.tup (List.replicate k.toNat xs).flatten)))
theorem op_repA {X : Cx} : OpR X (binaryOp .Mult) (rRepA X.K) := by
  intro pins s σ H x y v u Q I rx ry h
  obtain ⟨l, k, xs, rfl, rfl, hT, ne, h1, h2, hz, q1, q2⟩ := h
  by_cases hk : k = 1
  · subst hk
    cases rx
    obtain ⟨t, rfl⟩ := ry
    obtain ⟨its, r, ⟨⟨cls, dd, data, sl⟩, ho, hc, n, hd⟩, _⟩ := I.tuple hT
    simp only at hc hd
    subst hc hd
    have done : EP X pins σ Q (.ref l) s := ⟨.ref l, H, I, rfl, q1 rfl⟩
    refine wpAny_binaryOp_repeat_ref (T := "tuple") (U := "int") (by decide) ⟨_, ho, rfl⟩ (fun s' => typeIs_int s' 1 t) noFill_tuple_mul F.fills_int_mul F.slot_int_rmul repeat_tuple F.slot_int_index.lookup ?_
    refine call_meets F.slot_int_rmul (typeIs_int s 1 t) F.entry_int_rmul (F.args_int_rmul_2 _ _) (int_rmul_tuple 1 t l its.toArray n dd sl) ?_
    refine ⟨ho, rfl, ⟨_, ho, rfl⟩, ?_⟩
    exact call_meets F.slot_tuple_mul ⟨_, ho, rfl⟩ F.entry_tuple_mul (F.args_tuple_mul_2 _ _) (tuple_mul_one l its.toArray n dd sl t) ⟨ho, done⟩
  · exact op_repT pins s σ H _ _ v u Q I rx ry ⟨l, k, xs, rfl, rfl, hT, ne, by omega, h2, hz, q2 hk⟩
section
variable {K : PySem.W.Frag} {σ : L2.St} {H : Hp} {ta tb te : TE}
theorem flat_rep (x : Int) : ∀ n : Nat, (List.replicate n [V.int x]).flatten = (List.replicate n x).map V.int
  | 0 => rfl
  | n + 1 => by
    rw [List.replicate_succ, List.flatten_cons, flat_rep x n, List.replicate_succ, List.map_cons]
    rfl
theorem ep_rep {x k : Int} (ha : EvP ta σ H (TupI K [x])) (hb : EvP tb σ H (IsI k)) (h1 : 1 ≤ k) (h2 : k ≤ 1000) : EvP (tOp (rRepA K) ta tb) σ H (TupI K (List.replicate k.toNat x)) :=
  ep_op ha hb fun v y H1 _ p q Q kk => by
    obtain ⟨a, rfl, t⟩ := p
    refine ⟨a, k, _, rfl, q, t, List.cons_ne_nil _ _, h1, h2, by show 1 ≤ 1000; decide, fun e => ?_, fun e p hp => ?_⟩
    · subst e
      exact kk _ H1 (Ex.refl H1) ⟨a, rfl, t⟩
    · exact kk _ _ (Ex.new hp) ⟨p, rfl, st_of (by rw [← flat_rep]; exact upd_same)⟩
theorem ep_rev {xs : List Int} (ha : EvP te σ H (TupI K xs)) : EvP (tRevT K te) σ H (TupI K xs.reverse) := fun H1 e Q q =>
  ha H1 e _ fun v H2 e2 p => by
    obtain ⟨a, rfl, t⟩ := p
    exact ⟨a, _, rfl, t, fun p hp => q _ _ (e2.trans (Ex.new hp)) ⟨p, rfl, st_of (by rw [List.map_reverse]; exact upd_same)⟩⟩
end
end Sd

set_option Elab.async false
set_option linter.all false
set_option maxRecDepth 100000
set_option maxHeartbeats 4000000
namespace Sd
open PySem PySem.Spec PyProof.Rows L2 Evl

/-! ### {k: v for x in it}, the keys tuples -/
/-- what one turn leaves: the tuple y is a key of the dict at T, z its value -/
def Kept (T : Addr) (N : Hp → Prop) (y z : V) (H : Hp) : Prop := ∃ kvs k b, y = .ref b ∧ H b = some (.tup (k.map kV)) ∧ H T = some (.dT kvs) ∧ kvs.length < sizeLine ∧ N (upd H T (.dT (putK kvs k z)))
section
variable {X : Cx}
theorem tab_set {pins : List (Addr × Obj)} {σ : L2.St} {H : Hp} {s : Shared} {E : Value → Shared → Prop} {T : Addr} {N : Hp → Prop} {y z : V} {u r : Value} {Q : Unit → Shared → Prop} (hu : X.A.units < cLine) (I : Inv X pins σ H s) (ry : RelV y u) (rz : RelV z r)
    (g : Kept T N y z H) (k : ∀ s' H', Inv X pins σ H' s' → N H' → Q () s') : wpAny (model X.prog X.w) X.A (dictSet T u r) Q E s := by
  obtain ⟨kvs, ks, b, rfl, hb, hT, hl, n⟩ := g
  cases ry
  obtain ⟨l1, low, xs, rel, dd⟩ := dt_of I.hok hT
  have l2 : xs.length ≤ sizeLine := by
    rw [← Paired.length rel]
    exact l1
  have l3 := length_putK kvs ks z
  refine wpAny_dictSet_heap (hsz := l2) (knd := tupleKind (mixKind X.prog X.w)) hu (key_of I.hok hb) dd fun h' dd' same => ?_
  obtain ⟨o, es, ep, ho, c1, c2, c3, _, c5⟩ := dd'
  refine k _ _ ?_ n
  refine d_write I (by rw [hT]; trivial) same ⟨o, ho⟩ ⟨by omega, low, _, ?_, o, es, ep, ho, c1, c2, c3, c5⟩
  refine (rel.put ks hb rz).keeps fun c ys hc => ?_
  rw [upd_ne (ne_of hc hT (by intro q; cases q))]
  exact hc
def tDcT (wi : TI) (g : TG) (tk tv : TE) (vs : List Nat) : TE := fun σ H Q => wi σ H fun J H1 => ∀ T, H1 T = none → ∃ W : Nat → Nat → Hp → Prop, (∃ m, W 0 m (upd H1 T (.dT []))) ∧ ∀ i m H2, W i m H2 →
  (J.stop i H2 ∧ Q (.ref T) H2) ∨ (J.go i H2 ∧ ∃ N : Hp → Prop, (∀ H', N H' → ∃ m', m' < m ∧ W (i + 1) m' H') ∧
    ∀ x H', J.yld i H2 x H' → g x (wipe σ vs) H' fun σ' H3 => wipe σ' vs = wipe σ vs ∧ tk σ' H3 fun y H4 => tv σ' H4 fun z H5 => Kept T N y z H5)
theorem pe_dcT {kx vx tg iter : Expr} {scope : Scope} {own : List (Str × Nat)} {pos : Pos} {wi : TI} {g : TG} {tk tv : TE} (hu : X.A.units < cLine) (calm : X.calm = true) (nd : X.N.Nodup) (hi : PI X tg iter wi) (ok : BlkOk X.N X.env.scope scope own)
    (hg : ∀ (s : Shared) (H : Hp) (C : Addr) (cl : List (Str × Addr)) (fp : List Addr), PG (X.blk s H scope (compEnvC scope cl C X.env) fp) tg g)
    (hk : ∀ (s : Shared) (H : Hp) (C : Addr) (cl : List (Str × Addr)) (fp : List Addr), PE (X.blk s H scope (compEnvC scope cl C X.env) fp) kx tk)
    (hv : ∀ (s : Shared) (H : Hp) (C : Addr) (cl : List (Str × Addr)) (fp : List Addr), PE (X.blk s H scope (compEnvC scope cl C X.env) fp) vx tv)
    (still : ∀ x, foldedSetIterable iter X.env x = pure x := by intro _; rfl) : PE X (.DictComp kx vx [⟨tg, iter, [], 0⟩] scope pos) (tDcT wi g tk tv (own.map (·.2))) := by
  refine ⟨fun pins s σ H Q I h => ?_⟩
  rw [arm_eval_DictComp]
  have caps : ∀ y ∈ scope.names, y.2 = .free → ∃ c, X.env.cells.lookup y.1 = some c := fun y hy e => by
    rcases ok.free y hy e with q | q
    · exact I.ok.has _ (.inl q)
    · exact I.ok.has _ (.inr q)
  have begins := thn (hi.run pins s σ H _ I h) fun xv s1 hx => thn (Q' := fun itv s2 => PIE X pins σ tg (fun J H1 => _) itv s2) hx fun itv s2 h2 => h2
  refine wpAny_comprehension_free (use := none) rfl still (closure_ok caps) ok.kind (fun y hy e => by rw [ok.uniq y hy, e]) (thn begins fun xv s1 hx => thn hx fun itv s2 h2 => ?_)
  obtain ⟨it, fp, tn, J, H2, rfl, I2, turns, st2, f2, q⟩ := h2
  refine wpAny_newObj_type (newEnv_comp ?_)
  -- the new dict, at T
  obtain ⟨T, eT⟩ : ∃ T, T = s2.heap.objs.size := ⟨_, rfl⟩
  rw [← eT]
  have freeT : H2 T = none := I2.hok.fresh (by rw [eT]; exact Nat.le_refl _)
  obtain ⟨W, ⟨m0, w0⟩, step⟩ := q T freeT
  obtain ⟨s3, e3⟩ : ∃ s3 : Shared, s3 = { s2 with heap := s2.heap.push { cls := .type "dict", data := .dict #[] } } := ⟨_, rfl⟩
  obtain ⟨H3, eH3⟩ : ∃ H3, H3 = upd H2 T (.dT []) := ⟨_, rfl⟩
  rw [← eH3] at w0
  have up3 : ∀ b o, s2.heap.get? b = some o → s3.heap.get? b = some o := fun b o e => by
    rw [e3]
    exact Heap.get?_push_of_some _ e
  have I3 : Inv X pins σ H3 s3 := by
    have big := I2.big
    rw [eH3, e3, eT]
    exact I2.laid (t' := s2.toks) (fun b o e => Heap.get?_push_of_some _ e) (Nat.le_refl _) (dt_empty s2.heap big)
  have there : ∀ b ∈ fp, b < s2.heap.objs.size := fun b hb => by
    obtain ⟨o, e, _⟩ := turns.obj _ _ st2 b hb
    exact Heap.lt_size e
  have f3 : ∀ b ∈ fp, FpOk X pins H3 b ∧ b < s3.heap.objs.size := fun b hb => by
    have lt := there b hb
    have z : H3 b = none := by
      rw [eH3, upd_ne (by rw [eT]; exact Nat.ne_of_lt lt)]
      exact (f2 b hb).1
    refine ⟨⟨z, (f2 b hb).2⟩, ?_⟩
    rw [e3]
    show b < (s2.heap.push _).objs.size
    rw [Heap.size_push]
    exact Nat.lt_succ_of_lt lt
  have st3 : tn 0 s3.heap := turns.keep _ _ _ st2 fun b _ o e => up3 b o e
  -- the block: its frame, its cells
  have I4 := block_start I3 ok nd f3
  show codeAny _ _ (.compStart (.DictComp kx vx [⟨tg, iter, [], 0⟩] scope pos) 0 (.ref it) (.ref T) (compEnvC scope (cellsFrom ((s2.heap.push { cls := .type "dict", data := .dict #[] }).objs.size + 1) scope.names (cloFrom X.env.cells scope.names [])) (s2.heap.push { cls := .type "dict", data := .dict #[] }).objs.size X.env))
    (compPost (model X.prog X.w) X.A X.xe none (EP X pins σ Q) (.ref T) (s2.heap.push { cls := .type "dict", data := .dict #[] }).objs.size) { ({ s2 with heap := s2.heap.push { cls := .type "dict", data := .dict #[] } } : Shared) with heap := pushCells ((s2.heap.push { cls := .type "dict", data := .dict #[] }).push { cls := .type "dict", data := .dict #[] }) scope.names }
  rw [show (s2.heap.push { cls := .type "dict", data := .dict #[] }) = s3.heap by rw [e3]]
  rw [show ({ ({ s2 with heap := s3.heap } : Shared) with heap := pushCells (s3.heap.push { cls := .type "dict", data := .dict #[] }) scope.names } : Shared) = { s3 with heap := pushCells (s3.heap.push { cls := .type "dict", data := .dict #[] }) scope.names } by rw [e3]]
  obtain ⟨cl, ecl⟩ : ∃ cl, cl = cellsFrom (s3.heap.objs.size + 1) scope.names (cloFrom X.env.cells scope.names []) := ⟨_, rfl⟩
  rw [← ecl] at I4
  rw [← ecl]
  have pg := hg s3 H3 s3.heap.objs.size cl fp
  have pk := hk s3 H3 s3.heap.objs.size cl fp
  have pv := hv s3 H3 s3.heap.objs.size cl fp
  obtain ⟨ce, ece⟩ : ∃ ce, ce = compEnvC scope cl s3.heap.objs.size X.env := ⟨_, rfl⟩
  rw [← ece] at I4 pg pk pv
  rw [← ece]
  have ceL : ce.locals = s3.heap.objs.size := by
    rw [ece]
    rfl
  obtain ⟨s4, e4⟩ : ∃ s4 : Shared, s4 = { s3 with heap := pushCells (s3.heap.push { cls := .type "dict", data := .dict #[] }) scope.names } := ⟨_, rfl⟩
  rw [← e4] at I4
  rw [← e4]
  have st4 : tn 0 s4.heap := turns.keep _ _ _ st3 fun b _ o e => by
    rw [e4]
    exact pushCells_keeps _ _ _ _ (Heap.get?_push_of_some _ e)
  have rec_ok : ∀ {σ' : L2.St} {H' : Hp} {s' : Shared}, Inv (X.blk s3 H3 scope ce fp) [] σ' H' s' → (∀ b ∈ fp, H' b = none) → ∀ b ∈ fp, FpOk (X.blk s3 H3 scope ce fp) [] H' b := fun {σ' H' s'} I' n b hb =>
    ⟨n b hb, (I'.ok.exf b hb).1, I'.ok.exfs b hb, .inl hb, fun x c e => (I'.ok.exf b hb).2 x c e, fun p hp => absurd (show p ∈ ([] : List (Addr × Obj)) ++ [] from hp) (by simp)⟩
  -- its turns
  have loop : codeAny (model X.prog X.w) X.A (.compLoop (.DictComp kx vx [⟨tg, iter, [], 0⟩] scope pos) 0 (.ref it) (.ref T) ce) (compPost (model X.prog X.w) X.A X.xe none (EP X pins σ Q) (.ref T) s3.heap.objs.size) s4 := by
    refine compLoop_anyD (fun m s' => ∃ i H', Inv (X.blk s3 H3 scope ce fp) [] (wipe σ (own.map (·.2))) H' s' ∧ tn i s'.heap ∧ (∀ b ∈ fp, H' b = none) ∧ W i m H') ?_ m0 ⟨0, H3, I4, st4, fun b hb => (f3 b hb).1.1, w0⟩
    rintro m s5 ⟨i, H5, I5, st5, n5, w5⟩
    rcases step i m H5 w5 with ⟨stops, done⟩ | ⟨goes, N, hN, one⟩
    · refine thnF (turns.done (X.blk s3 H3 scope ce fp) rfl rfl rfl calm i [] s5 _ H5 (fun _ _ => False) I5 (rec_ok I5 n5) st5 stops) fun r s6 ⟨er, I6⟩ => ?_
      subst er
      have I7 : Inv X pins σ H5 s6 := I3.call' (ch := fp) I6.os I6.base I6.hok I6.bare fun b hb => ⟨(f3 b hb).1.2.2.2.1, (f3 b hb).1.2.1, (f3 b hb).1.2.2.2.2.1, (f3 b hb).1.2.2.2.2.2⟩
      have free6 : H5 ce.locals = none := I6.free
      obtain ⟨mp, ns, _⟩ := I6.loc
      have ns : s6.heap.Ns ce.locals mp := ns
      rw [ceL] at free6 ns
      obtain ⟨g0, g1, g2, g3, g4, g5⟩ := I3.fpOk (H' := H5) (Nat.le_refl _) free6
      refine ⟨mp, ns, fun h'' sb => ?_⟩
      exact ⟨.ref T, H5, I7.turned (t' := s6.toks) (fun b o hb e => (sb.2 b hb).trans e) g0 g1 g3 g4 g5, rfl, done⟩
    · refine thnF (turns.item (X.blk s3 H3 scope ce fp) rfl rfl rfl calm i [] s5 _ H5 (fun _ _ => False) I5 (rec_ok I5 n5) st5 goes) fun r s6 ⟨u, er, h6⟩ => ?_
      subst er
      refine thnF h6 fun _ s7 ⟨x, H7, I7, r7, y7, st7, n7⟩ => ?_
      have I7p := I7.pinned (rec_ok I7 n7) (turns.obj _ _ st7)
      refine thnF (pg.run _ s7 _ H7 x u _ I7p r7 (one x H7 y7)) fun _ s8 ⟨σ8, H8, I8, same8, q8⟩ => ?_
      refine thnF ((pts_nil (X := X.blk s3 H3 scope ce fp)).run _ s8 σ8 H8 (fun b H9 => b = true ∧ H9 = H8) I8 ⟨rfl, rfl⟩) fun b s9 ⟨H9, I9, eb, e9⟩ => ?_
      subst eb
      subst e9
      refine thnF (pk.run _ s9 σ8 H9 _ I9 q8) fun ku s10 ⟨y, H10, I10, r10, q10⟩ => ?_
      refine thnF (pv.run _ s10 σ8 H10 _ I10 q10) fun vu s11 ⟨z, H11, I11, r11, q11⟩ => ?_
      refine tab_set (X := X.blk s3 H3 scope ce fp) hu I11 r10 r11 q11 fun s12 H12 I12 n12 => ?_
      obtain ⟨m', lt, w'⟩ := hN H12 n12
      have pinned : ∀ b ∈ fp, ∀ o, s7.heap.get? b = some o → s12.heap.get? b = some o ∧ H12 b = none := fun b hb o e =>
        have z := I12.pin (b, o) (List.mem_append_right _ (List.mem_append_right _ (mem_pinsAt hb e)))
        ⟨z.1, z.2.1⟩
      have len8 : (wipe σ (own.map (·.2))).length = σ8.length := by rw [← same8, wipe_length]
      refine ⟨m', lt, i + 1, H12, (I12.unpinned (pins := [])).weak len8 (fun j v e => ?_), turns.keep _ _ _ st7 fun b hb o e => (pinned b hb o e).1, fun b hb => ?_, w'⟩
      · rw [← same8] at e
        exact (wipe_some e).1
      · obtain ⟨o, e, _⟩ := turns.obj _ _ st7 b hb
        exact (pinned b hb o e).2
  exact codeAny_compStart_dict loop (turns.self X.A 0 _ _ _ st4 loop)
end
end Sd

set_option Elab.async false
set_option linter.all false
set_option maxRecDepth 100000
set_option maxHeartbeats 4000000
namespace Sd
open PySem PySem.Spec PyProof.Rows L2 Evl

/-! ### the text by places -/
def top (i : Nat) : Stmt := PySem.Challenge.pw_stepdown_k14_whole_cells_do_the_same.main.body.getD i (.Pass ⟨0, 0, 0, 0⟩)
abbrev sIsL : Stmt := top 8
abbrev sEnds : Stmt := top 9
abbrev sCInit : Stmt := inClass (top 10) 0
abbrev sChange : Stmt := inClass (top 10) 2
abbrev sFoll : Stmt := inClass (top 10) 4
abbrev sCStep : Stmt := inClass (top 10) 5
abbrev sCStop : Stmt := inClass (top 10) 6
abbrev sCRows : Stmt := inClass (top 10) 8
abbrev sIsI : Stmt := top 14
abbrev sTrim : Stmt := top 15
abbrev sTInit : Stmt := inClass (top 16) 0
abbrev sIsRow : Stmt := inClass (top 16) 1
abbrev sTRow : Stmt := inClass (top 16) 3
abbrev sTStop : Stmt := inClass (top 16) 7
abbrev sLtr : Stmt := top 18
abbrev sLine : Stmt := top 19
abbrev sMean : Stmt := top 20
abbrev sSInit : Stmt := inClass (top 21) 0
abbrev sAdd : Stmt := inClass (top 21) 1
abbrev sLetter : Stmt := inClass (top 21) 2
abbrev sDown : Stmt := inClass (top 21) 3
abbrev sUp : Stmt := inClass (top 21) 4
abbrev sPace : Stmt := inClass (top 21) 5
abbrev sWCell : Stmt := top 24
abbrev sWMix : Stmt := top 25
abbrev sWDig : Stmt := top 26
abbrev sWTape : Stmt := top 27
abbrev sWTrim : Stmt := top 28
abbrev sWCfg : Stmt := top 29
abbrev sWNext : Stmt := top 30
abbrev sLaw : Stmt := top 31

/-! ### what the walk asks of the top's names -/
structure Txt (K : PySem.W.Frag) (mg : Str → Option Value) (cT cC cS : Addr) : Prop where
  clT : Cls K cT
  clC : Cls K cC
  clS : Cls K cS
  nMarks : NoAttr K cT "marks"
  nStates : NoAttr K cT "states"
  nRows : NoAttr K cT "_rows"
  nLetters : NoAttr K cC "letters"
  nChanges : NoAttr K cC "_changes"
  nUpper : NoAttr K cS "upper"
  nLower : NoAttr K cS "lower"
  mT : mg "Tape" = some (.ref cT)
  mC : mg "Cells" = some (.ref cC)
  mS : mg "CellStair" = some (.ref cS)
  bLen : mg "len" = none
  bTuple : mg "tuple" = none
  bRange : mg "range" = none
  bInt : mg "int" = none
  bBool : mg "bool" = none
  bIsi : mg "isinstance" = none
  bAll : mg "all" = none
  bList : mg "list" = none
  cLetters : ∃ t, mg "MOST_LETTERS" = some (.int 300 t)
  cMarks : ∃ t, mg "MOST_MARKS" = some (.int 16 t)
  cStates : ∃ t, mg "MOST_STATES" = some (.int 4000 t)
theorem bo_int : bootBuiltins "int" = some (.type "int") := by decide +kernel
theorem bo_bool : bootBuiltins "bool" = some (.type "bool") := by decide +kernel
theorem bo_tuple : bootBuiltins "tuple" = some (.type "tuple") := by decide +kernel
theorem bo_list : bootBuiltins "list" = some (.type "list") := by decide +kernel
theorem bo_isi : bootBuiltins "isinstance" = some (.builtin "isinstance") := by decide +kernel
theorem bo_all : bootBuiltins "all" = some (.builtin "all") := by decide +kernel
theorem bo_len : bootBuiltins "len" = some (.builtin "len") := by decide +kernel

/-! ### more readings -/
def rTupS (K : PySem.W.Frag) : List V → Hp → VK → Prop := fun xs H Q => ∃ p ys, xs = [.ref p] ∧ ((SqL K H p ys ∧ ∀ l, H l = none → Q (.ref l) (upd H l (.tup ys))) ∨ (SqT K H p ys ∧ Q (.ref p) H))
theorem rTupS_ok {X : Cx} : CallR X (.type "tuple") (rTupS X.K) := call_tuple_of
def rIntS : List V → Hp → VK → Prop := fun xs H Q => (∃ i, xs = [.int i] ∧ Q (.int i) H) ∨ ∃ k, xs = [.bl k] ∧ Q (.int (if k then 1 else 0)) H
theorem rIntS_ok {X : Cx} : CallR X (.type "int") rIntS := call_int1
theorem rListS_ok {X : Cx} : CallR X (.type "list") (rListS X.K) := call_list_of
section
variable {K : PySem.W.Frag} {σ : L2.St} {H : Hp} {ta tb te : TE} {P Pa Pb Pc : VP}
theorem ep_tupT {xs : List Int} (ha : EvP ta σ H (TupI K xs)) : EvP (tCB (rTupS K) (tCons ta tNil)) σ H (TupI K xs) := fun H1 e Q q =>
  ha H1 e _ fun v H2 e2 p => by
    obtain ⟨a, rfl, t⟩ := p
    exact ⟨a, _, rfl, .inr ⟨t, q _ H2 e2 ⟨a, rfl, t⟩⟩⟩
theorem ep_tupL {xs : List Int} (ha : EvP ta σ H (LstI xs)) : EvP (tCB (rTupS K) (tCons ta tNil)) σ H (TupI K xs) := fun H1 e Q q =>
  ha H1 e _ fun v H2 e2 p => by
    obtain ⟨a, rfl, t⟩ := p
    exact ⟨a, _, rfl, .inl ⟨sq_of t, fun l hl => q _ _ (e2.trans (Ex.new hl)) ⟨l, rfl, st_of upd_same⟩⟩⟩
theorem ep_toInt {i : Int} (ha : EvP ta σ H (IsI i)) : EvP (tCB rIntS (tCons ta tNil)) σ H (IsI i) := fun H1 e Q q =>
  ha.ev H1 e _ fun H2 e2 => .inl ⟨i, rfl, q _ H2 e2 rfl⟩
theorem ep_toIntP {φ : Int → Prop} (ha : EvP ta σ H (IntP φ)) : EvP (tCB rIntS (tCons ta tNil)) σ H (IntP φ) := fun H1 e Q q =>
  ha H1 e _ fun v H2 e2 p => by
    obtain ⟨i, rfl, f⟩ := p
    exact .inl ⟨i, rfl, q _ H2 e2 ⟨i, rfl, f⟩⟩
theorem ep_eqI {i j : Int} (ha : EvP ta σ H (IsI i)) (hb : EvP tb σ H (IsI j)) : EvP (tOp rEq ta tb) σ H (IsB (decide (i = j))) := by
  have h := ep_ev (ev_op ha.ev hb.ev (rv_eq (x := .int i) (y := .int j) rfl))
  refine ep_is h ?_
  by_cases e : i = j
  · rw [decide_eq_true e, decide_eq_true (by rw [e])]
  · rw [decide_eq_false e, decide_eq_false (fun q => e (V.int.inj q))]
theorem ep_neI {i j : Int} (ha : EvP ta σ H (IsI i)) (hb : EvP tb σ H (IsI j)) : EvP (tOp rNe ta tb) σ H (IsB (!decide (i = j))) := by
  have h := ep_ev (ev_op ha.ev hb.ev (rv_ne (x := .int i) (y := .int j) rfl))
  refine ep_is h ?_
  by_cases e : i = j
  · rw [decide_eq_true e, decide_eq_true (by rw [e])]
  · rw [decide_eq_false e, decide_eq_false (fun q => e (V.int.inj q))]
theorem sqt_ty {H : Hp} {a : Addr} {vs : List V} (h : SqT K H a vs) : TyX K H (.ref a) (.type "tuple") := by
  rcases h with (h | ⟨o, h⟩) | ⟨o, its, n, h, c, _⟩
  · exact .base (.tup h)
  · exact .fTuple h
  · exact .kTuple h c
theorem ep_isiI {i : Int} {T : String} {b : Bool} (ha : EvP ta σ H (IsI i)) (hk : kitB "int" T = some b) : EvP (tCB (rIsi K) (tCons ta (tCons (tC (.ty T)) tNil))) σ H (IsB b) := fun H1 e Q q =>
  ha.ev H1 e _ fun H2 e2 => ⟨.int i, .ty T, _, _, b, rfl, .ty T, .base (.int i), kit_ty hk, q _ H2 e2 rfl⟩
theorem ep_isiT {Po : VP} (ha : EvP ta σ H Po) (ht : ∀ v H1, Po v H1 → ∃ a vs, v = .ref a ∧ SqT K H1 a vs) : EvP (tCB (rIsi K) (tCons ta (tCons (tC (.ty "tuple")) tNil))) σ H (IsB true) := fun H1 e Q q =>
  ha H1 e _ fun v H2 e2 p => by
    obtain ⟨a, vs, rfl, t⟩ := ht v H2 p
    exact ⟨.ref a, .ty "tuple", _, _, true, rfl, .ty "tuple", sqt_ty t, kit_ty (by decide +kernel), q _ H2 e2 rfl⟩
theorem kit_ii : kitB "int" "int" = some true := by decide +kernel
theorem kit_ib : kitB "int" "bool" = some false := by decide +kernel
/-- isinstance(x, int) and not isinstance(x, bool) and lo <= x < hi: an int -/
theorem ep_isI {i : Int} {c : Bool} {tc : TE} (ha : EvP ta σ H (IsI i)) (hc : EvP tc σ H (IsB c)) :
    EvP (tAndV (tCB (rIsi K) (tCons ta (tCons (tC (.ty "int")) tNil))) (tAndV (tNotV (tCB (rIsi K) (tCons ta (tCons (tC (.ty "bool")) tNil)))) tc)) σ H (IsB c) := by
  have h1 := (ep_isiI (K := K) ha kit_ii).ev
  have h2 := (ep_isiI (K := K) ha kit_ib).ev
  have h := ev_andV (b := c) h1 fun _ => ev_is (ev_andV (b := c) (ev_notV h2) fun _ => hc.ev) (by cases c <;> rfl)
  exact ep_ev (ev_is h (by cases c <;> rfl))
end

section
variable {P : Program} {w : World} {K : PySem.W.Frag} {mg : Str → Option Value} {base : Heap} {f : Addr} {fd : FuncData} {cT cC cS : Addr}
/-! ### is_letter, is_integer -/
def spIsL : Sp := fun vs H Q _ => ∃ x n : Int, vs = [.int x, .int n] ∧ ∀ H', Ex H H' → Q (.bl (decide (0 ≤ x) && decide (x < n))) H'
theorem scIsL : FnScope ["value", "letters"] ["value", "letters"] (defScope sIsL) := ⟨rfl, rfl, rfl, by decide +kernel, rfl, by decide +kernel, by decide +kernel⟩
theorem ok_isL (F : Fun K "is_letter" "is_letter" sIsL f fd) (T : Txt K mg cT cC cS) : FnOk P w K mg base CX0 1 f fd ["value", "letters"] spIsL := by
  refine F.ok scIsL (fun vs H Q E h => ?_) (fun cdv A outer s H vs Q E hr h => ?_)
  · obtain ⟨x, n, rfl, _⟩ := h
    rfl
  · obtain ⟨x, n, rfl, k⟩ := h
    refine ⟨_, pss_one (ps_ret (pe_and (pe_callB call_isi (by rfl) T.bIsi bo_isi (pa_cons (pv 0) (pa_cons (pe_bltn (by rfl) T.bInt bo_int (v := .ty "int") rfl) pa_nil)))
      (pe_and (pe_not (pe_callB call_isi (by rfl) T.bIsi bo_isi (pa_cons (pv 0) (pa_cons (pe_bltn (by rfl) T.bBool bo_bool (v := .ty "bool") rfl) pa_nil))))
        (pe_one (pe_chain op_le op_lt pe_int (pv 0) (pv 1)))))), ?_⟩
    refine s_retP (ep_isI (ep_vi rfl) (ep_chain ep_c (ep_vi rfl) (ep_vi rfl))) fun v H1 e p => ?_
    rw [p]
    exact k H1 e
def spIsI : Sp := fun vs H Q _ => ∃ x lo hi : Int, vs = [.int x, .int lo, .int hi] ∧ ∀ H', Ex H H' → Q (.bl (decide (lo ≤ x) && decide (x ≤ hi))) H'
theorem scIsI : FnScope ["value", "least", "most"] ["value", "least", "most"] (defScope sIsI) := ⟨rfl, rfl, rfl, by decide +kernel, rfl, by decide +kernel, by decide +kernel⟩
theorem ok_isI (F : Fun K "is_integer" "is_integer" sIsI f fd) (T : Txt K mg cT cC cS) : FnOk P w K mg base CX0 1 f fd ["value", "least", "most"] spIsI := by
  refine F.ok scIsI (fun vs H Q E h => ?_) (fun cdv A outer s H vs Q E hr h => ?_)
  · obtain ⟨x, lo, hi, rfl, _⟩ := h
    rfl
  · obtain ⟨x, lo, hi, rfl, k⟩ := h
    refine ⟨_, pss_one (ps_ret (pe_and (pe_callB call_isi (by rfl) T.bIsi bo_isi (pa_cons (pv 0) (pa_cons (pe_bltn (by rfl) T.bInt bo_int (v := .ty "int") rfl) pa_nil)))
      (pe_and (pe_not (pe_callB call_isi (by rfl) T.bIsi bo_isi (pa_cons (pv 0) (pa_cons (pe_bltn (by rfl) T.bBool bo_bool (v := .ty "bool") rfl) pa_nil))))
        (pe_one (pe_chain op_le op_le (pv 1) (pv 0) (pv 2)))))), ?_⟩
    refine s_retP (ep_isI (ep_vi rfl) (ep_chain (ep_vi rfl) (ep_vi rfl) (ep_vi rfl))) fun v H1 e p => ?_
    rw [p]
    exact k H1 e
end
end Sd

set_option Elab.async false
set_option linter.all false
set_option maxRecDepth 100000
set_option maxHeartbeats 4000000
namespace Sd
open PySem PySem.Spec PyProof.Rows L2 Evl
section
variable {P : Program} {w : World} {K : PySem.W.Frag} {mg : Str → Option Value} {base : Heap} {f : Addr} {fd : FuncData} {cT cC cS : Addr}

/-- xs[i] = 0, as a test; i known to lie in xs -/
theorem ep_is0 {σ : L2.St} {H : Hp} {ta tb : TE} {xs : List Int} {i : Int} {n : Nat} (ha : EvP ta σ H (TupI K xs)) (hb : EvP tb σ H (IsI i)) (e : i = (n : Int)) (hn : n < xs.length) : EvP (tOp rEq (tOp (rIxT K) ta tb) (tC (.int 0))) σ H (IsB (decide (xs[n]? = some 0))) := by
  have hx : xs[n]? = some xs[n] := List.getElem?_eq_getElem hn
  refine ep_is (ep_eqI (ep_ixT (x := xs[n]) ha hb (by omega) (by rw [show i.toNat = n by omega]; exact hx)) ep_c) ?_
  rw [hx]
  by_cases q : xs[n] = 0
  · rw [decide_eq_true q, decide_eq_true (by rw [q])]
  · rw [decide_eq_false q, decide_eq_false (fun z => q (Option.some.inj z))]

/-! ### without_ends -/
def spEnds (K : PySem.W.Frag) : Sp := fun vs H Q _ => ∃ v xs, vs = [v] ∧ TupI K xs v H ∧ xs.length ≤ 1000 ∧ ∀ v' H', Ex H H' → TupI K (strip xs) v' H' → Q v' H'
theorem scEnds : FnScope ["row", "begin", "end"] ["row"] (defScope sEnds) := ⟨rfl, rfl, rfl, by decide +kernel, rfl, by decide +kernel, by decide +kernel⟩
theorem ok_ends (F : Fun K "without_ends" "without_ends" sEnds f fd) (T : Txt K mg cT cC cS) : FnOk P w K mg base CX0 1 f fd ["row"] (spEnds K) := by
  refine F.ok scEnds (fun vs H Q E h => ?_) (fun cdv A outer s H vs Q E hr h => ?_)
  · obtain ⟨v, xs, rfl, _⟩ := h
    rfl
  · obtain ⟨v, xs, rfl, hv, hz, k⟩ := h
    refine ⟨_, pss_cons (ps_set (i := 1) scEnds.nd rfl (.inl rfl) pe_int) (pss_cons (ps_set (i := 2) scEnds.nd rfl (.inl rfl) (pe_callB rLenS_ok (by rfl) T.bLen bo_len (pa_cons (pv 0) pa_nil)))
      (pss_cons (ps_while PassesOwn.never (PW.pt (pw_and (pt_cmpR op_lt (pv 1) (pv 2) (nomark _)) (pw_and1 (pt_cmpR op_eq (pe_ix ix_tup (pv 0) (pv 1) (fun _ _ => rfl)) pe_int (nomark _)))))
          (pss_one (ps_aug (i := 1) scEnds.nd rfl (.inl rfl) pe_int ip_add)))
      (pss_cons (ps_while PassesOwn.never (PW.pt (pw_and (pt_cmpR op_gt (pv 2) (pv 1) (nomark _)) (pw_and1 (pt_cmpR op_eq (pe_ix ix_tup (pv 0) (pe_op op_sub (pv 2) pe_int) (fun _ _ => rfl)) pe_int (nomark _)))))
          (pss_one (ps_aug (i := 2) scEnds.nd rfl (.inl rfl) pe_int ip_sub)))
      (pss_one (ps_ret (pe_callTy rTupS_ok (by rfl) T.bTuple bo_tuple (pa_cons (pe_slice sl_tupA (pv 0) (po_some (pv 1)) (po_some (pv 2))) pa_nil))))))), ?_⟩
    refine s_seq (s_setI ep_c fun H1 e1 => s_seq (s_setI (ep_lenT (ep_var rfl (Mono.up e1 hv))) fun H2 e2 => ?_))
    have e02 := e1.trans e2
    -- from the front
    refine s_seq (s_while (fun m σ H3 => ∃ b : Nat, σ = [some v, some (.int b), some (.int xs.length)] ∧ b ≤ xs.length ∧ m = xs.length - b ∧ (∀ (i : Nat) (x : Int), i < b → xs[i]? = some x → x = 0) ∧ Ex H H3) xs.length
      ⟨0, rfl, Nat.zero_le _, rfl, fun i x hi => absurd hi (Nat.not_lt_zero i), e02⟩ ?_)
    rintro m σ H3 ⟨b, rfl, hb, rfl, h0, e3⟩
    have v3 : TupI K xs v H3 := Mono.up e3 hv
    refine ⟨decide ((b : Int) < (xs.length : Int)) && decide (xs[b]? = some 0), et_and (et_P (ep_I0 (ep_vi rfl) (ep_vi rfl))) (fun hl => et_P (ep_is0 (ep_var rfl v3) (ep_vi rfl) rfl (by have := of_decide_eq_true hl; omega))), fun hc H4 e4 => ?_, fun hc H4 e4 => ?_⟩
    · rw [Bool.and_eq_true] at hc
      have c1 : b < xs.length := by have := of_decide_eq_true hc.1; omega
      have c2 : xs[b]? = some 0 := of_decide_eq_true hc.2
      refine ⟨fun σ' H' => ∃ b' : Nat, b' = b + 1 ∧ σ' = [some v, some (.int b'), some (.int xs.length)] ∧ Ex H H', fun σ' H' ⟨b', eb, es, ex⟩ => ?_, ?_⟩
      · subst eb
        refine ⟨xs.length - (b + 1), by omega, b + 1, es, by omega, rfl, fun i x hi hx => ?_, ex⟩
        by_cases q : i = b
        · subst q
          rw [c2] at hx
          exact (Option.some.inj hx).symm
        · exact h0 i x (by omega) hx
      · exact s_aug (f := fun i j => i + j) rfl ep_c.ev fun H5 e5 => ⟨b + 1, rfl, rfl, (e3.trans e4).trans e5⟩
    · -- from the end
      have hb2 : ∀ x, b < xs.length → xs[b]? = some x → x ≠ 0 := fun x hl hx q => by
        subst q
        rw [decide_eq_true (by omega), hx, decide_eq_true rfl] at hc
        cases hc
      have e04 := e3.trans e4
      refine s_seq (s_while (fun m σ H5 => ∃ e : Nat, σ = [some v, some (.int b), some (.int e)] ∧ b ≤ e ∧ e ≤ xs.length ∧ e = m ∧ (∀ (i : Nat) (x : Int), e ≤ i → xs[i]? = some x → x = 0) ∧ Ex H H5) xs.length
        ⟨xs.length, rfl, hb, Nat.le_refl _, rfl, fun i x hi hx => (by rw [List.getElem?_eq_none hi] at hx; cases hx), e04⟩ ?_)
      rintro m σ H5 ⟨e, rfl, hbe, he, rfl, h1, e5⟩
      have v5 : TupI K xs v H5 := Mono.up e5 hv
      refine ⟨decide ((b : Int) < (e : Int)) && decide (xs[e - 1]? = some 0), et_and (et_P (ep_I0 (g := fun i j => .bl (decide (j < i))) (ep_vi rfl) (ep_vi rfl))) (fun hl => et_P (ep_is0 (n := e - 1) (ep_var rfl v5) (ep_I0 (ep_vi rfl) ep_c) (by have := of_decide_eq_true hl; omega) (by have := of_decide_eq_true hl; omega))), fun hc H6 e6 => ?_, fun hc H6 e6 => ?_⟩
      · rw [Bool.and_eq_true] at hc
        have c1 : b < e := by have := of_decide_eq_true hc.1; omega
        have c2 : xs[e - 1]? = some 0 := of_decide_eq_true hc.2
        refine ⟨fun σ' H' => ∃ e' : Nat, e' = e - 1 ∧ σ' = [some v, some (.int b), some (.int e')] ∧ Ex H H', fun σ' H' ⟨e', eb, es, ex⟩ => ?_, ?_⟩
        · subst eb
          refine ⟨e - 1, by omega, e - 1, es, by omega, by omega, rfl, fun i x hi hx => ?_, ex⟩
          by_cases q : i = e - 1
          · subst q
            rw [c2] at hx
            exact (Option.some.inj hx).symm
          · exact h1 i x (by omega) hx
        · exact s_aug (f := fun i j => i - j) rfl ep_c.ev fun H7 e7 => ⟨e - 1, rfl, by show [some v, some (V.int b), some (V.int ((e : Int) - 1))] = _; rw [show ((e : Int) - 1) = ((e - 1 : Nat) : Int) by omega], (e5.trans e6).trans e7⟩
      · have he2 : ∀ x, b < e → xs[e - 1]? = some x → x ≠ 0 := fun x hl hx q => by
          subst q
          rw [decide_eq_true (by omega), hx, decide_eq_true rfl] at hc
          cases hc
        refine s_retP (ep_tupT (ep_slT (ep_var rfl (Mono.up e6 v5)) (epo_some (ep_vi rfl)) (epo_some (ep_vi rfl)))) fun v' H7 e7 p => ?_
        refine k v' H7 ((e5.trans e6).trans e7) ?_
        rw [HT.sIx_nat, HT.sIx_nat, Nat.min_eq_left hb, Nat.min_eq_left he, strip_cut hbe he h0 hb2 h1 he2] at p
        exact p
end
end Sd

set_option Elab.async false
set_option linter.all false
set_option maxRecDepth 100000
set_option maxHeartbeats 4000000
namespace Sd
open PySem PySem.Spec PyProof.Rows L2 Evl

/-! ### tuples taken apart; a list or a tuple -/
theorem tupI_P {K : PySem.W.Frag} {xs : List Int} {v : V} {H : Hp} (h : TupI K xs v H) : TupP K (xs.map IsI) v H := by
  obtain ⟨a, rfl, t⟩ := h
  refine ⟨a, _, rfl, t, ?_⟩
  have all : ∀ (ys : List Int), AllP (ys.map IsI) (ys.map V.int) H := fun ys => by
    induction ys with
    | nil => trivial
    | cons y ys ih => exact ⟨rfl, ih⟩
  exact all xs
def SeqI (K : PySem.W.Frag) (xs : List Int) : VP := fun v H => TupI K xs v H ∨ LstI xs v H
instance seqIMono {K : PySem.W.Frag} {xs : List Int} : Mono (SeqI K xs) := ⟨fun e h => h.elim (fun q => .inl (Mono.up e q)) fun q => .inr (Mono.up e q)⟩
def rSlS (K : PySem.W.Frag) : V → Option Int → Option Int → Hp → VK → Prop := fun x lo hi H Q => rSlL K x lo hi H Q ∨ rSlA K x lo hi H Q
theorem sl_seq {X : Cx} : SlR X (rSlS X.K) := SlR.or sl_list sl_tupA
section
variable {K : PySem.W.Frag} {σ : L2.St} {H : Hp} {ta tb te : TE} {P1 P2 P3 P4 : VP} {D : Ends}
theorem s_unpack3 {i j k : Nat} (h : EvP te σ H (TupP K [P1, P2, P3])) (q : ∀ v1 v2 v3 H1, Ex H H1 → P1 v1 H1 → P2 v2 H1 → P3 v3 H1 → D.nx (((σ.set i (some v1)).set j (some v2)).set k (some v3)) H1) :
    tAsg te (gTup K 3 (gCons (gName i) (gCons (gName j) (gCons (gName k) gNil)))) D σ H := h H (Ex.refl H) _ fun v H1 e p => by
  obtain ⟨a, vs, rfl, t, ps⟩ := p
  match vs, ps with
  | [v1, v2, v3], ps =>
    obtain ⟨p1, p2, p3, _⟩ := ps
    exact ⟨a, _, rfl, t, rfl, v1, _, rfl, v2, _, rfl, v3, _, rfl, rfl, q v1 v2 v3 H1 e p1 p2 p3⟩
theorem s_unpack4 {i j k l : Nat} (h : EvP te σ H (TupP K [P1, P2, P3, P4])) (q : ∀ v1 v2 v3 v4 H1, Ex H H1 → P1 v1 H1 → P2 v2 H1 → P3 v3 H1 → P4 v4 H1 → D.nx ((((σ.set i (some v1)).set j (some v2)).set k (some v3)).set l (some v4)) H1) :
    tAsg te (gTup K 4 (gCons (gName i) (gCons (gName j) (gCons (gName k) (gCons (gName l) gNil))))) D σ H := h H (Ex.refl H) _ fun v H1 e p => by
  obtain ⟨a, vs, rfl, t, ps⟩ := p
  match vs, ps with
  | [v1, v2, v3, v4], ps =>
    obtain ⟨p1, p2, p3, p4, _⟩ := ps
    exact ⟨a, _, rfl, t, rfl, v1, _, rfl, v2, _, rfl, v3, _, rfl, v4, _, rfl, rfl, q v1 v2 v3 v4 H1 e p1 p2 p3 p4⟩
theorem ep_ixS {xs : List Int} {i x : Int} (ha : EvP ta σ H (SeqI K xs)) (hb : EvP tb σ H (IsI i)) (hx : 0 ≤ i) (h : xs[i.toNat]? = some x) : EvP (tOp (rIx K) ta tb) σ H (IsI x) :=
  ep_op ha hb fun v y H1 _ p q Q k => by
    have hm : (xs.map V.int)[i.toNat]? = some (V.int x) := by rw [List.getElem?_map, h]; rfl
    rcases p with ⟨a, rfl, t⟩ | ⟨a, rfl, t⟩
    · exact .inr (.inl ⟨a, _, i, .int x, rfl, q, t, at_of (j := i.toNat) (by omega) hm, k _ H1 (Ex.refl H1) rfl⟩)
    · exact .inl ⟨a, _, i, .int x, rfl, q, sq_of t, at_of (j := i.toNat) (by omega) hm, k _ H1 (Ex.refl H1) rfl⟩
theorem ep_lenS {xs : List Int} (ha : EvP ta σ H (SeqI K xs)) : EvP (tCB (rLenS K) (tCons ta tNil)) σ H (IsI xs.length) := fun H1 e Q q =>
  ha H1 e _ fun v H2 e2 p => by
    rcases p with ⟨a, rfl, t⟩ | ⟨a, rfl, t⟩
    · exact ⟨a, _, rfl, .inr t, q _ H2 e2 (by rw [List.length_map]; rfl)⟩
    · exact ⟨a, _, rfl, .inl (sq_of t), q _ H2 e2 (by rw [List.length_map]; rfl)⟩
theorem ep_slS {xs : List Int} {tl th : TO} {lo hi : Option Int} (ha : EvP ta σ H (SeqI K xs)) (hl : EvPO tl σ H lo) (hh : EvPO th σ H hi) :
    EvP (tSl (rSlS K) ta tl th) σ H (SeqI K ((xs.drop (HT.sIx xs.length 0 lo)).take (HT.sIx xs.length xs.length hi - HT.sIx xs.length 0 lo))) := fun H1 e Q q =>
  ha H1 e _ fun v H2 e2 p => hl H2 (e.trans e2) _ fun H3 e3 => hh H3 ((e.trans e2).trans e3) _ fun H4 e4 => by
    rcases p with ⟨a, rfl, t⟩ | ⟨a, rfl, t⟩
    · have t4 := ex_t (e3.trans e4) t
      refine .inr ⟨a, _, rfl, t4, fun h => ?_, fun _ p hp => ?_⟩
      · rw [List.length_map] at h
        refine q _ H4 ((e2.trans e3).trans e4) (.inl ⟨a, rfl, ?_⟩)
        rw [h.1, h.2, List.drop_zero, Nat.sub_zero, List.take_length]
        exact t4
      · exact q _ _ (((e2.trans e3).trans e4).trans (Ex.new hp)) (.inl ⟨p, rfl, st_of (by rw [← cut_int]; exact upd_same)⟩)
    · exact .inl ⟨a, _, rfl, sq_of ((e3.trans e4) a _ t), fun p hp => q _ _ (((e2.trans e3).trans e4).trans (Ex.new hp)) (.inr ⟨p, rfl, by rw [← cut_int]; exact upd_same⟩)⟩
theorem ep_tupS {xs : List Int} (ha : EvP ta σ H (SeqI K xs)) : EvP (tCB (rTupS K) (tCons ta tNil)) σ H (TupI K xs) := fun H1 e Q q =>
  ha H1 e _ fun v H2 e2 p => by
    rcases p with ⟨a, rfl, t⟩ | ⟨a, rfl, t⟩
    · exact ⟨a, _, rfl, .inr ⟨t, q _ H2 e2 ⟨a, rfl, t⟩⟩⟩
    · exact ⟨a, _, rfl, .inl ⟨sq_of t, fun l hl => q _ _ (e2.trans (Ex.new hl)) ⟨l, rfl, st_of upd_same⟩⟩⟩
theorem ep_is0S {xs : List Int} {i : Int} {n : Nat} (ha : EvP ta σ H (SeqI K xs)) (hb : EvP tb σ H (IsI i)) (e : i = (n : Int)) (hn : n < xs.length) : EvP (tOp rEq (tOp (rIx K) ta tb) (tC (.int 0))) σ H (IsB (decide (xs[n]? = some 0))) := by
  have hx : xs[n]? = some xs[n] := List.getElem?_eq_getElem hn
  refine ep_is (ep_eqI (ep_ixS (x := xs[n]) ha hb (by omega) (by rw [show i.toNat = n by omega]; exact hx)) ep_c) ?_
  rw [hx]
  by_cases q : xs[n] = 0
  · rw [decide_eq_true q, decide_eq_true (by rw [q])]
  · rw [decide_eq_false q, decide_eq_false (fun z => q (Option.some.inj z))]
theorem et_isN {Po : VP} {b : Bool} (ha : EvP ta σ H Po) (hb : ∀ v H1, Po v H1 → decide (v = .non) = b) : EvT (tTest (tOp rIsN ta (tC .non))) σ H b := fun H1 e Q q =>
  ha H1 e _ fun v H2 e2 p => ⟨rfl, b, by rw [hb v H2 p], q H2 e2⟩
theorem et_notN {Po : VP} {b : Bool} (ha : EvP ta σ H Po) (hb : ∀ v H1, Po v H1 → decide (v = .non) = !b) : EvT (tTest (tOp rNotN ta (tC .non))) σ H b := fun H1 e Q q =>
  ha H1 e _ fun v H2 e2 p => ⟨rfl, b, by rw [hb v H2 p, Bool.not_not], q H2 e2⟩
end

theorem all1 {P1 : VP} {vs : List V} {H : Hp} (h : AllP [P1] vs H) : ∃ u, vs = [u] ∧ P1 u H := match vs, h with
  | [u], h => ⟨u, rfl, h.1⟩
theorem all2 {P1 P2 : VP} {vs : List V} {H : Hp} (h : AllP [P1, P2] vs H) : ∃ u v, vs = [u, v] ∧ P1 u H ∧ P2 v H := match vs, h with
  | [u, v], h => ⟨u, v, rfl, h.1, h.2.1⟩
theorem all3 {P1 P2 P3 : VP} {vs : List V} {H : Hp} (h : AllP [P1, P2, P3] vs H) : ∃ u v x, vs = [u, v, x] ∧ P1 u H ∧ P2 v H ∧ P3 x H := match vs, h with
  | [u, v, x], h => ⟨u, v, x, rfl, h.1, h.2.1, h.2.2.1⟩

section
variable {P : Program} {w : World} {K : PySem.W.Frag} {mg : Str → Option Value} {base : Heap} {f : Addr} {fd : FuncData} {cT cC cS : Addr}
/-! ### trimmed, _law_trim -/
def spTrim (K : PySem.W.Frag) : Sp := fun vs H Q _ => ∃ v xs, vs = [v] ∧ TupI K xs v H ∧ xs.length ≤ 1000 ∧ ∀ v' H', Ex H H' → TupI K (trim xs) v' H' → Q v' H'
theorem scTrim : FnScope ["marks", "count"] ["marks"] (defScope sTrim) := ⟨rfl, rfl, rfl, by decide +kernel, rfl, by decide +kernel, by decide +kernel⟩
theorem ok_trim (F : Fun K "trimmed" "trimmed" sTrim f fd) (T : Txt K mg cT cC cS) : FnOk P w K mg base CX0 1 f fd ["marks"] (spTrim K) := by
  refine F.ok scTrim (fun vs H Q E h => ?_) (fun cdv A outer s H vs Q E hr h => ?_)
  · obtain ⟨v, xs, rfl, _⟩ := h
    rfl
  · obtain ⟨v, xs, rfl, hv, hz, k⟩ := h
    refine ⟨_, pss_cons (ps_set (i := 1) scTrim.nd rfl (.inl rfl) (pe_callB rLenS_ok (by rfl) T.bLen bo_len (pa_cons (pv 0) pa_nil)))
      (pss_cons (ps_while PassesOwn.never (PW.pt (pw_and (pt_cmpR op_gt (pv 1) pe_int (nomark _)) (pw_and1 (pt_cmpR op_eq (pe_ix ix_tup (pv 0) (pe_op op_sub (pv 1) pe_int) (fun _ _ => rfl)) pe_int (nomark _)))))
          (pss_one (ps_aug (i := 1) scTrim.nd rfl (.inl rfl) pe_int ip_sub)))
      (pss_one (ps_ret (pe_callTy rTupS_ok (by rfl) T.bTuple bo_tuple (pa_cons (pe_slice sl_tupA (pv 0) po_none (po_some (pv 1))) pa_nil))))), ?_⟩
    refine s_seq (s_setI (ep_lenT (ep_var rfl hv)) fun H2 e2 => ?_)
    refine s_seq (s_while (fun m σ H5 => ∃ e : Nat, σ = [some v, some (.int e)] ∧ e ≤ xs.length ∧ e = m ∧ (∀ (i : Nat) (x : Int), e ≤ i → xs[i]? = some x → x = 0) ∧ Ex H H5) xs.length
      ⟨xs.length, rfl, Nat.le_refl _, rfl, fun i x hi hx => (by rw [List.getElem?_eq_none hi] at hx; cases hx), e2⟩ ?_)
    rintro m σ H5 ⟨e, rfl, he, rfl, h1, e5⟩
    have v5 : TupI K xs v H5 := Mono.up e5 hv
    refine ⟨decide ((0 : Int) < (e : Int)) && decide (xs[e - 1]? = some 0), et_and (et_P (ep_I0 (g := fun i j => .bl (decide (j < i))) (ep_vi rfl) ep_c)) (fun hl => et_P (ep_is0 (n := e - 1) (ep_var rfl v5) (ep_I0 (ep_vi rfl) ep_c) (by have := of_decide_eq_true hl; omega) (by have := of_decide_eq_true hl; omega))), fun hc H6 e6 => ?_, fun hc H6 e6 => ?_⟩
    · rw [Bool.and_eq_true] at hc
      have c1 : 0 < e := by have := of_decide_eq_true hc.1; omega
      have c2 : xs[e - 1]? = some 0 := of_decide_eq_true hc.2
      refine ⟨fun σ' H' => ∃ e' : Nat, e' = e - 1 ∧ σ' = [some v, some (.int e')] ∧ Ex H H', fun σ' H' ⟨e', eb, es, ex⟩ => ?_, ?_⟩
      · subst eb
        refine ⟨e - 1, by omega, e - 1, es, by omega, rfl, fun i x hi hx => ?_, ex⟩
        by_cases q : i = e - 1
        · subst q
          rw [c2] at hx
          exact (Option.some.inj hx).symm
        · exact h1 i x (by omega) hx
      · exact s_aug (f := fun i j => i - j) rfl ep_c.ev fun H7 e7 => ⟨e - 1, rfl, by show [some v, some (V.int ((e : Int) - 1))] = _; rw [show ((e : Int) - 1) = ((e - 1 : Nat) : Int) by omega], (e5.trans e6).trans e7⟩
    · have he2 : ∀ x, 0 < e → xs[e - 1]? = some x → x ≠ 0 := fun x hl hx q => by
        subst q
        rw [decide_eq_true (by omega), hx, decide_eq_true rfl] at hc
        cases hc
      refine s_retP (ep_tupT (ep_slT (ep_var rfl (Mono.up e6 v5)) epo_none (epo_some (ep_vi rfl)))) fun v' H7 e7 p => ?_
      refine k v' H7 ((e5.trans e6).trans e7) ?_
      rw [HT.sIx_none, HT.sIx_nat, Nat.min_eq_left he, List.drop_zero, Nat.sub_zero, trim_take xs e h1 he he2] at p
      exact p
def spWTrim (K : PySem.W.Frag) : Sp := fun vs H Q _ => ∃ v xs, vs = [v] ∧ SeqI K xs v H ∧ xs.length ≤ 1000 ∧ ∀ v' H', Ex H H' → TupI K (trim xs) v' H' → Q v' H'
theorem scWTrim : FnScope ["_law_row", "_law_end", "_law_k"] ["_law_row"] (defScope sWTrim) := ⟨rfl, rfl, rfl, by decide +kernel, rfl, by decide +kernel, by decide +kernel⟩
theorem ok_wtrim (F : Fun K "_law_trim" "_law_trim" sWTrim f fd) (T : Txt K mg cT cC cS) : FnOk P w K mg base CX0 1 f fd ["_law_row"] (spWTrim K) := by
  refine F.ok scWTrim (fun vs H Q E h => ?_) (fun cdv A outer s H vs Q E hr h => ?_)
  · obtain ⟨v, xs, rfl, _⟩ := h
    rfl
  · obtain ⟨v, xs, rfl, hv, hz, k⟩ := h
    refine ⟨_, pss_cons (ps_set (i := 1) scWTrim.nd rfl (.inl rfl) (pe_callB rLenS_ok (by rfl) T.bLen bo_len (pa_cons (pv 0) pa_nil)))
      (pss_cons (ps_for PassesOwn.never rfl (pi_range1 rfl T.bRange (pa_cons (pe_callB rLenS_ok (by rfl) T.bLen bo_len (pa_cons (pv 0) pa_nil)) pa_nil)) (pg_name (i := 2) scWTrim.nd rfl (.inl rfl))
        (pss_one (ps_if (PW.pt (pw_and (pt_cmpR op_gt (pv 1) pe_int (nomark _)) (pw_and1 (pt_cmpR op_eq (pe_ix ix_seq (pv 0) (pe_op op_sub (pv 1) pe_int) (fun _ _ => rfl)) pe_int (nomark _)))))
          (pss_one (ps_set (i := 1) scWTrim.nd rfl (.inl rfl) (pe_op op_sub (pv 1) pe_int))) pss_nil)))
      (pss_one (ps_ret (pe_callTy rTupS_ok (by rfl) T.bTuple bo_tuple (pa_cons (pe_slice sl_seq (pv 0) po_none (po_some (pv 1))) pa_nil))))), ?_⟩
    refine s_seq (s_setI (ep_lenS (ep_var rfl hv)) fun H2 e2 => ?_)
    refine s_seq (s_forR1 (n := (xs.length : Int)) (ea_cons (ep_lenS (ep_var rfl (Mono.up e2 hv))).ev ea_nil) (by omega) (fun i σ H5 => ∃ (e : Nat) (u : Option V), σ = [some v, some (.int e), u] ∧ e ≤ xs.length ∧ (∀ (i : Nat) (x : Int), e ≤ i → xs[i]? = some x → x = 0) ∧
      ((∀ x, 0 < e → xs[e - 1]? = some x → x ≠ 0) ∨ e + i ≤ xs.length) ∧ Ex H H5) (fun H3 e3 => ⟨xs.length, none, rfl, Nat.le_refl _, fun i x hi hx => (by rw [List.getElem?_eq_none hi] at hx; cases hx), .inr (by omega), e2.trans e3⟩) ?_ ?_)
    · rintro i σ H5 hi ⟨e, u, rfl, he, h1, h2, e5⟩
      have v5 : SeqI K xs v H5 := Mono.up e5 hv
      refine s_if (b := decide ((0 : Int) < (e : Int)) && decide (xs[e - 1]? = some 0)) (et_and (et_P (ep_I0 (g := fun i j => .bl (decide (j < i))) (ep_vi rfl) ep_c)) (fun hl => et_P (ep_is0S (n := e - 1) (ep_var rfl v5) (ep_I0 (ep_vi rfl) ep_c) (by have := of_decide_eq_true hl; omega) (by have := of_decide_eq_true hl; omega)))) (fun hc H6 e6 => ?_) (fun hc H6 e6 => ?_)
      · rw [Bool.and_eq_true] at hc
        have c1 : 0 < e := by have := of_decide_eq_true hc.1; omega
        have c2 : xs[e - 1]? = some 0 := of_decide_eq_true hc.2
        refine s_setI (ep_I0 (ep_vi rfl) ep_c) fun H7 e7 => ⟨e - 1, some (.int i), by show [some v, some (V.int ((e : Int) - 1)), some (V.int i)] = _; rw [show ((e : Int) - 1) = ((e - 1 : Nat) : Int) by omega], by omega, fun i x hi hx => ?_, .inr ?_, (e5.trans e6).trans e7⟩
        · by_cases q : i = e - 1
          · subst q
            rw [c2] at hx
            exact (Option.some.inj hx).symm
          · exact h1 i x (by omega) hx
        · rcases h2 with h2 | h2
          · exact absurd rfl (h2 0 c1 c2)
          · omega
      · have he2 : ∀ x, 0 < e → xs[e - 1]? = some x → x ≠ 0 := fun x hl hx q => by
          subst q
          rw [decide_eq_true (by omega), hx, decide_eq_true rfl] at hc
          cases hc
        exact ⟨e, some (.int i), rfl, he, h1, .inl he2, e5.trans e6⟩
    · rintro σ H5 ⟨e, u, rfl, he, h1, h2, e5⟩
      have he2 : ∀ x, 0 < e → xs[e - 1]? = some x → x ≠ 0 := by
        rcases h2 with h2 | h2
        · exact h2
        · intro x hl
          omega
      refine s_retP (ep_tupS (ep_slS (ep_var rfl (Mono.up e5 hv)) epo_none (epo_some (ep_vi rfl)))) fun v' H7 e7 p => ?_
      refine k v' H7 (e5.trans e7) ?_
      rw [HT.sIx_none, HT.sIx_nat, Nat.min_eq_left he, List.drop_zero, Nat.sub_zero, trim_take xs e h1 he he2] at p
      exact p

/-! ### letter_of, line_of -/
def spLtr : Sp := fun vs H Q _ => ∃ m a q : Int, vs = [.int m, .int a, .int q] ∧ 0 ≤ m ∧ m ≤ 100 ∧ ∀ H', Ex H H' → Q (.int (ltr m a q)) H'
theorem scLtr : FnScope ["marks", "mark", "state"] ["marks", "mark", "state"] (defScope sLtr) := ⟨rfl, rfl, rfl, by decide +kernel, rfl, by decide +kernel, by decide +kernel⟩
theorem ok_ltr (F : Fun K "letter_of" "letter_of" sLtr f fd) : FnOk P w K mg base CX0 1 f fd ["marks", "mark", "state"] spLtr := by
  refine F.ok scLtr (fun vs H Q E h => ?_) (fun cdv A outer s H vs Q E hr h => ?_)
  · obtain ⟨m, a, q, rfl, _⟩ := h
    rfl
  · obtain ⟨m, a, q, rfl, m0, m1, k⟩ := h
    refine ⟨_, pss_one (ps_ret (pe_ifExp (pt_cmpR op_isN1 (pv 2) pe_non (nomark _)) (pv 1) (pe_op op_add (pe_op op_mul (pv 0) (pe_op op_add (pv 2) pe_int)) (pv 1)))), ?_⟩
    refine s_retP (P := IsI (ltr m a q)) (ep_if (b := false) (et_isN (ep_vi rfl) fun v H1 p => by rw [p]; rfl) (fun z => by cases z) fun _ => ?_) fun v H1 e p => ?_
    · exact ep_I0 (ep_I (ep_vi rfl) (ep_I0 (ep_vi rfl) ep_c) (.inl ⟨by omega, by omega⟩)) (ep_vi rfl)
    · rw [p]
      exact k H1 e
/-- a configuration of the tape, as a tuple -/
abbrev CfgV (K : PySem.W.Frag) (c : Cfg) : VP := TupP K [IsI c.q, TupI K c.l, IsI c.a, TupI K c.r]
def spLine (K : PySem.W.Frag) : Sp := fun vs H Q _ => ∃ m c v, vs = [.int m, v] ∧ 0 ≤ m ∧ m ≤ 100 ∧ CfgV K c v H ∧ c.l.length + c.r.length ≤ 500 ∧ ∀ v' H', Ex H H' → TupI K (strip (c.l.reverse ++ ltr m c.a c.q :: c.r)) v' H' → Q v' H'
theorem scLine : FnScope ["marks", "configuration", "state", "left", "mark", "right"] ["marks", "configuration"] (defScope sLine) := ⟨rfl, rfl, rfl, by decide +kernel, rfl, by decide +kernel, by decide +kernel⟩
theorem ok_line {fE fL : Addr} {fdE fdL : FuncData} (F : Fun K "line_of" "line_of" sLine f fd) (T : Txt K mg cT cC cS) (FE : Fun K "without_ends" "without_ends" sEnds fE fdE) (bE : Binds K fdE ["row"] []) (gE : mg "without_ends" = some (.ref fE))
    (FL : Fun K "letter_of" "letter_of" sLtr fL fdL) (bL : Binds K fdL ["marks", "mark", "state"] []) (gL : mg "letter_of" = some (.ref fL)) : FnOk P w K mg base CX0 2 f fd ["marks", "configuration"] (spLine K) := by
  have GE : FnOk P w K mg base CX0 1 fE fdE ["row"] (spEnds K) := ok_ends FE T
  have GL : FnOk P w K mg base CX0 1 fL fdL ["marks", "mark", "state"] spLtr := ok_ltr FL
  refine F.ok scLine (fun vs H Q E h => ?_) (fun cdv A outer s H vs Q E hr h => ?_)
  · obtain ⟨m, c, v, rfl, _⟩ := h
    rfl
  · obtain ⟨m, c, v, rfl, m0, m1, hc, hz, k⟩ := h
    refine ⟨_, pss_cons (ps_asg (pv 1) (pg_tup (by rfl) (pgs_cons (pg_name (i := 2) scLine.nd rfl (.inl rfl)) (pgs_cons (pg_name (i := 3) scLine.nd rfl (.inl rfl)) (pgs_cons (pg_name (i := 4) scLine.nd rfl (.inl rfl)) (pgs_cons (pg_name (i := 5) scLine.nd rfl (.inl rfl)) pgs_nil))))))
      (pss_one (ps_ret (pe_call GE hr rfl gE FE.kp bE .nil pass0 (pa_cons (pe_op op_catA (pe_op op_catA (pe_revT (pv 3)) (pe_tup (pa_cons (pe_call GL hr rfl gL FL.kp bL .nil pass0 (pa_cons (pv 0) (pa_cons (pv 4) (pa_cons (pv 2) pa_nil)))) pa_nil))) (pv 5)) pa_nil)))), ?_⟩
    refine s_seq (s_unpack4 (ep_var rfl hc) fun v1 v2 v3 v4 H1 e1 p1 p2 p3 p4 => ?_)
    have eq1 : v1 = V.int c.q := p1
    have eq3 : v3 = V.int c.a := p3
    subst eq1 eq3
    have letter : EvP (tCall spLtr [] E0 (tCons (tVar 0) (tCons (tVar 4) (tCons (tVar 2) tNil)))) [some (V.int m), some v, some (V.int c.q), some v2, some (V.int c.a), some v4] H1 (IsI (ltr m c.a c.q)) :=
      ep_call (Ps := [IsI m, IsI c.a, IsI c.q]) (epa_cons (ep_vi rfl) (epa_cons (ep_vi rfl) (epa_cons (ep_vi rfl) epa_nil))) fun vs H2 _ pa Q' E' q => by
        obtain ⟨_, _, _, rfl, rfl, rfl, rfl⟩ := all3 pa
        exact ⟨m, c.a, c.q, rfl, m0, m1, fun H3 e3 => q _ H3 e3 rfl⟩
    have a1 : EvP (tRevT K (tVar 3)) [some (V.int m), some v, some (V.int c.q), some v2, some (V.int c.a), some v4] H1 (TupI K c.l.reverse) := ep_rev (ep_var rfl p2)
    have a2 : EvP (tTup (tCons (tCall spLtr [] E0 (tCons (tVar 0) (tCons (tVar 4) (tCons (tVar 2) tNil)))) tNil)) [some (V.int m), some v, some (V.int c.q), some v2, some (V.int c.a), some v4] H1 (TupI K [ltr m c.a c.q]) := ep_tupI (is := [ltr m c.a c.q]) (epa_cons letter epa_nil) (by show 1 ≤ 1000; decide)
    have a3 := ep_cat (ep_cat a1 a2 (by simp; omega)) (ep_var (i := 5) rfl p4) (by simp; omega)
    refine s_retP (ep_call (P := TupI K (strip (c.l.reverse ++ ltr m c.a c.q :: c.r))) (epa_cons a3 epa_nil) fun vs H2 _ pa Q' E' q => ?_) fun v' H2 e2 p => k v' H2 (e1.trans e2) p
    obtain ⟨u, rfl, h1⟩ := all1 pa
    refine ⟨u, _, rfl, h1, ?_, fun v' H3 e3 p => q v' H3 e3 ?_⟩
    · simp
      omega
    · rw [List.append_assoc, List.cons_append, List.nil_append] at p
      exact p
end
end Sd

set_option Elab.async false
set_option linter.all false
set_option maxRecDepth 100000
set_option maxHeartbeats 4000000
namespace Sd
open PySem PySem.Spec PyProof.Rows L2 Evl

/-! ### where each def stands -/
def GF (K : PySem.W.Frag) (mg : Str → Option Value) (x : Str) (st : Stmt) (ps : List Str) : Prop := ∃ f fd, Fun K x x st f fd ∧ Binds K fd ps [] ∧ mg x = some (.ref f)
def GM (K : PySem.W.Frag) (C : Addr) (m qual : Str) (st : Stmt) (ps : List Str) : Prop := ∃ f fd, Fun K m qual st f fd ∧ Binds K fd ps [] ∧ Meth K C m f
def GI (K : PySem.W.Frag) (C : Addr) (qual : Str) (st : Stmt) (ps : List Str) : Prop := ∃ f fd, Fun K "__init__" qual st f fd ∧ Binds K fd ps [] ∧ Mk K C f
structure Dfs (K : PySem.W.Frag) (mg : Str → Option Value) (cT cC cS : Addr) : Prop where
  isL : GF K mg "is_letter" sIsL ["value", "letters"]
  ends : GF K mg "without_ends" sEnds ["row"]
  cInit : GI K cC "Cells.__init__" sCInit ["self", "letters", "changes"]
  change : GM K cC "change" "Cells.change" sChange ["self", "left", "middle", "right"]
  foll : GM K cC "following" "Cells.following" sFoll ["self", "row"]
  cStep : GM K cC "step" "Cells.step" sCStep ["self", "configuration"]
  cStop : GM K cC "stopped" "Cells.stopped" sCStop ["self", "configuration"]
  cRows : GM K cC "rows" "Cells.rows" sCRows ["self", "configuration", "steps"]
  isI : GF K mg "is_integer" sIsI ["value", "least", "most"]
  trim : GF K mg "trimmed" sTrim ["marks"]
  tInit : GI K cT "Tape.__init__" sTInit ["self", "marks", "states", "rows"]
  isRow : GM K cT "_is_row" "Tape._is_row" sIsRow ["self", "row"]
  tRow : GM K cT "row" "Tape.row" sTRow ["self", "state", "mark"]
  tStop : GM K cT "stopped" "Tape.stopped" sTStop ["self", "configuration"]
  ltr : GF K mg "letter_of" sLtr ["marks", "mark", "state"]
  line : GF K mg "line_of" sLine ["marks", "configuration"]
  mean : GF K mg "meaning" sMean ["machine", "line"]
  sInit : GI K cS "CellStair.__init__" sSInit ["self", "machine"]
  add : GM K cS "_add" "CellStair._add" sAdd ["self", "changes", "state", "mark"]
  letter : GM K cS "letter" "CellStair.letter" sLetter ["self", "mark", "state"]
  down : GM K cS "down" "CellStair.down" sDown ["self", "configuration"]
  up : GM K cS "up" "CellStair.up" sUp ["self", "configuration"]
  pace : GM K cS "pace" "CellStair.pace" sPace ["self", "configuration"]
  wCell : GF K mg "_law_cell" sWCell ["_law_script", "_law_k"]
  wMix : GF K mg "_law_mixed" sWMix ["_law_cell_here", "_law_k"]
  wDig : GF K mg "_law_digits" sWDig ["_law_cell_here", "_law_count", "_law_many"]
  wTape : GF K mg "_law_tape" sWTape ["_law_numbers", "_law_most_marks", "_law_most_states"]
  wTrim : GF K mg "_law_trim" sWTrim ["_law_row"]
  wCfg : GF K mg "_law_configuration" sWCfg ["_law_machine", "_law_cell_here"]
  wNext : GF K mg "_law_next" sWNext ["_law_machine", "_law_configuration_here"]

/-! ### a heap without one object: what a method may not touch -/
def drop (p : Addr) (H : Hp) : Hp := fun b => if b = p then none else H b
theorem drop_at {p : Addr} {H : Hp} : drop p H p = none := by
  unfold drop
  rw [if_pos rfl]
theorem drop_get {p a : Addr} {H : Hp} {o : HO} (h : H a = some o) (ne : a ≠ p) : drop p H a = some o := by
  unfold drop
  rw [if_neg ne]
  exact h
theorem drop_ex {p : Addr} {H : Hp} : Ex (drop p H) H := fun a o h => by
  unfold drop at h
  by_cases e : a = p
  · rw [if_pos e] at h
    cases h
  · rw [if_neg e] at h
    exact h
theorem drop_all {p : Addr} {H H' : Hp} (e : Ex (drop p H) H') : ∀ b o, H b = some o → b ≠ p → H' b = some o := fun b o h ne => e b o (drop_get h ne)
theorem drop_t {K : PySem.W.Frag} {p a : Addr} {H : Hp} {xs : List V} {u : HO} (hp : H p = some u) (nt : ∀ ys, u ≠ .tup ys) (nf : ∀ o w, u ≠ .frz o w) (h : SqT K H a xs) : SqT K (drop p H) a xs := by
  rcases h with (h | ⟨o, h⟩) | h
  · exact .inl (.inl (drop_get h (ne_of h hp fun z => nt _ z.symm)))
  · exact .inl (.inr ⟨o, drop_get h (ne_of h hp fun z => nf _ _ z.symm)⟩)
  · exact .inr h
theorem drop_tupI {K : PySem.W.Frag} {p : Addr} {H : Hp} {xs : List Int} {u : HO} {v : V} (hp : H p = some u) (nt : ∀ ys, u ≠ .tup ys) (nf : ∀ o w, u ≠ .frz o w) (h : TupI K xs v H) : TupI K xs v (drop p H) := by
  obtain ⟨a, rfl, t⟩ := h
  exact ⟨a, rfl, drop_t hp nt nf t⟩

/-! ### more readings: attributes, None -/
section
variable {K : PySem.W.Frag} {σ : L2.St} {H : Hp} {ta tb te tv : TE} {P : VP} {D : Ends}
theorem s_fldP {f : Str} {a C dx : Addr} {fs : List (Str × V)} (hv : EvP tv σ H P) [m : Mono P] (ha : Ev ta σ H (.ref a)) (ho : H a = some (.ins C dx fs)) (cl : Cls K C) (nf : NoAttr K C f) (hl : fs.length < 1000) (k : ∀ v H1, Ex H H1 → P v H1 → D.nx σ (upd H1 a (.ins C dx (putF f v fs)))) :
    sFld K ta tv f D σ H := hv H (Ex.refl H) _ fun v H1 e1 p => ha H1 e1 _ fun H2 e2 =>
  ⟨a, C, dx, fs, rfl, e2 a _ (e1 a _ ho), cl, nf, hl, k v H2 (e1.trans e2) (m.up e2 p)⟩
theorem ep_isNV {Po : VP} {b : Bool} (ha : EvP ta σ H Po) (hb : ∀ v H1, Po v H1 → decide (v = .non) = b) : EvP (tOp rIsN ta (tC .non)) σ H (IsB b) := fun H1 e Q q =>
  ha H1 e _ fun v H2 e2 p => ⟨rfl, by rw [hb v H2 p]; exact q _ H2 e2 rfl⟩
theorem ep_neg {i : Int} (ha : EvP ta σ H (IsI i)) : EvP (tUn (rU fun i => .int (-i)) ta) σ H (IsI (-i)) := fun H1 e Q q => ha.ev H1 e _ fun H2 e2 => ⟨i, rfl, q _ H2 e2 rfl⟩
/-- a list that stands -/
def LstV (us : List V) : VP := fun v H => ∃ a, v = .ref a ∧ H a = some (.lst us)
instance lstVMono {us : List V} : Mono (LstV us) := ⟨fun e ⟨a, h1, h2⟩ => ⟨a, h1, e a _ h2⟩⟩
theorem ep_list {us : List V} (ha : EvP ta σ H (LstV us)) : EvP (tCB (rListS K) (tCons ta tNil)) σ H (LstV us) := fun H1 e Q q =>
  ha H1 e _ fun v H2 e2 p => by
    obtain ⟨a, rfl, t⟩ := p
    exact ⟨a, us, rfl, .inl (sq_of t), fun l hl => q _ _ (e2.trans (Ex.new hl)) ⟨l, rfl, upd_same⟩⟩
theorem ep_lenV {us : List V} (ha : EvP ta σ H (LstV us)) : EvP (tCB (rLenS K) (tCons ta tNil)) σ H (IsI us.length) := fun H1 e Q q =>
  ha H1 e _ fun v H2 e2 p => by
    obtain ⟨a, rfl, t⟩ := p
    exact ⟨a, us, rfl, .inl (sq_of t), q _ H2 e2 rfl⟩
/-- a call of is_integer, of is_letter -/
theorem ep_isIC {tc : TE} {x lo hi : Int} {E : XK} (ha : EvP ta σ H (IsI x)) (hb : EvP tb σ H (IsI lo)) (hc : EvP tc σ H (IsI hi)) : EvP (tCall spIsI [] E (tCons ta (tCons tb (tCons tc tNil)))) σ H (IsB (decide (lo ≤ x) && decide (x ≤ hi))) :=
  ep_call (epa_cons ha (epa_cons hb (epa_cons hc epa_nil))) fun vs H2 _ pa Q' E' q => by
    obtain ⟨_, _, _, rfl, rfl, rfl, rfl⟩ := all3 pa
    exact ⟨x, lo, hi, rfl, fun H3 e3 => q _ H3 e3 rfl⟩
theorem ep_isLC {x n : Int} {E : XK} (ha : EvP ta σ H (IsI x)) (hb : EvP tb σ H (IsI n)) : EvP (tCall spIsL [] E (tCons ta (tCons tb tNil))) σ H (IsB (decide (0 ≤ x) && decide (x < n))) :=
  ep_call (epa_cons ha (epa_cons hb epa_nil)) fun vs H2 _ pa Q' E' q => by
    obtain ⟨_, _, rfl, rfl, rfl⟩ := all2 pa
    exact ⟨x, n, rfl, fun H3 e3 => q _ H3 e3 rfl⟩
end
end Sd

set_option Elab.async false
set_option linter.all false
set_option maxRecDepth 100000
set_option maxHeartbeats 4000000
namespace Sd
open PySem PySem.Spec PyProof.Rows L2 Evl

/-! ### a tape machine as an object -/
def rowP (K : PySem.W.Frag) : Option (Int × Int × Int) → VP
  | none => Is .non
  | some (w, v, q) => TupI K [w, v, q]
instance rowMono {K : PySem.W.Frag} {r : Option (Int × Int × Int)} : Mono (rowP K r) := match r with
  | none => isMono
  | some (_, _, _) => tupIMono
theorem rows_mono {K : PySem.W.Frag} : ∀ (rs : List (Option (Int × Int × Int))), MonoA (rs.map (rowP K))
  | [] => nilMono
  | r :: rs => @consMono _ _ rowMono (rows_mono rs)
instance rowsMono {K : PySem.W.Frag} {rs : List (Option (Int × Int × Int))} : MonoA (rs.map (rowP K)) := rows_mono rs
def tapeG (m s : Int) : List (Str × V) := putF "states" (.int s) (putF "marks" (.int m) [])
def tapeF (m s : Int) (l : Addr) : List (Str × V) := putF "_rows" (.ref l) (tapeG m s)
theorem n1 : ¬ (("marks" : Str) = "states") := by decide +kernel
theorem n2 : ¬ (("marks" : Str) = "_rows") := by decide +kernel
theorem n3 : ¬ (("states" : Str) = "_rows") := by decide +kernel
theorem tapeG_marks (m s : Int) : (tapeG m s).lookup ("marks" : Str) = some (.int m) := by
  unfold tapeG
  rw [lookup_putF, if_neg n1, lookup_putF, if_pos rfl]
theorem tapeG_states (m s : Int) : (tapeG m s).lookup ("states" : Str) = some (.int s) := by
  unfold tapeG
  rw [lookup_putF, if_pos rfl]
theorem tapeG_no {m s : Int} {x : Str} (h1 : ¬ x = "states") (h2 : ¬ x = "marks") : (tapeG m s).lookup x = none := by
  unfold tapeG
  rw [lookup_putF, if_neg h1, lookup_putF, if_neg h2]
  rfl
theorem tapeF_marks (m s : Int) (l : Addr) : (tapeF m s l).lookup ("marks" : Str) = some (.int m) := by
  unfold tapeF
  rw [lookup_putF, if_neg n2, tapeG_marks]
theorem tapeF_states (m s : Int) (l : Addr) : (tapeF m s l).lookup ("states" : Str) = some (.int s) := by
  unfold tapeF
  rw [lookup_putF, if_neg n3, tapeG_states]
theorem tapeF_rows (m s : Int) (l : Addr) : (tapeF m s l).lookup ("_rows" : Str) = some (.ref l) := by
  unfold tapeF
  rw [lookup_putF, if_pos rfl]
theorem tapeF_no {m s : Int} {l : Addr} {x : Str} (h0 : ¬ x = "_rows") (h1 : ¬ x = "states") (h2 : ¬ x = "marks") : (tapeF m s l).lookup x = none := by
  unfold tapeF
  rw [lookup_putF, if_neg h0, tapeG_no h1 h2]
def TapeV (K : PySem.W.Frag) (cT : Addr) (M : Mach) : VP := fun v H => ∃ p dx l vs, v = .ref p ∧ H p = some (.ins cT dx (tapeF M.m M.s l)) ∧ H l = some (.lst vs) ∧ AllP (M.rw.map (rowP K)) vs H
instance tapeMono {K : PySem.W.Frag} {cT : Addr} {M : Mach} : Mono (TapeV K cT M) := ⟨fun e ⟨p, dx, l, vs, h1, h2, h3, h4⟩ => ⟨p, dx, l, vs, h1, e p _ h2, e l _ h3, MonoA.up e h4⟩⟩
theorem allP_at : ∀ {Ps : List VP} {vs : List V} {H : Hp} {i : Nat} {v : V}, AllP Ps vs H → vs[i]? = some v → ∃ P, Ps[i]? = some P ∧ P v H
  | [], [], _, _, _, _, h => by simp at h
  | P :: Ps, v :: vs, H, 0, _, h, e => by
    simp at e
    subst e
    exact ⟨P, rfl, h.1⟩
  | P :: Ps, v :: vs, H, i + 1, _, h, e => allP_at (i := i) h.2 (by simpa using e)
theorem drop_rows {K : PySem.W.Frag} {p : Addr} {H : Hp} {u : HO} (hp : H p = some u) (nt : ∀ ys, u ≠ .tup ys) (nf : ∀ o w, u ≠ .frz o w) : ∀ {rs : List (Option (Int × Int × Int))} {vs : List V}, AllP (rs.map (rowP K)) vs H → AllP (rs.map (rowP K)) vs (drop p H)
  | [], [], _ => trivial
  | none :: rs, v :: vs, h => ⟨h.1, drop_rows hp nt nf h.2⟩
  | some (_, _, _) :: rs, v :: vs, h => ⟨drop_tupI hp nt nf h.1, drop_rows hp nt nf h.2⟩

section
variable {P : Program} {w : World} {K : PySem.W.Frag} {mg : Str → Option Value} {base : Heap} {f : Addr} {fd : FuncData} {cT cC cS : Addr}
/-- an attribute of a tape -/
theorem ep_marks {σ : L2.St} {H : Hp} {ta : TE} {M : Mach} (T : Txt K mg cT cC cS) (ha : EvP ta σ H (TapeV K cT M)) : EvP (tFld K ta "marks") σ H (IsI M.m) :=
  ep_fld ha fun x H1 _ ⟨p, dx, l, vs, h1, h2, _⟩ => ⟨p, cT, dx, _, _, h1, h2, T.clT, T.nMarks, tapeF_marks _ _ _, rfl⟩
theorem ep_states {σ : L2.St} {H : Hp} {ta : TE} {M : Mach} (T : Txt K mg cT cC cS) (ha : EvP ta σ H (TapeV K cT M)) : EvP (tFld K ta "states") σ H (IsI M.s) :=
  ep_fld ha fun x H1 _ ⟨p, dx, l, vs, h1, h2, _⟩ => ⟨p, cT, dx, _, _, h1, h2, T.clT, T.nStates, tapeF_states _ _ _, rfl⟩

/-! ### _is_row -/
def spIsRow (K : PySem.W.Frag) (cT : Addr) : Sp := fun vs H Q _ => ∃ (p dx : Addr) (m s w v q : Int) (u : V), vs = [.ref p, u] ∧ H p = some (.ins cT dx (tapeG m s)) ∧ TupI K [w, v, q] u H ∧ RowOk m s (some (w, v, q)) ∧ ∀ H', Ex H H' → Q (.bl true) H'
theorem scIsRow : FnScope ["self", "row"] ["self", "row"] (defScope sIsRow) := ⟨rfl, rfl, rfl, by decide +kernel, rfl, by decide +kernel, by decide +kernel⟩
theorem ok_isRow (F : Fun K "_is_row" "Tape._is_row" sIsRow f fd) (T : Txt K mg cT cC cS) (D : Dfs K mg cT cC cS) : FnOk P w K mg base CX0 2 f fd ["self", "row"] (spIsRow K cT) := by
  obtain ⟨fI, fdI, FI, bI, gI⟩ := D.isI
  have GI : FnOk P w K mg base CX0 1 fI fdI ["value", "least", "most"] spIsI := ok_isI FI T
  refine F.ok scIsRow (fun vs H Q E h => ?_) (fun cdv A outer s H vs Q E hr h => ?_)
  · obtain ⟨p, dx, m, s, w, v, q, u, rfl, _⟩ := h
    rfl
  · obtain ⟨p, dx, m, s, w, v, q, u, rfl, hp, hu, ⟨w0, w1, hv, q0, q1⟩, k⟩ := h
    refine ⟨_, pss_cons (ps_if (PW.pt (pw_or (pt_not (pt_val (pe_callB call_isi (by rfl) T.bIsi bo_isi (pa_cons (pv 1) (pa_cons (pe_bltn (by rfl) T.bTuple bo_tuple (v := .ty "tuple") rfl) pa_nil)))))
          (pw_or1 (pt_cmpR op_ne (pe_callB rLenS_ok (by rfl) T.bLen bo_len (pa_cons (pv 1) pa_nil)) pe_int (nomark _))))) pss_never pss_nil)
      (pss_cons (ps_if (PW.pt (pw_or (pt_not (pt_val (pe_call GI hr rfl gI FI.kp bI .nil pass0 (pa_cons (pe_ix ix_tup (pv 1) pe_int (fun _ _ => rfl)) (pa_cons (pe_un un_neg pe_int) (pa_cons pe_int pa_nil))))))
          (pw_or1 (pt_cmpR op_eq (pe_ix ix_tup (pv 1) pe_int (fun _ _ => rfl)) pe_int (nomark _))))) pss_never pss_nil)
      (pss_one (ps_ret (pe_and (pe_call GI hr rfl gI FI.kp bI .nil pass0 (pa_cons (pe_ix ix_tup (pv 1) pe_int (fun _ _ => rfl)) (pa_cons pe_int (pa_cons (pe_op op_sub (pe_fld (pv 0) rfl) pe_int) pa_nil))))
        (pe_one (pe_call GI hr rfl gI FI.kp bI .nil pass0 (pa_cons (pe_ix ix_tup (pv 1) pe_int (fun _ _ => rfl)) (pa_cons pe_int (pa_cons (pe_op op_sub (pe_fld (pv 0) rfl) pe_int) pa_nil))))))))), ?_⟩
    have item : ∀ (H1 : Hp) (i x : Int), Ex H H1 → 0 ≤ i → [w, v, q][i.toNat]? = some x → EvP (tOp (rIxT K) (tVar 1) (tC (.int i))) [some (V.ref p), some u] H1 (IsI x) := fun H1 i x e h0 hx => ep_ixT (ep_var rfl (Mono.up e hu)) ep_c h0 hx
    have fld : ∀ (H1 : Hp) (x : Str) (y : Int), Ex H H1 → NoAttr K cT x → (tapeG m s).lookup x = some (.int y) → EvP (tFld K (tVar 0) x) [some (V.ref p), some u] H1 (IsI y) := fun H1 x y e hn hl =>
      ep_fld (Po := Is (.ref p)) (ep_vi rfl) fun z H2 e2 hz => ⟨p, cT, dx, _, _, hz, (e.trans e2) p _ hp, T.clT, hn, hl, rfl⟩
    refine s_seq (s_if (b := false) (et_is (et_or (et_not (et_PB (ep_isiT (K := K) (ep_var rfl hu) fun z H1 ⟨a, e, t⟩ => ⟨a, _, e, t⟩))) (b := false) fun _ => et_is (et_P (ep_neI (ep_lenT (ep_var rfl hu)) ep_c)) rfl) rfl) (fun z => by cases z) fun _ H1 e1 => ?_)
    refine s_seq (s_if (b := false) (et_is (et_or (et_not (et_PB (ep_isIC (item H1 1 v e1 (by decide) rfl) (ep_neg ep_c) ep_c))) (b := false) fun _ => et_is (et_P (ep_eqI (item H1 1 v e1 (by decide) rfl) ep_c)) (decide_eq_false (by omega)))
      (by rw [decide_eq_true (show -1 ≤ v by omega), decide_eq_true (show v ≤ 1 by omega)]; rfl)) (fun z => by cases z) fun _ H2 e2 => ?_)
    have e12 := e1.trans e2
    refine s_retP (P := IsB true) (ep_ev (ev_is (ev_andV (b := true) (EvP.ev (ep_isIC (item H2 0 w e12 (by decide) rfl) ep_c (ep_I0 (fld H2 "marks" m e12 T.nMarks (tapeG_marks m s)) ep_c))) fun _ => ev_is (EvP.ev (ep_isIC (item H2 2 q e12 (by decide) rfl) ep_c (ep_I0 (fld H2 "states" s e12 T.nStates (tapeG_states m s)) ep_c))) ?_) ?_)) fun z H3 e3 hz => ?_
    · rw [decide_eq_true (show 0 ≤ q by omega), decide_eq_true (show q ≤ s - 1 by omega)]
      rfl
    · rw [decide_eq_true (show 0 ≤ w by omega), decide_eq_true (show w ≤ m - 1 by omega)]
      rfl
    · rw [hz]
      exact k H3 (e12.trans e3)
end
end Sd

set_option Elab.async false
set_option linter.all false
set_option maxRecDepth 100000
set_option maxHeartbeats 4000000
namespace Sd
open PySem PySem.Spec PyProof.Rows L2 Evl
section
variable {P : Program} {w : World} {K : PySem.W.Frag} {mg : Str → Option Value} {base : Heap} {f : Addr} {fd : FuncData} {cT cC cS : Addr}
/-! ### Tape.__init__ -/
def spTInit (K : PySem.W.Frag) (cT : Addr) : Sp := fun vs H Q _ => ∃ (p dx l : Addr) (M : Mach) (us : List V), vs = [.ref p, .int M.m, .int M.s, .ref l] ∧ H p = some (.ins cT dx []) ∧ M.Ok ∧ H l = some (.lst us) ∧ AllP (M.rw.map (rowP K)) us H ∧
  ∀ H', Ex (drop p H) H' → TapeV K cT M (.ref p) H' → Q .non H'
theorem scTInit : FnScope ["self", "marks", "states", "rows", "row"] ["self", "marks", "states", "rows"] (defScope sTInit) := ⟨rfl, rfl, rfl, by decide +kernel, rfl, by decide +kernel, by decide +kernel⟩
theorem ok_tInit (F : Fun K "__init__" "Tape.__init__" sTInit f fd) (T : Txt K mg cT cC cS) (D : Dfs K mg cT cC cS) : FnOk P w K mg base CX0 3 f fd ["self", "marks", "states", "rows"] (spTInit K cT) := by
  obtain ⟨fI, fdI, FI, bI, gI⟩ := D.isI
  have GI : FnOk P w K mg base CX0 1 fI fdI ["value", "least", "most"] spIsI := ok_isI FI T
  obtain ⟨fR, fdR, FR, bR, mR⟩ := D.isRow
  have GR : FnOk P w K mg base CX0 2 fR fdR ["self", "row"] (spIsRow K cT) := ok_isRow FR T D
  obtain ⟨tM, cM⟩ := T.cMarks
  obtain ⟨tS, cS'⟩ := T.cStates
  refine F.ok scTInit (fun vs H Q E h => ?_) (fun cdv A outer s H vs Q E hr h => ?_)
  · obtain ⟨p, dx, l, M, us, rfl, _⟩ := h
    rfl
  · obtain ⟨p, dx, l, M, us, rfl, hp, O, hl, hus, k⟩ := h
    have hr1 : Room 1 _ := hr.mono (by decide)
    refine ⟨_, pss_cons (ps_if (PW.pt (pw_or (pt_not (pt_val (pe_call GI hr1 rfl gI FI.kp bI .nil pass0 (pa_cons (pv 1) (pa_cons pe_int (pa_cons (pe_glob (by rfl) cM (v := .int 16) ⟨_, rfl⟩) pa_nil))))))
          (pw_or1 (pt_not (pt_val (pe_call GI hr1 rfl gI FI.kp bI .nil pass0 (pa_cons (pv 2) (pa_cons pe_int (pa_cons (pe_glob (by rfl) cS' (v := .int 4000) ⟨_, rfl⟩) pa_nil))))))))) pss_never pss_nil)
      (pss_cons (ps_if (pt_cmpR op_ne (pe_callB rLenS_ok (by rfl) T.bLen bo_len (pa_cons (pv 3) pa_nil)) (pe_op op_mul (pv 1) (pv 2)) (nomark _)) pss_never pss_nil)
      (pss_cons (ps_fld (pv 0) (pv 1) rfl) (pss_cons (ps_fld (pv 0) (pv 2) rfl)
      (pss_cons (ps_for PassesOwn.never rfl (pi_list (pv 3)) (pg_name (i := 4) scTInit.nd rfl (.inl rfl))
          (pss_one (ps_if (PW.pt (pw_and (pt_cmpR op_notN1 (pv 4) pe_non (nomark _)) (pw_and1 (pt_not (pt_val (pe_meth (pv 0) T.clT mR GR hr bR .nil pass0 (pa_cons (pv 4) pa_nil))))))) pss_never pss_nil)))
      (pss_one (ps_fld (pv 0) (pe_callTy rListS_ok (by rfl) T.bList bo_list (pa_cons (pv 3) pa_nil)) rfl)))))), ?_⟩
    have m2 := O.m2
    have m8 := O.m8
    have s1 := O.s1
    have s5 := O.s5
    have nt : ∀ ys, HO.ins cT dx [] ≠ .tup ys := fun _ z => by cases z
    have nf : ∀ o w, HO.ins cT dx [] ≠ .frz o w := fun _ _ z => by cases z
    have hus' := drop_rows hp nt nf hus
    have nl : l ≠ p := ne_of hl hp (by intro z; cases z)
    have hl' : drop p H l = some (.lst us) := drop_get hl nl
    have lus : us.length = M.rw.length := by rw [allP_len hus, List.length_map]
    -- the two tests
    refine s_seq (s_if (b := false) (et_is (et_or (et_not (et_PB (ep_isIC (ep_vi (v := .int M.m) rfl) ep_c ep_c))) (b := false) fun _ => et_is (et_not (et_PB (ep_isIC (ep_vi (v := .int M.s) rfl) ep_c ep_c))) (by rw [decide_eq_true (show 1 ≤ M.s by omega), decide_eq_true (show M.s ≤ 4000 by omega)]; rfl))
      (by rw [decide_eq_true (show 2 ≤ M.m by omega), decide_eq_true (show M.m ≤ 16 by omega)]; rfl)) (fun z => by cases z) fun _ H1 e1 => ?_)
    have elen : EvP (tCB (rLenS K) (tCons (tVar 3) tNil)) [some (V.ref p), some (V.int M.m), some (V.int M.s), some (V.ref l), none] H1 (IsI M.rw.length) := by
      refine ep_is (ep_ev (ev_len (K := K) (xs := us) (ep_vi rfl).ev (sq_of (e1 l _ hl)))) ?_
      rw [lus]
    refine s_seq (s_if (b := false) (et_is (et_P (ep_neI elen (ep_I (ep_vi (v := .int M.m) rfl) (ep_vi (v := .int M.s) rfl) (.inl ⟨by omega, by omega⟩)))) (by rw [O.len, decide_eq_true rfl]; rfl)) (fun z => by cases z) fun _ H2 e2 => ?_)
    have B2 : Ex (drop p H) H2 := drop_ex.trans (e1.trans e2)
    have hp2 : H2 p = some (.ins cT dx []) := e2 p _ (e1 p _ hp)
    -- self.marks, self.states
    refine s_seq (s_fldP (ep_vi (v := .int M.m) rfl) (ep_vi rfl).ev hp2 T.clT T.nMarks (by decide) fun v H3 e3 hv => ?_)
    have ev : v = V.int M.m := hv
    subst ev
    refine s_seq (s_fldP (ep_vi (v := .int M.s) rfl) (ep_vi rfl).ev upd_same T.clT T.nStates (by show 1 < 1000; decide) fun v H4 e4 hv => ?_)
    have ev : v = V.int M.s := hv
    subst ev
    have B4 : Ex (drop p H) H4 := (Ex.mut (B2.trans e3) drop_at).trans e4
    have B5 : Ex (drop p H) (upd H4 p (.ins cT dx (tapeG M.m M.s))) := Ex.mut B4 drop_at
    -- the rows, one by one
    refine s_seq (s_forL (a := l) (xs := us) (ep_vi rfl).ev (sq_of (B5 l _ hl')) (fun i σ H5 => ∃ u, σ = [some (V.ref p), some (V.int M.m), some (V.int M.s), some (V.ref l), u] ∧ Ex (drop p H) H5 ∧ H5 p = some (.ins cT dx (tapeG M.m M.s)))
      (fun H5 e5 => ⟨none, rfl, B5.trans e5, e5 p _ upd_same⟩) (fun i σ H5 _ ⟨_, _, b, _⟩ => sq_of (b l _ hl')) ?_ ?_)
    · rintro i x σ H5 hx ⟨u, rfl, b5, hp5⟩
      obtain ⟨PP, hP, px⟩ := allP_at hus' hx
      rw [List.getElem?_map] at hP
      cases er : M.rw[i]? with
      | none =>
        rw [er] at hP
        cases hP
      | some r =>
        rw [er] at hP
        have eP : rowP K r = PP := Option.some.inj hP
        subst eP
        have ro : RowOk M.m M.s r := O.row r (List.mem_of_getElem? er)
        refine s_if (b := false) ?_ (fun z => by cases z) fun _ H6 e6 => ⟨some x, rfl, b5.trans e6, e6 p _ hp5⟩
        cases r with
        | none =>
          refine et_is (et_and (a := false) (et_notN (b := false) (ep_var (P := Is .non) rfl px) fun v H7 hv => by rw [hv]; rfl) (b := false) fun z => by cases z) rfl
        | some t =>
          obtain ⟨w, mv, q⟩ := t
          refine et_is (et_and (a := true) (et_notN (b := true) (ep_var (P := TupI K [w, mv, q]) rfl (Mono.up b5 px)) fun v H7 hv => ?_) (b := false) fun _ => et_is (et_not (et_PB (b := true) ?_)) rfl) rfl
          · obtain ⟨a, rfl, _⟩ := hv
            rfl
          · refine ep_meth (Po := Is (.ref p)) (Ps := [TupI K [w, mv, q]]) (ep_vi rfl) (fun y H7 e7 hy => ⟨p, dx, _, hy, e7 p _ hp5, tapeG_no (by decide +kernel) (by decide +kernel)⟩) (epa_cons (ep_var rfl (Mono.up b5 px)) epa_nil) ?_
            intro y vs H7 e7 hy pa Q' E' kq
            obtain ⟨u', rfl, hu⟩ := all1 pa
            cases hy
            exact ⟨p, dx, M.m, M.s, w, mv, q, u', rfl, e7 p _ hp5, hu, ro, fun H8 e8 => kq _ H8 e8 rfl⟩
    · rintro σ H5 ⟨u, rfl, b5, hp5⟩
      refine s_fldP (P := LstV us) (ep_list (ep_var rfl ⟨l, rfl, b5 l _ hl'⟩)) (ep_vi rfl).ev hp5 T.clT T.nRows (by show 2 < 1000; decide) fun v H6 e6 hv => ?_
      obtain ⟨l', rfl, hl6⟩ := hv
      have b6 := Ex.mut (o := HO.ins cT dx (tapeF M.m M.s l')) (b5.trans e6) drop_at
      have np : l' ≠ p := ne_of hl6 (e6 p _ hp5) (by intro z; cases z)
      refine k _ b6 ⟨p, dx, l', us, rfl, upd_same, ?_, MonoA.up b6 hus'⟩
      rw [upd_ne np]
      exact hl6
/-! ### Tape.row, Tape.stopped -/
def spTRow (K : PySem.W.Frag) (cT : Addr) : Sp := fun vs H Q _ => ∃ (M : Mach) (q a : Int) (v : V), vs = [v, .int q, .int a] ∧ M.Ok ∧ TapeV K cT M v H ∧ 0 ≤ q ∧ q < M.s ∧ 0 ≤ a ∧ a < M.m ∧ ∀ v' H', Ex H H' → rowP K (M.at q a) v' H' → Q v' H'
theorem scTRow : FnScope ["self", "state", "mark"] ["self", "state", "mark"] (defScope sTRow) := ⟨rfl, rfl, rfl, by decide +kernel, rfl, by decide +kernel, by decide +kernel⟩
theorem ok_tRow (F : Fun K "row" "Tape.row" sTRow f fd) (T : Txt K mg cT cC cS) (D : Dfs K mg cT cC cS) : FnOk P w K mg base CX0 2 f fd ["self", "state", "mark"] (spTRow K cT) := by
  obtain ⟨fI, fdI, FI, bI, gI⟩ := D.isI
  have GI : FnOk P w K mg base CX0 1 fI fdI ["value", "least", "most"] spIsI := ok_isI FI T
  refine F.ok scTRow (fun vs H Q E h => ?_) (fun cdv A outer s H vs Q E hr h => ?_)
  · obtain ⟨M, q, a, v, rfl, _⟩ := h
    rfl
  · obtain ⟨M, q, a, v, rfl, O, hv, q0, q1, a0, a1, k⟩ := h
    refine ⟨_, pss_cons (ps_if (PW.pt (pw_or (pt_not (pt_val (pe_call GI hr rfl gI FI.kp bI .nil pass0 (pa_cons (pv 1) (pa_cons pe_int (pa_cons (pe_op op_sub (pe_fld (pv 0) rfl) pe_int) pa_nil))))))
          (pw_or1 (pt_not (pt_val (pe_call GI hr rfl gI FI.kp bI .nil pass0 (pa_cons (pv 2) (pa_cons pe_int (pa_cons (pe_op op_sub (pe_fld (pv 0) rfl) pe_int) pa_nil))))))))) pss_never pss_nil)
      (pss_one (ps_ret (pe_ix ix_list (pe_fld (pv 0) rfl) (pe_op op_add (pe_op op_mul (pv 1) (pe_fld (pv 0) rfl)) (pv 2)) (fun _ _ => rfl)))), ?_⟩
    have m2 := O.m2
    have m8 := O.m8
    have s5 := O.s5
    refine s_seq (s_if (b := false) (et_is (et_or (et_not (et_PB (ep_isIC (ep_vi (v := .int q) rfl) ep_c (ep_I0 (ep_states T (ep_var rfl hv)) ep_c)))) (b := false) fun _ => et_is (et_not (et_PB (ep_isIC (ep_vi (v := .int a) rfl) ep_c (ep_I0 (ep_marks T (ep_var rfl hv)) ep_c))))
        (by rw [decide_eq_true (show 0 ≤ a by omega), decide_eq_true (show a ≤ M.m - 1 by omega)]; rfl))
      (by rw [decide_eq_true (show 0 ≤ q by omega), decide_eq_true (show q ≤ M.s - 1 by omega)]; rfl)) (fun z => by cases z) fun _ H1 e1 => ?_)
    have hv1 := Mono.up e1 hv
    obtain ⟨p, dx, l, us, rfl, hp, hl, hus⟩ := id hv1
    have bd := idx_bd (show 0 < M.m by omega) q0 q1 a0 a1
    have lus : us.length = M.rw.length := by rw [allP_len hus, List.length_map]
    have ol := O.len
    have inb : (q * M.m + a).toNat < M.rw.length := by omega
    have er : M.rw[(q * M.m + a).toNat]? = some (M.at q a) := by
      unfold Mach.at
      rw [List.getElem?_eq_getElem inb]
      rfl
    obtain ⟨z, hz, pz⟩ := allP_get (i := (q * M.m + a).toNat) (P := rowP K (M.at q a)) hus (by rw [List.getElem?_map, er]; rfl)
    refine s_retP (P := rowP K (M.at q a)) (ep_op (Pa := Is (.ref l)) (Pb := IsI (q * M.m + a)) (ep_fld (Po := Is (.ref p)) (ep_vi rfl) fun x H2 e2 hx => ⟨p, cT, dx, _, _, hx, e2 p _ hp, T.clT, T.nRows, tapeF_rows _ _ _, rfl⟩)
      (ep_I0 (ep_I (ep_vi (v := .int q) rfl) (ep_marks T (ep_var rfl hv1)) (.inl ⟨by omega, by omega⟩)) (ep_vi (v := .int a) rfl)) fun x y H2 e2 hx hy Q' kq => ?_) fun v' H2 e2 hv' => k v' H2 (e1.trans e2) hv'
    exact ⟨l, us, _, z, hx, hy, sq_of (e2 l _ hl), at_of (j := (q * M.m + a).toNat) (by omega) hz, kq z H2 (Ex.refl H2) (Mono.up e2 pz)⟩
/-- a call of machine.row -/
theorem ep_row {σ : L2.St} {H : Hp} {to ta tb : TE} {M : Mach} {q a : Int} {E : XK} (O : M.Ok) (ho : EvP to σ H (TapeV K cT M)) (ha : EvP ta σ H (IsI q)) (hb : EvP tb σ H (IsI a)) (q0 : 0 ≤ q) (q1 : q < M.s) (a0 : 0 ≤ a) (a1 : a < M.m) :
    EvP (tMeth cT "row" (spTRow K cT) [] E to (tCons ta (tCons tb tNil))) σ H (rowP K (M.at q a)) :=
  ep_meth ho (fun x H1 _ ⟨p, dx, l, us, h1, h2, _⟩ => ⟨p, dx, _, h1, h2, tapeF_no (by decide +kernel) (by decide +kernel) (by decide +kernel)⟩) (epa_cons ha (epa_cons hb epa_nil)) fun x vs H1 _ hx pa Q' E' kq => by
    obtain ⟨_, _, rfl, rfl, rfl⟩ := all2 pa
    exact ⟨M, q, a, x, rfl, O, hx, q0, q1, a0, a1, kq⟩
theorem rowP_none {r : Option (Int × Int × Int)} {v : V} {H : Hp} (h : rowP K r v H) : decide (v = .non) = decide (r = none) := by
  cases r with
  | none =>
    have e : v = .non := h
    rw [e]
    rfl
  | some t =>
    obtain ⟨w, m, q⟩ := t
    obtain ⟨a, rfl, _⟩ := h
    rfl
def spTStop (K : PySem.W.Frag) (cT : Addr) : Sp := fun vs H Q _ => ∃ (M : Mach) (c : Cfg) (v u : V), vs = [v, u] ∧ M.Ok ∧ CfgOk M c ∧ TapeV K cT M v H ∧ CfgV K c u H ∧ ∀ H', Ex H H' → Q (.bl (decide (M.at c.q c.a = none))) H'
theorem scTStop : FnScope ["self", "configuration"] ["self", "configuration"] (defScope sTStop) := ⟨rfl, rfl, rfl, by decide +kernel, rfl, by decide +kernel, by decide +kernel⟩
theorem ok_tStop (F : Fun K "stopped" "Tape.stopped" sTStop f fd) (T : Txt K mg cT cC cS) (D : Dfs K mg cT cC cS) : FnOk P w K mg base CX0 3 f fd ["self", "configuration"] (spTStop K cT) := by
  obtain ⟨fR, fdR, FR, bR, mR⟩ := D.tRow
  have GR : FnOk P w K mg base CX0 2 fR fdR ["self", "state", "mark"] (spTRow K cT) := ok_tRow FR T D
  refine F.ok scTStop (fun vs H Q E h => ?_) (fun cdv A outer s H vs Q E hr h => ?_)
  · obtain ⟨M, c, v, u, rfl, _⟩ := h
    rfl
  · obtain ⟨M, c, v, u, rfl, O, C, hv, hu, k⟩ := h
    refine ⟨_, pss_one (ps_ret (pe_cmpR op_isN1 (pe_meth (pv 0) T.clT mR GR hr bR .nil pass0 (pa_cons (pe_ix ix_tup (pv 1) pe_int (fun _ _ => rfl)) (pa_cons (pe_ix ix_tup (pv 1) pe_int (fun _ _ => rfl)) pa_nil))) pe_non (nomark _))), ?_⟩
    refine s_retP (ep_isNV (ep_row O (ep_var rfl hv) (ep_ixP (P := IsI c.q) (ep_var rfl hu) ep_c (by decide) rfl) (ep_ixP (P := IsI c.a) (ep_var rfl hu) ep_c (by decide) rfl) C.q0 C.q1 C.a0 C.a1) fun v' H1 hv' => rowP_none hv') fun v' H1 e1 hv' => ?_
    rw [hv']
    exact k H1 e1
end
end Sd

set_option Elab.async false
set_option linter.all false
set_option maxRecDepth 100000
set_option maxHeartbeats 4000000
namespace Sd
open PySem PySem.Spec PyProof.Rows L2 Evl

/-! ### == of tuples of ints, of configurations -/
theorem lay_ints : ∀ xs : List Int, PyData.canLayAll0 (xs.map PyData.int) = true
  | [] => by simp [PyData.canLayAll0]
  | x :: r => by
    rw [List.map_cons, PyData.canLayAll0, lay_ints r]
    simp [PyData.canLay0]
theorem depth_ints : ∀ xs : List Int, PyData.depthAll (xs.map PyData.int) = 0
  | [] => by simp [PyData.depthAll]
  | x :: r => by
    rw [List.map_cons, PyData.depthAll, depth_ints r]
    simp [PyData.depth]
theorem shaped_ints (xs : List Int) : SeqAt.shaped (.tuple (xs.map PyData.int)) = true := by
  unfold SeqAt.shaped
  rw [PyData.canLay0, lay_ints, PyData.depth, depth_ints]
  rfl
theorem eqv_ints : ∀ xs ys : List Int, PyData.eqvAll (xs.map PyData.int) (ys.map PyData.int) = decide (xs = ys)
  | [], [] => by simp [PyData.eqvAll]
  | [], _ :: _ => by simp [PyData.eqvAll]
  | _ :: _, [] => by simp [PyData.eqvAll]
  | x :: xs, y :: ys => by
    rw [List.map_cons, List.map_cons, PyData.eqvAll, eqv_ints xs ys, PyData.eqv]
    by_cases e : x = y
    · subst e
      simp
    · have e' : ¬ (x :: xs = y :: ys) := fun z => e (List.cons.inj z).1
      rw [decide_eq_false e']
      simp [e]
theorem dp_ints {K : PySem.W.Frag} {H : Hp} : ∀ xs : List Int, DpAll K H (xs.map V.int) (xs.map PyData.int)
  | [] => .nil
  | x :: r => .cons (.int x) (dp_ints r)
def cfgD (c : Cfg) : PyData := .tuple [.int c.q, .tuple (c.l.map PyData.int), .int c.a, .tuple (c.r.map PyData.int)]
theorem shaped_cfg (c : Cfg) : SeqAt.shaped (cfgD c) = true := by
  unfold SeqAt.shaped cfgD
  simp [PyData.canLay0, PyData.canLayAll0, PyData.depth, PyData.depthAll, lay_ints, depth_ints]
theorem all4 {P1 P2 P3 P4 : VP} {vs : List V} {H : Hp} (h : AllP [P1, P2, P3, P4] vs H) : ∃ u v x y, vs = [u, v, x, y] ∧ P1 u H ∧ P2 v H ∧ P3 x H ∧ P4 y H := match vs, h with
  | [u, v, x, y], h => ⟨u, v, x, y, rfl, h.1, h.2.1, h.2.2.1, h.2.2.2.1⟩
theorem dp_cfg {K : PySem.W.Frag} {H : Hp} {c : Cfg} {v : V} (h : CfgV K c v H) : Dp K H v (cfgD c) := by
  obtain ⟨a, vs, rfl, t, ps⟩ := h
  obtain ⟨v1, v2, v3, v4, rfl, p1, ⟨a2, rfl, t2⟩, p3, ⟨a4, rfl, t4⟩⟩ := all4 ps
  have e1 : v1 = V.int c.q := p1
  have e3 : v3 = V.int c.a := p3
  subst e1 e3
  exact .tup t (.cons (.int _) (.cons (.tup t2 (dp_ints _)) (.cons (.int _) (.cons (.tup t4 (dp_ints _)) .nil))))
section
variable {K : PySem.W.Frag} {σ : L2.St} {H : Hp} {ta tb te : TE}
theorem ep_eqT {xs ys : List Int} (ha : EvP ta σ H (TupI K xs)) (hb : EvP tb σ H (TupI K ys)) : EvP (tOp (rEqD K) ta tb) σ H (IsB (decide (xs = ys))) :=
  ep_op ha hb fun x y H1 _ p q Q k => by
    obtain ⟨a, rfl, t⟩ := p
    obtain ⟨b, rfl, u⟩ := q
    refine ⟨_, _, .tup t (dp_ints xs), .tup u (dp_ints ys), shaped_ints xs, shaped_ints ys, k _ H1 (Ex.refl H1) ?_⟩
    show V.bl _ = V.bl _
    rw [PyData.eqv, eqv_ints]
theorem ep_neT {xs ys : List Int} (ha : EvP ta σ H (TupI K xs)) (hb : EvP tb σ H (TupI K ys)) : EvP (tOp (rNeD K) ta tb) σ H (IsB (!decide (xs = ys))) :=
  ep_op ha hb fun x y H1 _ p q Q k => by
    obtain ⟨a, rfl, t⟩ := p
    obtain ⟨b, rfl, u⟩ := q
    refine ⟨_, _, .tup t (dp_ints xs), .tup u (dp_ints ys), shaped_ints xs, shaped_ints ys, k _ H1 (Ex.refl H1) ?_⟩
    show V.bl _ = V.bl _
    rw [PyData.eqv, eqv_ints]
theorem ep_neCfg {c : Cfg} (ha : EvP ta σ H (CfgV K c)) (hb : EvP tb σ H (CfgV K c)) : EvP (tOp (rNeD K) ta tb) σ H (IsB false) :=
  ep_op ha hb fun x y H1 _ p q Q k => by
    refine ⟨_, _, dp_cfg p, dp_cfg q, shaped_cfg c, shaped_cfg c, k _ H1 (Ex.refl H1) ?_⟩
    show V.bl _ = V.bl _
    rw [SeqAt.eqv_refl (cfgD c) (SeqAt.canLay_of_shaped (shaped_cfg c))]
    rfl

/-! ### comprehensions whose items are known -/
def Cpw (H : Hp) (vs : List V) (D : Addr) (i : Nat) (H' : Hp) : Prop := H D = none ∧ Ex H H' ∧ H' D = some (.lst (vs.take i))
theorem cp_turn {H H' : Hp} {vs : List V} {D : Addr} {i : Nat} {σ2 : L2.St} {v : V} (p : Cpw H vs D i H') (hz : vs.length ≤ 1000) (hv : vs[i]? = some v) (he : EvP te σ2 H (Is v)) :
    tYes σ2 H' fun b H3 => if b = true then te σ2 H3 fun y H4 => ∃ acc, H4 D = some (.lst acc) ∧ acc.length < sizeLine ∧ Cpw H vs D (i + 1) (upd H4 D (.lst (acc ++ [y]))) else Cpw H vs D (i + 1) H3 := by
  obtain ⟨p1, p2, p3⟩ := p
  show (if true = true then te σ2 H' fun y H4 => ∃ acc, H4 D = some (.lst acc) ∧ acc.length < sizeLine ∧ Cpw H vs D (i + 1) (upd H4 D (.lst (acc ++ [y]))) else Cpw H vs D (i + 1) H')
  rw [if_pos rfl]
  refine he.ev H' p2 _ fun H4 e4 => ⟨vs.take i, e4 D _ p3, ?_, p1, Ex.mut (p2.trans e4) p1, ?_⟩
  · rw [List.length_take]
    exact Nat.lt_of_le_of_lt (Nat.min_le_right _ _) (small1000 hz)
  · rw [upd_same, List.take_add_one, hv]
    rfl
theorem cp_end {H H' : Hp} {vs : List V} {D : Addr} {n : Nat} (p : Cpw H vs D n H') (hn : vs.length = n) : LstV vs (.ref D) H' := ⟨D, rfl, by
  rw [p.2.2, ← hn, List.take_length]⟩
theorem ep_lcR2 {ta : TA} {j : Nat} {ws : List Nat} {lo n : Int} (vs : List V) (h : EvPA ta σ H [IsI lo, IsI n]) (hn : 0 ≤ lo ∧ lo ≤ 100000 ∧ -100000 ≤ n ∧ n ≤ 100000) (hl : vs.length = (n - lo).toNat) (hz : vs.length ≤ 1000) (hw : ∀ x, wipe ((wipe σ ws).set j (some x)) ws = wipe σ ws)
    (he : ∀ (i : Nat) (v : V) H1, Ex H H1 → vs[i]? = some v → EvP te ((wipe σ ws).set j (some (.int (lo + (i : Int))))) H1 (Is v)) : EvP (tLc (iRng2 ta) (gName j) tYes te ws) σ H (LstV vs) := fun H0 e Q q =>
  h H0 e _ fun us H1 e1 pa => by
    obtain ⟨_, _, rfl, rfl, rfl⟩ := all2 pa
    refine ⟨lo, n, rfl, ⟨by omega, by omega, by omega, by omega⟩, fun D hD => ?_⟩
    refine lc_range (lo := lo) (n := (n - lo).toNat) (Cpw H1 vs D) ⟨hD, Ex.new hD, by rw [List.take_zero]; exact upd_same⟩ (fun i H' hi p => ?_) fun H' p => q _ H' (e1.trans p.2.1) (cp_end p hl)
    have hv : vs[i]? = some vs[i] := List.getElem?_eq_getElem (by omega)
    exact ⟨hw _, cp_turn p hz hv (he i _ H1 (e.trans e1) hv)⟩
theorem ep_lcL {tl : TE} {j : Nat} {ws : List Nat} {xs : List V} (vs : List V) (h : EvP tl σ H (LstV xs)) (hl : vs.length = xs.length) (hz : vs.length ≤ 1000) (hw : ∀ x, wipe ((wipe σ ws).set j (some x)) ws = wipe σ ws)
    (he : ∀ (i : Nat) (x v : V) H1, Ex H H1 → xs[i]? = some x → vs[i]? = some v → EvP te ((wipe σ ws).set j (some x)) H1 (Is v)) : EvP (tLc (iList K tl) (gName j) tYes te ws) σ H (LstV vs) := fun H0 e Q q =>
  h H0 e _ fun u H1 e1 pa => by
    obtain ⟨a, rfl, ha⟩ := pa
    refine ⟨a, rfl, ⟨xs, sq_of ha⟩, fun D hD => ?_⟩
    refine lc_list (xs := xs) (Cpw H1 vs D) ⟨hD, Ex.new hD, by rw [List.take_zero]; exact upd_same⟩ (fun i H' _ p => sq_of (p.2.1 a _ ha)) (fun i x H' hx p => ?_) fun H' p => q _ H' (e1.trans p.2.1) (cp_end p hl)
    have hi := (List.getElem?_eq_some_iff.mp hx).1
    have hv : vs[i]? = some vs[i] := List.getElem?_eq_getElem (by omega)
    exact ⟨hw _, cp_turn p hz hv (he i x _ H1 (e.trans e1) hx hv)⟩
theorem ep_lcT {tl : TE} {j : Nat} {ws : List Nat} {xs : List Int} (vs : List V) (h : EvP tl σ H (TupI K xs)) (hl : vs.length = xs.length) (hz : vs.length ≤ 1000) (hw : ∀ x, wipe ((wipe σ ws).set j (some x)) ws = wipe σ ws)
    (he : ∀ (i : Nat) (x : Int) (v : V) H1, Ex H H1 → xs[i]? = some x → vs[i]? = some v → EvP te ((wipe σ ws).set j (some (.int x))) H1 (Is v)) : EvP (tLc (iTup K tl) (gName j) tYes te ws) σ H (LstV vs) := fun H0 e Q q =>
  h H0 e _ fun u H1 e1 pa => by
    obtain ⟨a, rfl, ha⟩ := pa
    refine ⟨a, rfl, ⟨_, ha⟩, fun D hD => ?_⟩
    refine lc_tup (xs := xs.map V.int) (Cpw H1 vs D) ⟨hD, Ex.new hD, by rw [List.take_zero]; exact upd_same⟩ (fun i H' _ p => ex_t p.2.1 ha) (fun i x H' hx p => ?_) fun H' p => q _ H' (e1.trans p.2.1) (cp_end (n := (xs.map V.int).length) p (by rw [List.length_map]; exact hl))
    have hi := (List.getElem?_eq_some_iff.mp hx).1
    rw [List.length_map] at hi
    have hv : vs[i]? = some vs[i] := List.getElem?_eq_getElem (by omega)
    have hx' : xs[i]? = some xs[i] := List.getElem?_eq_getElem hi
    have ex : x = V.int xs[i] := by
      rw [List.getElem?_map, hx'] at hx
      exact (Option.some.inj hx).symm
    subst ex
    exact ⟨hw _, cp_turn p hz hv (he i _ _ H1 (e.trans e1) hx' hv)⟩
end
end Sd

set_option Elab.async false
set_option linter.all false
set_option maxRecDepth 100000
set_option maxHeartbeats 4000000
namespace Sd
open PySem PySem.Spec PyProof.Rows L2 Evl

/-! ### a line of cells as an object -/
def key3 (l x r : Int) : List Key := [.inl l, .inl x, .inl r]
theorem key3_V (l x r : Int) : (key3 l x r).map kV = [l, x, r].map V.int := rfl
theorem key3_inj {l x r l' x' r' : Int} (h : key3 l x r = key3 l' x' r') : l = l' ∧ x = x' ∧ r = r' := by
  unfold key3 at h
  injection h with h1 h
  injection h with h2 h
  injection h with h3 _
  exact ⟨Sum.inl.inj h1, Sum.inl.inj h2, Sum.inl.inj h3⟩
def cellsF (n : Int) (d : Addr) : List (Str × V) := putF "_changes" (.ref d) (putF "letters" (.int n) [])
theorem n4 : ¬ (("letters" : Str) = "_changes") := by decide +kernel
theorem cellsF_letters (n : Int) (d : Addr) : (cellsF n d).lookup ("letters" : Str) = some (.int n) := by
  unfold cellsF
  rw [lookup_putF, if_neg n4, lookup_putF, if_pos rfl]
theorem cellsF_changes (n : Int) (d : Addr) : (cellsF n d).lookup ("_changes" : Str) = some (.ref d) := by
  unfold cellsF
  rw [lookup_putF, if_pos rfl]
theorem cellsF_no {n : Int} {d : Addr} {x : Str} (h1 : ¬ x = "_changes") (h2 : ¬ x = "letters") : (cellsF n d).lookup x = none := by
  unfold cellsF
  rw [lookup_putF, if_neg h1, lookup_putF, if_neg h2]
  rfl
def In (n x : Int) : Prop := 0 ≤ x ∧ x < n
def Good (n : Int) (g : Int → Int → Int → Int) (kvs : List (List Key × V)) : Prop := ∀ l x r, In n l → In n x → In n r → (valV kvs (key3 l x r)).getD (.int x) = .int (g l x r)
def CellsV (cC : Addr) (n : Int) (g : Int → Int → Int → Int) : VP := fun v H => ∃ p dx d kvs, v = .ref p ∧ H p = some (.ins cC dx (cellsF n d)) ∧ H d = some (.dT kvs) ∧ Good n g kvs
instance cellsMono {cC : Addr} {n : Int} {g : Int → Int → Int → Int} : Mono (CellsV cC n g) := ⟨fun e ⟨p, dx, d, kvs, h1, h2, h3, h4⟩ => ⟨p, dx, d, kvs, h1, e p _ h2, e d _ h3, h4⟩⟩
/-- letters stay letters -/
def Keeps (n : Int) (g : Int → Int → Int → Int) : Prop := ∀ l x r, In n l → In n x → In n r → In n (g l x r)
def All (n : Int) (xs : List Int) : Prop := ∀ x ∈ xs, In n x
theorem All.cons {n x : Int} {xs : List Int} (h : In n x) (k : All n xs) : All n (x :: xs) := fun y hy => by
  rcases List.mem_cons.mp hy with rfl | hy
  · exact h
  · exact k y hy
theorem All.append {n : Int} {xs ys : List Int} (h : All n xs) (k : All n ys) : All n (xs ++ ys) := fun x hx => (List.mem_append.mp hx).elim (h x) (k x)
theorem foll_all {n : Int} {g : Int → Int → Int → Int} (hn : 0 < n) (kg : Keeps n g) : ∀ {p : Int} {xs : List Int}, In n p → All n xs → All n (foll g p xs)
  | _, [], _, _ => fun x hx => by cases hx
  | p, [x], hp, h => fun y hy => by
    rw [List.mem_singleton.mp hy]
    exact kg p x 0 hp (h x List.mem_cons_self) ⟨Int.le_refl 0, hn⟩
  | p, x :: y :: r, hp, h => fun z hz => by
    rw [foll] at hz
    rcases List.mem_cons.mp hz with rfl | hz
    · exact kg p x y hp (h x List.mem_cons_self) (h y (List.mem_cons_of_mem _ List.mem_cons_self))
    · exact foll_all hn kg (h x List.mem_cons_self) (fun w hw => h w (List.mem_cons_of_mem _ hw)) z hz

section
variable {P : Program} {w : World} {K : PySem.W.Frag} {mg : Str → Option Value} {base : Heap} {f : Addr} {fd : FuncData} {cT cC cS : Addr}
/-! ### change -/
def spChange (cC : Addr) : Sp := fun vs H Q _ => ∃ (n : Int) (g : Int → Int → Int → Int) (l x r : Int) (v : V), vs = [v, .int l, .int x, .int r] ∧ CellsV cC n g v H ∧ In n l ∧ In n x ∧ In n r ∧ ∀ H', Ex H H' → Q (.int (g l x r)) H'
theorem scChange : FnScope ["self", "left", "middle", "right"] ["self", "left", "middle", "right"] (defScope sChange) := ⟨rfl, rfl, rfl, by decide +kernel, rfl, by decide +kernel, by decide +kernel⟩
theorem ok_change (F : Fun K "change" "Cells.change" sChange f fd) (T : Txt K mg cT cC cS) : FnOk P w K mg base CX0 1 f fd ["self", "left", "middle", "right"] (spChange cC) := by
  refine F.ok scChange (fun vs H Q E h => ?_) (fun cdv A outer s H vs Q E hr h => ?_)
  · obtain ⟨n, g, l, x, r, v, rfl, _⟩ := h
    rfl
  · obtain ⟨n, g, l, x, r, v, rfl, ⟨p, dx, d, kvs, rfl, hp, hd, good⟩, hl, hx, hr', k⟩ := h
    refine ⟨_, pss_one (ps_ret (pe_dget2 (hu_of hr) (pe_fld (pv 0) rfl) (pe_tup (pa_cons (pv 1) (pa_cons (pv 2) (pa_cons (pv 3) pa_nil)))) (pv 2) ⟨rfl, rfl, rfl, rfl⟩)), ?_⟩
    refine ⟨_, rfl, p, cC, dx, _, _, rfl, hp, T.clC, T.nChanges, cellsF_changes _ _, d, rfl, .inr ⟨kvs, .inl hd⟩, ?_⟩
    refine ep_tupN (is := [l, x, r]) (epa_cons (ep_vi rfl) (epa_cons (ep_vi rfl) (epa_cons (ep_vi rfl) epa_nil))) (by show 3 ≤ 1000; decide) H (Ex.refl H) _ fun y H2 e2 py => ?_
    obtain ⟨b, rfl, hb⟩ := py
    refine ⟨_, rfl, _, DGet.t (k := key3 l x r) (e2 d _ hd) hb, ?_⟩
    rw [good l x r hl hx hr']
    exact k H2 e2

/-! ### following -/
def spFoll (K : PySem.W.Frag) (cC : Addr) : Sp := fun vs H Q _ => ∃ (n : Int) (g : Int → Int → Int → Int) (xs : List Int) (v u : V), vs = [v, u] ∧ 0 < n ∧ CellsV cC n g v H ∧ TupI K xs u H ∧ All n xs ∧ xs.length ≤ 500 ∧ ∀ v' H', Ex H H' → TupI K (foll g 0 xs) v' H' → Q v' H'
theorem scFoll : FnScope ["self", "row", "wide", "k"] ["self", "row"] (defScope sFoll) := ⟨rfl, rfl, rfl, by decide +kernel, rfl, by decide +kernel, by decide +kernel⟩
theorem ok_foll (F : Fun K "following" "Cells.following" sFoll f fd) (T : Txt K mg cT cC cS) (D : Dfs K mg cT cC cS) : FnOk P w K mg base CX0 2 f fd ["self", "row"] (spFoll K cC) := by
  obtain ⟨fC, fdC, FC, bC, mC⟩ := D.change
  have GC : FnOk P w K mg base CX0 1 fC fdC ["self", "left", "middle", "right"] (spChange cC) := ok_change FC T
  refine F.ok scFoll (fun vs H Q E h => ?_) (fun cdv A outer s H vs Q E hr h => ?_)
  · obtain ⟨n, g, xs, v, u, rfl, _⟩ := h
    rfl
  · obtain ⟨n, g, xs, v, u, rfl, n0, hv, hu, al, hz, k⟩ := h
    refine ⟨_, pss_cons (ps_set (i := 2) scFoll.nd rfl (.inr rfl) (pe_op op_catA (pe_op op_catA (pe_tup (pa_cons pe_int pa_nil)) (pe_callTy rTupS_ok (by rfl) T.bTuple bo_tuple (pa_cons (pv 1) pa_nil))) (pe_tup (pa_cons pe_int pa_nil))))
      (pss_one (ps_ret (pe_callTy rTupS_ok (by rfl) T.bTuple bo_tuple (pa_cons (pe_lc (own := [("k", 3)]) (g := gName 3) (tt := tYes) rfl scFoll.nd
          (pi_range2 rfl T.bRange (pa_cons pe_int (pa_cons (pe_op op_sub (pe_callB rLenS_ok (by rfl) T.bLen bo_len (pa_cons (pv 2) pa_nil)) pe_int) pa_nil)))
          (blkOk_by (own := [("k", 3)]) (N := ["self", "row", "wide", "k"]) (sc := defScope sFoll) (by decide +kernel))
          (fun _ _ _ _ _ => pg_name (i := 3) scFoll.nd rfl (Or.inl rfl)) (fun _ _ _ _ _ => pts_nil)
          (fun _ _ _ _ _ => pe_meth (pv 0) T.clC mC GC hr bC .nil pass0 (pa_cons (pe_ix (show IxR _ (rIxT K) from ix_tup) (pv 2) (pe_op op_sub (pv 3) pe_int) (fun _ _ => rfl)) (pa_cons (pe_ix (show IxR _ (rIxT K) from ix_tup) (pv 2) (pv 3) (fun _ _ => rfl)) (pa_cons (pe_ix (show IxR _ (rIxT K) from ix_tup) (pv 2) (pe_op op_add (pv 3) pe_int) (fun _ _ => rfl)) pa_nil))))) pa_nil)))), ?_⟩
    have wide := ep_cat (K := K) (ep_cat (σ := [some v, some u, none, none]) (H := H) (ep_tupI (is := [0]) (epa_cons ep_c epa_nil) (by show 1 ≤ 1000; decide)) (ep_tupT (ep_var (i := 1) rfl hu)) (by show 1 + xs.length ≤ 1000; omega)) (ep_tupI (is := [0]) (epa_cons ep_c epa_nil) (by show 1 ≤ 1000; decide)) (by rw [List.length_append]; show 1 + xs.length + 1 ≤ 1000; omega)
    refine s_seq (s_set wide fun wv H1 e1 hw => ?_)
    have hv1 := Mono.up e1 hv
    have lw : ([0] ++ xs ++ [0]).length = xs.length + 2 := by simp
    have lf := foll_len g 0 xs
    have items : EvP _ [some v, some u, some wv, none] H1 (LstV ((foll g 0 xs).map V.int)) := ep_lcR2 (ta := tCons (tC (.int 1)) (tCons (tOp (rI0 fun i j => .int (i - j)) (tCB (rLenS K) (tCons (tVar 2) tNil)) (tC (.int 1))) tNil)) (j := 3) (ws := [3]) (lo := 1) (n := (xs.length : Int) + 1)
      (te := tMeth cC "change" (spChange cC) [] E0 (tVar 0) (tCons (tOp (rIxT K) (tVar 2) (tOp (rI0 fun i j => .int (i - j)) (tVar 3) (tC (.int 1)))) (tCons (tOp (rIxT K) (tVar 2) (tVar 3)) (tCons (tOp (rIxT K) (tVar 2) (tOp (rI0 fun i j => .int (i + j)) (tVar 3) (tC (.int 1)))) tNil))))
      ((foll g 0 xs).map V.int) (epa_cons ep_c (epa_cons (ep_is (ep_I0 (ep_lenT (ep_var rfl hw)) ep_c) (by rw [lw]; congr 1; omega)) epa_nil)) (by omega) (by rw [List.length_map, lf]; omega) (by rw [List.length_map, lf]; omega) (fun _ => rfl) fun i y H2 e2 hy => ?_
    · refine s_retP (ep_tupL (xs := foll g 0 xs) (items.imp fun _ _ _ h => h)) fun v' H2 e2 hv' => k v' H2 (e1.trans e2) hv'
    · have hi : i < xs.length := by
        have := (List.getElem?_eq_some_iff.mp hy).1
        rw [List.length_map, lf] at this
        exact this
      have hw2 : TupI K ([0] ++ xs ++ [0]) wv H2 := Mono.up e2 hw
      have g0 : ([0] ++ xs ++ [0])[i]? = some (([0] ++ xs ++ [0])[i]'(by omega)) := List.getElem?_eq_getElem (by omega)
      have g1 : ([0] ++ xs ++ [0])[i + 1]? = some (([0] ++ xs ++ [0])[i + 1]'(by omega)) := List.getElem?_eq_getElem (by omega)
      have g2 : ([0] ++ xs ++ [0])[i + 2]? = some (([0] ++ xs ++ [0])[i + 2]'(by omega)) := List.getElem?_eq_getElem (by omega)
      have z0 : All n [0] := fun x hx => by
        rw [List.mem_singleton.mp hx]
        exact ⟨Int.le_refl 0, n0⟩
      have alw : All n ([0] ++ xs ++ [0]) := (z0.append al).append z0
      generalize ([0] ++ xs ++ [0])[i]'(by omega) = a at g0
      generalize ([0] ++ xs ++ [0])[i + 1]'(by omega) = b at g1
      generalize ([0] ++ xs ++ [0])[i + 2]'(by omega) = c at g2
      have fg : (foll g 0 xs)[i]? = some (g a b c) := by
        refine foll_get g 0 xs i a b c ?_ ?_ ?_
        · rw [List.append_assoc, List.cons_append, List.nil_append] at g0
          rw [← g0, ← List.cons_append, List.getElem?_append_left (by simp; omega)]
        · rw [List.append_assoc, List.cons_append, List.nil_append, List.getElem?_cons_succ, List.getElem?_append_left hi] at g1
          exact g1
        · rw [List.append_assoc, List.cons_append, List.nil_append, List.getElem?_cons_succ] at g2
          exact g2
      have ey : y = V.int (g a b c) := by
        rw [List.getElem?_map, fg] at hy
        exact (Option.some.inj hy).symm
      subst ey
      refine ep_meth (Po := CellsV cC n g) (Ps := [IsI a, IsI b, IsI c]) (ep_var rfl (Mono.up e2 hv1)) (fun x H3 _ ⟨p, dx, d, kvs, h1, h2, _⟩ => ⟨p, dx, _, h1, h2, cellsF_no (by decide +kernel) (by decide +kernel)⟩)
        (epa_cons (ep_ixT (i := 1 + (i : Int) - 1) (ep_var rfl hw2) (ep_I0 (ep_vi rfl) ep_c) (by omega) (by rw [show (1 + (i : Int) - 1).toNat = i by omega]; exact g0))
          (epa_cons (ep_ixT (i := 1 + (i : Int)) (ep_var rfl hw2) (ep_vi rfl) (by omega) (by rw [show (1 + (i : Int)).toNat = i + 1 by omega]; exact g1))
            (epa_cons (ep_ixT (i := 1 + (i : Int) + 1) (ep_var rfl hw2) (ep_I0 (ep_vi rfl) ep_c) (by omega) (by rw [show (1 + (i : Int) + 1).toNat = i + 2 by omega]; exact g2)) epa_nil))) ?_
      intro x vs H3 _ hx pa Q' E' kq
      obtain ⟨_, _, _, rfl, rfl, rfl, rfl⟩ := all3 pa
      exact ⟨n, g, a, b, c, x, rfl, hx, alw _ (List.mem_of_getElem? g0), alw _ (List.mem_of_getElem? g1), alw _ (List.mem_of_getElem? g2), fun H4 e4 => kq _ H4 e4 rfl⟩
end
end Sd

set_option Elab.async false
set_option linter.all false
set_option maxRecDepth 100000
set_option maxHeartbeats 4000000
namespace Sd
open PySem PySem.Spec PyProof.Rows L2 Evl

def OptT (K : PySem.W.Frag) : Option (List Int) → VP
  | none => Is .non
  | some xs => TupI K xs
instance optMono {K : PySem.W.Frag} {o : Option (List Int)} : Mono (OptT K o) := match o with
  | none => isMono
  | some _ => tupIMono
theorem optT_none {K : PySem.W.Frag} {o : Option (List Int)} {v : V} {H : Hp} (h : OptT K o v H) : decide (v = .non) = o.isNone := by
  cases o with
  | none =>
    have e : v = .non := h
    rw [e]
    rfl
  | some xs =>
    obtain ⟨a, rfl, _⟩ := h
    rfl
theorem tups_mono {K : PySem.W.Frag} : ∀ (rs : List (List Int)), MonoA (rs.map (TupI K))
  | [] => nilMono
  | r :: rs => @consMono _ _ tupIMono (tups_mono rs)
instance tupsMono {K : PySem.W.Frag} {rs : List (List Int)} : MonoA (rs.map (TupI K)) := tups_mono rs
/-- a list of tuples -/
def RowsV (K : PySem.W.Frag) (rs : List (List Int)) : VP := fun v H => ∃ l vs, v = .ref l ∧ H l = some (.lst vs) ∧ AllP (rs.map (TupI K)) vs H
instance rowsVMono {K : PySem.W.Frag} {rs : List (List Int)} : Mono (RowsV K rs) := ⟨fun e ⟨l, vs, h1, h2, h3⟩ => ⟨l, vs, h1, e l _ h2, MonoA.up e h3⟩⟩
theorem allP_snoc : ∀ {Ps : List VP} {vs : List V} {H : Hp} {P : VP} {v : V}, AllP Ps vs H → P v H → AllP (Ps ++ [P]) (vs ++ [v]) H
  | [], [], _, _, _, _, h => ⟨h, trivial⟩
  | P :: Ps, v :: vs, _, _, _, h, k => ⟨h.1, allP_snoc h.2 k⟩
theorem drop_tups {K : PySem.W.Frag} {p : Addr} {H : Hp} {u : HO} (hp : H p = some u) (nt : ∀ ys, u ≠ .tup ys) (nf : ∀ o w, u ≠ .frz o w) : ∀ {rs : List (List Int)} {vs : List V}, AllP (rs.map (TupI K)) vs H → AllP (rs.map (TupI K)) vs (drop p H)
  | [], [], _ => trivial
  | r :: rs, v :: vs, h => ⟨drop_tupI hp nt nf h.1, drop_tups hp nt nf h.2⟩

section
variable {P : Program} {w : World} {K : PySem.W.Frag} {mg : Str → Option Value} {base : Heap} {f : Addr} {fd : FuncData} {cT cC cS : Addr}
/-- a call of cells.following -/
theorem ep_foll {σ : L2.St} {H : Hp} {to ta : TE} {n : Int} {g : Int → Int → Int → Int} {xs : List Int} {E : XK} (n0 : 0 < n) (ho : EvP to σ H (CellsV cC n g)) (ha : EvP ta σ H (TupI K xs)) (al : All n xs) (hz : xs.length ≤ 500) :
    EvP (tMeth cC "following" (spFoll K cC) [] E to (tCons ta tNil)) σ H (TupI K (foll g 0 xs)) :=
  ep_meth ho (fun x H1 _ ⟨p, dx, d, kvs, h1, h2, _⟩ => ⟨p, dx, _, h1, h2, cellsF_no (by decide +kernel) (by decide +kernel)⟩) (epa_cons ha epa_nil) fun x vs H1 _ hx pa Q' E' kq => by
    obtain ⟨u, rfl, hu⟩ := all1 pa
    exact ⟨n, g, xs, x, u, rfl, n0, hx, hu, al, hz, kq⟩
/-! ### Cells.step, Cells.stopped -/
def spCStep (K : PySem.W.Frag) (cC : Addr) : Sp := fun vs H Q _ => ∃ (n : Int) (g : Int → Int → Int → Int) (xs : List Int) (v u : V), vs = [v, u] ∧ 0 < n ∧ CellsV cC n g v H ∧ TupI K xs u H ∧ All n xs ∧ xs.length ≤ 400 ∧ ∀ v' H', Ex H H' → OptT K (stepM g xs) v' H' → Q v' H'
theorem scCStep : FnScope ["self", "configuration", "row", "after"] ["self", "configuration"] (defScope sCStep) := ⟨rfl, rfl, rfl, by decide +kernel, rfl, by decide +kernel, by decide +kernel⟩
theorem ok_cStep (F : Fun K "step" "Cells.step" sCStep f fd) (T : Txt K mg cT cC cS) (D : Dfs K mg cT cC cS) : FnOk P w K mg base CX0 3 f fd ["self", "configuration"] (spCStep K cC) := by
  obtain ⟨fF, fdF, FF, bF, mF⟩ := D.foll
  have GF : FnOk P w K mg base CX0 2 fF fdF ["self", "row"] (spFoll K cC) := ok_foll FF T D
  obtain ⟨fE, fdE, FE, bE, gE⟩ := D.ends
  have GE : FnOk P w K mg base CX0 1 fE fdE ["row"] (spEnds K) := ok_ends FE T
  refine F.ok scCStep (fun vs H Q E h => ?_) (fun cdv A outer s H vs Q E hr h => ?_)
  · obtain ⟨n, g, xs, v, u, rfl, _⟩ := h
    rfl
  · obtain ⟨n, g, xs, v, u, rfl, n0, hv, hu, al, hz, k⟩ := h
    have hr1 : Room 1 _ := hr.mono (by decide)
    refine ⟨_, pss_cons (ps_set (i := 2) scCStep.nd rfl (.inl rfl) (pe_op op_catA (pe_op op_catA (pe_tup (pa_cons pe_int pa_nil)) (pv 1)) (pe_tup (pa_cons pe_int pa_nil))))
      (pss_cons (ps_set (i := 3) scCStep.nd rfl (.inl rfl) (pe_meth (pv 0) T.clC mF GF hr bF .nil pass0 (pa_cons (pv 2) pa_nil)))
      (pss_one (ps_ret (pe_ifExp (pt_cmpR (op_eqD hr.units) (pv 3) (pv 2) (nomark _)) pe_non (pe_call GE hr1 rfl gE FE.kp bE .nil pass0 (pa_cons (pv 3) pa_nil)))))), ?_⟩
    have z0 : All n [0] := fun x hx => by
      rw [List.mem_singleton.mp hx]
      exact ⟨Int.le_refl 0, n0⟩
    have alw : All n ([0] ++ xs ++ [0]) := (z0.append al).append z0
    have lw : ([0] ++ xs ++ [0]).length = xs.length + 2 := by simp
    have wide := ep_cat (K := K) (ep_cat (σ := [some v, some u, none, none]) (H := H) (ep_tupI (is := [0]) (epa_cons ep_c epa_nil) (by show 1 ≤ 1000; decide)) (ep_var (i := 1) rfl hu) (by show 1 + xs.length ≤ 1000; omega)) (ep_tupI (is := [0]) (epa_cons ep_c epa_nil) (by show 1 ≤ 1000; decide)) (by rw [List.length_append]; show 1 + xs.length + 1 ≤ 1000; omega)
    refine s_seq (s_set wide fun wv H1 e1 hw => s_seq (s_set (ep_foll n0 (ep_var rfl (Mono.up e1 hv)) (ep_var rfl hw) alw (by rw [lw]; omega)) fun av H2 e2 ha => ?_))
    have hw2 : TupI K ([0] ++ xs ++ [0]) wv H2 := Mono.up e2 hw
    refine s_retP (P := OptT K (stepM g xs)) (ep_if (et_P (ep_eqT (ep_var rfl ha) (ep_var rfl hw2))) (fun hc => ?_) fun hc => ?_) fun v' H3 e3 hv' => k v' H3 ((e1.trans e2).trans e3) hv'
    · have e : foll g 0 (0 :: xs ++ [0]) = 0 :: xs ++ [0] := of_decide_eq_true hc
      unfold stepM
      rw [if_pos e]
      exact ep_c
    · have e : ¬ foll g 0 (0 :: xs ++ [0]) = 0 :: xs ++ [0] := of_decide_eq_false hc
      unfold stepM
      rw [if_neg e]
      refine ep_call (Ps := [TupI K (foll g 0 ([0] ++ xs ++ [0]))]) (epa_cons (ep_var rfl ha) epa_nil) fun vs H3 _ pa Q' E' kq => ?_
      obtain ⟨y, rfl, hy⟩ := all1 pa
      exact ⟨y, _, rfl, hy, by rw [foll_len, lw]; omega, kq⟩
/-- a call of cells.step -/
theorem ep_cstep {σ : L2.St} {H : Hp} {to ta : TE} {n : Int} {g : Int → Int → Int → Int} {xs : List Int} {E : XK} (n0 : 0 < n) (ho : EvP to σ H (CellsV cC n g)) (ha : EvP ta σ H (TupI K xs)) (al : All n xs) (hz : xs.length ≤ 400) :
    EvP (tMeth cC "step" (spCStep K cC) [] E to (tCons ta tNil)) σ H (OptT K (stepM g xs)) :=
  ep_meth ho (fun x H1 _ ⟨p, dx, d, kvs, h1, h2, _⟩ => ⟨p, dx, _, h1, h2, cellsF_no (by decide +kernel) (by decide +kernel)⟩) (epa_cons ha epa_nil) fun x vs H1 _ hx pa Q' E' kq => by
    obtain ⟨u, rfl, hu⟩ := all1 pa
    exact ⟨n, g, xs, x, u, rfl, n0, hx, hu, al, hz, kq⟩
def spCStop (K : PySem.W.Frag) (cC : Addr) : Sp := fun vs H Q _ => ∃ (n : Int) (g : Int → Int → Int → Int) (xs : List Int) (v u : V), vs = [v, u] ∧ 0 < n ∧ CellsV cC n g v H ∧ TupI K xs u H ∧ All n xs ∧ xs.length ≤ 400 ∧ ∀ H', Ex H H' → Q (.bl (stepM g xs).isNone) H'
theorem scCStop : FnScope ["self", "configuration"] ["self", "configuration"] (defScope sCStop) := ⟨rfl, rfl, rfl, by decide +kernel, rfl, by decide +kernel, by decide +kernel⟩
theorem ok_cStop (F : Fun K "stopped" "Cells.stopped" sCStop f fd) (T : Txt K mg cT cC cS) (D : Dfs K mg cT cC cS) : FnOk P w K mg base CX0 4 f fd ["self", "configuration"] (spCStop K cC) := by
  obtain ⟨fS, fdS, FS, bS, mS⟩ := D.cStep
  have GS : FnOk P w K mg base CX0 3 fS fdS ["self", "configuration"] (spCStep K cC) := ok_cStep FS T D
  refine F.ok scCStop (fun vs H Q E h => ?_) (fun cdv A outer s H vs Q E hr h => ?_)
  · obtain ⟨n, g, xs, v, u, rfl, _⟩ := h
    rfl
  · obtain ⟨n, g, xs, v, u, rfl, n0, hv, hu, al, hz, k⟩ := h
    refine ⟨_, pss_one (ps_ret (pe_cmpR op_isN1 (pe_meth (pv 0) T.clC mS GS hr bS .nil pass0 (pa_cons (pv 1) pa_nil)) pe_non (nomark _))), ?_⟩
    refine s_retP (ep_isNV (ep_cstep n0 (ep_var rfl hv) (ep_var rfl hu) al hz) fun v' H1 hv' => optT_none hv') fun v' H1 e1 hv' => ?_
    rw [hv']
    exact k H1 e1

/-! ### Cells.rows -/
def spCRows (K : PySem.W.Frag) (cC : Addr) : Sp := fun vs H Q _ => ∃ (n : Int) (g : Int → Int → Int → Int) (xs : List Int) (N : Nat) (v u : V), vs = [v, u, .int N] ∧ 0 < n ∧ Keeps n g ∧ CellsV cC n g v H ∧ TupI K xs u H ∧ All n xs ∧ xs.length ≤ 100 ∧ 1 ≤ N ∧ N ≤ 100 ∧
  ∀ v' H', Ex H H' → RowsV K (rowsM g N (List.replicate N 0 ++ xs ++ List.replicate N 0)) v' H' → Q v' H'
theorem scCRows : FnScope ["self", "configuration", "steps", "row", "found", "_", "wide"] ["self", "configuration", "steps"] (defScope sCRows) := ⟨rfl, rfl, rfl, by decide +kernel, rfl, by decide +kernel, by decide +kernel⟩
theorem ok_cRows (F : Fun K "rows" "Cells.rows" sCRows f fd) (T : Txt K mg cT cC cS) (D : Dfs K mg cT cC cS) : FnOk P w K mg base CX0 3 f fd ["self", "configuration", "steps"] (spCRows K cC) := by
  obtain ⟨fF, fdF, FF, bF, mF⟩ := D.foll
  have GF : FnOk P w K mg base CX0 2 fF fdF ["self", "row"] (spFoll K cC) := ok_foll FF T D
  refine F.ok scCRows (fun vs H Q E h => ?_) (fun cdv A outer s H vs Q E hr h => ?_)
  · obtain ⟨n, g, xs, N, v, u, rfl, _⟩ := h
    rfl
  · obtain ⟨n, g, xs, N, v, u, rfl, n0, kg, hv, hu, al, hz, N1, N2, k⟩ := h
    refine ⟨_, pss_cons (ps_set (i := 3) scCRows.nd rfl (.inl rfl) (pe_op op_catA (pe_op op_catA (pe_op op_repA (pe_tup (pa_cons pe_int pa_nil)) (pv 2)) (pv 1)) (pe_op op_repA (pe_tup (pa_cons pe_int pa_nil)) (pv 2))))
      (pss_cons (ps_set (i := 4) scCRows.nd rfl (.inl rfl) (pe_lst (pa_cons (pv 3) pa_nil)))
      (pss_cons (ps_for PassesOwn.never rfl (pi_range1 rfl T.bRange (pa_cons (pv 2) pa_nil)) (pg_name (i := 5) scCRows.nd rfl (.inl rfl))
        (pss_cons (ps_set (i := 6) scCRows.nd rfl (.inl rfl) (pe_op op_catA (pe_op op_catA (pe_tup (pa_cons pe_int pa_nil)) (pe_ix ix_list (pv 4) (pe_un un_neg pe_int) (fun _ _ => rfl))) (pe_tup (pa_cons pe_int pa_nil))))
        (pss_cons (ps_if (pt_cmpR (op_eqD hr.units) (pe_meth (pv 0) T.clC mF GF hr bF .nil pass0 (pa_cons (pv 6) pa_nil)) (pv 6) (nomark _)) (pss_one (ps_ret (pv 4))) pss_nil)
        (pss_one (ps_expr (pe_bm PySem.F.plainAttrs_list PySem.F.slot_list_append PySem.F.type_list_append mt_append (pv 4) (pa_cons (pe_meth (pv 0) T.clC mF GF hr bF .nil pass0 (pa_cons (pe_ix ix_list (pv 4) (pe_un un_neg pe_int) (fun _ _ => rfl)) pa_nil)) pa_nil)))))))
      (pss_one (ps_ret (pv 4))))), ?_⟩
    have z0 : All n [0] := fun x hx => by
      rw [List.mem_singleton.mp hx]
      exact ⟨Int.le_refl 0, n0⟩
    have zN : All n (List.replicate N 0) := fun x hx => by
      rw [(List.mem_replicate.mp hx).2]
      exact ⟨Int.le_refl 0, n0⟩
    generalize hrow : List.replicate N 0 ++ xs ++ List.replicate N 0 = row0 at k
    have alr : All n row0 := by
      rw [← hrow]
      exact (zN.append al).append zN
    have lr : row0.length = N + xs.length + N := by
      rw [← hrow]
      simp
      omega
    have one : ∀ (σ : L2.St) (H : Hp), EvP (tTup (tCons (tC (.int 0)) tNil)) σ H (TupI K [0]) := fun σ H => ep_tupI (is := [0]) (epa_cons ep_c epa_nil) (by show 1 ≤ 1000; decide)
    have reps : ∀ (σ : L2.St) (H : Hp), σ[2]? = some (some (.int N)) → EvP (tOp (rRepA K) (tTup (tCons (tC (.int 0)) tNil)) (tVar 2)) σ H (TupI K (List.replicate N 0)) := fun σ H h2 => ep_rep (k := (N : Int)) (one σ H) (ep_vi h2) (by omega) (by omega)
    have row1 := ep_cat (K := K) (ep_cat (reps [some v, some u, some (V.int N), none, none, none, none] H rfl) (ep_var (i := 1) rfl hu) (by rw [List.length_replicate]; omega)) (reps _ H rfl) (by rw [List.length_append, List.length_replicate]; omega)
    rw [hrow] at row1
    refine s_seq (s_set row1 fun rv H1 e1 hrv => ?_)
    -- found = [row]
    refine s_seq ?_
    refine ⟨_, rfl, (by show 1 ≤ sizeLine; decide), fun l nl => ?_⟩
    have el : Ex H (upd H1 l (.lst [rv])) := e1.trans (Ex.new nl)
    have nlH : H l = none := fresh_back e1 nl
    refine s_seq (s_forR1 (n := (N : Int)) (ea_cons (ep_vi rfl).ev ea_nil) (by omega) (fun i σ H2 => ∃ (acc : List (List Int)) (cur : List Int) (vs : List V) (cv : V) (x5 x6 : Option V), σ = [some v, some u, some (V.int N), some rv, some (V.ref l), x5, x6] ∧ H2 l = some (.lst (vs ++ [cv])) ∧ AllP (acc.map (TupI K)) vs H2 ∧
      TupI K cur cv H2 ∧ rowsM g N row0 = acc ++ rowsM g (N - i) cur ∧ acc.length = i ∧ All n cur ∧ cur.length = row0.length ∧ Ex H H2)
      (fun H2 e2 => ⟨[], row0, [], rv, none, none, rfl, e2 l _ upd_same, trivial, Mono.up ((Ex.new nl).trans e2) hrv, by rw [Nat.sub_zero]; rfl, rfl, alr, rfl, el.trans e2⟩) ?_ ?_)
    · rintro i σ H2 hi ⟨acc, cur, vs, cv, x5, x6, rfl, hl, hvs, hcv, hR, hacc, alc, lc, e2⟩
      have last : ∀ (H3 : Hp) (x7 x8 : Option V), Ex H2 H3 → EvP (tOp (rIxL K) (tVar 4) (tUn (rU fun i => .int (-i)) (tC (.int 1)))) [some v, some u, some (V.int N), some rv, some (V.ref l), x7, x8] H3 (TupI K cur) := fun H3 x7 x8 e3 =>
        ep_op (Pa := Is (.ref l)) (Pb := IsI (-1)) (ep_vi rfl) (ep_neg ep_c) fun x y H4 e4 hx hy Q' kq => ⟨l, _, _, cv, hx, hy, sq_of (e4 l _ (e3 l _ hl)), atI_last vs cv, kq cv H4 (Ex.refl H4) (Mono.up (e3.trans e4) hcv)⟩
      refine s_seq (s_set (ep_cat (ep_cat (one _ H2) (last H2 _ _ (Ex.refl H2)) (by show 1 + cur.length ≤ 1000; omega)) (one _ H2) (by rw [List.length_append]; show 1 + cur.length + 1 ≤ 1000; omega)) fun wv H3 e3 hw => ?_)
      have alw : All n ([0] ++ cur ++ [0]) := (z0.append alc).append z0
      have lw : ([0] ++ cur ++ [0]).length = cur.length + 2 := by simp
      have hv3 : CellsV cC n g v H3 := Mono.up (e2.trans e3) hv
      obtain ⟨d, hd⟩ : ∃ d, N - i = d + 1 := ⟨N - i - 1, by omega⟩
      refine s_seq (s_if (et_P (ep_eqT (ep_foll n0 (ep_var rfl hv3) (ep_var rfl hw) alw (by rw [lw]; omega)) (ep_var rfl hw))) (fun hc H4 e4 => ?_) fun hc H4 e4 => ?_)
      · have e : foll g 0 (0 :: cur ++ [0]) = 0 :: cur ++ [0] := of_decide_eq_true hc
        refine s_retP (P := Is (.ref l)) (ep_vi rfl) fun v' H5 e5 hv' => ?_
        have e35 := (e3.trans e4).trans e5
        rw [hv']
        refine k _ H5 (e2.trans e35) ⟨l, _, rfl, e35 l _ hl, ?_⟩
        rw [hR, hd, rowsM, if_pos e, List.map_append]
        exact allP_snoc (MonoA.up e35 hvs) (Mono.up e35 hcv)
      · have e : ¬ foll g 0 (0 :: cur ++ [0]) = 0 :: cur ++ [0] := of_decide_eq_false hc
        refine s_appP (P := TupI K (foll g 0 cur)) ((e3.trans e4) l _ hl) (ep_vi rfl).ev (ep_foll n0 (ep_var rfl (Mono.up e4 hv3)) (last H4 _ _ (e3.trans e4)) alc (by omega)) ?_ fun nv H5 e5 hnv => ?_
        · rw [List.length_append, allP_len hvs, List.length_map, hacc]
          show i + 1 < 100000
          omega
        · have e35 := (e3.trans e4).trans e5
          have hl5 := e35 l _ hl
          have bx : Ex (drop l H5) (upd H5 l (.lst (vs ++ [cv] ++ [nv]))) := Ex.mut drop_ex drop_at
          have nt : ∀ ys, HO.lst (vs ++ [cv]) ≠ .tup ys := fun _ z => by cases z
          have nf : ∀ o w, HO.lst (vs ++ [cv]) ≠ .frz o w := fun _ _ z => by cases z
          refine ⟨acc ++ [cur], foll g 0 cur, vs ++ [cv], nv, _, _, rfl, upd_same, ?_, Mono.up bx (drop_tupI hl5 nt nf hnv), ?_, by rw [List.length_append, hacc]; rfl, foll_all n0 kg ⟨Int.le_refl 0, n0⟩ alc, by rw [foll_len, lc], Ex.mut (e2.trans e35) nlH⟩
          · refine MonoA.up (Ps := (acc ++ [cur]).map (TupI K)) bx ?_
            rw [List.map_append]
            exact (allP_snoc (drop_tups hl5 nt nf (MonoA.up e35 hvs)) (drop_tupI hl5 nt nf (Mono.up e35 hcv)))
          · rw [hR, hd, rowsM, if_neg e, List.append_assoc, show N - (i + 1) = d by omega]
            rfl
    · rintro σ H2 ⟨acc, cur, vs, cv, x5, x6, rfl, hl, hvs, hcv, hR, hacc, alc, lc, e2⟩
      refine s_retP (P := Is (.ref l)) (ep_vi rfl) fun v' H5 e5 hv' => ?_
      rw [hv']
      refine k _ H5 (e2.trans e5) ⟨l, _, rfl, e5 l _ hl, ?_⟩
      have e0 : N - (N : Int).toNat = 0 := by omega
      rw [hR, e0, rowsM, List.map_append]
      exact allP_snoc (MonoA.up e5 hvs) (Mono.up e5 hcv)
end
end Sd

set_option Elab.async false
set_option linter.all false
set_option maxRecDepth 100000
set_option maxHeartbeats 4000000
namespace Sd
open PySem PySem.Spec PyProof.Rows L2 Evl

/-! ### dicts of triples -/
/-- each key a triple of letters, each value a letter -/
def KOk (n : Int) (kvs : List (List Key × V)) : Prop := ∀ e ∈ kvs, ∃ l x r y, e = (key3 l x r, V.int y) ∧ In n l ∧ In n x ∧ In n r ∧ In n y
theorem valV_mem {κ : Type} [DecidableEq κ] {kvs : List (κ × V)} {k : κ} {v : V} (h : valV kvs k = some v) : (k, v) ∈ kvs := by
  unfold valV at h
  obtain ⟨p, hp, e⟩ := Option.map_eq_some_iff.mp h
  have e1 := List.find?_some hp
  have e2 := of_decide_eq_true e1
  have m := List.mem_of_find?_eq_some hp
  rw [← e2, ← e]
  exact m
theorem valV_some {κ : Type} [DecidableEq κ] {kvs : List (κ × V)} {k : κ} {v : V} (h : (k, v) ∈ kvs) : ∃ u, valV kvs k = some u := by
  have q : (kvs.any fun kv => decide (kv.1 = k)) = true := List.any_eq_true.mpr ⟨(k, v), h, decide_eq_true rfl⟩
  rw [valV_any] at q
  exact Option.isSome_iff_exists.mp q
theorem valV_none {κ : Type} [DecidableEq κ] {kvs : List (κ × V)} {k : κ} (h : ∀ v, ¬ (k, v) ∈ kvs) : valV kvs k = none := by
  cases e : valV kvs k with
  | none => rfl
  | some v => exact absurd (valV_mem e) (h v)
/-- the first i entries read by their keys, put in their turn -/
def Upto {κ : Type} [DecidableEq κ] (kvs : List (κ × V)) (i : Nat) (acc : List (κ × V)) : Prop := ∀ j : κ, (j ∈ (kvs.take i).map (·.1) → valV acc j = valV kvs j) ∧ (¬ j ∈ (kvs.take i).map (·.1) → valV acc j = none)
theorem upto_nil {κ : Type} [DecidableEq κ] (kvs : List (κ × V)) : Upto kvs 0 [] := fun j => ⟨fun h => by simp at h, fun _ => rfl⟩
theorem put_turn {κ : Type} [DecidableEq κ] {kvs acc : List (κ × V)} {i : Nat} {k : κ} {v u : V} (hi : kvs[i]? = some (k, v)) (hu : valV kvs k = some u) (h : Upto kvs i acc) : Upto kvs (i + 1) (putK acc k u) := fun j => by
  rw [valV_put, List.take_add_one, hi, List.map_append]
  by_cases e : j = k
  · subst e
    rw [if_pos rfl]
    exact ⟨fun _ => hu.symm, fun z => absurd (by simp) z⟩
  · rw [if_neg e]
    have q : (j ∈ (kvs.take i).map (·.1) ++ ((some (k, v)).toList.map (·.1))) ↔ j ∈ (kvs.take i).map (·.1) := by
      simp [e]
    exact ⟨fun m => (h j).1 (q.mp m), fun m => (h j).2 fun z => m (q.mpr z)⟩
theorem put_all {κ : Type} [DecidableEq κ] {kvs acc : List (κ × V)} (h : Upto kvs kvs.length acc) (j : κ) : valV acc j = valV kvs j := by
  obtain ⟨h1, h2⟩ := h j
  rw [List.take_length] at h1 h2
  by_cases m : j ∈ kvs.map (·.1)
  · exact h1 m
  · rw [h2 m, valV_none]
    intro v hv
    exact m (List.mem_map.mpr ⟨(j, v), hv, rfl⟩)
/-- behind a lock -/
theorem unlock_ex {H H' : Hp} {d : Addr} {u : HO} {od : Obj} (hd : H d = some u) (e : Ex (upd H d (.frz od u)) H') : Ex H (upd H' d u) := fun b o h => by
  by_cases q : b = d
  · subst q
    rw [upd_same]
    rw [hd] at h
    exact h
  · rw [upd_ne q]
    exact e b o (by rw [upd_ne q]; exact h)

/-- a dict of which φ is known -/
def DicV (φ : List (List Key × V) → Prop) : VP := fun v H => ∃ d kvs, v = .ref d ∧ H d = some (.dT kvs) ∧ φ kvs
instance dicMono {φ : List (List Key × V) → Prop} : Mono (DicV φ) := ⟨fun e ⟨d, kvs, h1, h2, h3⟩ => ⟨d, kvs, h1, e d _ h2, h3⟩⟩
section
variable {K : PySem.W.Frag} {σ : L2.St} {H : Hp} {ta tb te tx : TE}
theorem ep_allT {bs : List Bool} (ha : EvP te σ H (LstV (bs.map V.bl))) : EvP (tCB (rAll K) (tCons te tNil)) σ H (IsB (bs.all id)) := fun H1 e Q q =>
  ha H1 e _ fun v H2 e2 p => by
    obtain ⟨a, rfl, t⟩ := p
    exact ⟨a, bs, rfl, sq_of t, q _ H2 e2 rfl⟩
/-- d[key] -/
theorem ep_dgetT {d : Addr} {kvs : List (List Key × V)} {k : List Key} {v : V} (hd : Rd H d (.dT kvs)) (ha : EvP ta σ H (Is (.ref d))) (hk : EvP tb σ H (fun y H1 => ∃ b, y = .ref b ∧ H1 b = some (.tup (k.map kV)))) (hv : valV kvs k = some v) : EvP (tDGet ta tb) σ H (Is v) := fun H1 e Q q =>
  ha.ev H1 e _ fun H2 e2 => hk H2 (e.trans e2) _ fun y H3 e3 py => by
    obtain ⟨b, rfl, hb⟩ := py
    exact ⟨d, v, rfl, .inr ⟨kvs, k, b, ex_rd ((e.trans e2).trans e3) hd, rfl, hb, hv.symm⟩, q _ H3 (e2.trans e3) rfl⟩
/-- d.get((l, x, r), z) -/
theorem ep_dget2T {d : Addr} {kvs : List (List Key × V)} {l x r : Int} {z : V} (hd : H d = some (.dT kvs)) (ha : EvP ta σ H (Is (.ref d))) (hk : EvP tb σ H (TupN [l, x, r])) (hz : EvP tx σ H (Is z)) : EvP (tDGet2 ta tb tx) σ H (Is ((valV kvs (key3 l x r)).getD z)) := fun H1 e Q q =>
  ha.ev H1 e _ fun H2 e2 => ⟨d, rfl, .inr ⟨kvs, .inl ((e.trans e2) d _ hd)⟩, hk H2 (e.trans e2) _ fun y H3 e3 py => by
    obtain ⟨b, rfl, hb⟩ := py
    refine hz.ev H3 ((e.trans e2).trans e3) _ fun H4 e4 => ⟨_, DGet.t (k := key3 l x r) ((((e.trans e2).trans e3).trans e4) d _ hd) (e4 b _ hb), q _ H4 ((e2.trans e3).trans e4) rfl⟩⟩
end

section
variable {P : Program} {w : World} {K : PySem.W.Frag} {mg : Str → Option Value} {base : Heap} {f : Addr} {fd : FuncData} {cT cC cS : Addr}
/-! ### Cells.__init__ -/
def spCInit (cC : Addr) : Sp := fun vs H Q _ => ∃ (p dx d : Addr) (n : Int) (g : Int → Int → Int → Int) (kvs : List (List Key × V)), vs = [.ref p, .int n, .ref d] ∧ H p = some (.ins cC dx []) ∧ 1 ≤ n ∧ n ≤ 300 ∧ H d = some (.dT kvs) ∧ KOk n kvs ∧ Good n g kvs ∧ g 0 0 0 = 0 ∧ kvs.length ≤ 10000 ∧
  ∀ H', Ex (drop p H) H' → CellsV cC n g (.ref p) H' → Q .non H'
theorem scCInit : FnScope ["self", "letters", "changes", "key", "one"] ["self", "letters", "changes"] (defScope sCInit) := ⟨rfl, rfl, rfl, by decide +kernel, rfl, by decide +kernel, by decide +kernel⟩
theorem ok_cInit (F : Fun K "__init__" "Cells.__init__" sCInit f fd) (T : Txt K mg cT cC cS) (D : Dfs K mg cT cC cS) : FnOk P w K mg base CX0 2 f fd ["self", "letters", "changes"] (spCInit cC) := by
  obtain ⟨fI, fdI, FI, bI, gI⟩ := D.isL
  have GI : FnOk P w K mg base CX0 1 fI fdI ["value", "letters"] spIsL := ok_isL FI T
  obtain ⟨tL, cL⟩ := T.cLetters
  refine F.ok scCInit (fun vs H Q E h => ?_) (fun cdv A outer s H vs Q E hr h => ?_)
  · obtain ⟨p, dx, d, n, g, kvs, rfl, _⟩ := h
    rfl
  · obtain ⟨p, dx, d, n, g, kvs, rfl, hp, n1, n3, hd, kok, good, g0, hz, k⟩ := h
    refine ⟨_, pss_cons (ps_if (PW.pt (pw_or (pt_not (pt_val (pe_call GI hr rfl gI FI.kp bI .nil pass0 (pa_cons (pv 1) (pa_cons (pe_op op_add (pe_glob (by rfl) cL (v := .int 300) ⟨_, rfl⟩) pe_int) pa_nil)))))
          (pw_or1 (pt_cmpR op_lt (pv 1) pe_int (nomark _))))) pss_never pss_nil)
      (pss_cons (ps_lock (ps_for PassesOwn.never rfl (pi_keys (pv 2)) (pg_name (i := 3) scCInit.nd rfl (.inl rfl))
        (pss_cons (ps_if (PW.pt (pw_or (pt_not (pt_val (pe_callB call_isi (by rfl) T.bIsi bo_isi (pa_cons (pv 3) (pa_cons (pe_bltn (by rfl) T.bTuple bo_tuple (v := .ty "tuple") rfl) pa_nil)))))
            (pw_or (pt_cmpR op_ne (pe_callB rLenS_ok (by rfl) T.bLen bo_len (pa_cons (pv 3) pa_nil)) pe_int (nomark _))
              (pw_or1 (pt_not (pt_val (pe_callB (cr_all rfl) (by rfl) T.bAll bo_all (pa_cons (pe_lc (own := [("one", 4)]) (g := gName 4) (tt := tYes) rfl scCInit.nd (pi_tup (pv 3))
                (blkOk_by (own := [("one", 4)]) (N := ["self", "letters", "changes", "key", "one"]) (sc := defScope sCInit) (by decide +kernel))
                (fun _ _ _ _ _ => pg_name (i := 4) scCInit.nd rfl (Or.inl rfl)) (fun _ _ _ _ _ => pts_nil)
                (fun _ _ _ _ _ => pe_call GI hr rfl gI FI.kp bI .nil pass0 (pa_cons (pv 4) (pa_cons (pv 1) pa_nil)))) pa_nil)))))))) pss_never pss_nil)
        (pss_one (ps_if (pt_not (pt_val (pe_call GI hr rfl gI FI.kp bI .nil pass0 (pa_cons (pe_dget (hu_of hr) (pv 2) (pv 3) (fun _ _ => rfl)) (pa_cons (pv 1) pa_nil))))) pss_never pss_nil)))))
      (pss_cons (ps_if (pt_cmpR op_ne (pe_dget2 (hu_of hr) (pv 2) (pe_tup (pa_cons pe_int (pa_cons pe_int (pa_cons pe_int pa_nil)))) pe_int ⟨rfl, rfl, rfl, rfl⟩) pe_int (nomark _)) pss_never pss_nil)
      (pss_cons (ps_fld (pv 0) (pv 1) rfl)
      (pss_one (ps_fld (pv 0) (pe_lock (pe_dcT (own := [("key", 3)]) (g := gName 3) hr.units0 rfl scCInit.nd (pi_keys (pv 2))
        (blkOk_by (own := [("key", 3)]) (N := ["self", "letters", "changes", "key", "one"]) (sc := defScope sCInit) (by decide +kernel))
        (fun _ _ _ _ _ => pg_name (i := 3) scCInit.nd rfl (Or.inl rfl)) (fun _ _ _ _ _ => pv 3) (fun _ _ _ _ _ => pe_dget (hu_of hr) (pv 2) (pv 3) (fun _ _ => rfl)))) rfl))))), ?_⟩
    have lets : ∀ {x : Int}, In n x → (decide (0 ≤ x) && decide (x < n)) = true := fun {x} h => by
      rw [decide_eq_true h.1, decide_eq_true h.2]
      rfl
    -- the number of letters
    refine s_seq (s_if (b := false) (et_is (et_or (et_not (et_PB (ep_isLC (ep_vi (v := .int n) rfl) (ep_I0 ep_c ep_c)))) (b := false) fun _ => et_is (et_P (ep_I0 (ep_vi (v := .int n) rfl) ep_c)) (decide_eq_false (by omega)))
      (by rw [decide_eq_true (show 0 ≤ n by omega), decide_eq_true (show n < 300 + 1 by omega)]; rfl)) (fun z => by cases z) fun _ H1 e1 => ?_)
    have hd1 := e1 d _ hd
    -- the keys
    refine s_seq ⟨d, .dT kvs, hd1, trivial, fun od => ?_⟩
    refine ⟨_, rfl, d, od, rfl, .inr ⟨kvs, upd_same, ?_⟩⟩
    refine for_it (walk_keysT (d := d) (o := od) (kvs := kvs)) (fun i σ H2 => ∃ u, σ = [some (V.ref p), some (V.int n), some (V.ref d), u, none] ∧ Ex (upd H1 d (.frz od (.dT kvs))) H2) ⟨none, rfl, Ex.refl _⟩ (fun i σ H2 _ ⟨u, _, e2⟩ => e2 d _ upd_same) ?_ ?_
    · rintro i x σ H2 H2' hi ⟨u, rfl, e2⟩ ⟨rfl, kk, vv, q, hkv, rfl, hq⟩
      obtain ⟨l, m, r, y, ekv, il, im, ir, iy⟩ := kok _ (List.mem_of_getElem? hkv)
      have ek : kk = key3 l m r := congrArg Prod.fst ekv
      subst ek
      have hl2 : Rd H2' d (.dT kvs) := .inr ⟨od, e2 d _ upd_same⟩
      have tq : TupI K [l, m, r] (.ref q) H2' := ⟨q, rfl, st_of hq⟩
      have al : All n [l, m, r] := .cons il (.cons im (.cons ir fun z hz => by cases hz))
      have items : EvP (tLc (iTup K (tVar 3)) (gName 4) tYes (tCall spIsL [] E0 (tCons (tVar 4) (tCons (tVar 1) tNil))) [4]) [some (V.ref p), some (V.int n), some (V.ref d), some (V.ref q), none] H2' (LstV ([true, true, true].map V.bl)) :=
        ep_lcT ([true, true, true].map V.bl) (ep_var rfl tq) rfl (by decide) (fun _ => rfl) fun j z v H3 e3 hz hv => by
          have iz : In n z := al z (List.mem_of_getElem? hz)
          have ev : v = V.bl true := by
            have := List.mem_of_getElem? hv
            simpa using this
          subst ev
          exact ep_is (ep_isLC (ep_vi (v := .int z) rfl) (ep_vi (v := .int n) rfl)) (by rw [lets iz])
      refine s_seq (s_if (b := false) (et_is (et_or (et_not (et_PB (ep_isiT (K := K) (ep_var rfl tq) fun z H3 ⟨a, e, t⟩ => ⟨a, _, e, t⟩))) (b := false) fun _ => et_is (et_or (et_P (ep_neI (ep_lenT (ep_var rfl tq)) ep_c)) (b := false) fun _ => et_is (et_not (et_PB (ep_allT (K := K) items))) rfl) rfl) rfl) (fun z => by cases z) fun _ H3 e3 => ?_)
      obtain ⟨v2, hv2⟩ := valV_some (List.mem_of_getElem? hkv)
      obtain ⟨l2, m2, r2, y2, ekv2, _, _, _, iy2⟩ := kok _ (valV_mem hv2)
      have ev2 : v2 = V.int y2 := congrArg Prod.snd ekv2
      subst ev2
      refine s_if (b := false) (et_is (et_not (et_PB (ep_isLC (ep_dgetT (k := key3 l m r) (ex_rd e3 hl2) (ep_vi rfl) (fun H4 e4 Q' kq => ⟨_, rfl, kq _ H4 (Ex.refl H4) ⟨q, rfl, e4 q _ (e3 q _ hq)⟩⟩) hv2) (ep_vi (v := .int n) rfl)))) (by rw [lets iy2]; rfl)) (fun z => by cases z) fun _ H4 e4 => ⟨_, rfl, (e2.trans e3).trans e4⟩
    · rintro σ H2 ⟨u, rfl, e2⟩
      refine ⟨e2 d _ upd_same, ?_⟩
      have e12 : Ex H (upd H2 d (.dT kvs)) := e1.trans (unlock_ex hd1 e2)
      generalize upd H2 d (.dT kvs) = H3 at e12
      -- three zeros
      have z3 : EvP (tDGet2 (tVar 2) (tTup (tCons (tC (.int 0)) (tCons (tC (.int 0)) (tCons (tC (.int 0)) tNil)))) (tC (.int 0))) [some (V.ref p), some (V.int n), some (V.ref d), u, none] H3 (IsI 0) :=
        ep_is (ep_dget2T (l := 0) (x := 0) (r := 0) (e12 d _ hd) (ep_vi rfl) (ep_tupN (is := [0, 0, 0]) (epa_cons ep_c (epa_cons ep_c (epa_cons ep_c epa_nil))) (by show 3 ≤ 1000; decide)) ep_c) (by rw [good 0 0 0 ⟨Int.le_refl 0, by omega⟩ ⟨Int.le_refl 0, by omega⟩ ⟨Int.le_refl 0, by omega⟩, g0])
      refine s_seq (s_if (b := false) (et_is (et_P (ep_neI z3 ep_c)) rfl) (fun z => by cases z) fun _ H4 e4 => ?_)
      have e04 := e12.trans e4
      refine s_seq (s_fldP (ep_vi (v := .int n) rfl) (ep_vi rfl).ev (e04 p _ hp) T.clC T.nLetters (by decide) fun v H5 e5 hv => ?_)
      have ev : v = V.int n := hv
      subst ev
      have npd : d ≠ p := ne_of hd hp (by intro z; cases z)
      have B5 : Ex (drop p H) (upd H5 p (.ins cC dx (putF "letters" (.int n) []))) := Ex.mut (drop_ex.trans (e04.trans e5)) drop_at
      have hd5 := B5 d _ (drop_get hd npd)
      have hp5 : (upd H5 p (.ins cC dx (putF "letters" (.int n) []))) p = some (.ins cC dx (putF "letters" (.int n) [])) := upd_same
      generalize upd H5 p (.ins cC dx (putF "letters" (.int n) [])) = H6 at B5 hd5 hp5
      -- the copy
      have copy : EvP (tLockE (tDcT (iKeys (tVar 2)) (gName 3) (tVar 3) (tDGet (tVar 2) (tVar 3)) [3])) [some (V.ref p), some (V.int n), some (V.ref d), u, none] H6 (DicV fun kv2 => ∀ j, valV kv2 j = valV kvs j) := by
        intro H7 e7 Q' kq
        have hd7 := e7 d _ hd5
        refine ⟨d, .dT kvs, hd7, trivial, fun od2 => ?_⟩
        refine ⟨_, rfl, d, od2, rfl, .inr ⟨kvs, upd_same, fun N hN => ?_⟩⟩
        refine ⟨fun i m H8 => m = kvs.length - i ∧ i ≤ kvs.length ∧ Ex (upd H7 d (.frz od2 (.dT kvs))) H8 ∧ ∃ acc, H8 N = some (.dT acc) ∧ acc.length ≤ i ∧ Upto kvs i acc,
          ⟨kvs.length, by omega, Nat.zero_le _, Ex.new hN, [], upd_same, Nat.le_refl _, upto_nil kvs⟩, ?_⟩
        rintro i m H8 ⟨rfl, hi, e8, acc, hacc, hlen, hval⟩
        have hd8 := e8 d _ upd_same
        by_cases lt : i < kvs.length
        · refine .inr ⟨⟨hd8, lt⟩, fun H9 => Ex (upd H7 d (.frz od2 (.dT kvs))) H9 ∧ ∃ acc, H9 N = some (.dT acc) ∧ acc.length ≤ i + 1 ∧ Upto kvs (i + 1) acc,
            fun H9 h9 => ⟨kvs.length - (i + 1), by omega, rfl, lt, h9⟩, ?_⟩
          rintro x H9 ⟨rfl, kk, vv, q, hkv, rfl, hq⟩
          obtain ⟨v2, hv2⟩ := valV_some (List.mem_of_getElem? hkv)
          refine ⟨rfl, _, rfl, _, rfl, _, rfl, d, v2, rfl, .inr ⟨kvs, kk, q, .inr ⟨od2, hd8⟩, rfl, hq, hv2.symm⟩, acc, kk, q, rfl, hq, hacc, sz_lt (by omega), Ex.mut e8 hN, putK acc kk v2, upd_same, ?_, put_turn hkv hv2 hval⟩
          have := length_putK acc kk v2
          omega
        · have ei : i = kvs.length := by omega
          subst ei
          refine .inl ⟨⟨hd8, Nat.le_refl _⟩, hd8, kq _ _ (unlock_ex hd7 e8) ⟨N, acc, rfl, ?_, put_all hval⟩⟩
          have nd : N ≠ d := fun z => by
            subst z
            rw [upd_same] at hN
            cases hN
          rw [upd_ne nd]
          exact hacc
      refine s_fldP copy (ep_vi rfl).ev hp5 T.clC T.nChanges (by show 1 < 1000; decide) fun v7 H7 e7 hv7 => ?_
      obtain ⟨d2, kv2, rfl, hd2, hval⟩ := hv7
      have n2 : d2 ≠ p := ne_of hd2 (e7 p _ hp5) (by intro z; cases z)
      refine k _ (Ex.mut (B5.trans e7) drop_at) ⟨p, dx, d2, kv2, rfl, upd_same, by rw [upd_ne n2]; exact hd2, fun l x r hl hx hr' => ?_⟩
      rw [hval]
      exact good l x r hl hx hr'
end
end Sd

set_option Elab.async false
set_option linter.all false
set_option maxRecDepth 100000
set_option maxHeartbeats 4000000
namespace Sd
open PySem PySem.Spec PyProof.Rows L2 Evl

/-! ### the dict of changes while it grows -/
abbrev Mach.n (M : Mach) : Int := M.m * (M.s + 1)
def Snd (M : Mach) (kvs : List (List Key × V)) : Prop := ∀ e ∈ kvs, ∃ l x r y, e = (key3 l x r, V.int y) ∧ chg M l x r = some y ∧ In M.n l ∧ In M.n x ∧ In M.n r
def Has (kvs : List (List Key × V)) (l x r : Int) : Prop := ∃ u, valV kvs (key3 l x r) = some u
theorem has_put {kvs : List (List Key × V)} {l x r : Int} (k : List Key) (v : V) (h : Has kvs l x r) : Has (putK kvs k v) l x r := by
  obtain ⟨u, hu⟩ := h
  unfold Has
  rw [valV_put]
  by_cases e : key3 l x r = k
  · rw [if_pos e]
    exact ⟨v, rfl⟩
  · rw [if_neg e]
    exact ⟨u, hu⟩
theorem has_new (kvs : List (List Key × V)) (l x r : Int) (v : V) : Has (putK kvs (key3 l x r) v) l x r := ⟨v, by rw [valV_put, if_pos rfl]⟩
theorem snd_put {M : Mach} {kvs : List (List Key × V)} {l x r y : Int} (h : Snd M kvs) (hc : chg M l x r = some y) (hl : In M.n l) (hx : In M.n x) (hr : In M.n r) : Snd M (putK kvs (key3 l x r) (.int y)) := fun e he => by
  unfold putK at he
  split at he
  · obtain ⟨e0, h0, rfl⟩ := List.mem_map.mp he
    by_cases q : e0.1 = key3 l x r
    · rw [if_pos q, q]
      exact ⟨l, x, r, y, rfl, hc, hl, hx, hr⟩
    · rw [if_neg q]
      exact h e0 h0
  · rcases List.mem_append.mp he with he | he
    · exact h e he
    · rw [List.mem_singleton.mp he]
      exact ⟨l, x, r, y, rfl, hc, hl, hx, hr⟩
/-- the pair (b, c) of the row (q, a) is in -/
def Pair (M : Mach) (kvs : List (List Key × V)) (q a v b c : Int) : Prop := Has kvs b (ltr M.m a q) c ∧ (v = 1 → Has kvs (ltr M.m a q) b c) ∧ (v ≠ 1 → Has kvs c b (ltr M.m a q))
def More (kvs kvs' : List (List Key × V)) : Prop := ∀ l x r, Has kvs l x r → Has kvs' l x r
theorem More.refl (kvs : List (List Key × V)) : More kvs kvs := fun _ _ _ h => h
theorem More.trans {a b c : List (List Key × V)} (h : More a b) (k : More b c) : More a c := fun l x r q => k l x r (h l x r q)
theorem more_put (kvs : List (List Key × V)) (k : List Key) (v : V) : More kvs (putK kvs k v) := fun _ _ _ h => has_put k v h
theorem Pair.more {M : Mach} {kvs kvs' : List (List Key × V)} {q a v b c : Int} (h : Pair M kvs q a v b c) (m : More kvs kvs') : Pair M kvs' q a v b c := ⟨m _ _ _ h.1, fun e => m _ _ _ (h.2.1 e), fun e => m _ _ _ (h.2.2 e)⟩
def Done (M : Mach) (kvs : List (List Key × V)) (q a : Int) : Prop := ∀ w v q', M.at q a = some (w, v, q') → ∀ b c, 0 ≤ b → b < M.m → 0 ≤ c → c < M.m → Pair M kvs q a v b c
theorem Done.more {M : Mach} {kvs kvs' : List (List Key × V)} {q a : Int} (h : Done M kvs q a) (m : More kvs kvs') : Done M kvs' q a := fun w v q' e b c b0 b1 c0 c1 => (h w v q' e b c b0 b1 c0 c1).more m
theorem n_pos {M : Mach} (O : M.Ok) : M.m ≤ M.n ∧ M.n ≤ 48 := by
  have m2 := O.m2
  have m8 := O.m8
  have s1 := O.s1
  have s5 := O.s5
  have h1 : M.m * 1 ≤ M.m * (M.s + 1) := Int.mul_le_mul_of_nonneg_left (by omega) (by omega)
  have h2 : M.m * (M.s + 1) ≤ 8 * (M.s + 1) := Int.mul_le_mul_of_nonneg_right m8 (by omega)
  rw [Int.mul_one] at h1
  refine ⟨h1, ?_⟩
  show M.m * (M.s + 1) ≤ 48
  omega
theorem in_mark {M : Mach} (O : M.Ok) {b : Int} (b0 : 0 ≤ b) (b1 : b < M.m) : In M.n b := ⟨b0, by have := (n_pos O).1; omega⟩
theorem in_ltr {M : Mach} (O : M.Ok) {a q : Int} (q0 : 0 ≤ q) (q1 : q < M.s) (a0 : 0 ≤ a) (a1 : a < M.m) : In M.n (ltr M.m a q) := by
  have h := ltr_bd (s := M.s) (by have := O.m2; omega) q0 q1 a0 a1
  have := O.m2
  exact ⟨by omega, h.2⟩
/-- when every row is in: the dict is the changes -/
theorem good_of {M : Mach} {kvs : List (List Key × V)} (O : M.Ok) (h : Snd M kvs) (d : ∀ q a, 0 ≤ q → q < M.s → 0 ≤ a → a < M.m → Done M kvs q a) : Good M.n (chF M) kvs := fun l x r hl hx hr => by
  have known : ∀ u, valV kvs (key3 l x r) = some u → ∃ y, u = V.int y ∧ chg M l x r = some y := fun u hu => by
    obtain ⟨l', x', r', y, e, hc, _⟩ := h _ (valV_mem hu)
    obtain ⟨rfl, rfl, rfl⟩ := key3_inj (congrArg Prod.fst e)
    exact ⟨y, congrArg Prod.snd e, hc⟩
  unfold chF
  cases hc : chg M l x r with
  | none =>
    cases hv : valV kvs (key3 l x r) with
    | none => rfl
    | some u =>
      obtain ⟨y, _, e⟩ := known u hv
      rw [hc] at e
      cases e
  | some y =>
    obtain ⟨q, a, b, c, w, v, q', q0, q1, a0, a1, b0, b1, c0, c1, ha, hw⟩ := chg_some O hl.1 hx.1 hr.1 hl.2 hx.2 hr.2 hc
    have pr := d q a q0 q1 a0 a1 w v q' ha b c b0 b1 c0 c1
    have has : Has kvs l x r := by
      rcases hw with ⟨rfl, rfl, rfl⟩ | ⟨hv, rfl, rfl, rfl⟩ | ⟨hv, rfl, rfl, rfl⟩
      · exact pr.1
      · exact pr.2.1 hv
      · exact pr.2.2 hv
    obtain ⟨u, hu⟩ := has
    obtain ⟨y', e1, e2⟩ := known u hu
    rw [hc] at e2
    rw [hu, e1, ← Option.some.inj e2]
    rfl
theorem kok_of {M : Mach} {kvs : List (List Key × V)} (O : M.Ok) (h : Snd M kvs) : KOk M.n kvs := fun e he => by
  obtain ⟨l, x, r, y, e1, hc, hl, hx, hr⟩ := h e he
  have := chg_bd O hx.1 hc
  exact ⟨l, x, r, y, e1, hl, hx, hr, this⟩

/-! ### the stair as an object -/
def stairG (u : V) : List (Str × V) := putF "upper" u []
def stairF (u c : V) : List (Str × V) := putF "lower" c (stairG u)
theorem n5 : ¬ (("upper" : Str) = "lower") := by decide +kernel
theorem stairG_upper (u : V) : (stairG u).lookup ("upper" : Str) = some u := by
  unfold stairG
  rw [lookup_putF, if_pos rfl]
theorem stairG_no {u : V} {x : Str} (h : ¬ x = "upper") : (stairG u).lookup x = none := by
  unfold stairG
  rw [lookup_putF, if_neg h]
  rfl
theorem stairF_upper (u c : V) : (stairF u c).lookup ("upper" : Str) = some u := by
  unfold stairF
  rw [lookup_putF, if_neg n5, stairG_upper]
theorem stairF_lower (u c : V) : (stairF u c).lookup ("lower" : Str) = some c := by
  unfold stairF
  rw [lookup_putF, if_pos rfl]
theorem stairF_no {u c : V} {x : Str} (h0 : ¬ x = "lower") (h : ¬ x = "upper") : (stairF u c).lookup x = none := by
  unfold stairF
  rw [lookup_putF, if_neg h0, stairG_no h]
theorem drop_tape {K : PySem.W.Frag} {cT : Addr} {M : Mach} {p : Addr} {H : Hp} {u : HO} {v : V} (hp : H p = some u) (nt : ∀ ys, u ≠ .tup ys) (nf : ∀ o w, u ≠ .frz o w) (nl : ∀ ys, u ≠ .lst ys) (ni : ∀ dx l, u ≠ .ins cT dx (tapeF M.m M.s l)) (h : TapeV K cT M v H) : TapeV K cT M v (drop p H) := by
  obtain ⟨a, dx, l, vs, rfl, h1, h2, h3⟩ := h
  exact ⟨a, dx, l, vs, rfl, drop_get h1 (ne_of h1 hp fun z => ni _ _ z.symm), drop_get h2 (ne_of h2 hp fun z => nl _ z.symm), drop_rows hp nt nf h3⟩

section
variable {P : Program} {w : World} {K : PySem.W.Frag} {mg : Str → Option Value} {base : Heap} {f : Addr} {fd : FuncData} {cT cC cS : Addr}
/-- self.upper -/
theorem ep_upper {σ : L2.St} {H : Hp} {ta : TE} {M : Mach} {p dx : Addr} {fs : List (Str × V)} {u : V} (T : Txt K mg cT cC cS) (ha : EvP ta σ H (Is (.ref p))) (hp : H p = some (.ins cS dx fs)) (hf : fs.lookup ("upper" : Str) = some u) (hu : TapeV K cT M u H) : EvP (tFld K ta "upper") σ H (TapeV K cT M) :=
  ep_fld ha fun x H1 e hx => ⟨p, cS, dx, _, _, hx, e p _ hp, T.clS, T.nUpper, hf, Mono.up e hu⟩
/-! ### letter -/
def spLetter (K : PySem.W.Frag) (cT cS : Addr) : Sp := fun vs H Q _ => ∃ (p dx : Addr) (fs : List (Str × V)) (u : V) (M : Mach) (a q : Int), vs = [.ref p, .int a, .int q] ∧ H p = some (.ins cS dx fs) ∧ fs.lookup ("upper" : Str) = some u ∧ M.Ok ∧ TapeV K cT M u H ∧ ∀ H', Ex H H' → Q (.int (ltr M.m a q)) H'
theorem scLetter : FnScope ["self", "mark", "state"] ["self", "mark", "state"] (defScope sLetter) := ⟨rfl, rfl, rfl, by decide +kernel, rfl, by decide +kernel, by decide +kernel⟩
theorem ok_letter (F : Fun K "letter" "CellStair.letter" sLetter f fd) (T : Txt K mg cT cC cS) (D : Dfs K mg cT cC cS) : FnOk P w K mg base CX0 2 f fd ["self", "mark", "state"] (spLetter K cT cS) := by
  obtain ⟨fL, fdL, FL, bL, gL⟩ := D.ltr
  have GL : FnOk P w K mg base CX0 1 fL fdL ["marks", "mark", "state"] spLtr := ok_ltr FL
  refine F.ok scLetter (fun vs H Q E h => ?_) (fun cdv A outer s H vs Q E hr h => ?_)
  · obtain ⟨p, dx, fs, u, M, a, q, rfl, _⟩ := h
    rfl
  · obtain ⟨p, dx, fs, u, M, a, q, rfl, hp, hf, O, hu, k⟩ := h
    refine ⟨_, pss_one (ps_ret (pe_call GL hr rfl gL FL.kp bL .nil pass0 (pa_cons (pe_fld (pe_fld (pv 0) rfl) rfl) (pa_cons (pv 1) (pa_cons (pv 2) pa_nil))))), ?_⟩
    have m2 := O.m2
    have m8 := O.m8
    refine s_retP (P := IsI (ltr M.m a q)) (ep_call (epa_cons (ep_marks T (ep_upper T (ep_vi rfl) hp hf hu)) (epa_cons (ep_vi rfl) (epa_cons (ep_vi rfl) epa_nil))) fun vs H1 _ pa Q' E' kq => ?_) fun v H1 e1 hv => ?_
    · obtain ⟨_, _, _, rfl, e1, e2, e3⟩ := all3 pa
      cases e1
      cases e2
      cases e3
      exact ⟨M.m, a, q, rfl, by omega, by omega, fun H3 e3 => kq _ H3 e3 rfl⟩
    · rw [hv]
      exact k H1 e1
/-- a call of self.letter -/
theorem ep_letter {σ : L2.St} {H : Hp} {to ta tb : TE} {M : Mach} {p dx : Addr} {fs : List (Str × V)} {u : V} {a q : Int} {E : XK} (O : M.Ok) (ho : EvP to σ H (Is (.ref p))) (hp : H p = some (.ins cS dx fs)) (hf : fs.lookup ("upper" : Str) = some u) (hu : TapeV K cT M u H) (hm : fs.lookup ("letter" : Str) = none) (ha : EvP ta σ H (IsI a)) (hb : EvP tb σ H (IsI q)) :
    EvP (tMeth cS "letter" (spLetter K cT cS) [] E to (tCons ta (tCons tb tNil))) σ H (IsI (ltr M.m a q)) :=
  ep_meth ho (fun x H1 e hx => ⟨p, dx, fs, hx, e p _ hp, hm⟩) (epa_cons ha (epa_cons hb epa_nil)) fun x vs H1 e hx pa Q' E' kq => by
    obtain ⟨_, _, rfl, e1, e2⟩ := all2 pa
    cases hx
    cases e1
    cases e2
    exact ⟨p, dx, fs, u, M, a, q, rfl, e p _ hp, hf, O, Mono.up e hu, fun H3 e3 => kq _ H3 e3 rfl⟩
end
end Sd

set_option Elab.async false
set_option linter.all false
set_option maxRecDepth 100000
set_option maxHeartbeats 4000000
namespace Sd
open PySem PySem.Spec PyProof.Rows L2 Evl
section
variable {K : PySem.W.Frag} {σ : L2.St} {H : Hp} {td ty tv : TE} {D : Ends}
/-- d[l, x, r] = y -/
theorem s_dputT {d : Addr} {kvs : List (List Key × V)} {l x r y : Int} (hd : H d = some (.dT kvs)) (hz : kvs.length ≤ 90000) (hv : EvP tv σ H (IsI y)) (ho : EvP td σ H (Is (.ref d))) (hk : EvP ty σ H (TupN [l, x, r])) (k : ∀ H1, Ex H H1 → D.nx σ (upd H1 d (.dT (putK kvs (key3 l x r) (.int y))))) :
    sDPut td ty tv D σ H := hv.ev H (Ex.refl H) _ fun H1 e1 => ho.ev H1 e1 _ fun H2 e2 => hk H2 (e1.trans e2) _ fun z H3 e3 pz => by
  obtain ⟨b, rfl, hb⟩ := pz
  exact ⟨d, _, rfl, DPut.t (k := key3 l x r) (((e1.trans e2).trans e3) d _ hd) hb (sz_lt (by omega)), k H3 ((e1.trans e2).trans e3)⟩
end
section
variable {P : Program} {w : World} {K : PySem.W.Frag} {mg : Str → Option Value} {base : Heap} {f : Addr} {fd : FuncData} {cT cC cS : Addr}
/-! ### _add -/
def spAdd (K : PySem.W.Frag) (cT cS : Addr) : Sp := fun vs H Q _ => ∃ (p dx d : Addr) (u : V) (M : Mach) (q a : Int) (kvs : List (List Key × V)), vs = [.ref p, .ref d, .int q, .int a] ∧ H p = some (.ins cS dx (stairG u)) ∧ M.Ok ∧ TapeV K cT M u H ∧ H d = some (.dT kvs) ∧ Snd M kvs ∧
  0 ≤ q ∧ q < M.s ∧ 0 ≤ a ∧ a < M.m ∧ kvs.length ≤ 8000 ∧ ∀ H' kvs', Ex (drop d H) H' → H' d = some (.dT kvs') → Snd M kvs' → More kvs kvs' → kvs'.length ≤ kvs.length + 128 → Done M kvs' q a → Q .non H'
theorem scAdd : FnScope ["self", "changes", "state", "mark", "row", "new", "move", "following", "head", "b", "c", "key"] ["self", "changes", "state", "mark"] (defScope sAdd) := ⟨rfl, rfl, rfl, by decide +kernel, rfl, by decide +kernel, by decide +kernel⟩
theorem ok_add (F : Fun K "_add" "CellStair._add" sAdd f fd) (T : Txt K mg cT cC cS) (D : Dfs K mg cT cC cS) : FnOk P w K mg base CX0 3 f fd ["self", "changes", "state", "mark"] (spAdd K cT cS) := by
  obtain ⟨fR, fdR, FR, bR, mR⟩ := D.tRow
  have GR : FnOk P w K mg base CX0 2 fR fdR ["self", "state", "mark"] (spTRow K cT) := ok_tRow FR T D
  obtain ⟨fL, fdL, FL, bL, mL⟩ := D.letter
  have GL : FnOk P w K mg base CX0 2 fL fdL ["self", "mark", "state"] (spLetter K cT cS) := ok_letter FL T D
  refine F.ok scAdd (fun vs H Q E h => ?_) (fun cdv A outer s H vs Q E hr h => ?_)
  · obtain ⟨p, dx, d, u, M, q, a, kvs, rfl, _⟩ := h
    rfl
  · obtain ⟨p, dx, d, u, M, q, a, kvs, rfl, hp, O, hu, hd, snd, q0, q1, a0, a1, hz, k⟩ := h
    refine ⟨_, pss_cons (ps_set (i := 4) scAdd.nd rfl (.inl rfl) (pe_meth (pe_fld (pv 0) rfl) T.clT mR GR hr bR .nil pass0 (pa_cons (pv 2) (pa_cons (pv 3) pa_nil))))
      (pss_cons (ps_if (pt_cmpR op_isN1 (pv 4) pe_non (nomark _)) (pss_one ps_retN) pss_nil)
      (pss_cons (ps_asg (pv 4) (pg_tup (by rfl) (pgs_cons (pg_name (i := 5) scAdd.nd rfl (.inl rfl)) (pgs_cons (pg_name (i := 6) scAdd.nd rfl (.inl rfl)) (pgs_cons (pg_name (i := 7) scAdd.nd rfl (.inl rfl)) pgs_nil)))))
      (pss_cons (ps_set (i := 8) scAdd.nd rfl (.inl rfl) (pe_meth (pv 0) T.clS mL GL hr bL .nil pass0 (pa_cons (pv 3) (pa_cons (pv 2) pa_nil))))
      (pss_one (ps_for PassesOwn.never rfl (pi_range1 rfl T.bRange (pa_cons (pe_fld (pe_fld (pv 0) rfl) rfl) pa_nil)) (pg_name (i := 9) scAdd.nd rfl (.inl rfl))
        (pss_one (ps_for PassesOwn.never rfl (pi_range1 rfl T.bRange (pa_cons (pe_fld (pe_fld (pv 0) rfl) rfl) pa_nil)) (pg_name (i := 10) scAdd.nd rfl (.inl rfl))
          (pss_cons (ps_dput (hu_of hr) (pv 1) (pe_tup (pa_cons (pv 9) (pa_cons (pv 8) (pa_cons (pv 10) pa_nil)))) (pv 5) rfl)
          (pss_cons (ps_set (i := 11) scAdd.nd rfl (.inl rfl) (pe_ifExp (pt_cmpR op_eq (pv 6) pe_int (nomark _)) (pe_tup (pa_cons (pv 8) (pa_cons (pv 9) (pa_cons (pv 10) pa_nil)))) (pe_tup (pa_cons (pv 10) (pa_cons (pv 9) (pa_cons (pv 8) pa_nil))))))
          (pss_one (ps_dput (hu_of hr) (pv 1) (pv 11) (pe_meth (pv 0) T.clS mL GL hr bL .nil pass0 (pa_cons (pv 9) (pa_cons (pv 7) pa_nil))) rfl))))))))))), ?_⟩
    have m2 := O.m2
    have m8 := O.m8
    have nt : ∀ ys, HO.dT kvs ≠ .tup ys := fun _ z => by cases z
    have nf : ∀ o w, HO.dT kvs ≠ .frz o w := fun _ _ z => by cases z
    have nl : ∀ ys, HO.dT kvs ≠ .lst ys := fun _ z => by cases z
    have ni : ∀ dx l, HO.dT kvs ≠ .ins cT dx (tapeF M.m M.s l) := fun _ _ z => by cases z
    have npd : p ≠ d := ne_of hp hd (by intro z; cases z)
    -- what stands beside the dict
    have hpB : drop d H p = some (.ins cS dx (stairG u)) := drop_get hp npd
    have huB : TapeV K cT M u (drop d H) := drop_tape hd nt nf nl ni hu
    have eB : Ex (drop d H) H := drop_ex
    refine s_seq (s_set (P := rowP K (M.at q a)) (ep_row O (ep_upper T (ep_vi rfl) hp (stairG_upper u) hu) (ep_vi rfl) (ep_vi rfl) q0 q1 a0 a1) fun rv H1 e1 hrv => ?_)
    have hd1 := e1 d _ hd
    cases er : M.at q a with
    | none =>
      rw [er] at hrv
      have erv : rv = V.non := hrv
      subst erv
      refine s_seq (s_if (b := true) (et_isN (Po := Is .non) (ep_vi rfl) fun v H2 hv => by rw [hv]; rfl) (fun _ H2 e2 => ?_) fun z => by cases z)
      refine k H2 kvs (eB.trans (e1.trans e2)) (e2 d _ hd1) snd (More.refl kvs) (by omega) fun w v q' e => ?_
      rw [er] at e
      cases e
    | some t =>
      obtain ⟨w0, v0, q'⟩ := t
      rw [er] at hrv
      have ro := at_ok O q a
      rw [er] at ro
      obtain ⟨w1, w2, vv, q2, q3⟩ := ro
      have hrv : TupI K [w0, v0, q'] rv H1 := hrv
      refine s_seq (s_if (b := false) (et_isN (ep_var rfl hrv) fun v H2 hv => by obtain ⟨_, rfl, _⟩ := hv; rfl) (fun z => by cases z) fun _ H2 e2 => ?_)
      refine s_seq (s_unpack3 (P1 := IsI w0) (P2 := IsI v0) (P3 := IsI q') (ep_var rfl (tupI_P (Mono.up e2 hrv))) fun x1 x2 x3 H3 e3 p1 p2 p3 => ?_)
      have p1 : x1 = V.int w0 := p1
      have p2 : x2 = V.int v0 := p2
      have p3 : x3 = V.int q' := p3
      subst p1 p2 p3
      have e13 := (e1.trans e2).trans e3
      refine s_seq (s_setI (v := .int (ltr M.m a q)) (ep_letter O (ep_vi rfl) (e13 p _ hp) (stairG_upper u) (Mono.up e13 hu) (stairG_no (by decide +kernel)) (ep_vi rfl) (ep_vi rfl)) fun H4 e4 => ?_)
      have e14 := e13.trans e4
      generalize hh : ltr M.m a q = h at *
      have ih : In M.n h := by
        rw [← hh]
        exact in_ltr O q0 q1 a0 a1
      -- the marks on both sides
      have marks : ∀ (σ : L2.St) (H5 : Hp), σ[0]? = some (some (.ref p)) → Ex (drop d H) H5 → EvP (tFld K (tFld K (tVar 0) "upper") "marks") σ H5 (IsI M.m) := fun σ H5 hs e5 => ep_marks T (ep_upper T (ep_vi hs) (e5 p _ hpB) (stairG_upper u) (Mono.up e5 huB))
      refine s_forR1 (n := M.m) (ea_cons (marks _ H4 rfl (eB.trans e14)).ev ea_nil) (by omega) (fun i σ H5 => ∃ (x9 x10 x11 : Option V) (kv : List (List Key × V)), σ = [some (V.ref p), some (V.ref d), some (V.int q), some (V.int a), some rv, some (V.int w0), some (V.int v0), some (V.int q'), some (V.int h), x9, x10, x11] ∧
        Ex (drop d H) H5 ∧ H5 d = some (.dT kv) ∧ Snd M kv ∧ More kvs kv ∧ kv.length ≤ kvs.length + 16 * i ∧ ∀ b c : Int, 0 ≤ b → b < i → 0 ≤ c → c < M.m → Pair M kv q a v0 b c)
        (fun H5 e5 => ⟨none, none, none, kvs, rfl, eB.trans (e14.trans e5), e5 d _ (e14 d _ hd), snd, More.refl kvs, by omega, fun b c b0 b1 => by omega⟩) ?_ ?_
      · rintro i σ H5 hi ⟨x9, x10, x11, kv, rfl, e5, hd5, snd5, more5, len5, done5⟩
        refine s_forR1 (n := M.m) (ea_cons (marks _ H5 rfl e5).ev ea_nil) (by omega) (fun j σ H6 => ∃ (x10 x11 : Option V) (kv : List (List Key × V)), σ = [some (V.ref p), some (V.ref d), some (V.int q), some (V.int a), some rv, some (V.int w0), some (V.int v0), some (V.int q'), some (V.int h), some (V.int (i : Int)), x10, x11] ∧
          Ex (drop d H) H6 ∧ H6 d = some (.dT kv) ∧ Snd M kv ∧ More kvs kv ∧ kv.length ≤ kvs.length + 16 * i + 2 * j ∧ (∀ b c : Int, 0 ≤ b → b < i → 0 ≤ c → c < M.m → Pair M kv q a v0 b c) ∧ ∀ c : Int, 0 ≤ c → c < j → Pair M kv q a v0 i c)
          (fun H6 e6 => ⟨x10, x11, kv, rfl, e5.trans e6, e6 d _ hd5, snd5, more5, by omega, done5, fun c c0 c1 => by omega⟩) ?_ ?_
        · rintro j σ H6 hj ⟨x10, x11, kv6, rfl, e6, hd6, snd6, more6, len6, done6, row6⟩
          have ii : In M.n (i : Int) := in_mark O (by omega) hi
          have ij : In M.n (j : Int) := in_mark O (by omega) hj
          -- changes[b, head, c] = new
          refine s_seq (s_dputT (l := (i : Int)) (x := h) (r := (j : Int)) (y := w0) hd6 (by omega) (ep_vi rfl) (ep_vi rfl) (ep_tupN (is := [(i : Int), h, (j : Int)]) (epa_cons (ep_vi rfl) (epa_cons (ep_vi rfl) (epa_cons (ep_vi rfl) epa_nil))) (by show 3 ≤ 1000; decide)) fun H7 e7 => ?_)
          have snd7 : Snd M (putK kv6 (key3 (i : Int) h (j : Int)) (.int w0)) := by
            refine snd_put snd6 ?_ ii ih ij
            rw [← hh, chg_mid O q0 q1 a0 a1 hi hj, er]
            rfl
          have l7 := length_putK kv6 (key3 (i : Int) h (j : Int)) (.int w0)
          have hd8 : (upd H7 d (.dT (putK kv6 (key3 (i : Int) h (j : Int)) (.int w0)))) d = some (.dT (putK kv6 (key3 (i : Int) h (j : Int)) (.int w0))) := upd_same
          have e8 : Ex (drop d H) (upd H7 d (.dT (putK kv6 (key3 (i : Int) h (j : Int)) (.int w0)))) := Ex.mut (e6.trans e7) drop_at
          have more7 := more_put kv6 (key3 (i : Int) h (j : Int)) (.int w0)
          have has1 := has_new kv6 (i : Int) h (j : Int) (.int w0)
          generalize putK kv6 (key3 (i : Int) h (j : Int)) (.int w0) = kv7 at *
          generalize upd H7 d (.dT kv7) = H8 at *
          -- key = ..; changes[key] = self.letter(b, following)
          have fin : ∀ (l r y : Int) (sv : V) (H9 H10 : Hp), TupN [l, (i : Int), r] sv H9 → Ex H8 H9 → Ex H9 H10 → chg M l i r = some (ltr M.m i q') → In M.n l → In M.n r → (∀ kv8, Has kv8 (i : Int) h (j : Int) → Has kv8 l i r → Pair M kv8 q a v0 i j) →
              ∃ (x10 x11 : Option V) (kv : List (List Key × V)), [some (V.ref p), some (V.ref d), some (V.int q), some (V.int a), some rv, some (V.int w0), some (V.int v0), some (V.int q'), some (V.int h), some (V.int (i : Int)), some (V.int (j : Int)), some sv] = [some (V.ref p), some (V.ref d), some (V.int q), some (V.int a), some rv, some (V.int w0), some (V.int v0), some (V.int q'), some (V.int h), some (V.int (i : Int)), x10, x11] ∧
                Ex (drop d H) (upd H10 d (.dT (putK kv7 (key3 l i r) (.int (ltr M.m i q'))))) ∧ (upd H10 d (.dT (putK kv7 (key3 l i r) (.int (ltr M.m i q'))))) d = some (.dT kv) ∧ Snd M kv ∧ More kvs kv ∧ kv.length ≤ kvs.length + 16 * i + 2 * (j + 1 : Nat) ∧
                (∀ b c : Int, 0 ≤ b → b < i → 0 ≤ c → c < M.m → Pair M kv q a v0 b c) ∧ ∀ c : Int, 0 ≤ c → c < (j + 1 : Nat) → Pair M kv q a v0 i c := fun l r y sv H9 H10 hsv e9 e10 hc il ir pr => by
            have l8 := length_putK kv7 (key3 l i r) (.int (ltr M.m i q'))
            have m8 := more7.trans (more_put kv7 (key3 l i r) (.int (ltr M.m i q')))
            refine ⟨_, _, _, rfl, Ex.mut ((e8.trans e9).trans e10) drop_at, upd_same, snd_put snd7 hc il ii ir, more6.trans m8, by omega, fun b c b0 b1 c0 c1 => (done6 b c b0 b1 c0 c1).more m8, fun c c0 c1 => ?_⟩
            by_cases ec : c = j
            · subst ec
              exact pr _ (has_put _ _ has1) (has_new kv7 l i r _)
            · exact (row6 c c0 (by omega)).more m8
          have letter : ∀ (sv : V) (H9 : Hp), Ex H8 H9 → EvP (tMeth cS "letter" (spLetter K cT cS) [] E0 (tVar 0) (tCons (tVar 9) (tCons (tVar 7) tNil))) [some (V.ref p), some (V.ref d), some (V.int q), some (V.int a), some rv, some (V.int w0), some (V.int v0), some (V.int q'), some (V.int h), some (V.int (i : Int)), some (V.int (j : Int)), some sv] H9 (IsI (ltr M.m i q')) := fun sv H9 e9 =>
            ep_letter O (ep_vi rfl) ((e8.trans e9) p _ hpB) (stairG_upper u) (Mono.up (e8.trans e9) huB) (stairG_no (by decide +kernel)) (ep_vi rfl) (ep_vi rfl)
          by_cases hv1 : v0 = 1
          · refine s_seq (s_set (P := TupN [h, (i : Int), (j : Int)]) (ep_if (b := true) (et_is (et_P (ep_eqI (ep_vi (v := .int v0) rfl) ep_c)) (decide_eq_true hv1)) (fun _ => ep_tupN (is := [h, (i : Int), (j : Int)]) (epa_cons (ep_vi rfl) (epa_cons (ep_vi rfl) (epa_cons (ep_vi rfl) epa_nil))) (by show 3 ≤ 1000; decide)) fun z => by cases z) fun sv H9 e9 hsv => ?_)
            refine s_dputT (l := h) (x := (i : Int)) (r := (j : Int)) (y := ltr M.m i q') (e9 d _ hd8) (by omega) (letter sv H9 e9) (ep_vi rfl) (ep_var rfl hsv) fun H10 e10 => fin h j 0 sv H9 H10 hsv e9 e10 ?_ ih ij fun kv8 h1 h2 => ?_
            · rw [← hh, chg_right O q0 q1 a0 a1 hi hj, er]
              show (if v0 = 1 then some (ltr M.m i q') else none) = some (ltr M.m i q')
              rw [if_pos hv1]
            · unfold Pair
              rw [hh]
              exact ⟨h1, fun _ => h2, fun z => absurd hv1 z⟩
          · refine s_seq (s_set (P := TupN [(j : Int), (i : Int), h]) (ep_if (b := false) (et_is (et_P (ep_eqI (ep_vi (v := .int v0) rfl) ep_c)) (decide_eq_false hv1)) (fun z => by cases z) fun _ => ep_tupN (is := [(j : Int), (i : Int), h]) (epa_cons (ep_vi rfl) (epa_cons (ep_vi rfl) (epa_cons (ep_vi rfl) epa_nil))) (by show 3 ≤ 1000; decide)) fun sv H9 e9 hsv => ?_)
            refine s_dputT (l := (j : Int)) (x := (i : Int)) (r := h) (y := ltr M.m i q') (e9 d _ hd8) (by omega) (letter sv H9 e9) (ep_vi rfl) (ep_var rfl hsv) fun H10 e10 => fin j h 0 sv H9 H10 hsv e9 e10 ?_ ij ih fun kv8 h1 h2 => ?_
            · rw [← hh, chg_left O q0 q1 a0 a1 hi hj, er]
              show (if v0 = 1 then none else some (ltr M.m i q')) = some (ltr M.m i q')
              rw [if_neg hv1]
            · unfold Pair
              rw [hh]
              exact ⟨h1, fun z => absurd z hv1, fun _ => h2⟩
        · rintro σ H6 ⟨x10, x11, kv6, rfl, e6, hd6, snd6, more6, len6, done6, row6⟩
          refine ⟨_, _, _, kv6, rfl, e6, hd6, snd6, more6, by omega, fun b c b0 b1 c0 c1 => ?_⟩
          by_cases eb : b = i
          · subst eb
            exact row6 c c0 (by omega)
          · exact done6 b c b0 (by omega) c0 c1
      · rintro σ H5 ⟨x9, x10, x11, kv, rfl, e5, hd5, snd5, more5, len5, done5⟩
        refine k H5 kv e5 hd5 snd5 more5 (by omega) fun w v q'' e b c b0 b1 c0 c1 => ?_
        rw [er] at e
        have ev : v0 = v := congrArg (fun t : Int × Int × Int => t.2.1) (Option.some.inj e)
        rw [← ev]
        exact done5 b c b0 (by omega) c0 c1
end
end Sd

set_option Elab.async false
set_option linter.all false
set_option maxRecDepth 100000
set_option maxHeartbeats 4000000
namespace Sd
open PySem PySem.Spec PyProof.Rows L2 Evl
section
variable {K : PySem.W.Frag} {σ : L2.St} {H : Hp} {P : VP}
/-- C(..): the new instance, from __init__'s promise -/
theorem ep_make {C : Addr} {sp : Sp} {dvs : List V} {E : XK} {t : TA} {Ps : List VP} [m : MonoA Ps] (h : EvPA t σ H Ps)
    (hs : ∀ (vs : List V) (x dx : Addr) (H2 : Hp), Ex H (drop x H2) → AllP Ps vs (drop x H2) → H2 x = some (.ins C dx []) → ∀ (Q : VK) (E : XK), (∀ H3, Ex (drop x H2) H3 → P (.ref x) H3 → Q .non H3) → sp (.ref x :: (vs ++ dvs)) H2 Q E) :
    EvP (tMake C sp dvs E t) σ H P := fun H0 e Q q => h H0 e _ fun vs H1 e1 pa x dx nx ndx ne => by
  have up2 : Ex H1 (drop x (upd (upd H1 dx (.own x)) x (.ins C dx []))) := fun b o hb => by
    have n1 : b ≠ x := ne_of_none hb nx
    have n2 : b ≠ dx := ne_of_none hb ndx
    refine drop_get ?_ n1
    rw [upd_ne n1, upd_ne n2]
    exact hb
  exact hs vs x dx _ ((e.trans e1).trans up2) (m.up up2 pa) upd_same _ _ fun H3 e3 p3 => ⟨rfl, q _ H3 ((e1.trans up2).trans e3) p3⟩
end
def StairV (K : PySem.W.Frag) (cT cC cS : Addr) (M : Mach) : VP := fun v H => ∃ p dx u c, v = .ref p ∧ H p = some (.ins cS dx (stairF u c)) ∧ TapeV K cT M u H ∧ CellsV cC M.n (chF M) c H
instance stairMono {K : PySem.W.Frag} {cT cC cS : Addr} {M : Mach} : Mono (StairV K cT cC cS M) := ⟨fun e ⟨p, dx, u, c, h1, h2, h3, h4⟩ => ⟨p, dx, u, c, h1, e p _ h2, Mono.up e h3, Mono.up e h4⟩⟩
section
variable {P : Program} {w : World} {K : PySem.W.Frag} {mg : Str → Option Value} {base : Heap} {f : Addr} {fd : FuncData} {cT cC cS : Addr}
/-! ### CellStair.__init__ -/
def spSInit (K : PySem.W.Frag) (cT cC cS : Addr) : Sp := fun vs H Q _ => ∃ (p dx : Addr) (u : V) (M : Mach), vs = [.ref p, u] ∧ H p = some (.ins cS dx []) ∧ M.Ok ∧ TapeV K cT M u (drop p H) ∧ ∀ H', Ex (drop p H) H' → StairV K cT cC cS M (.ref p) H' → Q .non H'
theorem scSInit : FnScope ["self", "machine", "letters", "changes", "state", "mark"] ["self", "machine"] (defScope sSInit) := ⟨rfl, rfl, rfl, by decide +kernel, rfl, by decide +kernel, by decide +kernel⟩
theorem ok_sInit (F : Fun K "__init__" "CellStair.__init__" sSInit f fd) (T : Txt K mg cT cC cS) (D : Dfs K mg cT cC cS) : FnOk P w K mg base CX0 4 f fd ["self", "machine"] (spSInit K cT cC cS) := by
  obtain ⟨fA, fdA, FA, bA, mA⟩ := D.add
  have GA : FnOk P w K mg base CX0 3 fA fdA ["self", "changes", "state", "mark"] (spAdd K cT cS) := ok_add FA T D
  obtain ⟨fC, fdC, FC, bC, mkC⟩ := D.cInit
  have GC : FnOk P w K mg base CX0 2 fC fdC ["self", "letters", "changes"] (spCInit cC) := ok_cInit FC T D
  obtain ⟨tL, cL⟩ := T.cLetters
  refine F.ok scSInit (fun vs H Q E h => ?_) (fun cdv A outer s H vs Q E hr h => ?_)
  · obtain ⟨p, dx, u, M, rfl, _⟩ := h
    rfl
  · obtain ⟨p, dx, u, M, rfl, hp, O, hu, k⟩ := h
    refine ⟨_, pss_cons (ps_fld (pv 0) (pv 1) rfl) (pss_cons (ps_set (i := 2) scSInit.nd rfl (.inl rfl) (pe_op op_mul (pe_fld (pv 1) rfl) (pe_op op_add (pe_fld (pv 1) rfl) pe_int)))
      (pss_cons (ps_if (pt_cmpR op_gt (pv 2) (pe_glob (by rfl) cL (v := .int 300) ⟨_, rfl⟩) (nomark _)) pss_never pss_nil)
      (pss_cons (ps_set (i := 3) scSInit.nd rfl (.inl rfl) pe_dnewT)
      (pss_cons (ps_for PassesOwn.never rfl (pi_range1 rfl T.bRange (pa_cons (pe_fld (pv 1) rfl) pa_nil)) (pg_name (i := 4) scSInit.nd rfl (.inl rfl))
        (pss_one (ps_for PassesOwn.never rfl (pi_range1 rfl T.bRange (pa_cons (pe_fld (pv 1) rfl) pa_nil)) (pg_name (i := 5) scSInit.nd rfl (.inl rfl))
          (pss_one (ps_expr (pe_meth (pv 0) T.clS mA GA hr bA .nil pass0 (pa_cons (pv 3) (pa_cons (pv 4) (pa_cons (pv 5) pa_nil)))))))))
      (pss_one (ps_fld (pv 0) (pe_make mkC GC hr rfl T.mC bC .nil pass0 (pa_cons (pv 2) (pa_cons (pv 3) pa_nil))) rfl)))))), ?_⟩
    have m2 := O.m2
    have m8 := O.m8
    have s1 := O.s1
    have s5 := O.s5
    have np := n_pos O
    -- self.upper = machine
    refine s_seq (s_fldP (P := Is u) (ep_vi rfl) (ep_vi rfl).ev hp T.clS T.nUpper (by decide) fun v H1 e1 hv => ?_)
    have ev : v = u := hv
    subst ev
    have B2 : Ex (drop p H) (upd H1 p (.ins cS dx (stairG v))) := Ex.mut (drop_ex.trans e1) drop_at
    have hp2 : (upd H1 p (.ins cS dx (stairG v))) p = some (.ins cS dx (stairG v)) := upd_same
    have eG : putF "upper" v [] = stairG v := rfl
    rw [eG]
    generalize upd H1 p (.ins cS dx (stairG v)) = H2 at *
    have mk : ∀ (σ : L2.St) (H5 : Hp), σ[1]? = some (some v) → Ex (drop p H) H5 → EvP (tFld K (tVar 1) "marks") σ H5 (IsI M.m) := fun σ H5 hs e5 => ep_marks T (ep_var hs (Mono.up e5 hu))
    have st : ∀ (σ : L2.St) (H5 : Hp), σ[1]? = some (some v) → Ex (drop p H) H5 → EvP (tFld K (tVar 1) "states") σ H5 (IsI M.s) := fun σ H5 hs e5 => ep_states T (ep_var hs (Mono.up e5 hu))
    have plus := ep_I0 (g := fun i j => V.int (i + j)) (st [some (V.ref p), some v, none, none, none, none] H2 rfl B2) (ep_c (v := .int 1))
    have lets := ep_I (C := CMul) (g := fun i j => V.int (i * j)) (i := M.m) (j := M.s + 1) (mk [some (V.ref p), some v, none, none, none, none] H2 rfl B2) plus (.inl ⟨by omega, by omega⟩)
    refine s_seq (t := tAsg _ (gName 2)) (s_setI (v := .int M.n) lets fun H3 e3 => ?_)
    refine s_seq (s_if (b := false) (et_is (et_P (ep_I0 (g := fun i j => .bl (decide (j < i))) (ep_vi (v := .int M.n) rfl) ep_c)) (decide_eq_false (by omega))) (fun z => by cases z) fun _ H4 e4 => ?_)
    have B4 := (B2.trans e3).trans e4
    have hp4 := e4 p _ (e3 p _ hp2)
    -- changes = {}
    refine s_seq ?_
    intro d nd
    have npd : d ≠ p := fun z => by
      rw [z, hp4] at nd
      cases nd
    have ndB : drop p H d = none := fresh_back B4 nd
    have B5 : Ex (drop p H) (upd H4 d (.dT [])) := Ex.mut B4 ndB
    have hp5 : (upd H4 d (.dT [])) p = some (.ins cS dx (stairG v)) := by
      rw [upd_ne npd.symm]
      exact hp4
    have hd5 : (upd H4 d (.dT [])) d = some (.dT []) := upd_same
    generalize upd H4 d (.dT []) = H5 at *
    refine s_seq (s_forR1 (n := M.s) (ea_cons (st _ H5 rfl B5).ev ea_nil) (by omega) (fun i σ H6 => ∃ (x4 x5 : Option V) (kv : List (List Key × V)), σ = [some (V.ref p), some v, some (V.int M.n), some (V.ref d), x4, x5] ∧ Ex (drop p H) H6 ∧ H6 p = some (.ins cS dx (stairG v)) ∧ H6 d = some (.dT kv) ∧
      Snd M kv ∧ kv.length ≤ 1024 * i ∧ ∀ q a : Int, 0 ≤ q → q < i → 0 ≤ a → a < M.m → Done M kv q a) (fun H6 e6 => ⟨none, none, [], rfl, B5.trans e6, e6 p _ hp5, e6 d _ hd5, fun e he => by (cases he), Nat.zero_le _, fun q a q0 q1 => by omega⟩) ?_ ?_)
    · rintro i σ H6 hi ⟨x4, x5, kv, rfl, B6, hp6, hd6, snd6, len6, done6⟩
      refine s_forR1 (n := M.m) (ea_cons (mk _ H6 rfl B6).ev ea_nil) (by omega) (fun j σ H7 => ∃ (x5 : Option V) (kv : List (List Key × V)), σ = [some (V.ref p), some v, some (V.int M.n), some (V.ref d), some (V.int (i : Int)), x5] ∧ Ex (drop p H) H7 ∧ H7 p = some (.ins cS dx (stairG v)) ∧ H7 d = some (.dT kv) ∧
        Snd M kv ∧ kv.length ≤ 1024 * i + 128 * j ∧ (∀ q a : Int, 0 ≤ q → q < i → 0 ≤ a → a < M.m → Done M kv q a) ∧ ∀ a : Int, 0 ≤ a → a < j → Done M kv i a) (fun H7 e7 => ⟨x5, kv, rfl, B6.trans e7, e7 p _ hp6, e7 d _ hd6, snd6, by omega, done6, fun a a0 a1 => by omega⟩) ?_ ?_
      · rintro j σ H7 hj ⟨x5, kv7, rfl, B7, hp7, hd7, snd7, len7, done7, row7⟩
        -- self._add(changes, state, mark)
        refine ⟨_, rfl, p, dx, _, rfl, hp7, stairG_no (by decide +kernel), _, rfl, _, rfl, _, rfl, ?_⟩
        refine ⟨p, dx, d, v, M, i, j, kv7, rfl, hp7, O, Mono.up B7 hu, hd7, snd7, by omega, hi, by omega, hj, by omega, fun H8 kv8 e8 hd8 snd8 more8 len8 done8 => ?_⟩
        have B8 : Ex (drop p H) H8 := fun b o hb => by
          have nb : b ≠ d := ne_of_none hb ndB
          exact e8 b o (drop_get (B7 b o hb) nb)
        refine ⟨_, kv8, rfl, B8, e8 p _ (drop_get hp7 npd.symm), hd8, snd8, by omega, fun q a q0 q1 a0 a1 => (done7 q a q0 q1 a0 a1).more more8, fun a a0 a1 => ?_⟩
        by_cases ea : a = j
        · subst ea
          exact done8
        · exact (row7 a a0 (by omega)).more more8
      · rintro σ H7 ⟨x5, kv7, rfl, B7, hp7, hd7, snd7, len7, done7, row7⟩
        refine ⟨_, _, kv7, rfl, B7, hp7, hd7, snd7, by omega, fun q a q0 q1 a0 a1 => ?_⟩
        by_cases eq : q = i
        · subst eq
          exact row7 a a0 (by omega)
        · exact done7 q a q0 (by omega) a0 a1
    · rintro σ H6 ⟨x4, x5, kv, rfl, B6, hp6, hd6, snd6, len6, done6⟩
      have good := good_of O snd6 fun q a q0 q1 a0 a1 => done6 q a q0 (by omega) a0 a1
      have kok := kok_of O snd6
      have c0 : chF M 0 0 0 = 0 := chF_marks (by omega) (by omega) (by omega)
      -- self.lower = Cells(letters, changes)
      refine s_fldP (P := CellsV cC M.n (chF M)) (ep_make (Ps := [IsI M.n, Is (.ref d)]) (epa_cons (ep_vi rfl) (epa_cons (ep_vi rfl) epa_nil)) fun vs x dx' H7 e7 pa hx Q' E' kq => ?_) (ep_vi rfl).ev hp6 T.clS T.nLower (by show 1 < 1000; decide) fun z H7 e7 hz => ?_
      · obtain ⟨_, _, rfl, e1, e2⟩ := all2 pa
        cases e1
        cases e2
        exact ⟨x, dx', d, M.n, chF M, kv, rfl, hx, by omega, by omega, drop_ex d _ (e7 d _ hd6), kok, good, c0, by omega, kq⟩
      · have B8 : Ex (drop p H) (upd H7 p (.ins cS dx (stairF v z))) := Ex.mut (B6.trans e7) drop_at
        have hp7 := e7 p _ hp6
        refine k _ B8 ⟨p, dx, v, z, rfl, upd_same, Mono.up B8 hu, ?_⟩
        obtain ⟨c, dxc, dc, kvc, rfl, h1, h2, h3⟩ := hz
        have nc : c ≠ p := ne_of h1 hp7 fun q => by
          have q1 : dxc = dx ∧ cellsF M.n dc = stairG v := by
            injection q with q1 q2 q3
            exact ⟨q2, q3⟩
          have q4 := cellsF_letters M.n dc
          rw [q1.2, stairG_no (by decide +kernel)] at q4
          cases q4
        have nd : dc ≠ p := ne_of h2 hp7 (by intro z; cases z)
        exact ⟨c, dxc, dc, kvc, rfl, by rw [upd_ne nc]; exact h1, by rw [upd_ne nd]; exact h2, h3⟩

/-! ### down, pace -/
def spDown (K : PySem.W.Frag) (cT cC cS : Addr) : Sp := fun vs H Q _ => ∃ (M : Mach) (c : Cfg) (v u : V), vs = [v, u] ∧ M.Ok ∧ StairV K cT cC cS M v H ∧ CfgV K c u H ∧ CfgOk M c ∧ c.l.length + c.r.length ≤ 300 ∧ ∀ v' H', Ex H H' → TupI K (line M c) v' H' → Q v' H'
theorem scDown : FnScope ["self", "configuration"] ["self", "configuration"] (defScope sDown) := ⟨rfl, rfl, rfl, by decide +kernel, rfl, by decide +kernel, by decide +kernel⟩
theorem ep_supper {σ : L2.St} {H : Hp} {ta : TE} {M : Mach} (T : Txt K mg cT cC cS) (ha : EvP ta σ H (StairV K cT cC cS M)) : EvP (tFld K ta "upper") σ H (TapeV K cT M) :=
  ep_fld ha fun x H1 _ ⟨p, dx, u, c, h1, h2, h3, h4⟩ => ⟨p, cS, dx, _, _, h1, h2, T.clS, T.nUpper, stairF_upper u c, h3⟩
theorem ep_slower {σ : L2.St} {H : Hp} {ta : TE} {M : Mach} (T : Txt K mg cT cC cS) (ha : EvP ta σ H (StairV K cT cC cS M)) : EvP (tFld K ta "lower") σ H (CellsV cC M.n (chF M)) :=
  ep_fld ha fun x H1 _ ⟨p, dx, u, c, h1, h2, h3, h4⟩ => ⟨p, cS, dx, _, _, h1, h2, T.clS, T.nLower, stairF_lower u c, h4⟩
theorem ok_down (F : Fun K "down" "CellStair.down" sDown f fd) (T : Txt K mg cT cC cS) (D : Dfs K mg cT cC cS) : FnOk P w K mg base CX0 3 f fd ["self", "configuration"] (spDown K cT cC cS) := by
  obtain ⟨fE, fdE, FE, bE, gE⟩ := D.ends
  obtain ⟨fT, fdT, FT, bT, gT⟩ := D.ltr
  obtain ⟨fL, fdL, FL, bL, gL⟩ := D.line
  have GL : FnOk P w K mg base CX0 2 fL fdL ["marks", "configuration"] (spLine K) := ok_line FL T FE bE gE FT bT gT
  refine F.ok scDown (fun vs H Q E h => ?_) (fun cdv A outer s H vs Q E hr h => ?_)
  · obtain ⟨M, c, v, u, rfl, _⟩ := h
    rfl
  · obtain ⟨M, c, v, u, rfl, O, hv, hu, C, hz, k⟩ := h
    refine ⟨_, pss_one (ps_ret (pe_call GL hr rfl gL FL.kp bL .nil pass0 (pa_cons (pe_fld (pe_fld (pv 0) rfl) rfl) (pa_cons (pv 1) pa_nil)))), ?_⟩
    have m2 := O.m2
    have m8 := O.m8
    refine s_retP (P := TupI K (line M c)) (ep_call (Ps := [IsI M.m, CfgV K c]) (epa_cons (ep_marks T (ep_supper T (ep_var rfl hv))) (epa_cons (ep_var rfl hu) epa_nil)) fun vs H1 _ pa Q' E' kq => ?_) fun v' H1 e1 hv' => k v' H1 e1 hv'
    obtain ⟨_, u', rfl, e1, hu'⟩ := all2 pa
    cases e1
    refine ⟨M.m, c, u', rfl, by omega, by omega, hu', by omega, fun v' H2 e2 p => kq v' H2 e2 ?_⟩
    have es := line_strip O C
    unfold line at es
    rw [es] at p
    exact p
def spPace (K : PySem.W.Frag) (cT cC cS : Addr) : Sp := fun vs H Q _ => ∃ (M : Mach) (c : Cfg) (v u : V), vs = [v, u] ∧ M.Ok ∧ StairV K cT cC cS M v H ∧ CfgV K c u H ∧ CfgOk M c ∧ ∀ H', Ex H H' → Q (.int (if M.at c.q c.a = none then 0 else 1)) H'
theorem scPace : FnScope ["self", "configuration"] ["self", "configuration"] (defScope sPace) := ⟨rfl, rfl, rfl, by decide +kernel, rfl, by decide +kernel, by decide +kernel⟩
theorem ok_pace (F : Fun K "pace" "CellStair.pace" sPace f fd) (T : Txt K mg cT cC cS) (D : Dfs K mg cT cC cS) : FnOk P w K mg base CX0 4 f fd ["self", "configuration"] (spPace K cT cC cS) := by
  obtain ⟨fS, fdS, FS, bS, mS⟩ := D.tStop
  have GS : FnOk P w K mg base CX0 3 fS fdS ["self", "configuration"] (spTStop K cT) := ok_tStop FS T D
  refine F.ok scPace (fun vs H Q E h => ?_) (fun cdv A outer s H vs Q E hr h => ?_)
  · obtain ⟨M, c, v, u, rfl, _⟩ := h
    rfl
  · obtain ⟨M, c, v, u, rfl, O, hv, hu, C, k⟩ := h
    refine ⟨_, pss_one (ps_ret (pe_ifExp (pt_val (pe_meth (pe_fld (pv 0) rfl) T.clT mS GS hr bS .nil pass0 (pa_cons (pv 1) pa_nil))) pe_int pe_int)), ?_⟩
    have stop : EvP (tMeth cT "stopped" (spTStop K cT) [] E0 (tFld K (tVar 0) "upper") (tCons (tVar 1) tNil)) [some v, some u] H (IsB (decide (M.at c.q c.a = none))) :=
      ep_meth (ep_supper T (ep_var rfl hv)) (fun x H1 _ ⟨p, dx, l, us, h1, h2, _⟩ => ⟨p, dx, _, h1, h2, tapeF_no (by decide +kernel) (by decide +kernel) (by decide +kernel)⟩) (Ps := [CfgV K c]) (epa_cons (ep_var rfl hu) epa_nil) fun x vs H1 _ hx pa Q' E' kq => by
        obtain ⟨u', rfl, hu'⟩ := all1 pa
        exact ⟨M, c, x, u', rfl, O, C, hx, hu', fun H2 e2 => kq _ H2 e2 rfl⟩
    refine s_retP (P := IsI (if M.at c.q c.a = none then 0 else 1)) (ep_if (et_PB stop) (fun hc => ?_) fun hc => ?_) fun v' H1 e1 hv' => ?_
    · rw [if_pos (of_decide_eq_true hc)]
      exact ep_c
    · rw [if_neg (of_decide_eq_false hc)]
      exact ep_c
    · rw [hv']
      exact k H1 e1
end
end Sd

set_option Elab.async false
set_option linter.all false
set_option maxRecDepth 100000
set_option maxHeartbeats 4000000
namespace Sd
open PySem PySem.Spec PyProof.Rows L2 Evl
theorem filter_one {f : Nat → Bool} {a : Nat} : ∀ {n : Nat}, (∀ i, i < n → f i = decide (i = a)) → (List.range n).filter f = if a < n then [a] else []
  | 0, _ => by simp
  | n + 1, h => by
    have ih := filter_one (n := n) fun i hi => h i (by omega)
    rw [List.range_succ, List.filter_append, ih, List.filter_cons, h n (by omega)]
    by_cases e : n = a
    · subst e
      rw [decide_eq_true rfl, if_pos rfl, if_neg (by omega), if_pos (by omega)]
      rfl
    · rw [decide_eq_false e, if_neg Bool.false_ne_true]
      by_cases q : a < n
      · rw [if_pos q, if_pos (by omega)]
        rfl
      · rw [if_neg q, if_neg (by omega)]
        rfl
theorem given_one {f : Nat → Bool} {a n : Nat} {v : Nat → V} (h : ∀ i, i < n → f i = decide (i = a)) (ha : a < n) : given n f v = [v a] := by
  unfold given
  rw [filter_one h, if_pos ha]
  rfl
theorem ep_ofL {σ : L2.St} {H : Hp} {te : TE} {xs : List V} (h : EvL te σ H xs) : EvP te σ H (LstV xs) := fun H1 e Q q => h H1 e Q fun p H2 hp e2 h2 => q _ H2 e2 ⟨p, rfl, h2⟩
theorem ep_ixV {K : PySem.W.Frag} {σ : L2.St} {H : Hp} {ta tb : TE} {xs : List V} {i : Int} {v : V} (ha : EvP ta σ H (LstV xs)) (hb : EvP tb σ H (IsI i)) (hx : 0 ≤ i) (h : xs[i.toNat]? = some v) : EvP (tOp (rIxL K) ta tb) σ H (Is v) :=
  ep_op ha hb fun x y H1 _ p q Q k => by
    obtain ⟨a, rfl, t⟩ := p
    exact ⟨a, _, i, v, rfl, q, sq_of t, at_of (j := i.toNat) (by omega) h, k _ H1 (Ex.refl H1) rfl⟩
section
variable {P : Program} {w : World} {K : PySem.W.Frag} {mg : Str → Option Value} {base : Heap} {f : Addr} {fd : FuncData} {cT cC cS : Addr}
/-- a call of trimmed -/
theorem ep_trimC {σ : L2.St} {H : Hp} {ta : TE} {xs : List Int} {E : XK} (ha : EvP ta σ H (TupI K xs)) (hz : xs.length ≤ 1000) : EvP (tCall (spTrim K) [] E (tCons ta tNil)) σ H (TupI K (trim xs)) :=
  ep_call (epa_cons ha epa_nil) fun vs H1 _ pa Q' E' kq => by
    obtain ⟨u, rfl, hu⟩ := all1 pa
    exact ⟨u, xs, rfl, hu, hz, kq⟩
/-! ### meaning, up -/
def spMean (K : PySem.W.Frag) (cT : Addr) : Sp := fun vs H Q _ => ∃ (M : Mach) (c : Cfg) (v u : V), vs = [v, u] ∧ M.Ok ∧ CfgOk M c ∧ TapeV K cT M v H ∧ TupI K (line M c) u H ∧ c.l.length + c.r.length ≤ 300 ∧ ∀ v' H', Ex H H' → CfgV K c v' H' → Q v' H'
theorem scMean : FnScope ["machine", "line", "marks", "heads", "at", "state"] ["machine", "line"] (defScope sMean) := ⟨rfl, rfl, rfl, by decide +kernel, rfl, by decide +kernel, by decide +kernel⟩
theorem ok_mean (F : Fun K "meaning" "meaning" sMean f fd) (T : Txt K mg cT cC cS) (D : Dfs K mg cT cC cS) : FnOk P w K mg base CX0 2 f fd ["machine", "line"] (spMean K cT) := by
  obtain ⟨fT, fdT, FT, bT, gT⟩ := D.trim
  have GT : FnOk P w K mg base CX0 1 fT fdT ["marks"] (spTrim K) := ok_trim FT T
  refine F.ok scMean (fun vs H Q E h => ?_) (fun cdv A outer s H vs Q E hr h => ?_)
  · obtain ⟨M, c, v, u, rfl, _⟩ := h
    rfl
  · obtain ⟨M, c, v, u, rfl, O, C, hv, hu, hz, k⟩ := h
    refine ⟨_, pss_cons (ps_set (i := 2) scMean.nd rfl (.inr rfl) (pe_fld (pv 0) rfl))
      (pss_cons (ps_setLc (i := 3) (own := [("at", 4)]) (g := gName 4) rfl scMean.nd rfl rfl (sw_true rfl rfl rfl (by decide +kernel)) (pi_range1 rfl T.bRange (pa_cons (pe_callB rLenS_ok (by rfl) T.bLen bo_len (pa_cons (pv 1) pa_nil)) pa_nil))
          (blkOk_by (own := [("at", 4)]) (N := ["machine", "line", "marks", "heads", "at", "state"]) (sc := defScope sMean) (by decide +kernel))
          (fun _ _ _ _ _ => pg_name (i := 4) scMean.nd rfl (Or.inl rfl)) (fun _ _ _ _ _ => pts_one (pt_cmpR op_ge1 (pe_ix (show IxR _ (rIxT K) from ix_tup) (pv 1) (pv 4) (fun _ _ => rfl)) (pv 2) (nomark _))) (fun _ _ _ _ _ => pv 4))
      (pss_cons (ps_if (PW.pt (pw_or (pt_cmpR op_ne (pe_callB rLenS_ok (by rfl) T.bLen bo_len (pa_cons (pv 3) pa_nil)) pe_int (nomark _))
          (pw_or1 (pt_cmpR op_ge1 (pe_ix ix_tup (pv 1) (pe_ix ix_list (pv 3) pe_int (fun _ _ => rfl)) (fun _ _ => rfl)) (pe_op op_mul (pv 2) (pe_op op_add (pe_fld (pv 0) rfl) pe_int)) (nomark _))))) pss_never pss_nil)
      (pss_cons (ps_set (i := 4) scMean.nd rfl (.inl rfl) (pe_ix ix_list (pv 3) pe_int (fun _ _ => rfl)))
      (pss_cons (ps_set (i := 5) scMean.nd rfl (.inl rfl) (pe_op op_sub (pe_op op_fdiv (pe_ix ix_tup (pv 1) (pv 4) (fun _ _ => rfl)) (pv 2)) pe_int))
      (pss_one (ps_ret (pe_tup (pa_cons (pv 5) (pa_cons (pe_call GT hr rfl gT FT.kp bT .nil pass0 (pa_cons (pe_revT (pe_slice sl_tupA (pv 1) po_none (po_some (pv 4)))) pa_nil))
        (pa_cons (pe_op op_mod (pe_ix ix_tup (pv 1) (pv 4) (fun _ _ => rfl)) (pv 2)) (pa_cons (pe_call GT hr rfl gT FT.kp bT .nil pass0 (pa_cons (pe_slice sl_tupA (pv 1) (po_some (pe_op op_add (pv 4) pe_int)) po_none) pa_nil)) pa_nil))))))))))), ?_⟩
    have m2 := O.m2
    have m8 := O.m8
    have s1 := O.s1
    have s5 := O.s5
    have hm : 0 < M.m := by omega
    have hb := ltr_bd (s := M.s) hm C.q0 C.q1 C.a0 C.a1
    have hdiv := ltr_div (q := c.q) hm C.a0 C.a1
    have hmod := ltr_mod (q := c.q) C.a0 C.a1
    have ll : (line M c).length = c.l.length + 1 + c.r.length := by
      unfold line
      simp
      omega
    have lat : (line M c)[c.l.length]? = some (ltr M.m c.a c.q) := by
      unfold line
      rw [List.getElem?_append_right (by simp)]
      simp
    have other : ∀ i, i < (line M c).length → i ≠ c.l.length → ∃ x, (line M c)[i]? = some x ∧ x < M.m := fun i hi ne => by
      unfold line
      by_cases q : i < c.l.length
      · have hi' : i < c.l.reverse.length := by simp; omega
        rw [List.getElem?_append_left hi']
        exact ⟨_, List.getElem?_eq_getElem hi', (C.lm.rev _ (List.getElem_mem hi')).2⟩
      · obtain ⟨j, hj⟩ : ∃ j, i = c.l.length + (j + 1) := ⟨i - c.l.length - 1, by omega⟩
        have hj' : j < c.r.length := by omega
        rw [List.getElem?_append_right (by simp; omega), show i - c.l.reverse.length = j + 1 by simp; omega, List.getElem?_cons_succ]
        exact ⟨_, List.getElem?_eq_getElem hj', (C.rm _ (List.getElem_mem hj')).2⟩
    have tk : (line M c).take c.l.length = c.l.reverse := by
      unfold line
      rw [List.take_append_of_le_length (by simp)]
      exact List.take_of_length_le (by simp)
    have dr : (line M c).drop (c.l.length + 1) = c.r := by
      unfold line
      rw [show c.l.reverse ++ ltr M.m c.a c.q :: c.r = (c.l.reverse ++ [ltr M.m c.a c.q]) ++ c.r by simp]
      exact List.drop_left' (by simp)
    generalize ltr M.m c.a c.q = h at *
    refine s_seq (s_setI (v := .int M.m) (ep_marks T (ep_var rfl hv)) fun H1 e1 => ?_)
    have hv1 := Mono.up e1 hv
    have hu1 := Mono.up e1 hu
    -- heads
    have heads : EvP (tLc (iRng1 (tCons (tCB (rLenS K) (tCons (tVar 1) tNil)) tNil)) (gName 4) (tTest (tOp rGe (tOp (rIxT K) (tVar 1) (tVar 4)) (tVar 2))) (tVar 4) [4]) [some v, some u, some (V.int M.m), none, none, none] H1 (LstV [V.int c.l.length]) := by
      have g1 : given ((line M c).length : Int).toNat (fun i => decide (i = c.l.length)) (fun i => V.int (i : Int)) = [V.int c.l.length] := given_one (fun i _ => rfl) (by omega)
      rw [← g1]
      refine ep_ofL (el_lcR1 (fun i => decide (i = c.l.length)) (fun i => V.int (i : Int)) (ea_cons (ep_lenT (ep_var rfl hu1)).ev ea_nil) (by omega) (fun _ => rfl) (fun i H2 e2 hi => ?_) fun i H2 e2 hi _ => ev_var rfl)
      have hi' : i < (line M c).length := by omega
      have cmp : ∀ x, (line M c)[i]? = some x → EvT (tTest (tOp rGe (tOp (rIxT K) (tVar 1) (tVar 4)) (tVar 2))) [some v, some u, some (V.int M.m), none, some (V.int (i : Int)), none] H2 (decide (M.m ≤ x)) := fun x hx =>
        et_P (ep_I0 (g := fun i j => V.bl (decide (j ≤ i))) (ep_ixT (i := (i : Int)) (ep_var rfl (Mono.up e2 hu1)) (ep_vi rfl) (by omega) (by rw [Int.toNat_natCast]; exact hx)) (ep_vi (v := .int M.m) rfl))
      by_cases q : i = c.l.length
      · subst q
        refine et_is (cmp h lat) ?_
        rw [decide_eq_true hb.1, decide_eq_true rfl]
      · obtain ⟨x, hx, lt⟩ := other i hi' q
        refine et_is (cmp x hx) ?_
        rw [decide_eq_false (by omega), decide_eq_false q]
    refine s_seq (s_set heads fun av H2 e2 ha => ?_)
    have hu2 := Mono.up e2 hu1
    have hv2 := Mono.up e2 hv1
    have item : ∀ (σ : L2.St) (H3 : Hp) (tb : TE), σ[1]? = some (some u) → Ex H2 H3 → EvP tb σ H3 (IsI c.l.length) → EvP (tOp (rIxT K) (tVar 1) tb) σ H3 (IsI h) := fun σ H3 tb hs e3 hb' => ep_ixT (ep_var hs (Mono.up e3 hu2)) hb' (by omega) (by rw [Int.toNat_natCast]; exact lat)
    have zero : ∀ (σ : L2.St) (H3 : Hp), σ[3]? = some (some av) → Ex H2 H3 → EvP (tOp (rIxL K) (tVar 3) (tC (.int 0))) σ H3 (IsI c.l.length) := fun σ H3 hs e3 => ep_ixV (ep_var hs (Mono.up e3 ha)) ep_c (by omega) rfl
    have top1 := ep_I (C := CMul) (g := fun i j => V.int (i * j)) (ta := tVar 2) (σ := [some v, some u, some (V.int M.m), some av, none, none]) (H := H2) (ep_vi (v := .int M.m) rfl) (ep_I0 (g := fun i j => V.int (i + j)) (ep_states T (ep_var (i := 0) rfl hv2)) (ep_c (v := .int 1))) (.inl ⟨by omega, by omega⟩)
    refine s_seq (s_if (b := false) (et_is (et_or (et_P (ep_neI (ep_lenV (ep_var rfl ha)) ep_c)) (b := false) fun _ => et_is (et_P (ep_I0 (g := fun i j => V.bl (decide (j ≤ i))) (item _ H2 _ rfl (Ex.refl H2) (zero _ H2 rfl (Ex.refl H2))) top1)) (decide_eq_false (by omega))) rfl) (fun z => by cases z) fun _ H3 e3 => ?_)
    refine s_seq (s_setI (v := .int c.l.length) (zero _ H3 rfl e3) fun H4 e4 => ?_)
    have e24 := e3.trans e4
    have quo := ep_I (C := CDiv) (g := fun i j => V.int (i / j)) (σ := [some v, some u, some (V.int M.m), some av, some (V.int c.l.length), none]) (H := H4) (item _ H4 (tVar 4) rfl e24 (ep_vi rfl)) (ep_vi (i := 2) (v := .int M.m) rfl) ⟨hm, by omega⟩
    refine s_seq (s_setI (v := .int c.q) (ep_is (ep_I0 (g := fun i j => V.int (i - j)) quo ep_c) (by rw [hdiv])) fun H5 e5 => ?_)
    have e25 := e24.trans e5
    have rem := ep_I (C := fun _ j => 0 < j) (g := fun i j => V.int (i % j)) (σ := [some v, some u, some (V.int M.m), some av, some (V.int c.l.length), some (V.int c.q)]) (H := H5) (item _ H5 (tVar 4) rfl e25 (ep_vi rfl)) (ep_vi (i := 2) (v := .int M.m) rfl) hm
    have lft := ep_trimC (K := K) (E := E0) (ep_rev (ep_slT (σ := [some v, some u, some (V.int M.m), some av, some (V.int c.l.length), some (V.int c.q)]) (ta := tVar 1) (ep_var rfl (Mono.up e25 hu2)) epo_none (epo_some (ep_vi (i := 4) (v := .int c.l.length) rfl)))) (by rw [List.length_reverse, List.length_take, List.length_drop]; omega)
    have rgt := ep_trimC (K := K) (E := E0) (ep_slT (σ := [some v, some u, some (V.int M.m), some av, some (V.int c.l.length), some (V.int c.q)]) (ta := tVar 1) (ep_var rfl (Mono.up e25 hu2)) (epo_some (ep_I0 (g := fun i j => V.int (i + j)) (ep_vi (i := 4) (v := .int c.l.length) rfl) (ep_c (v := .int 1)))) epo_none) (by rw [List.length_take, List.length_drop]; omega)
    have h1 : c.l.length ≤ (line M c).length := by omega
    have h2 : c.l.length + 1 ≤ (line M c).length := by omega
    rw [HT.sIx_none, HT.sIx_nat, Nat.min_eq_left h1, List.drop_zero, Nat.sub_zero, tk, List.reverse_reverse, C.lt] at lft
    rw [HT.sIx_none, show ((c.l.length : Int) + 1) = ((c.l.length + 1 : Nat) : Int) by omega, HT.sIx_nat, Nat.min_eq_left h2, dr, List.take_of_length_le (by omega), C.rt] at rgt
    refine s_retP (P := CfgV K c) (ep_tup (epa_cons (ep_vi rfl) (epa_cons lft (epa_cons (ep_is rem (by rw [hmod])) (epa_cons rgt epa_nil)))) (by show 4 ≤ 1000; decide)) fun v' H6 e6 hv' => k v' H6 ((e1.trans e2).trans (e25.trans e6)) hv'
def spUp (K : PySem.W.Frag) (cT cC cS : Addr) : Sp := fun vs H Q _ => ∃ (M : Mach) (c : Cfg) (v u : V), vs = [v, u] ∧ M.Ok ∧ CfgOk M c ∧ StairV K cT cC cS M v H ∧ TupI K (line M c) u H ∧ c.l.length + c.r.length ≤ 300 ∧ ∀ v' H', Ex H H' → CfgV K c v' H' → Q v' H'
theorem scUp : FnScope ["self", "configuration"] ["self", "configuration"] (defScope sUp) := ⟨rfl, rfl, rfl, by decide +kernel, rfl, by decide +kernel, by decide +kernel⟩
theorem ok_up (F : Fun K "up" "CellStair.up" sUp f fd) (T : Txt K mg cT cC cS) (D : Dfs K mg cT cC cS) : FnOk P w K mg base CX0 3 f fd ["self", "configuration"] (spUp K cT cC cS) := by
  obtain ⟨fM, fdM, FM, bM, gM⟩ := D.mean
  have GM : FnOk P w K mg base CX0 2 fM fdM ["machine", "line"] (spMean K cT) := ok_mean FM T D
  refine F.ok scUp (fun vs H Q E h => ?_) (fun cdv A outer s H vs Q E hr h => ?_)
  · obtain ⟨M, c, v, u, rfl, _⟩ := h
    rfl
  · obtain ⟨M, c, v, u, rfl, O, C, hv, hu, hz, k⟩ := h
    refine ⟨_, pss_one (ps_ret (pe_call GM hr rfl gM FM.kp bM .nil pass0 (pa_cons (pe_fld (pv 0) rfl) (pa_cons (pv 1) pa_nil)))), ?_⟩
    refine s_retP (P := CfgV K c) (ep_call (Ps := [TapeV K cT M, TupI K (line M c)]) (epa_cons (ep_supper T (ep_var rfl hv)) (epa_cons (ep_var rfl hu) epa_nil)) fun vs H1 _ pa Q' E' kq => ?_) fun v' H1 e1 hv' => k v' H1 e1 hv'
    obtain ⟨x, u', rfl, hx, hu'⟩ := all2 pa
    exact ⟨M, c, x, u', rfl, O, C, hx, hu', hz, kq⟩
end
end Sd

set_option Elab.async false
set_option linter.all false
set_option maxRecDepth 100000
set_option maxHeartbeats 4000000
namespace Sd
open PySem PySem.Spec PyProof.Rows L2 Evl
/-- any int -/
abbrev AnyI : VP := IntP fun _ => True
/-- the script: a list of ints that stands -/
def ScrV (K : PySem.W.Frag) (ns : List Int) : VP := fun v H => ∃ a, v = .ref a ∧ SqL K H a (ns.map V.int)
instance scrMono {K : PySem.W.Frag} {ns : List Int} : Mono (ScrV K ns) := ⟨fun e ⟨a, h1, h2⟩ => ⟨a, h1, ex_l e h2⟩⟩
def Digs (n : Nat) (m : Int) (ds : List Int) : Prop := ds.length = n ∧ ∀ d ∈ ds, 0 ≤ d ∧ d < m
def DigV (n : Nat) (m : Int) : VP := fun v H => ∃ ds, LstI ds v H ∧ Digs n m ds
instance digMono {n : Nat} {m : Int} : Mono (DigV n m) := ⟨fun e ⟨ds, h1, h2⟩ => ⟨ds, Mono.up e h1, h2⟩⟩
theorem s_nxt {D : Ends} {σ : L2.St} {H : Hp} (h : D.nx σ H) : tNext D σ H := h
section
variable {P : Program} {w : World} {K : PySem.W.Frag} {mg : Str → Option Value} {base : Heap} {f : Addr} {fd : FuncData} {cT cC cS : Addr}
/-! ### _law_cell -/
def spWCell (K : PySem.W.Frag) : Sp := fun vs H Q _ => ∃ (v : V) (ns : List Int) (k : Int), vs = [v, .int k] ∧ ScrV K ns v H ∧ 0 ≤ k ∧ ∀ v' H', Ex H H' → AnyI v' H' → Q v' H'
theorem scWCell : FnScope ["_law_script", "_law_k"] ["_law_script", "_law_k"] (defScope sWCell) := ⟨rfl, rfl, rfl, by decide +kernel, rfl, by decide +kernel, by decide +kernel⟩
theorem ok_wcell (F : Fun K "_law_cell" "_law_cell" sWCell f fd) (T : Txt K mg cT cC cS) : FnOk P w K mg base CX0 1 f fd ["_law_script", "_law_k"] (spWCell K) := by
  refine F.ok scWCell (fun vs H Q E h => ?_) (fun cdv A outer s H vs Q E hr h => ?_)
  · obtain ⟨v, ns, k, rfl, _⟩ := h
    rfl
  · obtain ⟨v, ns, k, rfl, ⟨a, rfl, hs⟩, k0, q⟩ := h
    refine ⟨_, pss_cons (ps_if (pt_cmpR op_lt (pv 1) (pe_callB rLenS_ok (by rfl) T.bLen bo_len (pa_cons (pv 0) pa_nil)) (nomark _)) (pss_one (ps_ret (pe_ix ix_list (pv 0) (pv 1) (fun _ _ => rfl)))) pss_nil) (pss_one (ps_ret pe_int)), ?_⟩
    have len : EvP (tCB (rLenS K) (tCons (tVar 0) tNil)) [some (V.ref a), some (V.int k)] H (IsI ns.length) := ep_is (ep_ev (ev_len (ep_vi rfl).ev hs)) (by rw [List.length_map])
    refine s_seq (s_if (b := decide (k < (ns.length : Int))) (et_P (ep_I0 (g := fun i j => V.bl (decide (i < j))) (ep_vi rfl) len)) (fun hc H1 e1 => ?_) fun hc H1 e1 => ?_)
    · have hk : k.toNat < ns.length := by have := of_decide_eq_true hc; omega
      refine s_retP (P := AnyI) (ep_op (Pa := Is (.ref a)) (Pb := IsI k) (ep_vi rfl) (ep_vi rfl) fun x y H2 e2 hx hy Q' kq => ?_) fun v' H2 e2 hv' => q v' H2 (e1.trans e2) hv'
      exact ⟨a, _, k, .int ns[k.toNat], hx, hy, ex_l (e1.trans e2) hs, at_of (j := k.toNat) (by omega) (by rw [List.getElem?_map, List.getElem?_eq_getElem hk]; rfl), kq _ H2 (Ex.refl H2) ⟨_, rfl, trivial⟩⟩
    · refine s_nxt ?_
      dsimp only
      refine s_retP (P := AnyI) (ep_int (i := 0) ep_c trivial) fun v' H2 e2 hv' => ?_
      exact q v' H2 (e1.trans e2) hv'
/-- a call of _law_cell -/
theorem ep_wcell {σ : L2.St} {H : Hp} {ta tb : TE} {ns : List Int} {k : Int} {E : XK} (ha : EvP ta σ H (ScrV K ns)) (hb : EvP tb σ H (IsI k)) (k0 : 0 ≤ k) : EvP (tCall (spWCell K) [] E (tCons ta (tCons tb tNil))) σ H AnyI :=
  ep_call (epa_cons ha (epa_cons hb epa_nil)) fun vs H1 _ pa Q' E' kq => by
    obtain ⟨u, _, rfl, hu, e⟩ := all2 pa
    cases e
    exact ⟨u, ns, k, rfl, hu, k0, kq⟩
/-! ### _law_mixed -/
def spWMix : Sp := fun vs H Q _ => ∃ (c k : Int), vs = [.int c, .int k] ∧ ∀ v' H', Ex H H' → AnyI v' H' → Q v' H'
theorem scWMix : FnScope ["_law_cell_here", "_law_k", "_law_first", "_law_second"] ["_law_cell_here", "_law_k"] (defScope sWMix) := ⟨rfl, rfl, rfl, by decide +kernel, rfl, by decide +kernel, by decide +kernel⟩
theorem ok_wmix (F : Fun K "_law_mixed" "_law_mixed" sWMix f fd) (T : Txt K mg cT cC cS) : FnOk P w K mg base CX0 1 f fd ["_law_cell_here", "_law_k"] spWMix := by
  refine F.ok scWMix (fun vs H Q E h => ?_) (fun cdv A outer s H vs Q E hr h => ?_)
  · obtain ⟨c, k, rfl, _⟩ := h
    rfl
  · obtain ⟨c, k, rfl, q⟩ := h
    refine ⟨_, pss_cons (ps_set (i := 2) scWMix.nd rfl (.inl rfl) (pe_op op_mod (pe_callTy rIntS_ok (by rfl) T.bInt bo_int (pa_cons (pe_op op_add (pe_op op_add (pe_op op_mul (pe_callTy rIntS_ok (by rfl) T.bInt bo_int (pa_cons (pv 0) pa_nil)) pe_int) (pe_op op_mul (pv 1) pe_int)) pe_int) pa_nil)) pe_int))
      (pss_cons (ps_set (i := 3) scWMix.nd rfl (.inl rfl) (pe_op op_mod (pe_callTy rIntS_ok (by rfl) T.bInt bo_int (pa_cons (pe_op op_add (pe_op op_add (pe_op op_mul (pv 2) pe_int) (pe_op op_mul (pe_op op_add (pv 1) pe_int) pe_int)) pe_int) pa_nil)) pe_int))
      (pss_one (ps_ret (pe_op op_fdiv (pv 3) pe_int)))), ?_⟩
    have any : ∀ {σ : L2.St} {H1 : Hp} {i : Nat} {x : Int}, σ[i]? = some (some (.int x)) → EvP (tVar i) σ H1 AnyI := fun h => ep_int (ep_vi h) trivial
    have con : ∀ {σ : L2.St} {H1 : Hp} {x : Int}, EvP (tC (.int x)) σ H1 (IntP fun i => i = x) := fun {σ H1 x} => ep_int ep_c rfl
    have mul : ∀ {σ : L2.St} {H1 : Hp} {ta : TE} {x : Int}, (-(2 ^ 64) < x ∧ x < 2 ^ 64) → EvP ta σ H1 AnyI → EvP (tOp (rI CMul fun i j => .int (i * j)) ta (tC (.int x))) σ H1 AnyI := fun {σ H1 ta x} hx h => ep_PI h con (fun i j _ hj => by rw [hj]; exact .inr hx) fun i j H2 _ _ => ⟨_, rfl, trivial⟩
    have add : ∀ {σ : L2.St} {H1 : Hp} {ta tb : TE}, EvP ta σ H1 AnyI → EvP tb σ H1 AnyI → EvP (tOp (rI0 fun i j => .int (i + j)) ta tb) σ H1 AnyI := fun {σ H1 ta tb} h k => ep_P0 h k fun i j H2 _ _ => ⟨_, rfl, trivial⟩
    have addc : ∀ {σ : L2.St} {H1 : Hp} {ta : TE} {x : Int}, EvP ta σ H1 AnyI → EvP (tOp (rI0 fun i j => .int (i + j)) ta (tC (.int x))) σ H1 AnyI := fun {σ H1 ta x} h => ep_P0 h con fun i j H2 _ _ => ⟨_, rfl, trivial⟩
    have mod : ∀ {σ : L2.St} {H1 : Hp} {ta : TE} {x : Int}, 0 < x → EvP ta σ H1 AnyI → EvP (tOp (rI (fun _ j => 0 < j) fun i j => .int (i % j)) ta (tC (.int x))) σ H1 AnyI := fun {σ H1 ta x} hx h => ep_PI h con (fun i j _ hj => by rw [hj]; exact hx) fun i j H2 _ _ => ⟨_, rfl, trivial⟩
    refine s_seq (s_set (mod (by decide) (ep_toIntP (addc (add (mul ⟨by decide, by decide⟩ (ep_toIntP (any rfl))) (mul ⟨by decide, by decide⟩ (any rfl)))))) fun v1 H1 e1 h1 => ?_)
    obtain ⟨x1, rfl, _⟩ := h1
    refine s_seq (s_set (mod (by decide) (ep_toIntP (addc (add (mul ⟨by decide, by decide⟩ (any rfl)) (mul ⟨by decide, by decide⟩ (addc (any rfl))))))) fun v2 H2 e2 h2 => ?_)
    obtain ⟨x2, rfl, _⟩ := h2
    exact s_retP (P := AnyI) (ep_PI (C := CDiv) (g := fun i j => .int (i / j)) (any rfl) con (fun i j _ hj => by rw [hj]; exact ⟨by decide, by decide⟩) fun i j H3 _ _ => ⟨_, rfl, trivial⟩) fun v' H3 e3 hv' => q v' H3 ((e1.trans e2).trans e3) hv'
/-! ### _law_digits -/
def spWDig : Sp := fun vs H Q _ => ∃ (c m : Int) (n : Nat), vs = [.int c, .int n, .int m] ∧ n ≤ 100 ∧ 0 < m ∧ m < 1000 ∧ ∀ v' H', Ex H H' → DigV n m v' H' → Q v' H'
theorem scWDig : FnScope ["_law_cell_here", "_law_count", "_law_many", "_law_digits_here", "_law_k"] ["_law_cell_here", "_law_count", "_law_many"] (defScope sWDig) := ⟨rfl, rfl, rfl, by decide +kernel, rfl, by decide +kernel, by decide +kernel⟩
theorem ok_wdig (F : Fun K "_law_digits" "_law_digits" sWDig f fd) (T : Txt K mg cT cC cS) (D : Dfs K mg cT cC cS) : FnOk P w K mg base CX0 2 f fd ["_law_cell_here", "_law_count", "_law_many"] spWDig := by
  obtain ⟨fM, fdM, FM, bM, gM⟩ := D.wMix
  have GM : FnOk P w K mg base CX0 1 fM fdM ["_law_cell_here", "_law_k"] spWMix := ok_wmix FM T
  refine F.ok scWDig (fun vs H Q E h => ?_) (fun cdv A outer s H vs Q E hr h => ?_)
  · obtain ⟨c, m, n, rfl, _⟩ := h
    rfl
  · obtain ⟨c, m, n, rfl, n1, m0, m1, q⟩ := h
    refine ⟨_, pss_cons (ps_set (i := 3) scWDig.nd rfl (.inl rfl) (pe_lst pa_nil))
      (pss_cons (ps_if (pt_cmpR op_lt (pv 0) (pe_op op_pow pe_int pe_int) (nomark _))
        (pss_cons (ps_for PassesOwn.never rfl (pi_range1 rfl T.bRange (pa_cons (pv 1) pa_nil)) (pg_name (i := 4) scWDig.nd rfl (.inl rfl))
            (pss_one (ps_expr (pe_bm PySem.F.plainAttrs_list PySem.F.slot_list_append PySem.F.type_list_append mt_append (pv 3) (pa_cons (pe_op op_mod (pe_callTy rIntS_ok (by rfl) T.bInt bo_int (pa_cons (pe_call GM hr rfl gM FM.kp bM .nil pass0 (pa_cons (pv 0) (pa_cons (pv 4) pa_nil))) pa_nil)) (pv 2)) pa_nil)))))
          (pss_one (ps_ret (pv 3)))) pss_nil)
      (pss_cons (ps_for PassesOwn.never rfl (pi_range1 rfl T.bRange (pa_cons (pv 1) pa_nil)) (pg_name (i := 4) scWDig.nd rfl (.inl rfl))
          (pss_cons (ps_expr (pe_bm PySem.F.plainAttrs_list PySem.F.slot_list_append PySem.F.type_list_append mt_append (pv 3) (pa_cons (pe_op op_mod (pe_callTy rIntS_ok (by rfl) T.bInt bo_int (pa_cons (pv 0) pa_nil)) (pv 2)) pa_nil)))
          (pss_one (ps_set (i := 0) scWDig.nd rfl (.inl rfl) (pe_op op_fdiv (pv 0) (pv 2))))))
      (pss_one (ps_ret (pv 3))))), ?_⟩
    refine s_seq ?_
    refine ⟨Nat.zero_le _, fun l nl => ?_⟩
    have B1 : Ex H (upd H l (.lst [])) := Ex.new nl
    have hl1 : (upd H l (.lst [])) l = some (.lst (([] : List Int).map V.int)) := upd_same
    generalize upd H l (.lst []) = H1 at *
    -- an item is put behind the others
    have put : ∀ {ds : List Int} {i : Nat} {x : Int}, Digs i m ds → Digs (i + 1) m (ds ++ [x % m]) := fun {ds i x} h => ⟨by rw [List.length_append, h.1]; rfl, fun d hd => by
      rcases List.mem_append.mp hd with hd | hd
      · exact h.2 d hd
      · rw [List.mem_singleton.mp hd]
        exact ⟨Int.emod_nonneg _ (by omega), Int.emod_lt_of_pos _ m0⟩⟩
    have pw := ep_I (C := CPow) (g := fun i j => V.int (i ^ j.toNat)) (σ := [some (V.int c), some (V.int n), some (V.int m), some (V.ref l), none]) (H := H1) (ep_c (v := .int 10)) (ep_c (v := .int 18)) ⟨by decide, by decide, by decide⟩
    refine s_seq (t := tIfS _ _ _) (s_if (et_P (ep_I0 (g := fun i j => V.bl (decide (i < j))) (ep_vi (i := 0) (v := .int c) rfl) pw)) (fun _ H2 e2 => ?_) fun _ H2 e2 => ?_)
    · refine s_seq (s_forR1 (n := (n : Int)) (ea_cons (ep_vi rfl).ev ea_nil) (by omega) (fun i σ H3 => ∃ (x4 : Option V) (ds : List Int), σ = [some (V.int c), some (V.int n), some (V.int m), some (V.ref l), x4] ∧ Ex H H3 ∧ H3 l = some (.lst (ds.map V.int)) ∧ Digs i m ds)
        (fun H3 e3 => ⟨none, [], rfl, (B1.trans e2).trans e3, e3 l _ (e2 l _ hl1), rfl, fun d hd => by cases hd⟩) ?_ ?_)
      · rintro i σ H3 hi ⟨x4, ds, rfl, B3, hl3, dg⟩
        refine s_appP (P := IntP fun y => ∃ x, y = x % m) hl3 (ep_vi rfl).ev (ep_PI (φ := fun _ => True) (ψ := fun j => j = m) (C := fun _ j => 0 < j) (g := fun i j => .int (i % j)) (ep_toIntP ?_) (ep_int (ep_vi rfl) rfl) (fun i j _ hj => by rw [hj]; exact m0) fun i j H4 _ hj => ⟨_, rfl, i, by rw [hj]⟩) (by rw [List.length_map, dg.1]; omega) fun v H4 e4 hv => ?_
        · refine ep_call (Ps := [IsI c, IsI (i : Int)]) (epa_cons (ep_vi rfl) (epa_cons (ep_vi rfl) epa_nil)) fun vs H4 _ pa Q' E' kq => ?_
          obtain ⟨_, _, rfl, e1, e2⟩ := all2 pa
          cases e1
          cases e2
          exact ⟨c, i, rfl, kq⟩
        · obtain ⟨y, rfl, x, rfl⟩ := hv
          exact ⟨_, ds ++ [x % m], rfl, Ex.mut (B3.trans e4) nl, by rw [List.map_append]; exact upd_same, put dg⟩
      · rintro σ H3 ⟨x4, ds, rfl, B3, hl3, dg⟩
        refine s_retP (P := Is (.ref l)) (ep_vi rfl) fun v H4 e4 hv => ?_
        rw [hv]
        exact q _ H4 (B3.trans e4) ⟨ds, ⟨l, rfl, e4 l _ hl3⟩, dg⟩
    · refine s_seq (s_forR1 (n := (n : Int)) (ea_cons (ep_vi rfl).ev ea_nil) (by omega) (fun i σ H3 => ∃ (x4 : Option V) (ds : List Int) (c' : Int), σ = [some (V.int c'), some (V.int n), some (V.int m), some (V.ref l), x4] ∧ Ex H H3 ∧ H3 l = some (.lst (ds.map V.int)) ∧ Digs i m ds)
        (fun H3 e3 => ⟨none, [], c, rfl, (B1.trans e2).trans e3, e3 l _ (e2 l _ hl1), rfl, fun d hd => by cases hd⟩) ?_ ?_)
      · rintro i σ H3 hi ⟨x4, ds, c', rfl, B3, hl3, dg⟩
        refine s_seq (s_appP (P := IsI (c' % m)) hl3 (ep_vi rfl).ev (ep_I (C := fun _ j => 0 < j) (g := fun i j => .int (i % j)) (ep_toInt (ep_vi (v := .int c') rfl)) (ep_vi (v := .int m) rfl) m0) (by rw [List.length_map, dg.1]; omega) fun v H4 e4 hv => ?_)
        have ev : v = V.int (c' % m) := hv
        subst ev
        have B5 : Ex H (upd H4 l (.lst (ds.map V.int ++ [V.int (c' % m)]))) := Ex.mut (B3.trans e4) nl
        refine s_setI (v := .int (c' / m)) (ep_I (C := CDiv) (g := fun i j => .int (i / j)) (ep_vi (v := .int c') rfl) (ep_vi (v := .int m) rfl) ⟨m0, by omega⟩) fun H5 e5 => ?_
        exact ⟨_, ds ++ [c' % m], c' / m, rfl, B5.trans e5, by rw [List.map_append]; exact e5 l _ upd_same, put dg⟩
      · rintro σ H3 ⟨x4, ds, c', rfl, B3, hl3, dg⟩
        refine s_retP (P := Is (.ref l)) (ep_vi rfl) fun v H4 e4 hv => ?_
        rw [hv]
        exact q _ H4 (B3.trans e4) ⟨ds, ⟨l, rfl, e4 l _ hl3⟩, dg⟩
/-- a call of _law_digits -/
theorem ep_wdig {σ : L2.St} {H : Hp} {ta tb tc : TE} {n : Nat} {m : Int} {E : XK} (ha : EvP ta σ H AnyI) (hb : EvP tb σ H (IsI n)) (hc : EvP tc σ H (IsI m)) (n1 : n ≤ 100) (m0 : 0 < m) (m1 : m < 1000) : EvP (tCall spWDig [] E (tCons ta (tCons tb (tCons tc tNil)))) σ H (DigV n m) :=
  ep_call (epa_cons ha (epa_cons hb (epa_cons hc epa_nil))) fun vs H1 _ pa Q' E' kq => by
    obtain ⟨_, _, _, rfl, ⟨c, rfl, _⟩, e2, e3⟩ := all3 pa
    cases e2
    cases e3
    exact ⟨c, m, n, rfl, n1, m0, m1, kq⟩
end
end Sd

set_option Elab.async false
set_option linter.all false
set_option maxRecDepth 100000
set_option maxHeartbeats 4000000
namespace Sd
open PySem PySem.Spec PyProof.Rows L2 Evl
/-- some valid machine; some valid small configuration -/
def SomeTape (K : PySem.W.Frag) (cT : Addr) : VP := fun v H => ∃ M : Mach, M.Ok ∧ TapeV K cT M v H
def SomeCfg (K : PySem.W.Frag) (M : Mach) : VP := fun v H => ∃ c : Cfg, CfgOk M c ∧ c.l.length ≤ 5 ∧ c.r.length ≤ 5 ∧ CfgV K c v H
/-- the list of the rows, while it grows -/
def RowL (K : PySem.W.Frag) (rs : List (Option (Int × Int × Int))) : VP := fun v H => ∃ l us, v = .ref l ∧ H l = some (.lst us) ∧ AllP (rs.map (rowP K)) us H
instance rowLMono {K : PySem.W.Frag} {rs : List (Option (Int × Int × Int))} : Mono (RowL K rs) := ⟨fun e ⟨l, us, h1, h2, h3⟩ => ⟨l, us, h1, e l _ h2, MonoA.up e h3⟩⟩
theorem tupP_I {K : PySem.W.Frag} {xs : List Int} {v : V} {H : Hp} (h : TupP K (xs.map IsI) v H) : TupI K xs v H := by
  obtain ⟨a, vs, rfl, t, ps⟩ := h
  have e := allI ps
  subst e
  exact ⟨a, rfl, t⟩
section
variable {P : Program} {w : World} {K : PySem.W.Frag} {mg : Str → Option Value} {base : Heap} {f : Addr} {fd : FuncData} {cT cC cS : Addr}
/-- an item of digits at a place within -/
theorem ep_dig {σ : L2.St} {H : Hp} {ta tb : TE} {ds : List Int} {i : Int} (ha : EvP ta σ H (LstI ds)) (hb : EvP tb σ H (IsI i)) (h0 : 0 ≤ i) (h1 : i.toNat < ds.length) : EvP (tOp (rIxL K) ta tb) σ H (IsI (ds[i.toNat]'h1)) :=
  ep_ixL ha hb h0 (List.getElem?_eq_getElem h1)
/-- Tape(..) -/
theorem ep_tape {σ : L2.St} {H : Hp} {ta tb tc : TE} {M : Mach} {E : XK} (O : M.Ok) (ha : EvP ta σ H (IsI M.m)) (hb : EvP tb σ H (IsI M.s)) (hc : EvP tc σ H (RowL K M.rw)) : EvP (tMake cT (spTInit K cT) [] E (tCons ta (tCons tb (tCons tc tNil)))) σ H (TapeV K cT M) :=
  ep_make (Ps := [IsI M.m, IsI M.s, RowL K M.rw]) (epa_cons ha (epa_cons hb (epa_cons hc epa_nil))) fun vs x dx H2 _ pa hx Q' E' kq => by
    obtain ⟨_, _, _, rfl, e1, e2, ⟨l, us, rfl, hl, hus⟩⟩ := all3 pa
    cases e1
    cases e2
    exact ⟨x, dx, l, M, us, rfl, hx, O, drop_ex l _ hl, MonoA.up drop_ex hus, kq⟩
/-! ### _law_tape -/
def spWTape (K : PySem.W.Frag) (cT : Addr) : Sp := fun vs H Q _ => ∃ (v : V), vs = [v, .int 8, .int 5] ∧ DigV 38 840 v H ∧ ∀ v' H', Ex H H' → SomeTape K cT v' H' → Q v' H'
theorem scWTape : FnScope ["_law_numbers", "_law_most_marks", "_law_most_states", "_law_marks", "_law_states", "_law_rows", "_law_k", "_law_digit", "_law_move"] ["_law_numbers", "_law_most_marks", "_law_most_states"] (defScope sWTape) := ⟨rfl, rfl, rfl, by decide +kernel, rfl, by decide +kernel, by decide +kernel⟩
theorem ok_wtape (F : Fun K "_law_tape" "_law_tape" sWTape f fd) (T : Txt K mg cT cC cS) (D : Dfs K mg cT cC cS) : FnOk P w K mg base CX0 5 f fd ["_law_numbers", "_law_most_marks", "_law_most_states"] (spWTape K cT) := by
  obtain ⟨fT, fdT, FT, bT, mkT⟩ := D.tInit
  have GT : FnOk P w K mg base CX0 3 fT fdT ["self", "marks", "states", "rows"] (spTInit K cT) := ok_tInit FT T D
  refine F.ok scWTape (fun vs H Q E h => ?_) (fun cdv A outer s H vs Q E hr h => ?_)
  · obtain ⟨v, rfl, _⟩ := h
    rfl
  · obtain ⟨v, rfl, ⟨ds, hds, len, rng⟩, q⟩ := h
    refine ⟨_, pss_cons (ps_set (i := 3) scWTape.nd rfl (.inl rfl) (pe_op op_add pe_int (pe_op op_mod (pe_ix ix_list (pv 0) pe_int (fun _ _ => rfl)) (pe_op op_sub (pv 1) pe_int))))
      (pss_cons (ps_set (i := 4) scWTape.nd rfl (.inl rfl) (pe_op op_add pe_int (pe_op op_mod (pe_ix ix_list (pv 0) pe_int (fun _ _ => rfl)) (pv 2))))
      (pss_cons (ps_set (i := 5) scWTape.nd rfl (.inl rfl) (pe_lst pa_nil))
      (pss_cons (ps_for PassesOwn.never rfl (pi_range1 rfl T.bRange (pa_cons (pe_op op_mul (pv 3) (pv 4)) pa_nil)) (pg_name (i := 6) scWTape.nd rfl (.inl rfl))
        (pss_cons (ps_set (i := 7) scWTape.nd rfl (.inl rfl) (pe_op op_add (pe_ix ix_list (pv 0) (pe_op op_add pe_int (pe_op op_mul pe_int (pe_op op_mod (pe_callTy rIntS_ok (by rfl) T.bInt bo_int (pa_cons (pv 6) pa_nil)) pe_int))) (fun _ _ => rfl)) (pe_op op_mul pe_int (pe_op op_fdiv (pv 6) pe_int))))
        (pss_one (ps_if (pt_cmpR op_eq (pe_op op_mod (pv 7) pe_int) pe_int (nomark _))
          (pss_one (ps_expr (pe_bm PySem.F.plainAttrs_list PySem.F.slot_list_append PySem.F.type_list_append mt_append (pv 5) (pa_cons pe_non pa_nil))))
          (pss_cons (ps_set (i := 8) scWTape.nd rfl (.inl rfl) (pe_op op_sub (pe_op op_mul pe_int (pe_op op_mod (pe_op op_fdiv (pe_ix ix_list (pv 0) (pe_op op_add pe_int (pe_op op_mul pe_int (pe_op op_mod (pe_callTy rIntS_ok (by rfl) T.bInt bo_int (pa_cons (pv 6) pa_nil)) pe_int))) (fun _ _ => rfl)) pe_int) pe_int)) pe_int))
          (pss_one (ps_expr (pe_bm PySem.F.plainAttrs_list PySem.F.slot_list_append PySem.F.type_list_append mt_append (pv 5) (pa_cons (pe_tup (pa_cons (pe_op op_mod (pe_op op_fdiv (pv 7) pe_int) (pv 3)) (pa_cons (pv 8)
            (pa_cons (pe_op op_mod (pe_callTy rIntS_ok (by rfl) T.bInt bo_int (pa_cons (pe_op op_add (pe_ix ix_list (pv 0) (pe_op op_add pe_int (pe_op op_mul pe_int (pe_op op_mod (pe_callTy rIntS_ok (by rfl) T.bInt bo_int (pa_cons (pv 6) pa_nil)) pe_int))) (fun _ _ => rfl)) (pe_op op_fdiv (pv 6) pe_int)) pa_nil)) (pv 4)) pa_nil)))) pa_nil)))))))))
      (pss_one (ps_ret (pe_make mkT GT hr rfl T.mT bT .nil pass0 (pa_cons (pv 3) (pa_cons (pv 4) (pa_cons (pv 5) pa_nil))))))))), ?_⟩
    have l0 : (0 : Int).toNat < ds.length := by rw [len]; decide
    have l1 : (1 : Int).toNat < ds.length := by rw [len]; decide
    -- marks, states
    have mk := ep_I0 (g := fun i j => V.int (i + j)) (σ := [some v, some (V.int 8), some (V.int 5), none, none, none, none, none, none]) (H := H) (ep_c (v := .int 2)) (ep_I (C := fun _ j => 0 < j) (g := fun i j => V.int (i % j)) (ep_dig (K := K) (ep_var (i := 0) rfl hds) (ep_c (v := .int 0)) (by decide) l0) (ep_is (ep_I0 (g := fun i j => V.int (i - j)) (ep_vi (i := 1) (v := .int 8) rfl) (ep_c (v := .int 1))) (show V.int (8 - 1) = V.int 7 from rfl)) (by decide))
    have m1 := Int.emod_nonneg (ds[(0 : Int).toNat]'l0) (show (7 : Int) ≠ 0 by decide)
    have m2 := Int.emod_lt_of_pos (ds[(0 : Int).toNat]'l0) (show (0 : Int) < 7 by decide)
    refine s_seq (s_setI mk fun H1 e1 => ?_)
    generalize hmm : 2 + (ds[(0 : Int).toNat]'l0) % 7 = m at *
    have sk := ep_I0 (g := fun i j => V.int (i + j)) (σ := [some v, some (V.int 8), some (V.int 5), some (V.int m), none, none, none, none, none]) (H := H1) (ep_c (v := .int 1)) (ep_I (C := fun _ j => 0 < j) (g := fun i j => V.int (i % j)) (ep_dig (K := K) (ep_var (i := 0) rfl (Mono.up e1 hds)) (ep_c (v := .int 1)) (by decide) l1) (ep_vi (i := 2) (v := .int 5) rfl) (by decide))
    have s1 := Int.emod_nonneg (ds[(1 : Int).toNat]'l1) (show (5 : Int) ≠ 0 by decide)
    have s2 := Int.emod_lt_of_pos (ds[(1 : Int).toNat]'l1) (show (0 : Int) < 5 by decide)
    refine s_seq (s_setI sk fun H2 e2 => ?_)
    generalize hss : 1 + (ds[(1 : Int).toNat]'l1) % 5 = sn at *
    have bm : 2 ≤ m ∧ m ≤ 8 := by omega
    have bs : 1 ≤ sn ∧ sn ≤ 5 := by omega
    have prod : m * sn ≤ 40 ∧ 0 ≤ m * sn := by
      have h1 : m * sn ≤ 8 * sn := Int.mul_le_mul_of_nonneg_right bm.2 (by omega)
      have h2 : 0 ≤ m * sn := Int.mul_nonneg (by omega) (by omega)
      omega
    -- rows = []
    refine s_seq ?_
    refine ⟨Nat.zero_le _, fun l nl => ?_⟩
    have B3 : Ex H (upd H2 l (.lst [])) := (e1.trans e2).trans (Ex.new nl)
    have nlH : H l = none := fresh_back (e1.trans e2) nl
    have hl3 : (upd H2 l (.lst [])) l = some (.lst []) := upd_same
    generalize upd H2 l (.lst []) = H3 at *
    dsimp only
    refine s_seq (s_forR1 (n := m * sn) (ea_cons (EvP.ev (ep_I (C := CMul) (g := fun i j => V.int (i * j)) (ep_vi (i := 3) (v := .int m) rfl) (ep_vi (i := 4) (v := .int sn) rfl) (.inl ⟨by omega, by omega⟩))) ea_nil) (by omega)
      (fun i σ H4 => ∃ (x6 x7 x8 : Option V) (rs : List (Option (Int × Int × Int))) (us : List V), σ = [some v, some (V.int 8), some (V.int 5), some (V.int m), some (V.int sn), some (V.ref l), x6, x7, x8] ∧ Ex H H4 ∧ H4 l = some (.lst us) ∧ AllP (rs.map (rowP K)) us H4 ∧ rs.length = i ∧ ∀ r ∈ rs, RowOk m sn r)
      (fun H4 e4 => ⟨none, none, none, [], [], rfl, B3.trans e4, e4 l _ hl3, trivial, rfl, fun r hr => by cases hr⟩) ?_ ?_)
    · rintro i σ H4 hi ⟨x6, x7, x8, rs, us, rfl, B4, hl4, hus, lrs, okr⟩
      have k1 := Int.emod_nonneg (i : Int) (show (12 : Int) ≠ 0 by decide)
      have k2 := Int.emod_lt_of_pos (i : Int) (show (0 : Int) < 12 by decide)
      have idx : ∀ (σ : L2.St) (H5 : Hp) (c : Int), σ[6]? = some (some (.int (i : Int))) → EvP (tOp (rI0 fun i j => .int (i + j)) (tC (.int c)) (tOp (rI CMul fun i j => .int (i * j)) (tC (.int 3)) (tOp (rI (fun _ j => 0 < j) fun i j => .int (i % j)) (tCB rIntS (tCons (tVar 6) tNil)) (tC (.int 12))))) σ H5 (IsI (c + 3 * ((i : Int) % 12))) := fun σ H5 c h6 =>
        ep_I0 ep_c (ep_I (C := CMul) ep_c (ep_I (C := fun _ j => 0 < j) (ep_toInt (ep_vi h6)) ep_c (by decide)) (.inl ⟨by decide, by decide⟩))
      have dig : ∀ (σ : L2.St) (H5 : Hp) (c : Int), σ[0]? = some (some v) → σ[6]? = some (some (.int (i : Int))) → Ex H H5 → 0 ≤ c → c ≤ 4 → ∃ y, EvP (tOp (rIxL K) (tVar 0) (tOp (rI0 fun i j => .int (i + j)) (tC (.int c)) (tOp (rI CMul fun i j => .int (i * j)) (tC (.int 3)) (tOp (rI (fun _ j => 0 < j) fun i j => .int (i % j)) (tCB rIntS (tCons (tVar 6) tNil)) (tC (.int 12)))))) σ H5 (IsI y) := fun σ H5 c h0 h6 e5 c0 c4 =>
        ⟨_, ep_dig (ep_var h0 (Mono.up e5 hds)) (idx σ H5 c h6) (by omega) (by rw [len]; omega)⟩
      have quo : ∀ (σ : L2.St) (H5 : Hp), σ[6]? = some (some (.int (i : Int))) → EvP (tOp (rI CDiv fun i j => .int (i / j)) (tVar 6) (tC (.int 12))) σ H5 (IsI ((i : Int) / 12)) := fun σ H5 h6 => ep_I (ep_vi h6) ep_c ⟨by decide, by decide⟩
      obtain ⟨y1, hy1⟩ := dig [some v, some (V.int 8), some (V.int 5), some (V.int m), some (V.int sn), some (V.ref l), some (V.int (i : Int)), x7, x8] H4 2 rfl rfl B4 (by decide) (by decide)
      refine s_seq (s_setI (v := .int (y1 + 7 * ((i : Int) / 12))) (ep_I0 hy1 (ep_I (C := CMul) ep_c (quo _ H4 rfl) (.inl ⟨by decide, by decide⟩))) fun H5 e5 => ?_)
      generalize y1 + 7 * ((i : Int) / 12) = dg
      -- a row is put behind the others
      have put : ∀ (r : Option (Int × Int × Int)) (u : V) (H6 : Hp) (x8 : Option V), Ex H4 H6 → rowP K r u H6 → RowOk m sn r →
          ∃ (y6 y7 y8 : Option V) (rs : List (Option (Int × Int × Int))) (us' : List V), [some v, some (V.int 8), some (V.int 5), some (V.int m), some (V.int sn), some (V.ref l), some (V.int (i : Int)), some (V.int dg), x8] = [some v, some (V.int 8), some (V.int 5), some (V.int m), some (V.int sn), some (V.ref l), y6, y7, y8] ∧
            Ex H (upd H6 l (.lst (us ++ [u]))) ∧ (upd H6 l (.lst (us ++ [u]))) l = some (.lst us') ∧ AllP (rs.map (rowP K)) us' (upd H6 l (.lst (us ++ [u]))) ∧ rs.length = i + 1 ∧ ∀ r ∈ rs, RowOk m sn r := fun r u H6 x8 e6 hr or => by
        have hl6 := e6 l _ hl4
        have nt : ∀ ys, HO.lst us ≠ .tup ys := fun _ z => by cases z
        have nf : ∀ o w, HO.lst us ≠ .frz o w := fun _ _ z => by cases z
        have all : AllP ((rs ++ [r]).map (rowP K)) (us ++ [u]) H6 := by
          rw [List.map_append]
          exact allP_snoc (MonoA.up e6 hus) hr
        refine ⟨_, _, _, rs ++ [r], us ++ [u], rfl, Ex.mut (B4.trans e6) nlH, upd_same, MonoA.up (Ex.mut drop_ex drop_at) (drop_rows hl6 nt nf all), by rw [List.length_append, lrs]; rfl, fun r' hr' => ?_⟩
        rcases List.mem_append.mp hr' with h | h
        · exact okr r' h
        · rw [List.mem_singleton.mp h]
          exact or
      have lus : us.length < 100000 := by
        have := allP_len hus
        rw [List.length_map, lrs] at this
        omega
      refine s_if (et_P (ep_eqI (ep_I (C := fun _ j => 0 < j) (g := fun i j => .int (i % j)) (ep_vi (v := .int dg) rfl) (ep_c (v := .int 5)) (by decide)) ep_c)) (fun _ H6 e6 => ?_) fun _ H6 e6 => ?_
      · refine s_appP (P := Is .non) ((e5.trans e6) l _ hl4) (ep_vi rfl).ev ep_c lus fun u H7 e7 hu => ?_
        exact put none u H7 _ ((e5.trans e6).trans e7) hu trivial
      · obtain ⟨y2, hy2⟩ := dig [some v, some (V.int 8), some (V.int 5), some (V.int m), some (V.int sn), some (V.ref l), some (V.int (i : Int)), some (V.int dg), x8] H6 3 rfl rfl (B4.trans (e5.trans e6)) (by decide) (by decide)
        have v1 := Int.emod_nonneg (y2 / 3) (show (2 : Int) ≠ 0 by decide)
        have v2 := Int.emod_lt_of_pos (y2 / 3) (show (0 : Int) < 2 by decide)
        refine s_seq (s_setI (v := .int (2 * (y2 / 3 % 2) - 1)) (ep_I0 (g := fun i j => .int (i - j)) (ep_I (C := CMul) (g := fun i j => .int (i * j)) (ep_c (v := .int 2)) (ep_I (C := fun _ j => 0 < j) (g := fun i j => .int (i % j)) (ep_I (C := CDiv) (g := fun i j => .int (i / j)) hy2 (ep_c (v := .int 3)) ⟨by decide, by decide⟩) (ep_c (v := .int 2)) (by decide)) (.inl ⟨by decide, by decide⟩)) (ep_c (v := .int 1))) fun H7 e7 => ?_)
        generalize hmv : 2 * (y2 / 3 % 2) - 1 = mv
        have hmv1 : mv = 1 ∨ mv = -1 := by omega
        obtain ⟨y3, hy3⟩ := dig [some v, some (V.int 8), some (V.int 5), some (V.int m), some (V.int sn), some (V.ref l), some (V.int (i : Int)), some (V.int dg), some (V.int mv)] H7 4 rfl rfl (B4.trans ((e5.trans e6).trans e7)) (by decide) (by decide)
        have w1 := Int.emod_nonneg (dg / 5) (show m ≠ 0 by omega)
        have w2 := Int.emod_lt_of_pos (dg / 5) (show 0 < m by omega)
        have q1 := Int.emod_nonneg (y3 + (i : Int) / 12) (show sn ≠ 0 by omega)
        have q2 := Int.emod_lt_of_pos (y3 + (i : Int) / 12) (show 0 < sn by omega)
        have t1 := ep_I (C := fun _ j => 0 < j) (g := fun i j => V.int (i % j)) (σ := [some v, some (V.int 8), some (V.int 5), some (V.int m), some (V.int sn), some (V.ref l), some (V.int (i : Int)), some (V.int dg), some (V.int mv)]) (H := H7) (ep_I (C := CDiv) (g := fun i j => V.int (i / j)) (ep_vi (i := 7) (v := .int dg) rfl) (ep_c (v := .int 5)) ⟨by decide, by decide⟩) (ep_vi (i := 3) (v := .int m) rfl) (by omega)
        have t3 := ep_I (C := fun _ j => 0 < j) (g := fun i j => V.int (i % j)) (σ := [some v, some (V.int 8), some (V.int 5), some (V.int m), some (V.int sn), some (V.ref l), some (V.int (i : Int)), some (V.int dg), some (V.int mv)]) (H := H7) (ep_toInt (ep_I0 (g := fun i j => V.int (i + j)) hy3 (quo _ H7 rfl))) (ep_vi (i := 4) (v := .int sn) rfl) (by omega)
        refine s_appP (P := TupI K [dg / 5 % m, mv, (y3 + (i : Int) / 12) % sn]) (((e5.trans e6).trans e7) l _ hl4) (ep_vi rfl).ev (ep_tupI (is := [dg / 5 % m, mv, (y3 + (i : Int) / 12) % sn]) (epa_cons t1 (epa_cons (ep_vi (v := .int mv) rfl) (epa_cons t3 epa_nil))) (by show 3 ≤ 1000; decide)) lus fun u H8 e8 hu => ?_
        exact put (some (dg / 5 % m, mv, (y3 + (i : Int) / 12) % sn)) u H8 _ (((e5.trans e6).trans e7).trans e8) hu ⟨w1, w2, hmv1, q1, q2⟩
    · rintro σ H4 ⟨x6, x7, x8, rs, us, rfl, B4, hl4, hus, lrs, okr⟩
      have O : (Mach.mk m sn rs).Ok := ⟨bm.1, bm.2, bs.1, bs.2, by rw [lrs]; show ((m * sn).toNat : Int) = m * sn; omega, okr⟩
      refine s_retP (P := TapeV K cT (Mach.mk m sn rs)) (ep_tape O (ep_vi rfl) (ep_vi rfl) (ep_var rfl ⟨l, us, rfl, hl4, hus⟩)) fun v' H5 e5 hv' => ?_
      exact q v' H5 (B4.trans e5) ⟨_, O, hv'⟩
end
end Sd

set_option Elab.async false
set_option linter.all false
set_option maxRecDepth 100000
set_option maxHeartbeats 4000000
namespace Sd
open PySem PySem.Spec PyProof.Rows L2 Evl
def OptC (K : PySem.W.Frag) : Option Cfg → VP
  | none => Is .non
  | some c => CfgV K c
instance optCMono {K : PySem.W.Frag} {o : Option Cfg} : Mono (OptC K o) := match o with
  | none => isMono
  | some _ => tupPMono
theorem trim_marks_mod {m : Int} (hm : 0 < m) (xs : List Int) : Marks m (xs.map (· % m)) := fun x hx => by
  obtain ⟨y, _, rfl⟩ := List.mem_map.mp hx
  exact ⟨Int.emod_nonneg _ (by omega), Int.emod_lt_of_pos _ hm⟩
theorem headD_at (xs : List Int) : (xs ++ [0])[0]? = some (xs.headD 0) := by
  cases xs <;> rfl
theorem tail_drop (xs : List Int) : (xs.drop (min 1 xs.length)).take (xs.length - min 1 xs.length) = xs.tail := by
  cases xs with
  | nil => rfl
  | cons x r =>
    rw [show min 1 (x :: r).length = 1 by rw [List.length_cons]; omega]
    show r.take (r.length + 1 - 1) = r
    rw [Nat.add_sub_cancel, List.take_length]
section
variable {P : Program} {w : World} {K : PySem.W.Frag} {mg : Str → Option Value} {base : Heap} {f : Addr} {fd : FuncData} {cT cC cS : Addr}
/-- a call of _law_trim -/
theorem ep_wtrim {σ : L2.St} {H : Hp} {ta : TE} {xs : List Int} {E : XK} (ha : EvP ta σ H (SeqI K xs)) (hz : xs.length ≤ 1000) : EvP (tCall (spWTrim K) [] E (tCons ta tNil)) σ H (TupI K (trim xs)) :=
  ep_call (epa_cons ha epa_nil) fun vs H1 _ pa Q' E' kq => by
    obtain ⟨u, rfl, hu⟩ := all1 pa
    exact ⟨u, xs, rfl, hu, hz, kq⟩
/-! ### _law_configuration -/
def spWCfg (K : PySem.W.Frag) (cT : Addr) : Sp := fun vs H Q _ => ∃ (M : Mach) (v u : V), vs = [v, u] ∧ M.Ok ∧ TapeV K cT M v H ∧ AnyI u H ∧ ∀ v' H', Ex H H' → SomeCfg K M v' H' → Q v' H'
theorem scWCfg : FnScope ["_law_machine", "_law_cell_here", "_law_digits_here", "_law_left", "_law_right", "_law_one"] ["_law_machine", "_law_cell_here"] (defScope sWCfg) := ⟨rfl, rfl, rfl, by decide +kernel, rfl, by decide +kernel, by decide +kernel⟩
theorem ok_wcfg (F : Fun K "_law_configuration" "_law_configuration" sWCfg f fd) (T : Txt K mg cT cC cS) (D : Dfs K mg cT cC cS) : FnOk P w K mg base CX0 3 f fd ["_law_machine", "_law_cell_here"] (spWCfg K cT) := by
  obtain ⟨fD, fdD, FD, bD, gD⟩ := D.wDig
  have GD : FnOk P w K mg base CX0 2 fD fdD ["_law_cell_here", "_law_count", "_law_many"] spWDig := ok_wdig FD T D
  obtain ⟨fR, fdR, FR, bR, gR⟩ := D.wTrim
  have GR : FnOk P w K mg base CX0 1 fR fdR ["_law_row"] (spWTrim K) := ok_wtrim FR T
  refine F.ok scWCfg (fun vs H Q E h => ?_) (fun cdv A outer s H vs Q E hr h => ?_)
  · obtain ⟨M, v, u, rfl, _⟩ := h
    rfl
  · obtain ⟨M, v, u, rfl, O, hv, hu, q⟩ := h
    have hr1 : Room 1 _ := hr.mono (by decide)
    refine ⟨_, pss_cons (ps_set (i := 2) scWCfg.nd rfl (.inl rfl) (pe_call GD hr rfl gD FD.kp bD .nil pass0 (pa_cons (pv 1) (pa_cons pe_int (pa_cons pe_int pa_nil)))))
      (pss_cons (ps_set (i := 3) scWCfg.nd rfl (.inl rfl) (pe_call GR hr1 rfl gR FR.kp bR .nil pass0 (pa_cons (pe_lc (own := [("_law_one", 5)]) (g := gName 5) (tt := tYes) rfl scWCfg.nd
          (pi_list (pe_slice sl_list (pv 2) (po_some pe_int) (po_some (pe_op op_add pe_int (pe_op op_mod (pe_ix ix_list (pv 2) pe_int (fun _ _ => rfl)) pe_int)))))
          (blkOk_by (own := [("_law_one", 5)]) (N := ["_law_machine", "_law_cell_here", "_law_digits_here", "_law_left", "_law_right", "_law_one"]) (sc := defScope sWCfg) (by decide +kernel))
          (fun _ _ _ _ _ => pg_name (i := 5) scWCfg.nd rfl (Or.inl rfl)) (fun _ _ _ _ _ => pts_nil)
          (fun _ _ _ _ _ => pe_op op_mod (pv 5) (show PE _ _ (tFld K (tVar 0) "marks") from pe_fld (pv 0) rfl))) pa_nil)))
      (pss_cons (ps_set (i := 4) scWCfg.nd rfl (.inl rfl) (pe_call GR hr1 rfl gR FR.kp bR .nil pass0 (pa_cons (pe_lc (own := [("_law_one", 5)]) (g := gName 5) (tt := tYes) rfl scWCfg.nd
          (pi_list (pe_slice sl_list (pv 2) (po_some pe_int) (po_some (pe_op op_add pe_int (pe_op op_mod (pe_ix ix_list (pv 2) pe_int (fun _ _ => rfl)) pe_int)))))
          (blkOk_by (own := [("_law_one", 5)]) (N := ["_law_machine", "_law_cell_here", "_law_digits_here", "_law_left", "_law_right", "_law_one"]) (sc := defScope sWCfg) (by decide +kernel))
          (fun _ _ _ _ _ => pg_name (i := 5) scWCfg.nd rfl (Or.inl rfl)) (fun _ _ _ _ _ => pts_nil)
          (fun _ _ _ _ _ => pe_op op_mod (pv 5) (show PE _ _ (tFld K (tVar 0) "marks") from pe_fld (pv 0) rfl))) pa_nil)))
      (pss_one (ps_ret (pe_tup (pa_cons (pe_op op_mod (pe_ix ix_list (pv 2) pe_int (fun _ _ => rfl)) (pe_fld (pv 0) rfl)) (pa_cons (pv 3) (pa_cons (pe_op op_mod (pe_op op_fdiv (pe_ix ix_list (pv 2) pe_int (fun _ _ => rfl)) pe_int) (pe_fld (pv 0) rfl)) (pa_cons (pv 4) pa_nil))))))))), ?_⟩
    have m2 := O.m2
    have m8 := O.m8
    have s1 := O.s1
    have hm : 0 < M.m := by omega
    refine s_seq (s_set (P := DigV 16 840) (ep_wdig (ep_var rfl hu) (ep_c (v := .int (16 : Nat))) ep_c (by decide) (by decide) (by decide)) fun dv H1 e1 hdv => ?_)
    obtain ⟨ds, hds, len, rng⟩ := hdv
    have hv1 := Mono.up e1 hv
    -- one side: [one % marks for one in digits[lo:lo + digits[j] % 6]]
    have side : ∀ (σ : L2.St) (H2 : Hp) (lo : Nat) (j : Int), Ex H1 H2 → σ[0]? = some (some v) → σ[2]? = some (some dv) → σ.length = 6 → lo ≤ 9 → 0 ≤ j → j ≤ 1 → ∃ xs : List Int, xs.length ≤ 5 ∧ EvP (tLc (iList K (tSl (rSlL K) (tVar 2) (tPart (tC (.int (lo : Int)))) (tPart (tOp (rI0 fun i j => .int (i + j)) (tC (.int (lo : Int))) (tOp (rI (fun _ j => 0 < j) fun i j => .int (i % j)) (tOp (rIxL K) (tVar 2) (tC (.int j))) (tC (.int 6)))))))
        (gName 5) tYes (tOp (rI (fun _ j => 0 < j) fun i j => .int (i % j)) (tVar 5) (tFld K (tVar 0) "marks")) [5]) σ H2 (SeqI K (xs.map (· % M.m))) := fun σ H2 lo j e2 s0 s2 sl lo9 j0 j1 => by
      have hj : j.toNat < ds.length := by rw [len]; omega
      have r1 := Int.emod_nonneg (ds[j.toNat]'hj) (show (6 : Int) ≠ 0 by decide)
      have r2 := Int.emod_lt_of_pos (ds[j.toNat]'hj) (show (0 : Int) < 6 by decide)
      obtain ⟨r, hrr⟩ : ∃ r : Nat, (ds[j.toNat]'hj) % 6 = (r : Int) := ⟨((ds[j.toNat]'hj) % 6).toNat, by omega⟩
      have hi := ep_I0 (g := fun i j => V.int (i + j)) (σ := σ) (H := H2) (ep_c (v := .int (lo : Int))) (ep_I (C := fun _ j => 0 < j) (g := fun i j => V.int (i % j)) (ep_dig (K := K) (ep_var s2 (Mono.up e2 hds)) (ep_c (v := .int j)) j0 hj) (ep_c (v := .int 6)) (by decide))
      rw [hrr] at hi
      have cut := ep_slL (K := K) (σ := σ) (H := H2) (ta := tVar 2) (ep_var s2 (Mono.up e2 hds)) (epo_some (ep_c (v := .int (lo : Int)))) (epo_some hi)
      rw [HT.sIx_nat, show ((lo : Int) + (r : Int)) = ((lo + r : Nat) : Int) by omega, HT.sIx_nat] at cut
      refine ⟨_, ?_, (ep_lcL (K := K) ((((ds.drop (min lo ds.length)).take (min (lo + r) ds.length - min lo ds.length)).map (· % M.m)).map V.int) (cut.imp fun _ _ _ h => h) (by simp) ?_ (fun x => ?_) fun i x y H3 e3 hx hy => ?_).imp fun _ _ _ h => .inr h⟩
      · rw [List.length_take]
        omega
      · rw [List.length_map, List.length_map, List.length_take]
        omega
      · show ((σ.set 5 none).set 5 (some x)).set 5 none = σ.set 5 none
        rw [List.set_set, List.set_set]
      · rw [List.getElem?_map] at hx hy
        rw [List.getElem?_map] at hy
        cases ez : ((ds.drop (min lo ds.length)).take (min (lo + r) ds.length - min lo ds.length))[i]? with
        | none =>
          rw [ez] at hx
          cases hx
        | some z =>
          rw [ez] at hx hy
          have ex : x = V.int z := (Option.some.inj hx).symm
          have ey : y = V.int (z % M.m) := (Option.some.inj hy).symm
          subst ex ey
          have g5 : ((wipe σ [5]).set 5 (some (V.int z)))[5]? = some (some (V.int z)) := by
            show ((σ.set 5 none).set 5 (some (V.int z)))[5]? = _
            rw [List.set_set, List.getElem?_set_self (by omega)]
          have g0 : ((wipe σ [5]).set 5 (some (V.int z)))[0]? = some (some v) := by
            show ((σ.set 5 none).set 5 (some (V.int z)))[0]? = _
            rw [List.set_set, List.getElem?_set_ne (by decide)]
            exact s0
          exact ep_I (C := fun _ j => 0 < j) (g := fun i j => V.int (i % j)) (ep_vi g5) (ep_marks T (ep_var g0 (Mono.up (e2.trans e3) hv1))) hm
    obtain ⟨ls, ll, hls⟩ := side [some v, some u, some dv, none, none, none] H1 3 0 (Ex.refl H1) rfl rfl rfl (by decide) (by decide) (by decide)
    refine s_seq (s_set (ep_wtrim hls (by rw [List.length_map]; omega)) fun lv H2 e2 hlv => ?_)
    obtain ⟨rs, rl, hrs⟩ := side [some v, some u, some dv, some lv, none, none] H2 9 1 e2 rfl rfl rfl (by decide) (by decide) (by decide)
    refine s_seq (s_set (ep_wtrim hrs (by rw [List.length_map]; omega)) fun rv H3 e3 hrv => ?_)
    have e13 := e2.trans e3
    have l2 : (2 : Int).toNat < ds.length := by rw [len]; decide
    have q1 := Int.emod_nonneg (ds[(2 : Int).toNat]'l2) (show M.s ≠ 0 by omega)
    have q2 := Int.emod_lt_of_pos (ds[(2 : Int).toNat]'l2) (show 0 < M.s by omega)
    have a1 := Int.emod_nonneg ((ds[(2 : Int).toNat]'l2) / 40) (show M.m ≠ 0 by omega)
    have a2 := Int.emod_lt_of_pos ((ds[(2 : Int).toNat]'l2) / 40) hm
    have t1 := ep_I (C := fun _ j => 0 < j) (g := fun i j => V.int (i % j)) (σ := [some v, some u, some dv, some lv, some rv, none]) (H := H3) (ep_dig (K := K) (ep_var (i := 2) rfl (Mono.up e13 hds)) (ep_c (v := .int 2)) (by decide) l2) (ep_states T (ep_var (i := 0) rfl (Mono.up e13 hv1))) (by omega)
    have t3 := ep_I (C := fun _ j => 0 < j) (g := fun i j => V.int (i % j)) (σ := [some v, some u, some dv, some lv, some rv, none]) (H := H3) (ep_I (C := CDiv) (g := fun i j => V.int (i / j)) (ep_dig (K := K) (ep_var (i := 2) rfl (Mono.up e13 hds)) (ep_c (v := .int 2)) (by decide) l2) (ep_c (v := .int 40)) ⟨by decide, by decide⟩) (ep_marks T (ep_var (i := 0) rfl (Mono.up e13 hv1))) hm
    have C : CfgOk M ⟨(ds[(2 : Int).toNat]'l2) % M.s, trim (ls.map (· % M.m)), (ds[(2 : Int).toNat]'l2) / 40 % M.m, trim (rs.map (· % M.m))⟩ := ⟨q1, q2, a1, a2, (trim_marks_mod hm ls).trim, (trim_marks_mod hm rs).trim, trim_trim _, trim_trim _⟩
    refine s_retP (P := CfgV K ⟨(ds[(2 : Int).toNat]'l2) % M.s, trim (ls.map (· % M.m)), (ds[(2 : Int).toNat]'l2) / 40 % M.m, trim (rs.map (· % M.m))⟩) (ep_tup (epa_cons t1 (epa_cons (ep_var rfl (Mono.up e3 hlv)) (epa_cons t3 (epa_cons (ep_var rfl hrv) epa_nil)))) (by show 4 ≤ 1000; decide)) fun v' H4 e4 hv' => ?_
    refine q v' H4 ((e1.trans e13).trans e4) ⟨_, C, ?_, ?_, hv'⟩
    · have := trim_len (ls.map (· % M.m))
      rw [List.length_map] at this
      exact Nat.le_trans this ll
    · have := trim_len (rs.map (· % M.m))
      rw [List.length_map] at this
      exact Nat.le_trans this rl
/-! ### _law_next -/
def spWNext (K : PySem.W.Frag) (cT : Addr) : Sp := fun vs H Q _ => ∃ (M : Mach) (c : Cfg) (v u : V), vs = [v, u] ∧ M.Ok ∧ CfgOk M c ∧ TapeV K cT M v H ∧ CfgV K c u H ∧ c.l.length + c.r.length ≤ 300 ∧ ∀ v' H', Ex H H' → OptC K (next M c) v' H' → Q v' H'
theorem scWNext : FnScope ["_law_machine", "_law_configuration_here", "_law_state", "_law_left", "_law_mark", "_law_right", "_law_row"] ["_law_machine", "_law_configuration_here"] (defScope sWNext) := ⟨rfl, rfl, rfl, by decide +kernel, rfl, by decide +kernel, by decide +kernel⟩
theorem ok_wnext (F : Fun K "_law_next" "_law_next" sWNext f fd) (T : Txt K mg cT cC cS) (D : Dfs K mg cT cC cS) : FnOk P w K mg base CX0 3 f fd ["_law_machine", "_law_configuration_here"] (spWNext K cT) := by
  obtain ⟨fR, fdR, FR, bR, mR⟩ := D.tRow
  have GR : FnOk P w K mg base CX0 2 fR fdR ["self", "state", "mark"] (spTRow K cT) := ok_tRow FR T D
  obtain ⟨fW, fdW, FW, bW, gW⟩ := D.wTrim
  have GW : FnOk P w K mg base CX0 1 fW fdW ["_law_row"] (spWTrim K) := ok_wtrim FW T
  refine F.ok scWNext (fun vs H Q E h => ?_) (fun cdv A outer s H vs Q E hr h => ?_)
  · obtain ⟨M, c, v, u, rfl, _⟩ := h
    rfl
  · obtain ⟨M, c, v, u, rfl, O, C, hv, hu, hz, q⟩ := h
    have hr1 : Room 1 _ := hr.mono (by decide)
    refine ⟨_, pss_cons (ps_asg (pv 1) (pg_tup (by rfl) (pgs_cons (pg_name (i := 2) scWNext.nd rfl (.inl rfl)) (pgs_cons (pg_name (i := 3) scWNext.nd rfl (.inl rfl)) (pgs_cons (pg_name (i := 4) scWNext.nd rfl (.inl rfl)) (pgs_cons (pg_name (i := 5) scWNext.nd rfl (.inl rfl)) pgs_nil))))))
      (pss_cons (ps_set (i := 6) scWNext.nd rfl (.inl rfl) (pe_meth (pv 0) T.clT mR GR hr bR .nil pass0 (pa_cons (pv 2) (pa_cons (pv 4) pa_nil))))
      (pss_cons (ps_if (pt_cmpR op_isN1 (pv 6) pe_non (nomark _)) (pss_one (ps_ret pe_non)) pss_nil)
      (pss_cons (ps_if (pt_cmpR op_eq (pe_ix ix_tup (pv 6) pe_int (fun _ _ => rfl)) pe_int (nomark _))
          (pss_cons (ps_set (i := 3) scWNext.nd rfl (.inl rfl) (pe_call GW hr1 rfl gW FW.kp bW .nil pass0 (pa_cons (pe_op op_catA (pe_tup (pa_cons (pe_ix ix_tup (pv 6) pe_int (fun _ _ => rfl)) pa_nil)) (pv 3)) pa_nil)))
          (pss_one (ps_ret (pe_tup (pa_cons (pe_ix ix_tup (pv 6) pe_int (fun _ _ => rfl)) (pa_cons (pv 3) (pa_cons (pe_ix ix_tup (pe_op op_catA (pv 5) (pe_tup (pa_cons pe_int pa_nil))) pe_int (fun _ _ => rfl)) (pa_cons (pe_slice sl_tupA (pv 5) (po_some pe_int) po_none) pa_nil)))))))) pss_nil)
      (pss_cons (ps_set (i := 5) scWNext.nd rfl (.inl rfl) (pe_call GW hr1 rfl gW FW.kp bW .nil pass0 (pa_cons (pe_op op_catA (pe_tup (pa_cons (pe_ix ix_tup (pv 6) pe_int (fun _ _ => rfl)) pa_nil)) (pv 5)) pa_nil)))
      (pss_one (ps_ret (pe_tup (pa_cons (pe_ix ix_tup (pv 6) pe_int (fun _ _ => rfl)) (pa_cons (pe_slice sl_tupA (pv 3) (po_some pe_int) po_none) (pa_cons (pe_ix ix_tup (pe_op op_catA (pv 3) (pe_tup (pa_cons pe_int pa_nil))) pe_int (fun _ _ => rfl)) (pa_cons (pv 5) pa_nil))))))))))), ?_⟩
    refine s_seq (s_unpack4 (ep_var rfl hu) fun v1 v2 v3 v4 H1 e1 p1 p2 p3 p4 => ?_)
    have eq1 : v1 = V.int c.q := p1
    have eq3 : v3 = V.int c.a := p3
    subst eq1 eq3
    refine s_seq (s_set (P := rowP K (M.at c.q c.a)) (ep_row O (ep_var rfl (Mono.up e1 hv)) (ep_vi rfl) (ep_vi rfl) C.q0 C.q1 C.a0 C.a1) fun rv H2 e2 hrv => ?_)
    cases er : M.at c.q c.a with
    | none =>
      rw [er] at hrv
      have en : next M c = none := by
        unfold next
        rw [er]
      refine s_seq (s_if (b := true) (et_isN (Po := Is .non) (ep_var rfl hrv) fun v H2 hv => by rw [hv]; rfl) (fun _ H3 e3 => ?_) fun z => by cases z)
      refine s_retP (P := Is .non) ep_c fun v' H4 e4 hv' => ?_
      refine q v' H4 (((e1.trans e2).trans e3).trans e4) ?_
      rw [en]
      exact hv'
    | some t =>
      obtain ⟨w0, v0, q'⟩ := t
      rw [er] at hrv
      have hrv : TupI K [w0, v0, q'] rv H2 := hrv
      have en : next M c = some (goes c w0 v0 q') := by
        unfold next
        rw [er]
      refine s_seq (s_if (b := false) (et_isN (ep_var rfl hrv) fun v H2 hv => by obtain ⟨_, rfl, _⟩ := hv; rfl) (fun z => by cases z) fun _ H3 e3 => ?_)
      have item : ∀ (σ : L2.St) (H4 : Hp) (i x : Int), σ[6]? = some (some rv) → Ex H2 H4 → 0 ≤ i → [w0, v0, q'][i.toNat]? = some x → EvP (tOp (rIxT K) (tVar 6) (tC (.int i))) σ H4 (IsI x) := fun σ H4 i x h6 e4 i0 hx => ep_ixT (ep_var h6 (Mono.up e4 hrv)) ep_c i0 hx
      have p2' := Mono.up (e2.trans e3) p2
      have p4' := Mono.up (e2.trans e3) p4
      have one0 : ∀ (σ : L2.St) (H4 : Hp), EvP (tTup (tCons (tC (.int 0)) tNil)) σ H4 (TupI K [0]) := fun σ H4 => ep_tupI (is := [0]) (epa_cons ep_c epa_nil) (by show 1 ≤ 1000; decide)
      by_cases hv1 : v0 = 1
      · refine s_seq (s_if (b := true) (et_is (et_P (ep_eqI (item _ H3 1 v0 rfl e3 (by decide) rfl) ep_c)) (decide_eq_true hv1)) (fun _ H4 e4 => ?_) fun z => by cases z)
        refine s_seq (s_set (P := TupI K (trim (w0 :: c.l))) (ep_wtrim (xs := w0 :: c.l) ((ep_cat (xs := [w0]) (ep_tupI (is := [w0]) (epa_cons (item _ H4 0 w0 rfl (e3.trans e4) (by decide) rfl) epa_nil) (by show 1 ≤ 1000; decide)) (ep_var rfl (Mono.up e4 p2')) (by show 1 + c.l.length ≤ 1000; omega)).imp fun _ _ _ h => .inl h) (by rw [List.length_cons]; omega)) fun lv H5 e5 hlv => ?_)
        have tl := ep_slT (K := K) (σ := [some v, some u, some (V.int c.q), some lv, some (V.int c.a), some v4, some rv]) (H := H5) (ta := tVar 5) (ep_var rfl (Mono.up (e4.trans e5) p4')) (epo_some (ep_c (v := .int 1))) epo_none
        rw [HT.sIx_none, show (1 : Int) = ((1 : Nat) : Int) from rfl, HT.sIx_nat, tail_drop] at tl
        dsimp only
        refine s_retP (P := CfgV K (goes c w0 v0 q')) ?_ fun v' H6 e6 hv' => ?_
        · unfold goes
          rw [if_pos hv1]
          exact ep_tup (epa_cons (item _ H5 2 q' rfl (e3.trans (e4.trans e5)) (by decide) rfl) (epa_cons (ep_var rfl hlv) (epa_cons (ep_ixT (ep_cat (ep_var rfl (Mono.up (e4.trans e5) p4')) (one0 _ H5) (by show c.r.length + 1 ≤ 1000; omega)) ep_c (by decide) (headD_at c.r)) (epa_cons tl epa_nil)))) (by show 4 ≤ 1000; decide)
        · refine q v' H6 ((((e1.trans e2).trans e3).trans (e4.trans e5)).trans e6) ?_
          rw [en]
          exact hv'
      · refine s_seq (s_if (b := false) (et_is (et_P (ep_eqI (item _ H3 1 v0 rfl e3 (by decide) rfl) ep_c)) (decide_eq_false hv1)) (fun z => by cases z) fun _ H4 e4 => ?_)
        refine s_seq (s_set (P := TupI K (trim (w0 :: c.r))) (ep_wtrim (xs := w0 :: c.r) ((ep_cat (xs := [w0]) (ep_tupI (is := [w0]) (epa_cons (item _ H4 0 w0 rfl (e3.trans e4) (by decide) rfl) epa_nil) (by show 1 ≤ 1000; decide)) (ep_var rfl (Mono.up e4 p4')) (by show 1 + c.r.length ≤ 1000; omega)).imp fun _ _ _ h => .inl h) (by rw [List.length_cons]; omega)) fun lv H5 e5 hlv => ?_)
        have tl := ep_slT (K := K) (σ := [some v, some u, some (V.int c.q), some v2, some (V.int c.a), some lv, some rv]) (H := H5) (ta := tVar 3) (ep_var rfl (Mono.up (e4.trans e5) p2')) (epo_some (ep_c (v := .int 1))) epo_none
        rw [HT.sIx_none, show (1 : Int) = ((1 : Nat) : Int) from rfl, HT.sIx_nat, tail_drop] at tl
        dsimp only
        refine s_retP (P := CfgV K (goes c w0 v0 q')) ?_ fun v' H6 e6 hv' => ?_
        · unfold goes
          rw [if_neg hv1]
          exact ep_tup (epa_cons (item _ H5 2 q' rfl (e3.trans (e4.trans e5)) (by decide) rfl) (epa_cons tl (epa_cons (ep_ixT (ep_cat (ep_var rfl (Mono.up (e4.trans e5) p2')) (one0 _ H5) (by show c.l.length + 1 ≤ 1000; omega)) ep_c (by decide) (headD_at c.l)) (epa_cons (ep_var rfl hlv) epa_nil)))) (by show 4 ≤ 1000; decide)
        · refine q v' H6 ((((e1.trans e2).trans e3).trans (e4.trans e5)).trans e6) ?_
          rw [en]
          exact hv'
end
end Sd

set_option Elab.async false
set_option linter.all false
set_option maxRecDepth 100000
set_option maxHeartbeats 4000000
namespace Sd
open PySem PySem.Spec PyProof.Rows L2 Evl
/-! ### bounds for the whole run -/
theorem keeps_chF {M : Mach} (O : M.Ok) : Keeps M.n (chF M) := fun l x r _ hx _ => chF_bd O hx.1 hx.2
theorem all_line {M : Mach} {c : Cfg} (O : M.Ok) (C : CfgOk M c) : All M.n (line M c) := fun x hx => by
  unfold line at hx
  rcases List.mem_append.mp hx with hx | hx
  · exact in_mark O (C.lm.rev x hx).1 (C.lm.rev x hx).2
  · rcases List.mem_cons.mp hx with rfl | hx
    · exact in_ltr O C.q0 C.q1 C.a0 C.a1
    · exact in_mark O (C.rm x hx).1 (C.rm x hx).2
theorem line_len (M : Mach) (c : Cfg) : (line M c).length = c.l.length + c.r.length + 1 := by
  unfold line
  simp
  omega
theorem turn_len {M : Mach} {shown : List (List Int)} {steps k : Nat} {c : Cfg} {a : Int} {L : Nat} (T : Turn M shown steps k c a) (h : ∀ r ∈ shown, r.length = L) : c.l.length + c.r.length + 1 ≤ L := by
  obtain ⟨pre, A, B, rfl, hp, R, _, _, _⟩ := T
  have m : (A ++ ltr M.m c.a c.q :: B) ∈ rowsM (chF M) (steps - k) (A ++ ltr M.m c.a c.q :: B) := List.mem_of_getElem? (rowsM_head _ _ _)
  have hl := h _ (List.mem_append_right _ m)
  rw [List.length_append, List.length_cons] at hl
  have h1 := trim_len A.reverse
  have h2 := trim_len B
  rw [R.al, List.length_reverse] at h1
  rw [R.br] at h2
  omega
theorem nextM_none {M : Mach} {c : Cfg} (h : M.at c.q c.a = none) : next M c = none := by
  unfold next
  rw [h]
theorem nextM_some {M : Mach} {c : Cfg} {w v q : Int} (h : M.at c.q c.a = some (w, v, q)) : next M c = some (goes c w v q) := by
  unfold next
  rw [h]
/-- (0, 1)[:0] or (0, 1)[:2] -/
def Cut01 (K : PySem.W.Frag) : VP := fun v H => TupI K [] v H ∨ TupI K [0, 1] v H
instance cutMono {K : PySem.W.Frag} : Mono (Cut01 K) := ⟨fun e h => h.elim (fun q => .inl (Mono.up e q)) fun q => .inr (Mono.up e q)⟩
section
variable {K : PySem.W.Frag} {σ : L2.St} {H : Hp} {ta tb te : TE} {P : VP} {D : Ends} {tu tw : TS}
theorem rslA_ok {xs : List Int} {v : V} {lo hi : Option Int} {Q : VK} (h : TupI K xs v H) (q : ∀ v' H', Ex H H' → TupI K ((xs.drop (HT.sIx xs.length 0 lo)).take (HT.sIx xs.length xs.length hi - HT.sIx xs.length 0 lo)) v' H' → Q v' H') : rSlA K v lo hi H Q := by
  have z := ep_slT (K := K) (σ := [some v]) (H := H) (ta := tVar 0) (tl := fun _ H Q => Q lo H) (th := fun _ H Q => Q hi H) (lo := lo) (hi := hi) (ep_var rfl h) (fun H1 _ Q q => q H1 (Ex.refl H1)) (fun H1 _ Q q => q H1 (Ex.refl H1)) H (Ex.refl H) Q q
  obtain ⟨v', e, z⟩ := z
  have e' : v = v' := Option.some.inj (Option.some.inj e)
  rw [e']
  exact z
theorem ep_cut01 (ha : EvP ta σ H (TupI K [0, 1])) (hb : EvP tb σ H (IntP fun e => e = 0 ∨ e = 2)) : EvP (tSl (rSlA K) ta tNoPart (tPart tb)) σ H (Cut01 K) := fun H1 e Q q =>
  ha H1 e _ fun v H2 e2 p => hb H2 (e.trans e2) _ fun y H3 e3 py => by
    obtain ⟨i, rfl, hi⟩ := py
    refine ⟨i, rfl, rslA_ok (Mono.up e3 p) fun v' H4 e4 hv' => q v' H4 ((e2.trans e3).trans e4) ?_⟩
    rcases hi with rfl | rfl
    · exact .inl hv'
    · exact .inr hv'
/-- a test that may go either way -/
theorem s_ifAny (ha : EvP ta σ H AnyI) (hb : EvP tb σ H AnyI) (h1 : ∀ H1, Ex H H1 → tu D σ H1) (h2 : ∀ H1, Ex H H1 → tw D σ H1) : tIfS (tTest (tOp rEq ta tb)) tu tw D σ H := ha H (Ex.refl H) _ fun x H2 e2 px => hb H2 e2 _ fun y H3 e3 py => by
  obtain ⟨i, rfl, _⟩ := px
  obtain ⟨j, rfl, _⟩ := py
  refine ⟨rfl, decide (V.int i = V.int j), rfl, ?_⟩
  cases decide (V.int i = V.int j) with
  | true => exact h1 H3 (e2.trans e3)
  | false => exact h2 H3 (e2.trans e3)
theorem ep_isBl {a b : Bool} (ha : EvP ta σ H (IsB a)) (hb : EvP tb σ H (IsB b)) : EvP (tOp rIsB ta tb) σ H (IsB (decide (a = b))) :=
  ep_op ha hb fun x y H1 _ p q Q k => ⟨a, b, p, q, k _ H1 (Ex.refl H1) rfl⟩
theorem ep_lst {t : TA} {Ps : List VP} [m : MonoA Ps] (h : EvPA t σ H Ps) (hl : Ps.length ≤ 1000) : EvP (tLst t) σ H (fun v H' => ∃ l us, v = .ref l ∧ H' l = some (.lst us) ∧ AllP Ps us H') := fun H1 e Q q =>
  h H1 e _ fun vs H2 e2 p2 => ⟨by rw [allP_len p2]; exact Nat.le_of_lt (small1000 hl), fun p hp => q _ _ (e2.trans (Ex.new hp)) ⟨p, vs, rfl, upd_same, m.up (Ex.new hp) p2⟩⟩
/-- rows: their number, one of them -/
theorem ep_lenR {rs : List (List Int)} (ha : EvP ta σ H (RowsV K rs)) : EvP (tCB (rLenS K) (tCons ta tNil)) σ H (IsI rs.length) := fun H1 e Q q =>
  ha H1 e _ fun v H2 e2 p => by
    obtain ⟨l, us, rfl, t, ps⟩ := p
    refine ⟨l, us, rfl, .inl (sq_of t), q _ H2 e2 ?_⟩
    rw [allP_len ps, List.length_map]
    rfl
theorem ep_ixR {rs : List (List Int)} {i : Int} {r : List Int} (ha : EvP ta σ H (RowsV K rs)) (hb : EvP tb σ H (IsI i)) (h0 : 0 ≤ i) (h : rs[i.toNat]? = some r) : EvP (tOp (rIxL K) ta tb) σ H (TupI K r) :=
  ep_op ha hb fun x y H1 _ p q Q k => by
    obtain ⟨l, us, rfl, t, ps⟩ := p
    obtain ⟨z, hz, pz⟩ := allP_get (i := i.toNat) (P := TupI K r) ps (by rw [List.getElem?_map, h]; rfl)
    exact ⟨l, us, i, z, rfl, q, sq_of t, at_of (j := i.toNat) (by omega) hz, k _ H1 (Ex.refl H1) pz⟩
end
section
variable {K : PySem.W.Frag} {mg : Str → Option Value} {cT cC cS : Addr} {σ : L2.St} {H : Hp} {to ta tb te : TE} {M : Mach} {c : Cfg} {E : XK}
/-! ### the law's calls -/
theorem ep_stair {ta : TE} (O : M.Ok) (ha : EvP ta σ H (TapeV K cT M)) : EvP (tMake cS (spSInit K cT cC cS) [] E (tCons ta tNil)) σ H (StairV K cT cC cS M) :=
  ep_make (Ps := [TapeV K cT M]) (epa_cons ha epa_nil) fun vs x dx H2 _ pa hx Q' E' kq => by
    obtain ⟨u, rfl, hu⟩ := all1 pa
    exact ⟨x, dx, u, M, rfl, hx, O, hu, kq⟩
theorem ep_downC (O : M.Ok) (C : CfgOk M c) (ho : EvP to σ H (StairV K cT cC cS M)) (ha : EvP ta σ H (CfgV K c)) (hz : c.l.length + c.r.length ≤ 300) : EvP (tMeth cS "down" (spDown K cT cC cS) [] E to (tCons ta tNil)) σ H (TupI K (line M c)) :=
  ep_meth ho (fun x H1 _ ⟨p, dx, u, y, h1, h2, _⟩ => ⟨p, dx, _, h1, h2, stairF_no (by decide +kernel) (by decide +kernel)⟩) (Ps := [CfgV K c]) (epa_cons ha epa_nil) fun x vs H1 _ hx pa Q' E' kq => by
    obtain ⟨u, rfl, hu⟩ := all1 pa
    exact ⟨M, c, x, u, rfl, O, hx, hu, C, hz, kq⟩
theorem ep_upC (O : M.Ok) (C : CfgOk M c) (ho : EvP to σ H (StairV K cT cC cS M)) (ha : EvP ta σ H (TupI K (line M c))) (hz : c.l.length + c.r.length ≤ 300) : EvP (tMeth cS "up" (spUp K cT cC cS) [] E to (tCons ta tNil)) σ H (CfgV K c) :=
  ep_meth ho (fun x H1 _ ⟨p, dx, u, y, h1, h2, _⟩ => ⟨p, dx, _, h1, h2, stairF_no (by decide +kernel) (by decide +kernel)⟩) (Ps := [TupI K (line M c)]) (epa_cons ha epa_nil) fun x vs H1 _ hx pa Q' E' kq => by
    obtain ⟨u, rfl, hu⟩ := all1 pa
    exact ⟨M, c, x, u, rfl, O, C, hx, hu, hz, kq⟩
theorem ep_paceC (O : M.Ok) (C : CfgOk M c) (ho : EvP to σ H (StairV K cT cC cS M)) (ha : EvP ta σ H (CfgV K c)) : EvP (tMeth cS "pace" (spPace K cT cC cS) [] E to (tCons ta tNil)) σ H (IsI (if M.at c.q c.a = none then 0 else 1)) :=
  ep_meth ho (fun x H1 _ ⟨p, dx, u, y, h1, h2, _⟩ => ⟨p, dx, _, h1, h2, stairF_no (by decide +kernel) (by decide +kernel)⟩) (Ps := [CfgV K c]) (epa_cons ha epa_nil) fun x vs H1 _ hx pa Q' E' kq => by
    obtain ⟨u, rfl, hu⟩ := all1 pa
    exact ⟨M, c, x, u, rfl, O, hx, hu, C, fun H2 e2 => kq _ H2 e2 rfl⟩
theorem ep_letterC {a q : Int} (O : M.Ok) (ho : EvP to σ H (StairV K cT cC cS M)) (ha : EvP ta σ H (IsI a)) (hb : EvP tb σ H (IsI q)) : EvP (tMeth cS "letter" (spLetter K cT cS) [] E to (tCons ta (tCons tb tNil))) σ H (IsI (ltr M.m a q)) :=
  ep_meth ho (fun x H1 _ ⟨p, dx, u, y, h1, h2, _⟩ => ⟨p, dx, _, h1, h2, stairF_no (by decide +kernel) (by decide +kernel)⟩) (Ps := [IsI a, IsI q]) (epa_cons ha (epa_cons hb epa_nil)) fun x vs H1 _ hx pa Q' E' kq => by
    obtain ⟨_, _, rfl, e1, e2⟩ := all2 pa
    cases e1
    cases e2
    obtain ⟨p, dx, u, y, rfl, h2, h3, _⟩ := hx
    exact ⟨p, dx, _, u, M, a, q, rfl, h2, stairF_upper u y, O, h3, fun H2 e2 => kq _ H2 e2 rfl⟩
theorem ep_rowsC {g : Int → Int → Int → Int} {n : Int} {xs : List Int} {N : Nat} (n0 : 0 < n) (kg : Keeps n g) (ho : EvP to σ H (CellsV cC n g)) (ha : EvP ta σ H (TupI K xs)) (hb : EvP tb σ H (IsI N)) (al : All n xs) (hz : xs.length ≤ 100) (N1 : 1 ≤ N) (N2 : N ≤ 100) :
    EvP (tMeth cC "rows" (spCRows K cC) [] E to (tCons ta (tCons tb tNil))) σ H (RowsV K (rowsM g N (List.replicate N 0 ++ xs ++ List.replicate N 0))) :=
  ep_meth ho (fun x H1 _ ⟨p, dx, d, kvs, h1, h2, _⟩ => ⟨p, dx, _, h1, h2, cellsF_no (by decide +kernel) (by decide +kernel)⟩) (Ps := [TupI K xs, IsI N]) (epa_cons ha (epa_cons hb epa_nil)) fun x vs H1 _ hx pa Q' E' kq => by
    obtain ⟨u, _, rfl, hu, e⟩ := all2 pa
    cases e
    exact ⟨n, g, xs, N, x, u, rfl, n0, kg, hx, hu, al, hz, N1, N2, kq⟩
theorem ep_cstopC {g : Int → Int → Int → Int} {n : Int} {xs : List Int} (n0 : 0 < n) (ho : EvP to σ H (CellsV cC n g)) (ha : EvP ta σ H (TupI K xs)) (al : All n xs) (hz : xs.length ≤ 400) : EvP (tMeth cC "stopped" (spCStop K cC) [] E to (tCons ta tNil)) σ H (IsB (stepM g xs).isNone) :=
  ep_meth ho (fun x H1 _ ⟨p, dx, d, kvs, h1, h2, _⟩ => ⟨p, dx, _, h1, h2, cellsF_no (by decide +kernel) (by decide +kernel)⟩) (Ps := [TupI K xs]) (epa_cons ha epa_nil) fun x vs H1 _ hx pa Q' E' kq => by
    obtain ⟨u, rfl, hu⟩ := all1 pa
    exact ⟨n, g, xs, x, u, rfl, n0, hx, hu, al, hz, fun H2 e2 => kq _ H2 e2 rfl⟩
theorem ep_nextC (O : M.Ok) (C : CfgOk M c) (ha : EvP ta σ H (TapeV K cT M)) (hb : EvP tb σ H (CfgV K c)) (hz : c.l.length + c.r.length ≤ 300) : EvP (tCall (spWNext K cT) [] E (tCons ta (tCons tb tNil))) σ H (OptC K (next M c)) :=
  ep_call (Ps := [TapeV K cT M, CfgV K c]) (epa_cons ha (epa_cons hb epa_nil)) fun vs H1 _ pa Q' E' kq => by
    obtain ⟨x, u, rfl, hx, hu⟩ := all2 pa
    exact ⟨M, c, x, u, rfl, O, C, hx, hu, hz, kq⟩
end
end Sd

set_option Elab.async false
set_option linter.all false
set_option maxRecDepth 100000
set_option maxHeartbeats 8000000
namespace Sd
open PySem PySem.Spec PyProof.Rows L2 Evl
section
variable {P : Program} {w : World} {K : PySem.W.Frag} {mg : Str → Option Value} {base : Heap} {f : Addr} {fd : FuncData} {cT cC cS : Addr}
def M2 : Mach := ⟨2, 1, [some (0, 1, 0), some (1, -1, 0)]⟩
theorem M2_ok : M2.Ok := ⟨by decide, by decide, by decide, by decide, rfl, fun r hr => by
  rcases List.mem_cons.mp hr with rfl | hr
  · exact ⟨by decide, by decide, .inl rfl, by decide, by decide⟩
  · rw [List.mem_singleton.mp hr]
    exact ⟨by decide, by decide, .inr rfl, by decide, by decide⟩⟩
theorem M2_cfg (r : List Int) (h : r = [] ∨ r = [0, 1]) : CfgOk M2 ⟨0, [], 0, r⟩ := by
  refine ⟨(by show (0 : Int) ≤ 0; decide), (by show (0 : Int) < 1; decide), (by show (0 : Int) ≤ 0; decide), (by show (0 : Int) < 2; decide), (fun x hx => by cases hx), ?_, rfl, ?_⟩
  · rcases h with rfl | rfl
    · intro x hx
      cases hx
    · intro x hx
      have : x = 0 ∨ x = 1 := by simpa using hx
      show 0 ≤ x ∧ x < 2
      omega
  · rcases h with rfl | rfl
    · rfl
    · decide
theorem drop_mid {α : Type} (A B : List α) (x : α) : (A ++ x :: B).drop (A.length + 1) = B := by
  rw [← List.drop_drop, List.drop_left]
  rfl
def spLaw (K : PySem.W.Frag) : Sp := fun vs H Q _ => ∃ (a : Addr) (ns : List Int), vs = [.ref a] ∧ SqL K H a (ns.map V.int) ∧ ∀ H', Q (.bl true) H'
theorem scLaw : FnScope ["_law_script", "_law_machine", "_law_upper", "_law_stair", "_law_steps", "_law_line", "_law_shown", "_law_at", "_law_k", "_law_after", "_law_found", "_law_row"] ["_law_script"] (defScope sLaw) := ⟨rfl, rfl, rfl, by decide +kernel, rfl, by decide +kernel, by decide +kernel⟩
theorem ok_law (F : Fun K "law" "law" sLaw f fd) (T : Txt K mg cT cC cS) (D : Dfs K mg cT cC cS) : FnOk P w K mg base CX0 6 f fd ["_law_script"] (spLaw K) := by
  obtain ⟨f1, fd1, F1, b1, g1⟩ := D.wCell
  have G1 : FnOk P w K mg base CX0 1 f1 fd1 ["_law_script", "_law_k"] (spWCell K) := ok_wcell F1 T
  obtain ⟨f2, fd2, F2, b2, g2⟩ := D.wDig
  have G2 : FnOk P w K mg base CX0 2 f2 fd2 ["_law_cell_here", "_law_count", "_law_many"] spWDig := ok_wdig F2 T D
  obtain ⟨f3, fd3, F3, b3, g3⟩ := D.wTape
  have G3 : FnOk P w K mg base CX0 5 f3 fd3 ["_law_numbers", "_law_most_marks", "_law_most_states"] (spWTape K cT) := ok_wtape F3 T D
  obtain ⟨f4, fd4, F4, b4, g4⟩ := D.wCfg
  have G4 : FnOk P w K mg base CX0 3 f4 fd4 ["_law_machine", "_law_cell_here"] (spWCfg K cT) := ok_wcfg F4 T D
  obtain ⟨f5, fd5, F5, b5, mk5⟩ := D.tInit
  have G5 : FnOk P w K mg base CX0 3 f5 fd5 ["self", "marks", "states", "rows"] (spTInit K cT) := ok_tInit F5 T D
  obtain ⟨f6, fd6, F6, b6, mk6⟩ := D.sInit
  have G6 : FnOk P w K mg base CX0 4 f6 fd6 ["self", "machine"] (spSInit K cT cC cS) := ok_sInit F6 T D
  obtain ⟨f7, fd7, F7, b7, m7⟩ := D.down
  have G7 : FnOk P w K mg base CX0 3 f7 fd7 ["self", "configuration"] (spDown K cT cC cS) := ok_down F7 T D
  obtain ⟨f8, fd8, F8, b8, m8⟩ := D.cRows
  have G8 : FnOk P w K mg base CX0 3 f8 fd8 ["self", "configuration", "steps"] (spCRows K cC) := ok_cRows F8 T D
  obtain ⟨f9, fd9, F9, b9, g9⟩ := D.wNext
  have G9 : FnOk P w K mg base CX0 3 f9 fd9 ["_law_machine", "_law_configuration_here"] (spWNext K cT) := ok_wnext F9 T D
  obtain ⟨f10, fd10, F10, b10, m10⟩ := D.cStep
  have G10 : FnOk P w K mg base CX0 3 f10 fd10 ["self", "configuration"] (spCStep K cC) := ok_cStep F10 T D
  obtain ⟨f11, fd11, F11, b11, m11⟩ := D.cStop
  have G11 : FnOk P w K mg base CX0 4 f11 fd11 ["self", "configuration"] (spCStop K cC) := ok_cStop F11 T D
  obtain ⟨f12, fd12, F12, b12, m12⟩ := D.pace
  have G12 : FnOk P w K mg base CX0 4 f12 fd12 ["self", "configuration"] (spPace K cT cC cS) := ok_pace F12 T D
  obtain ⟨f13, fd13, F13, b13, m13⟩ := D.up
  have G13 : FnOk P w K mg base CX0 3 f13 fd13 ["self", "configuration"] (spUp K cT cC cS) := ok_up F13 T D
  obtain ⟨f14, fd14, F14, b14, m14⟩ := D.tRow
  have G14 : FnOk P w K mg base CX0 2 f14 fd14 ["self", "state", "mark"] (spTRow K cT) := ok_tRow F14 T D
  obtain ⟨f15, fd15, F15, b15, m15⟩ := D.letter
  have G15 : FnOk P w K mg base CX0 2 f15 fd15 ["self", "mark", "state"] (spLetter K cT cS) := ok_letter F15 T D
  obtain ⟨f16, fd16, F16, b16, g16⟩ := D.wTrim
  have G16 : FnOk P w K mg base CX0 1 f16 fd16 ["_law_row"] (spWTrim K) := ok_wtrim F16 T
  refine F.ok scLaw (fun vs H Q E h => ?_) (fun cdv A outer s H vs Q E hr h => ?_)
  · obtain ⟨a, ns, rfl, _⟩ := h
    rfl
  · obtain ⟨a, ns, rfl, hs, q⟩ := h
    have h1 : Room 1 _ := hr.mono (by decide)
    have h2 : Room 2 _ := hr.mono (by decide)
    have h3 : Room 3 _ := hr.mono (by decide)
    have h4 : Room 4 _ := hr.mono (by decide)
    refine ⟨_, (pss_cons (ps_set (i := 1) scLaw.nd rfl (.inl rfl) (pe_call G3 hr rfl g3 F3.kp b3 .nil pass0 (pa_cons (pe_call G2 h2 rfl g2 F2.kp b2 .nil pass0 (pa_cons (pe_call G1 h1 rfl g1 F1.kp b1 .nil pass0 (pa_cons (pv 0) (pa_cons pe_int pa_nil))) (pa_cons pe_int (pa_cons pe_int pa_nil)))) (pa_cons pe_int (pa_cons pe_int pa_nil)))))
      (pss_cons (ps_set (i := 2) scLaw.nd rfl (.inl rfl) (pe_call G4 h3 rfl g4 F4.kp b4 .nil pass0 (pa_cons (pv 1) (pa_cons (pe_call G1 h1 rfl g1 F1.kp b1 .nil pass0 (pa_cons (pv 0) (pa_cons pe_int pa_nil))) pa_nil))))
      (pss_cut (ps_if (pt_cmpR op_eq (pe_op op_mod (pe_op op_fdiv (pe_callTy rIntS_ok (by rfl) T.bInt bo_int (pa_cons (pe_call G1 h1 rfl g1 F1.kp b1 .nil pass0 (pa_cons (pv 0) (pa_cons pe_int pa_nil))) pa_nil)) pe_int) pe_int) pe_int (nomark _)) (pss_cons (ps_set (i := 1) scLaw.nd rfl (.inl rfl) (pe_make mk5 G5 h4 rfl T.mT b5 .nil pass0 (pa_cons pe_int (pa_cons pe_int (pa_cons (pe_lst (pa_cons (pe_tup (pa_cons pe_int (pa_cons pe_int (pa_cons pe_int pa_nil)))) (pa_cons (pe_tup (pa_cons pe_int (pa_cons (pe_un un_neg pe_int) (pa_cons pe_int pa_nil)))) pa_nil))) pa_nil)))))
      (pss_one (ps_set (i := 2) scLaw.nd rfl (.inl rfl) (pe_tup (pa_cons pe_int (pa_cons (pe_tup pa_nil) (pa_cons pe_int (pa_cons (pe_slice sl_tupA (pe_tup (pa_cons pe_int (pa_cons pe_int pa_nil))) po_none (po_some (pe_op op_mul pe_int (pe_op op_mod (pe_op op_fdiv (pe_callTy rIntS_ok (by rfl) T.bInt bo_int (pa_cons (pe_call G1 h1 rfl g1 F1.kp b1 .nil pass0 (pa_cons (pv 0) (pa_cons pe_int pa_nil))) pa_nil)) pe_int) pe_int)))) pa_nil)))))))) pss_nil)
      (pss_cons (ps_set (i := 3) scLaw.nd rfl (.inl rfl) (pe_make mk6 G6 hr rfl T.mS b6 .nil pass0 (pa_cons (pv 1) pa_nil)))
      (pss_cons (ps_set (i := 4) scLaw.nd rfl (.inl rfl) (pe_op op_add pe_int (pe_op op_mod (pe_callTy rIntS_ok (by rfl) T.bInt bo_int (pa_cons (pe_call G1 h1 rfl g1 F1.kp b1 .nil pass0 (pa_cons (pv 0) (pa_cons pe_int pa_nil))) pa_nil)) pe_int)))
      (pss_cons (ps_set (i := 5) scLaw.nd rfl (.inl rfl) (pe_meth (pv 3) T.clS m7 G7 h3 b7 .nil pass0 (pa_cons (pv 2) pa_nil)))
      (pss_cons (ps_set (i := 6) scLaw.nd rfl (.inl rfl) (pe_meth (pe_fld (pv 3) rfl) T.clC m8 G8 h3 b8 .nil pass0 (pa_cons (pv 5) (pa_cons (pv 4) pa_nil))))
      (pss_cons (ps_set (i := 7) scLaw.nd rfl (.inl rfl) (pe_op op_add (pv 4) (pe_callB rLenS_ok (by rfl) T.bLen bo_len (pa_cons (pe_ix ix_tup (pv 2) pe_int (fun _ _ => rfl)) pa_nil))))
      (pss_cons (ps_for PassesOwn.never rfl (pi_range1 rfl T.bRange (pa_cons (pv 4) pa_nil)) (pg_name (i := 8) scLaw.nd rfl (.inl rfl)) (pss_cons (ps_set (i := 9) scLaw.nd rfl (.inl rfl) (pe_call G9 h3 rfl g9 F9.kp b9 .nil pass0 (pa_cons (pv 1) (pa_cons (pv 2) pa_nil))))
      (pss_cons (ps_set (i := 10) scLaw.nd rfl (.inl rfl) (pe_meth (pe_fld (pv 3) rfl) T.clC m10 G10 h3 b10 .nil pass0 (pa_cons (pv 5) pa_nil)))
      (pss_cons (ps_if (pt_cmpR op_isN1 (pv 9) pe_non (nomark _)) (pss_one (ps_ret (pe_and (pe_cmpR op_isN1 (pv 10) pe_non (nomark _)) (pe_and (pe_cmpR op_isBl (pe_meth (pe_fld (pv 3) rfl) T.clC m11 G11 h4 b11 .nil pass0 (pa_cons (pv 5) pa_nil)) pe_bl (nomark _)) (pe_and (pe_cmpR op_eq (pe_meth (pv 3) T.clS m12 G12 h4 b12 .nil pass0 (pa_cons (pv 2) pa_nil)) pe_int (nomark _)) (pe_one (pe_cmpR op_eq (pe_callB rLenS_ok (by rfl) T.bLen bo_len (pa_cons (pv 6) pa_nil)) (pe_op op_add (pv 8) pe_int) (nomark _)))))))) pss_nil)
      (pss_cons (ps_if (PW.pt (pw_or (pt_cmpR op_isN1 (pv 10) pe_non (nomark _)) (pw_or (pt_cmpR (op_neD hr.units) (pv 10) (pe_meth (pv 3) T.clS m7 G7 h3 b7 .nil pass0 (pa_cons (pv 9) pa_nil)) (nomark _)) (pw_or (pt_cmpR (op_neD hr.units) (pe_meth (pv 3) T.clS m13 G13 h3 b13 .nil pass0 (pa_cons (pv 10) pa_nil)) (pv 9) (nomark _)) (pw_or1 (pt_cmpR op_ne (pe_meth (pv 3) T.clS m12 G12 h4 b12 .nil pass0 (pa_cons (pv 2) pa_nil)) pe_int (nomark _))))))) pss_never pss_nil)
      (pss_cons (ps_set (i := 11) scLaw.nd rfl (.inl rfl) (pe_ix ix_list (pv 6) (pe_op op_add (pv 8) pe_int) (fun _ _ => rfl)))
      (pss_cons (ps_set (i := 7) scLaw.nd rfl (.inl rfl) (pe_op op_add (pv 7) (pe_ix ix_tup (pe_meth (pv 1) T.clT m14 G14 h2 b14 .nil pass0 (pa_cons (pe_ix ix_tup (pv 2) pe_int (fun _ _ => rfl)) (pa_cons (pe_ix ix_tup (pv 2) pe_int (fun _ _ => rfl)) pa_nil))) pe_int (fun _ _ => rfl))))
      (pss_cons (ps_if (PW.pt (pw_or (pt_cmpR op_ne (pe_callB rLenS_ok (by rfl) T.bLen bo_len (pa_cons (pv 11) pa_nil)) (pe_callB rLenS_ok (by rfl) T.bLen bo_len (pa_cons (pe_ix ix_list (pv 6) pe_int (fun _ _ => rfl)) pa_nil)) (nomark _)) (pw_or (pt_cmpR op_ne (pe_ix ix_tup (pv 11) (pv 7) (fun _ _ => rfl)) (pe_meth (pv 3) T.clS m15 G15 h2 b15 .nil pass0 (pa_cons (pe_ix ix_tup (pv 9) pe_int (fun _ _ => rfl)) (pa_cons (pe_ix ix_tup (pv 9) pe_int (fun _ _ => rfl)) pa_nil))) (nomark _)) (pw_or1 (pt_cmpR (op_neD hr.units) (pe_call G16 h1 rfl g16 F16.kp b16 .nil pass0 (pa_cons (pe_revT (pe_slice sl_tupA (pv 11) po_none (po_some (pv 7)))) pa_nil)) (pe_ix ix_tup (pv 9) pe_int (fun _ _ => rfl)) (nomark _)))))) pss_never pss_nil)
      (pss_cons (ps_if (pt_cmpR (op_neD hr.units) (pe_call G16 h1 rfl g16 F16.kp b16 .nil pass0 (pa_cons (pe_slice sl_tupA (pv 11) (po_some (pe_op op_add (pv 7) pe_int)) po_none) pa_nil)) (pe_ix ix_tup (pv 9) pe_int (fun _ _ => rfl)) (nomark _)) pss_never pss_nil)
      (pss_one (ps_par (i := 2) (j := 5) (by rfl) scLaw.nd rfl rfl (by decide) rfl rfl (pa_cons (pv 9) (pa_cons (pv 10) pa_nil)) (by rfl))))))))))))
      (pss_one (ps_ret (pe_cmpR op_eq (pe_callB rLenS_ok (by rfl) T.bLen bo_len (pa_cons (pv 6) pa_nil)) (pe_op op_add (pv 4) pe_int) (nomark _))))))))))))), ?_⟩
    have hsv : ScrV K ns (V.ref a) H := ⟨a, rfl, hs⟩
    have cell : ∀ (σ : L2.St) (H' : Hp) (i : Int) (E : XK), Ex H H' → σ[0]? = some (some (V.ref a)) → 0 ≤ i → EvP (tCall (spWCell K) [] E (tCons (tVar 0) (tCons (tC (.int i)) tNil))) σ H' AnyI := fun σ H' i E e h0 i0 => ep_wcell (ep_var h0 (Mono.up e hsv)) ep_c i0
    have con : ∀ {σ : L2.St} {H1 : Hp} {x : Int}, EvP (tC (.int x)) σ H1 (IntP fun i => i = x) := fun {σ H1 x} => ep_int ep_c rfl
    -- int(cell) // k
    have part : ∀ (σ : L2.St) (H' : Hp) (E : XK) (k : Int), Ex H H' → σ[0]? = some (some (V.ref a)) → 0 < k → k < 2 ^ 30 → EvP (tOp (rI CDiv fun i j => .int (i / j)) (tCB rIntS (tCons (tCall (spWCell K) [] E (tCons (tVar 0) (tCons (tC (.int 2)) tNil))) tNil)) (tC (.int k))) σ H' AnyI := fun σ H' E k e h0 k0 k1 =>
      ep_PI (ep_toIntP (cell σ H' 2 E e h0 (by decide))) con (fun i j _ hj => by rw [hj]; exact ⟨k0, k1⟩) fun i j H2 _ _ => ⟨_, rfl, trivial⟩
    refine s_seq (s_set (P := SomeTape K cT) (ep_call (Ps := [DigV 38 840, IsI 8, IsI 5]) (epa_cons (ep_wdig (n := 38) (cell _ H 0 _ (Ex.refl H) rfl (by decide)) (ep_c (v := .int (38 : Nat))) ep_c (by decide) (by decide) (by decide)) (epa_cons ep_c (epa_cons ep_c epa_nil))) fun vs H1 _ pa Q' E' kq => ?_) fun mv H1 e1 hm => ?_)
    · obtain ⟨u, _, _, rfl, hu, r1, r2⟩ := all3 pa
      cases r1
      cases r2
      exact ⟨u, rfl, hu, kq⟩
    obtain ⟨M, O, hm⟩ := hm
    refine s_seq (s_set (P := SomeCfg K M) (ep_call (Ps := [TapeV K cT M, AnyI]) (epa_cons (ep_var rfl hm) (epa_cons (cell _ H1 1 _ e1 rfl (by decide)) epa_nil)) fun vs H2 _ pa Q' E' kq => ?_) fun uv H2 e2 hc => ?_)
    · obtain ⟨x, u, rfl, hx, hu⟩ := all2 pa
      exact ⟨M, x, u, rfl, O, hx, hu, kq⟩
    obtain ⟨c, C, hl, hr', hcv⟩ := hc
    refine ⟨fun σ' H' => ∃ (M : Mach) (c : Cfg) (mv uv : V), σ' = [some (V.ref a), some mv, some uv, none, none, none, none, none, none, none, none, none] ∧ Ex H H' ∧ M.Ok ∧ TapeV K cT M mv H' ∧ CfgOk M c ∧ CfgV K c uv H' ∧ c.l.length ≤ 5 ∧ c.r.length ≤ 5, ?_, ?_⟩
    · refine s_ifAny (ep_PI (part _ H2 _ 20 (e1.trans e2) rfl (by decide) (by decide)) con (fun i j _ hj => by rw [hj]; decide) fun i j H3 _ _ => ⟨_, rfl, trivial⟩) (ep_int ep_c trivial) (fun H3 e3 => ?_) fun H3 e3 => s_nxt ?_
      · have e03 := (e1.trans e2).trans e3
        refine s_seq (s_set (P := TapeV K cT M2) (ep_tape (M := M2) M2_ok ep_c ep_c (ep_lst (Ps := [rowP K (some (0, 1, 0)), rowP K (some (1, -1, 0))])
          (epa_cons (show EvP _ _ _ (rowP K (some (0, 1, 0))) from ep_tupI (is := [0, 1, 0]) (epa_cons ep_c (epa_cons ep_c (epa_cons ep_c epa_nil))) (by show 3 ≤ 1000; decide))
            (epa_cons (show EvP _ _ _ (rowP K (some (1, -1, 0))) from ep_tupI (is := [1, -1, 0]) (epa_cons ep_c (epa_cons (ep_neg ep_c) (epa_cons ep_c epa_nil))) (by show 3 ≤ 1000; decide)) epa_nil)) (by show 2 ≤ 1000; decide))) fun m2 H4 e4 hm2 => ?_)
        dsimp only
        refine s_set (P := TupP K [IsI 0, TupI K [], IsI 0, Cut01 K]) (ep_tup (epa_cons ep_c (epa_cons (ep_tupI (is := []) epa_nil (by show 0 ≤ 1000; decide)) (epa_cons ep_c (epa_cons (ep_cut01 (ep_tupI (is := [0, 1]) (epa_cons ep_c (epa_cons ep_c epa_nil)) (by show 2 ≤ 1000; decide)) ?_) epa_nil)))) (by show 4 ≤ 1000; decide)) fun u2 H5 e5 hu2 => ?_
        · refine ep_PI (φ := fun i => i = 2) (ψ := fun j => j = 0 ∨ j = 1) con (ep_PI (part _ H4 _ 160 (e03.trans e4) rfl (by decide) (by decide)) con (fun i j _ hj => by rw [hj]; decide) fun i j H6 _ hj => ⟨_, rfl, by rw [hj]; omega⟩) (fun i j hi hj => by rw [hi]; exact .inl ⟨by decide, by decide⟩) fun i j H6 hi hj => ⟨_, rfl, by rw [hi]; omega⟩
        · obtain ⟨p, vs, rfl, ht, pa⟩ := hu2
          obtain ⟨x1, x2, x3, x4, rfl, q1, q2, q3, q4⟩ := all4 pa
          rcases q4 with q4 | q4
          · exact ⟨M2, ⟨0, [], 0, []⟩, m2, _, rfl, (e03.trans e4).trans e5, M2_ok, Mono.up e5 hm2, M2_cfg _ (.inl rfl), ⟨p, _, rfl, ht, q1, q2, q3, q4, trivial⟩, by decide, by decide⟩
          · exact ⟨M2, ⟨0, [], 0, [0, 1]⟩, m2, _, rfl, (e03.trans e4).trans e5, M2_ok, Mono.up e5 hm2, M2_cfg _ (.inr rfl), ⟨p, _, rfl, ht, q1, q2, q3, q4, trivial⟩, by decide, by decide⟩
      · exact ⟨M, c, mv, uv, rfl, (e1.trans e2).trans e3, O, Mono.up (e2.trans e3) hm, C, Mono.up e3 hcv, hl, hr'⟩
    rintro σ' H3 ⟨M, c, mv, uv, rfl, e3, O, hm, C, hcv, hl, hr'⟩
    have n0 : 0 < M.n := by
      have := (n_pos O).1
      have := O.m2
      omega
    have lc : (line M c).length ≤ 11 := by
      rw [line_len]
      omega
    refine s_seq (s_set (P := StairV K cT cC cS M) (ep_stair O (ep_var rfl hm)) fun sv H4 e4 hsv4 => ?_)
    have e04 := e3.trans e4
    refine s_seq (s_set (P := IntP fun i => 1 ≤ i ∧ i ≤ 20) (ep_P0 (φ := fun i => i = 1) (ψ := fun j => 0 ≤ j ∧ j < 20) con (ep_PI (ep_toIntP (cell _ H4 2 _ e04 rfl (by decide))) con (fun i j _ hj => by rw [hj]; decide) fun i j H6 _ hj => ⟨_, rfl, by rw [hj]; omega⟩) fun i j H5 hi hj => ⟨_, rfl, by omega⟩) fun nv H5 e5 hn => ?_)
    obtain ⟨ni, rfl, n1, n2⟩ := hn
    obtain ⟨N, rfl⟩ : ∃ N : Nat, ni = (N : Int) := ⟨ni.toNat, by omega⟩
    refine s_seq (s_set (P := TupI K (line M c)) (ep_downC O C (ep_var rfl (Mono.up e5 hsv4)) (ep_var rfl (Mono.up (e4.trans e5) hcv)) (by omega)) fun lv H6 e6 hlv => ?_)
    have e46 := e5.trans e6
    refine s_seq (s_set (P := RowsV K (rowsM (chF M) N (List.replicate N 0 ++ line M c ++ List.replicate N 0))) (ep_rowsC n0 (keeps_chF O) (ep_slower T (ep_var rfl (Mono.up e46 hsv4))) (ep_var rfl hlv) (ep_vi rfl) (all_line O C) (by omega) (by omega) (by omega)) fun shv H7 e7 hshv => ?_)
    have T0 := turn_start O C N
    have lens : ∀ r ∈ rowsM (chF M) N (List.replicate N 0 ++ line M c ++ List.replicate N 0), r.length = N + (line M c).length + N := fun r hr0 => by
      rw [rowsM_all _ _ _ _ hr0]
      simp
      omega
    have first := rowsM_head (chF M) N (List.replicate N 0 ++ line M c ++ List.replicate N 0)
    generalize rowsM (chF M) N (List.replicate N 0 ++ line M c ++ List.replicate N 0) = shown at *
    generalize List.replicate N 0 ++ line M c ++ List.replicate N 0 = row0 at first
    have len0 := lens _ (List.mem_of_getElem? first)
    refine s_seq (s_set (P := IsI ((N : Int) + c.l.length)) (ep_I0 (g := fun i j => .int (i + j)) (ep_vi rfl) (ep_lenT (ep_ixP (ep_var rfl (Mono.up ((e4.trans e46).trans e7) hcv)) ep_c (by decide) rfl))) fun av H8 e8 hav => ?_)
    have hav : av = V.int _ := hav
    subst hav
    have e48 := (e46.trans e7).trans e8
    have hm8 := Mono.up (e4.trans e48) hm
    have hs8 := Mono.up e48 hsv4
    have hsh8 := Mono.up e8 hshv
    refine s_seq (s_forR1 (n := (N : Int)) (ea_cons (ep_vi rfl).ev ea_nil) (by omega) (fun k σ H' => ∃ (c : Cfg) (uv lv : V) (at_ : Int) (x8 x9 x10 x11 : Option V), σ = [some (V.ref a), some mv, some uv, some sv, some (V.int N), some lv, some shv, some (V.int at_), x8, x9, x10, x11] ∧ Ex H8 H' ∧ CfgOk M c ∧ CfgV K c uv H' ∧ TupI K (line M c) lv H' ∧ Turn M shown N k c at_)
      (fun H1 e1 => ⟨c, uv, lv, _, none, none, none, none, rfl, e1, C, Mono.up ((e4.trans e48).trans e1) hcv, Mono.up ((e7.trans e8).trans e1) hlv, T0⟩) ?_ ?_)
    · clear T0 hcv hlv C hl hr'
      rintro k σ H9 hk ⟨c, uv, lv, at_, x8, x9, x10, x11, rfl, e9, C, hcv, hlv, Tn⟩
      have tl := turn_len Tn lens
      have hmH := Mono.up e9 hm8
      have hsH := Mono.up e9 hs8
      have hshH := Mono.up e9 hsh8
      have lz : (line M c).length ≤ 400 := by
        rw [line_len]
        omega
      refine s_seq (s_set (P := OptC K (next M c)) (ep_nextC O C (ep_var rfl hmH) (ep_var rfl hcv) (by omega)) fun fv H10 e10 hfv => ?_)
      refine s_seq (s_set (P := OptT K (stepM (chF M) (line M c))) (ep_cstep n0 (ep_slower T (ep_var rfl (Mono.up e10 hsH))) (ep_var rfl (Mono.up e10 hlv)) (all_line O C) lz) fun gv H11 e11 hgv => ?_)
      rw [stepM_line O C] at hgv
      have hfv := Mono.up e11 hfv
      have eA := e10.trans e11
      cases er : M.at c.q c.a with
      | none =>
        have en := nextM_none er
        rw [en] at hfv hgv
        refine s_seq (s_if (b := true) (et_isN (Po := Is .non) (ep_var rfl hfv) fun v H2 hv => by rw [hv]; rfl) (fun _ H12 e12 => ?_) fun z => by cases z)
        have eB := eA.trans e12
        have hgv : Is .non gv H11 := hgv
        refine s_ret (v := .bl (true && (true && (true && true)))) (ev_andV (ep_isNV (b := true) (Po := Is .non) (ep_var rfl (Mono.up e12 hgv)) fun v H2 hv => by rw [hv]; rfl).ev
          fun _ => ev_andV (ep_is (ep_isBl (ep_cstopC n0 (ep_slower T (ep_var rfl (Mono.up eB hsH))) (ep_var rfl (Mono.up eB hlv)) (all_line O C) lz) (ep_c (v := .bl true))) (by rw [stepM_line O C, en]; rfl)).ev
          fun _ => ev_andV (ep_is (ep_eqI (ep_paceC O C (ep_var rfl (Mono.up eB hsH)) (ep_var rfl (Mono.up eB hcv))) ep_c) (by rw [er]; rfl)).ev
          fun _ => (ep_is (ep_eqI (ep_lenR (ep_var rfl (Mono.up eB hshH))) (ep_I0 (g := fun i j => .int (i + j)) (ep_vi rfl) ep_c)) (by rw [turn_stops O C (by omega) Tn er, decide_eq_true (by omega)])).ev) fun H13 _ => q H13
      | some t =>
        obtain ⟨w0, v0, q'⟩ := t
        have en := nextM_some er
        rw [en] at hfv hgv
        have C' := goes_ok O C er
        obtain ⟨T', A, B, hrow, hA, hAr, hBr⟩ := turn_goes O C (by omega) Tn er
        generalize goes c w0 v0 q' = c' at *
        have tl' := turn_len T' lens
        have hfv : CfgV K c' fv H11 := hfv
        have hgv : TupI K (line M c') gv H11 := hgv
        refine s_seq (s_if (b := false) (et_isN (ep_var rfl hfv) fun v H2 hv => by obtain ⟨_, _, rfl, _⟩ := hv; rfl) (fun z => by cases z) fun _ H12 e12 => ?_)
        have eB := eA.trans e12
        refine s_seq (s_if (b := false) (et_or (a := false) (b := false) (et_isN (ep_var rfl (Mono.up e12 hgv)) fun v H2 hv => by obtain ⟨_, rfl, _⟩ := hv; rfl)
          fun _ => et_or (a := false) (b := false) (et_is (et_P (ep_neT (ep_var rfl (Mono.up e12 hgv)) (ep_downC O C' (ep_var rfl (Mono.up eB hsH)) (ep_var rfl (Mono.up e12 hfv)) (by omega)))) (by simp))
          fun _ => et_or (a := false) (b := false) (et_P (ep_neCfg (ep_upC O C' (ep_var rfl (Mono.up eB hsH)) (ep_var rfl (Mono.up e12 hgv)) (by omega)) (ep_var rfl (Mono.up e12 hfv))))
          fun _ => et_is (et_P (ep_neI (ep_paceC O C (ep_var rfl (Mono.up eB hsH)) (ep_var rfl (Mono.up eB hcv))) ep_c)) (by rw [er]; rfl)) (fun z => by cases z) fun _ H13 e13 => ?_)
        have eC := eB.trans e13
        refine s_seq (s_set (P := TupI K (A ++ ltr M.m c'.a c'.q :: B)) (ep_ixR (ep_var rfl (Mono.up eC hshH)) (ep_I0 (g := fun i j => .int (i + j)) (ep_vi rfl) ep_c) (by omega) (by rw [show ((k : Int) + 1).toNat = k + 1 by omega]; exact hrow)) fun rv H14 e14 hrv => ?_)
        have eD := eC.trans e14
        have lr := lens _ (List.mem_of_getElem? hrow)
        have lr2 : (A ++ ltr M.m c'.a c'.q :: B).length = A.length + B.length + 1 := by simp; omega
        have hr0 := ep_row (K := K) (cT := cT) (E := E) (σ := [some (V.ref a), some mv, some uv, some sv, some (V.int N), some lv, some shv, some (V.int at_), some (V.int (k : Int)), some fv, some gv, some rv]) (H := H14) (to := tVar 1) O (ep_var rfl (Mono.up eD hmH)) (ep_ixP (K := K) (ta := tVar 2) (tb := tC (.int 0)) (ep_var rfl (Mono.up eD hcv)) ep_c (by decide) rfl) (ep_ixP (K := K) (ta := tVar 2) (tb := tC (.int 2)) (ep_var rfl (Mono.up eD hcv)) ep_c (by decide) rfl) C.q0 C.q1 C.a0 C.a1
        rw [er] at hr0
        refine s_seq (s_set (P := IsI (A.length : Int)) (ep_is (ep_I0 (g := fun i j => V.int (i + j)) (ep_vi rfl) (ep_ixT (xs := [w0, v0, q']) (x := v0) hr0 ep_c (by decide) rfl)) (by rw [hA])) fun tv H15 e15 htv => ?_)
        have htv : tv = V.int _ := htv
        subst htv
        have eE := eD.trans e15
        have hrv := Mono.up e15 hrv
        have hfv := Mono.up ((e12.trans e13).trans (e14.trans e15)) hfv
        have hgv := Mono.up ((e12.trans e13).trans (e14.trans e15)) hgv
        refine s_seq (s_if (b := false) (et_or (a := false) (b := false) (et_is (et_P (ep_neI (ep_lenT (ep_var rfl hrv)) (ep_lenT (ep_ixR (i := 0) (r := row0) (ep_var rfl (Mono.up eE hshH)) ep_c (by decide) first)))) (by rw [lr, len0]; simp))
          fun _ => et_or (a := false) (b := false) (et_is (et_P (ep_neI (ep_ixT (x := ltr M.m c'.a c'.q) (ep_var rfl hrv) (ep_vi rfl) (by omega) (by rw [Int.toNat_natCast, List.getElem?_append_right (Nat.le_refl _), Nat.sub_self]; rfl)) (ep_letterC O (ep_var rfl (Mono.up eE hsH)) (ep_ixP (ep_var rfl hfv) ep_c (by decide) rfl) (ep_ixP (ep_var rfl hfv) ep_c (by decide) rfl)))) (by simp))
          fun _ => ?_) (fun z => by cases z) fun _ H16 e16 => ?_)
        · have cut := ep_slT (K := K) (σ := [some (V.ref a), some mv, some uv, some sv, some (V.int N), some lv, some shv, some (V.int (A.length : Int)), some (V.int (k : Int)), some fv, some gv, some rv]) (H := H15) (ta := tVar 11) (ep_var rfl hrv) epo_none (epo_some (ep_vi (i := 7) rfl))
          rw [HT.sIx_none, HT.sIx_nat, List.drop_zero, lr2, Nat.sub_zero, Nat.min_eq_left (by omega), List.take_left] at cut
          exact et_is (et_P (ep_neT (ep_wtrim ((ep_rev cut).imp fun _ _ _ h => .inl h) (by rw [List.length_reverse]; omega)) (ep_ixP (ep_var rfl hfv) ep_c (by decide) rfl))) (by rw [hAr]; simp)
        · have eF := eE.trans e16
          have cut := ep_slT (K := K) (σ := [some (V.ref a), some mv, some uv, some sv, some (V.int N), some lv, some shv, some (V.int (A.length : Int)), some (V.int (k : Int)), some fv, some gv, some rv]) (H := H16) (ta := tVar 11) (ep_var rfl (Mono.up e16 hrv)) (epo_some (ep_I0 (g := fun i j => .int (i + j)) (ep_vi (i := 7) rfl) (ep_c (v := .int 1)))) epo_none
          rw [show (A.length : Int) + 1 = ((A.length + 1 : Nat) : Int) from rfl, HT.sIx_none, HT.sIx_nat, lr2, Nat.min_eq_left (by omega), drop_mid, List.take_of_length_le (by omega)] at cut
          refine s_seq (s_if (b := false) (et_is (et_P (ep_neT (ep_wtrim (cut.imp fun _ _ _ h => .inl h) (by omega)) (ep_ixP (ep_var rfl (Mono.up e16 hfv)) ep_c (by decide) rfl))) (by rw [hBr]; simp)) (fun z => by cases z) fun _ H17 e17 => ?_)
          have eG := eF.trans e17
          exact ⟨_, rfl, _, rfl, _, _, rfl, c', fv, gv, (A.length : Int), _, _, _, _, rfl, e9.trans eG, C', Mono.up (e16.trans e17) hfv, Mono.up (e16.trans e17) hgv, by rw [hA]; exact T'⟩
    · rintro σ H9 ⟨c, uv, lv, at_, x8, x9, x10, x11, rfl, e9, C, hcv, hlv, Tn⟩
      refine s_retP (P := IsB (decide ((shown.length : Int) = (N : Int) + 1))) (ep_eqI (ep_lenR (ep_var rfl (Mono.up e9 hsh8))) (ep_I0 (g := fun i j => V.int (i + j)) (ep_vi rfl) ep_c)) fun v' H10 _ hv' => ?_
      have en := turn_ends (steps := N) (by simpa using Tn)
      have hv' : v' = V.bl _ := hv'
      rw [hv', decide_eq_true (by omega)]
      exact q H10
end
end Sd

set_option Elab.async false
set_option linter.all false
set_option maxRecDepth 100000
set_option maxHeartbeats 8000000
namespace Sd
open PySem PySem.Spec PyProof.Rows L2 Evl
/-! ### what the top has written -/
theorem all_mk {l : PySem.W.OpenLaw} {w : World} {K : PySem.W.Frag} {h : Heap} {mg : Str → Option Value} {fa cT cC cS f0 f1 f2 f3 f4 f5 f6 f7 f8 f9 f10 f11 f12 f13 f14 f15 f16 f17 f18 f19 f20 f21 f22 f23 f24 f25 f26 f27 f28 f29 f30 : Addr} {u0 u1 u2 : Tok} (X : K.In h) (G : h.Ns mainGlobals mg) (hfa : mg "law" = some (.ref fa))
    {od0 an0 od1 an1 od2 an2 od3 an3 od4 an4 od5 an5 od6 an6 od7 an7 od8 an8 od9 an9 od10 an10 od11 an11 od12 an12 od13 an13 od14 an14 od15 an15 od16 an16 od17 an17 od18 an18 od19 an19 od20 an20 od21 an21 od22 an22 od23 an23 od24 an24 od25 an25 od26 an26 od27 an27 od28 an28 od29 an29 od30 an30 : Option Addr} {sl0 sl1 sl2 sl3 sl4 sl5 sl6 sl7 sl8 sl9 sl10 sl11 sl12 sl13 sl14 sl15 sl16 sl17 sl18 sl19 sl20 sl21 sl22 sl23 sl24 sl25 sl26 sl27 sl28 sl29 sl30 : Array (Option Value)} {oc0 kV0 dc0 pm0 cd0 ct0 oc1 kV1 dc1 pm1 cd1 ct1 oc2 kV2 dc2 pm2 cd2 ct2 oc3 kV3 dc3 pm3 cd3 ct3 oc4 kV4 dc4 pm4 cd4 ct4 oc5 kV5 dc5 pm5 cd5 ct5 oc6 kV6 dc6 pm6 cd6 ct6 oc7 kV7 dc7 pm7 cd7 ct7 oc8 kV8 dc8 pm8 cd8 ct8 oc9 kV9 dc9 pm9 cd9 ct9 oc10 kV10 dc10 pm10 cd10 ct10 oc11 kV11 dc11 pm11 cd11 ct11 oc12 kV12 dc12 pm12 cd12 ct12 oc13 kV13 dc13 pm13 cd13 ct13 oc14 kV14 dc14 pm14 cd14 ct14 oc15 kV15 dc15 pm15 cd15 ct15 oc16 kV16 dc16 pm16 cd16 ct16 oc17 kV17 dc17 pm17 cd17 ct17 oc18 kV18 dc18 pm18 cd18 ct18 oc19 kV19 dc19 pm19 cd19 ct19 oc20 kV20 dc20 pm20 cd20 ct20 oc21 kV21 dc21 pm21 cd21 ct21 oc22 kV22 dc22 pm22 cd22 ct22 oc23 kV23 dc23 pm23 cd23 ct23 oc24 kV24 dc24 pm24 cd24 ct24 oc25 kV25 dc25 pm25 cd25 ct25 oc26 kV26 dc26 pm26 cd26 ct26 oc27 kV27 dc27 pm27 cd27 ct27 oc28 kV28 dc28 pm28 cd28 ct28 oc29 kV29 dc29 pm29 cd29 ct29 oc30 kV30 dc30 pm30 cd30 ct30 : Value}
    (aT : PySem.W.nsIn K mainGlobals "Tape" = some (some (.ref cT)))
    (aC : PySem.W.nsIn K mainGlobals "Cells" = some (some (.ref cC)))
    (aS : PySem.W.nsIn K mainGlobals "CellStair" = some (some (.ref cS)))
    (a0 : PySem.W.nsIn K mainGlobals "is_letter" = some (some (.ref f0)))
    (l0 : K.lookup f0 = some ⟨oc0, od0, .func (PySem.W.fnOf "is_letter" "is_letter" (defArgs sIsL) (defBody sIsL) (defScope sIsL) .none kV0 dc0 pm0 an0 cd0 ct0), sl0⟩)
    (c0 : PySem.W.codeIn K cd0 "is_letter" = true)
    (k0 : PySem.W.keepIn K (.ref f0) = true)
    (a1 : PySem.W.nsIn K mainGlobals "without_ends" = some (some (.ref f1)))
    (l1 : K.lookup f1 = some ⟨oc1, od1, .func (PySem.W.fnOf "without_ends" "without_ends" (defArgs sEnds) (defBody sEnds) (defScope sEnds) .none kV1 dc1 pm1 an1 cd1 ct1), sl1⟩)
    (c1 : PySem.W.codeIn K cd1 "without_ends" = true)
    (k1 : PySem.W.keepIn K (.ref f1) = true)
    (a2 : PySem.W.findIn K (.ref cC) "__init__" = some (some (.ref f2)))
    (i2 : PySem.W.isFn K (.ref f2) = true)
    (l2 : K.lookup f2 = some ⟨oc2, od2, .func (PySem.W.fnOf "__init__" "Cells.__init__" (defArgs sCInit) (defBody sCInit) (defScope sCInit) .none kV2 dc2 pm2 an2 cd2 ct2), sl2⟩)
    (c2 : PySem.W.codeIn K cd2 "Cells.__init__" = true)
    (k2 : PySem.W.keepIn K (.ref f2) = true)
    (a3 : PySem.W.findIn K (.ref cC) "change" = some (some (.ref f3)))
    (i3 : PySem.W.isFn K (.ref f3) = true)
    (l3 : K.lookup f3 = some ⟨oc3, od3, .func (PySem.W.fnOf "change" "Cells.change" (defArgs sChange) (defBody sChange) (defScope sChange) .none kV3 dc3 pm3 an3 cd3 ct3), sl3⟩)
    (c3 : PySem.W.codeIn K cd3 "Cells.change" = true)
    (k3 : PySem.W.keepIn K (.ref f3) = true)
    (a4 : PySem.W.findIn K (.ref cC) "following" = some (some (.ref f4)))
    (i4 : PySem.W.isFn K (.ref f4) = true)
    (l4 : K.lookup f4 = some ⟨oc4, od4, .func (PySem.W.fnOf "following" "Cells.following" (defArgs sFoll) (defBody sFoll) (defScope sFoll) .none kV4 dc4 pm4 an4 cd4 ct4), sl4⟩)
    (c4 : PySem.W.codeIn K cd4 "Cells.following" = true)
    (k4 : PySem.W.keepIn K (.ref f4) = true)
    (a5 : PySem.W.findIn K (.ref cC) "step" = some (some (.ref f5)))
    (i5 : PySem.W.isFn K (.ref f5) = true)
    (l5 : K.lookup f5 = some ⟨oc5, od5, .func (PySem.W.fnOf "step" "Cells.step" (defArgs sCStep) (defBody sCStep) (defScope sCStep) .none kV5 dc5 pm5 an5 cd5 ct5), sl5⟩)
    (c5 : PySem.W.codeIn K cd5 "Cells.step" = true)
    (k5 : PySem.W.keepIn K (.ref f5) = true)
    (a6 : PySem.W.findIn K (.ref cC) "stopped" = some (some (.ref f6)))
    (i6 : PySem.W.isFn K (.ref f6) = true)
    (l6 : K.lookup f6 = some ⟨oc6, od6, .func (PySem.W.fnOf "stopped" "Cells.stopped" (defArgs sCStop) (defBody sCStop) (defScope sCStop) .none kV6 dc6 pm6 an6 cd6 ct6), sl6⟩)
    (c6 : PySem.W.codeIn K cd6 "Cells.stopped" = true)
    (k6 : PySem.W.keepIn K (.ref f6) = true)
    (a7 : PySem.W.findIn K (.ref cC) "rows" = some (some (.ref f7)))
    (i7 : PySem.W.isFn K (.ref f7) = true)
    (l7 : K.lookup f7 = some ⟨oc7, od7, .func (PySem.W.fnOf "rows" "Cells.rows" (defArgs sCRows) (defBody sCRows) (defScope sCRows) .none kV7 dc7 pm7 an7 cd7 ct7), sl7⟩)
    (c7 : PySem.W.codeIn K cd7 "Cells.rows" = true)
    (k7 : PySem.W.keepIn K (.ref f7) = true)
    (a8 : PySem.W.nsIn K mainGlobals "is_integer" = some (some (.ref f8)))
    (l8 : K.lookup f8 = some ⟨oc8, od8, .func (PySem.W.fnOf "is_integer" "is_integer" (defArgs sIsI) (defBody sIsI) (defScope sIsI) .none kV8 dc8 pm8 an8 cd8 ct8), sl8⟩)
    (c8 : PySem.W.codeIn K cd8 "is_integer" = true)
    (k8 : PySem.W.keepIn K (.ref f8) = true)
    (a9 : PySem.W.nsIn K mainGlobals "trimmed" = some (some (.ref f9)))
    (l9 : K.lookup f9 = some ⟨oc9, od9, .func (PySem.W.fnOf "trimmed" "trimmed" (defArgs sTrim) (defBody sTrim) (defScope sTrim) .none kV9 dc9 pm9 an9 cd9 ct9), sl9⟩)
    (c9 : PySem.W.codeIn K cd9 "trimmed" = true)
    (k9 : PySem.W.keepIn K (.ref f9) = true)
    (a10 : PySem.W.findIn K (.ref cT) "__init__" = some (some (.ref f10)))
    (i10 : PySem.W.isFn K (.ref f10) = true)
    (l10 : K.lookup f10 = some ⟨oc10, od10, .func (PySem.W.fnOf "__init__" "Tape.__init__" (defArgs sTInit) (defBody sTInit) (defScope sTInit) .none kV10 dc10 pm10 an10 cd10 ct10), sl10⟩)
    (c10 : PySem.W.codeIn K cd10 "Tape.__init__" = true)
    (k10 : PySem.W.keepIn K (.ref f10) = true)
    (a11 : PySem.W.findIn K (.ref cT) "_is_row" = some (some (.ref f11)))
    (i11 : PySem.W.isFn K (.ref f11) = true)
    (l11 : K.lookup f11 = some ⟨oc11, od11, .func (PySem.W.fnOf "_is_row" "Tape._is_row" (defArgs sIsRow) (defBody sIsRow) (defScope sIsRow) .none kV11 dc11 pm11 an11 cd11 ct11), sl11⟩)
    (c11 : PySem.W.codeIn K cd11 "Tape._is_row" = true)
    (k11 : PySem.W.keepIn K (.ref f11) = true)
    (a12 : PySem.W.findIn K (.ref cT) "row" = some (some (.ref f12)))
    (i12 : PySem.W.isFn K (.ref f12) = true)
    (l12 : K.lookup f12 = some ⟨oc12, od12, .func (PySem.W.fnOf "row" "Tape.row" (defArgs sTRow) (defBody sTRow) (defScope sTRow) .none kV12 dc12 pm12 an12 cd12 ct12), sl12⟩)
    (c12 : PySem.W.codeIn K cd12 "Tape.row" = true)
    (k12 : PySem.W.keepIn K (.ref f12) = true)
    (a13 : PySem.W.findIn K (.ref cT) "stopped" = some (some (.ref f13)))
    (i13 : PySem.W.isFn K (.ref f13) = true)
    (l13 : K.lookup f13 = some ⟨oc13, od13, .func (PySem.W.fnOf "stopped" "Tape.stopped" (defArgs sTStop) (defBody sTStop) (defScope sTStop) .none kV13 dc13 pm13 an13 cd13 ct13), sl13⟩)
    (c13 : PySem.W.codeIn K cd13 "Tape.stopped" = true)
    (k13 : PySem.W.keepIn K (.ref f13) = true)
    (a14 : PySem.W.nsIn K mainGlobals "letter_of" = some (some (.ref f14)))
    (l14 : K.lookup f14 = some ⟨oc14, od14, .func (PySem.W.fnOf "letter_of" "letter_of" (defArgs sLtr) (defBody sLtr) (defScope sLtr) .none kV14 dc14 pm14 an14 cd14 ct14), sl14⟩)
    (c14 : PySem.W.codeIn K cd14 "letter_of" = true)
    (k14 : PySem.W.keepIn K (.ref f14) = true)
    (a15 : PySem.W.nsIn K mainGlobals "line_of" = some (some (.ref f15)))
    (l15 : K.lookup f15 = some ⟨oc15, od15, .func (PySem.W.fnOf "line_of" "line_of" (defArgs sLine) (defBody sLine) (defScope sLine) .none kV15 dc15 pm15 an15 cd15 ct15), sl15⟩)
    (c15 : PySem.W.codeIn K cd15 "line_of" = true)
    (k15 : PySem.W.keepIn K (.ref f15) = true)
    (a16 : PySem.W.nsIn K mainGlobals "meaning" = some (some (.ref f16)))
    (l16 : K.lookup f16 = some ⟨oc16, od16, .func (PySem.W.fnOf "meaning" "meaning" (defArgs sMean) (defBody sMean) (defScope sMean) .none kV16 dc16 pm16 an16 cd16 ct16), sl16⟩)
    (c16 : PySem.W.codeIn K cd16 "meaning" = true)
    (k16 : PySem.W.keepIn K (.ref f16) = true)
    (a17 : PySem.W.findIn K (.ref cS) "__init__" = some (some (.ref f17)))
    (i17 : PySem.W.isFn K (.ref f17) = true)
    (l17 : K.lookup f17 = some ⟨oc17, od17, .func (PySem.W.fnOf "__init__" "CellStair.__init__" (defArgs sSInit) (defBody sSInit) (defScope sSInit) .none kV17 dc17 pm17 an17 cd17 ct17), sl17⟩)
    (c17 : PySem.W.codeIn K cd17 "CellStair.__init__" = true)
    (k17 : PySem.W.keepIn K (.ref f17) = true)
    (a18 : PySem.W.findIn K (.ref cS) "_add" = some (some (.ref f18)))
    (i18 : PySem.W.isFn K (.ref f18) = true)
    (l18 : K.lookup f18 = some ⟨oc18, od18, .func (PySem.W.fnOf "_add" "CellStair._add" (defArgs sAdd) (defBody sAdd) (defScope sAdd) .none kV18 dc18 pm18 an18 cd18 ct18), sl18⟩)
    (c18 : PySem.W.codeIn K cd18 "CellStair._add" = true)
    (k18 : PySem.W.keepIn K (.ref f18) = true)
    (a19 : PySem.W.findIn K (.ref cS) "letter" = some (some (.ref f19)))
    (i19 : PySem.W.isFn K (.ref f19) = true)
    (l19 : K.lookup f19 = some ⟨oc19, od19, .func (PySem.W.fnOf "letter" "CellStair.letter" (defArgs sLetter) (defBody sLetter) (defScope sLetter) .none kV19 dc19 pm19 an19 cd19 ct19), sl19⟩)
    (c19 : PySem.W.codeIn K cd19 "CellStair.letter" = true)
    (k19 : PySem.W.keepIn K (.ref f19) = true)
    (a20 : PySem.W.findIn K (.ref cS) "down" = some (some (.ref f20)))
    (i20 : PySem.W.isFn K (.ref f20) = true)
    (l20 : K.lookup f20 = some ⟨oc20, od20, .func (PySem.W.fnOf "down" "CellStair.down" (defArgs sDown) (defBody sDown) (defScope sDown) .none kV20 dc20 pm20 an20 cd20 ct20), sl20⟩)
    (c20 : PySem.W.codeIn K cd20 "CellStair.down" = true)
    (k20 : PySem.W.keepIn K (.ref f20) = true)
    (a21 : PySem.W.findIn K (.ref cS) "up" = some (some (.ref f21)))
    (i21 : PySem.W.isFn K (.ref f21) = true)
    (l21 : K.lookup f21 = some ⟨oc21, od21, .func (PySem.W.fnOf "up" "CellStair.up" (defArgs sUp) (defBody sUp) (defScope sUp) .none kV21 dc21 pm21 an21 cd21 ct21), sl21⟩)
    (c21 : PySem.W.codeIn K cd21 "CellStair.up" = true)
    (k21 : PySem.W.keepIn K (.ref f21) = true)
    (a22 : PySem.W.findIn K (.ref cS) "pace" = some (some (.ref f22)))
    (i22 : PySem.W.isFn K (.ref f22) = true)
    (l22 : K.lookup f22 = some ⟨oc22, od22, .func (PySem.W.fnOf "pace" "CellStair.pace" (defArgs sPace) (defBody sPace) (defScope sPace) .none kV22 dc22 pm22 an22 cd22 ct22), sl22⟩)
    (c22 : PySem.W.codeIn K cd22 "CellStair.pace" = true)
    (k22 : PySem.W.keepIn K (.ref f22) = true)
    (a23 : PySem.W.nsIn K mainGlobals "_law_cell" = some (some (.ref f23)))
    (l23 : K.lookup f23 = some ⟨oc23, od23, .func (PySem.W.fnOf "_law_cell" "_law_cell" (defArgs sWCell) (defBody sWCell) (defScope sWCell) .none kV23 dc23 pm23 an23 cd23 ct23), sl23⟩)
    (c23 : PySem.W.codeIn K cd23 "_law_cell" = true)
    (k23 : PySem.W.keepIn K (.ref f23) = true)
    (a24 : PySem.W.nsIn K mainGlobals "_law_mixed" = some (some (.ref f24)))
    (l24 : K.lookup f24 = some ⟨oc24, od24, .func (PySem.W.fnOf "_law_mixed" "_law_mixed" (defArgs sWMix) (defBody sWMix) (defScope sWMix) .none kV24 dc24 pm24 an24 cd24 ct24), sl24⟩)
    (c24 : PySem.W.codeIn K cd24 "_law_mixed" = true)
    (k24 : PySem.W.keepIn K (.ref f24) = true)
    (a25 : PySem.W.nsIn K mainGlobals "_law_digits" = some (some (.ref f25)))
    (l25 : K.lookup f25 = some ⟨oc25, od25, .func (PySem.W.fnOf "_law_digits" "_law_digits" (defArgs sWDig) (defBody sWDig) (defScope sWDig) .none kV25 dc25 pm25 an25 cd25 ct25), sl25⟩)
    (c25 : PySem.W.codeIn K cd25 "_law_digits" = true)
    (k25 : PySem.W.keepIn K (.ref f25) = true)
    (a26 : PySem.W.nsIn K mainGlobals "_law_tape" = some (some (.ref f26)))
    (l26 : K.lookup f26 = some ⟨oc26, od26, .func (PySem.W.fnOf "_law_tape" "_law_tape" (defArgs sWTape) (defBody sWTape) (defScope sWTape) .none kV26 dc26 pm26 an26 cd26 ct26), sl26⟩)
    (c26 : PySem.W.codeIn K cd26 "_law_tape" = true)
    (k26 : PySem.W.keepIn K (.ref f26) = true)
    (a27 : PySem.W.nsIn K mainGlobals "_law_trim" = some (some (.ref f27)))
    (l27 : K.lookup f27 = some ⟨oc27, od27, .func (PySem.W.fnOf "_law_trim" "_law_trim" (defArgs sWTrim) (defBody sWTrim) (defScope sWTrim) .none kV27 dc27 pm27 an27 cd27 ct27), sl27⟩)
    (c27 : PySem.W.codeIn K cd27 "_law_trim" = true)
    (k27 : PySem.W.keepIn K (.ref f27) = true)
    (a28 : PySem.W.nsIn K mainGlobals "_law_configuration" = some (some (.ref f28)))
    (l28 : K.lookup f28 = some ⟨oc28, od28, .func (PySem.W.fnOf "_law_configuration" "_law_configuration" (defArgs sWCfg) (defBody sWCfg) (defScope sWCfg) .none kV28 dc28 pm28 an28 cd28 ct28), sl28⟩)
    (c28 : PySem.W.codeIn K cd28 "_law_configuration" = true)
    (k28 : PySem.W.keepIn K (.ref f28) = true)
    (a29 : PySem.W.nsIn K mainGlobals "_law_next" = some (some (.ref f29)))
    (l29 : K.lookup f29 = some ⟨oc29, od29, .func (PySem.W.fnOf "_law_next" "_law_next" (defArgs sWNext) (defBody sWNext) (defScope sWNext) .none kV29 dc29 pm29 an29 cd29 ct29), sl29⟩)
    (c29 : PySem.W.codeIn K cd29 "_law_next" = true)
    (k29 : PySem.W.keepIn K (.ref f29) = true)
    (a30 : PySem.W.nsIn K mainGlobals "law" = some (some (.ref f30)))
    (l30 : K.lookup f30 = some ⟨oc30, od30, .func (PySem.W.fnOf "law" "law" (defArgs sLaw) (defBody sLaw) (defScope sLaw) .none kV30 dc30 pm30 an30 cd30 ct30), sl30⟩)
    (c30 : PySem.W.codeIn K cd30 "law" = true)
    (k30 : PySem.W.keepIn K (.ref f30) = true)
    (pgT : PySem.W.plainGet K cT Str.empty = true) (hdT : PySem.W.hasDictIn K cT = true) (poT : PySem.W.plainOver K cT = true) (saT : PySem.W.findIn K (.ref cT) "__setattr__" = some (some (.builtin "object.__setattr__"))) (mkT : PySem.W.makesIn K cT = true) (kcT : PySem.W.keepIn K (.ref cT) = true)
    (pgC : PySem.W.plainGet K cC Str.empty = true) (hdC : PySem.W.hasDictIn K cC = true) (poC : PySem.W.plainOver K cC = true) (saC : PySem.W.findIn K (.ref cC) "__setattr__" = some (some (.builtin "object.__setattr__"))) (mkC : PySem.W.makesIn K cC = true) (kcC : PySem.W.keepIn K (.ref cC) = true)
    (pgS : PySem.W.plainGet K cS Str.empty = true) (hdS : PySem.W.hasDictIn K cS = true) (poS : PySem.W.plainOver K cS = true) (saS : PySem.W.findIn K (.ref cS) "__setattr__" = some (some (.builtin "object.__setattr__"))) (mkS : PySem.W.makesIn K cS = true) (kcS : PySem.W.keepIn K (.ref cS) = true)
    (nMarks : PySem.W.findIn K (.ref cT) "marks" = some none)
    (nStates : PySem.W.findIn K (.ref cT) "states" = some none)
    (nRows : PySem.W.findIn K (.ref cT) "_rows" = some none)
    (nLetters : PySem.W.findIn K (.ref cC) "letters" = some none)
    (nChanges : PySem.W.findIn K (.ref cC) "_changes" = some none)
    (nUpper : PySem.W.findIn K (.ref cS) "upper" = some none)
    (nLower : PySem.W.findIn K (.ref cS) "lower" = some none)
    (b_len : PySem.W.nsIn K mainGlobals "len" = some none)
    (b_tuple : PySem.W.nsIn K mainGlobals "tuple" = some none)
    (b_range : PySem.W.nsIn K mainGlobals "range" = some none)
    (b_int : PySem.W.nsIn K mainGlobals "int" = some none)
    (b_bool : PySem.W.nsIn K mainGlobals "bool" = some none)
    (b_isinstance : PySem.W.nsIn K mainGlobals "isinstance" = some none)
    (b_all : PySem.W.nsIn K mainGlobals "all" = some none)
    (b_list : PySem.W.nsIn K mainGlobals "list" = some none)
    (k_MOST_LETTERS : PySem.W.nsIn K mainGlobals "MOST_LETTERS" = some (some (.int 300 u0)))
    (k_MOST_MARKS : PySem.W.nsIn K mainGlobals "MOST_MARKS" = some (some (.int 16 u1)))
    (k_MOST_STATES : PySem.W.nsIn K mainGlobals "MOST_STATES" = some (some (.int 4000 u2)))
    : ∃ fd : FuncData, (∀ (s : Shared) (v : Value), BindsTo s fd ⟨[v], []⟩ [("_law_script", v)]) ∧ ∀ base : Heap, K.In base → base.Ns mainGlobals mg → FnOk l.prog w K mg base CX0 6 fa fd ["_law_script"] (spLaw K) := by
  have e := hfa.symm.trans (PySem.W.mg_of X G a30)
  cases e
  have T : Txt K mg cT cC cS := ⟨⟨pgT, hdT, poT, saT⟩, ⟨pgC, hdC, poC, saC⟩, ⟨pgS, hdS, poS, saS⟩, nMarks, nStates, nRows, nLetters, nChanges, nUpper, nLower, PySem.W.mg_of X G aT, PySem.W.mg_of X G aC, PySem.W.mg_of X G aS, PySem.W.mg_none_of X G b_len, PySem.W.mg_none_of X G b_tuple, PySem.W.mg_none_of X G b_range, PySem.W.mg_none_of X G b_int, PySem.W.mg_none_of X G b_bool, PySem.W.mg_none_of X G b_isinstance, PySem.W.mg_none_of X G b_all, PySem.W.mg_none_of X G b_list, ⟨_, PySem.W.mg_of X G k_MOST_LETTERS⟩, ⟨_, PySem.W.mg_of X G k_MOST_MARKS⟩, ⟨_, PySem.W.mg_of X G k_MOST_STATES⟩⟩
  have F0 := fun_mk (st := sIsL) l0 c0 k0
  have B0 := F0.binds (ps := ["value", "letters"]) fun _ _ _ _ _ _ us hl => match us, hl with | [_, _], _ => rfl
  have F1 := fun_mk (st := sEnds) l1 c1 k1
  have B1 := F1.binds (ps := ["row"]) fun _ _ _ _ _ _ us hl => match us, hl with | [_], _ => rfl
  have F2 := fun_mk (st := sCInit) l2 c2 k2
  have B2 := F2.binds (ps := ["self", "letters", "changes"]) fun _ _ _ _ _ _ us hl => match us, hl with | [_, _, _], _ => rfl
  have F3 := fun_mk (st := sChange) l3 c3 k3
  have B3 := F3.binds (ps := ["self", "left", "middle", "right"]) fun _ _ _ _ _ _ us hl => match us, hl with | [_, _, _, _], _ => rfl
  have F4 := fun_mk (st := sFoll) l4 c4 k4
  have B4 := F4.binds (ps := ["self", "row"]) fun _ _ _ _ _ _ us hl => match us, hl with | [_, _], _ => rfl
  have F5 := fun_mk (st := sCStep) l5 c5 k5
  have B5 := F5.binds (ps := ["self", "configuration"]) fun _ _ _ _ _ _ us hl => match us, hl with | [_, _], _ => rfl
  have F6 := fun_mk (st := sCStop) l6 c6 k6
  have B6 := F6.binds (ps := ["self", "configuration"]) fun _ _ _ _ _ _ us hl => match us, hl with | [_, _], _ => rfl
  have F7 := fun_mk (st := sCRows) l7 c7 k7
  have B7 := F7.binds (ps := ["self", "configuration", "steps"]) fun _ _ _ _ _ _ us hl => match us, hl with | [_, _, _], _ => rfl
  have F8 := fun_mk (st := sIsI) l8 c8 k8
  have B8 := F8.binds (ps := ["value", "least", "most"]) fun _ _ _ _ _ _ us hl => match us, hl with | [_, _, _], _ => rfl
  have F9 := fun_mk (st := sTrim) l9 c9 k9
  have B9 := F9.binds (ps := ["marks"]) fun _ _ _ _ _ _ us hl => match us, hl with | [_], _ => rfl
  have F10 := fun_mk (st := sTInit) l10 c10 k10
  have B10 := F10.binds (ps := ["self", "marks", "states", "rows"]) fun _ _ _ _ _ _ us hl => match us, hl with | [_, _, _, _], _ => rfl
  have F11 := fun_mk (st := sIsRow) l11 c11 k11
  have B11 := F11.binds (ps := ["self", "row"]) fun _ _ _ _ _ _ us hl => match us, hl with | [_, _], _ => rfl
  have F12 := fun_mk (st := sTRow) l12 c12 k12
  have B12 := F12.binds (ps := ["self", "state", "mark"]) fun _ _ _ _ _ _ us hl => match us, hl with | [_, _, _], _ => rfl
  have F13 := fun_mk (st := sTStop) l13 c13 k13
  have B13 := F13.binds (ps := ["self", "configuration"]) fun _ _ _ _ _ _ us hl => match us, hl with | [_, _], _ => rfl
  have F14 := fun_mk (st := sLtr) l14 c14 k14
  have B14 := F14.binds (ps := ["marks", "mark", "state"]) fun _ _ _ _ _ _ us hl => match us, hl with | [_, _, _], _ => rfl
  have F15 := fun_mk (st := sLine) l15 c15 k15
  have B15 := F15.binds (ps := ["marks", "configuration"]) fun _ _ _ _ _ _ us hl => match us, hl with | [_, _], _ => rfl
  have F16 := fun_mk (st := sMean) l16 c16 k16
  have B16 := F16.binds (ps := ["machine", "line"]) fun _ _ _ _ _ _ us hl => match us, hl with | [_, _], _ => rfl
  have F17 := fun_mk (st := sSInit) l17 c17 k17
  have B17 := F17.binds (ps := ["self", "machine"]) fun _ _ _ _ _ _ us hl => match us, hl with | [_, _], _ => rfl
  have F18 := fun_mk (st := sAdd) l18 c18 k18
  have B18 := F18.binds (ps := ["self", "changes", "state", "mark"]) fun _ _ _ _ _ _ us hl => match us, hl with | [_, _, _, _], _ => rfl
  have F19 := fun_mk (st := sLetter) l19 c19 k19
  have B19 := F19.binds (ps := ["self", "mark", "state"]) fun _ _ _ _ _ _ us hl => match us, hl with | [_, _, _], _ => rfl
  have F20 := fun_mk (st := sDown) l20 c20 k20
  have B20 := F20.binds (ps := ["self", "configuration"]) fun _ _ _ _ _ _ us hl => match us, hl with | [_, _], _ => rfl
  have F21 := fun_mk (st := sUp) l21 c21 k21
  have B21 := F21.binds (ps := ["self", "configuration"]) fun _ _ _ _ _ _ us hl => match us, hl with | [_, _], _ => rfl
  have F22 := fun_mk (st := sPace) l22 c22 k22
  have B22 := F22.binds (ps := ["self", "configuration"]) fun _ _ _ _ _ _ us hl => match us, hl with | [_, _], _ => rfl
  have F23 := fun_mk (st := sWCell) l23 c23 k23
  have B23 := F23.binds (ps := ["_law_script", "_law_k"]) fun _ _ _ _ _ _ us hl => match us, hl with | [_, _], _ => rfl
  have F24 := fun_mk (st := sWMix) l24 c24 k24
  have B24 := F24.binds (ps := ["_law_cell_here", "_law_k"]) fun _ _ _ _ _ _ us hl => match us, hl with | [_, _], _ => rfl
  have F25 := fun_mk (st := sWDig) l25 c25 k25
  have B25 := F25.binds (ps := ["_law_cell_here", "_law_count", "_law_many"]) fun _ _ _ _ _ _ us hl => match us, hl with | [_, _, _], _ => rfl
  have F26 := fun_mk (st := sWTape) l26 c26 k26
  have B26 := F26.binds (ps := ["_law_numbers", "_law_most_marks", "_law_most_states"]) fun _ _ _ _ _ _ us hl => match us, hl with | [_, _, _], _ => rfl
  have F27 := fun_mk (st := sWTrim) l27 c27 k27
  have B27 := F27.binds (ps := ["_law_row"]) fun _ _ _ _ _ _ us hl => match us, hl with | [_], _ => rfl
  have F28 := fun_mk (st := sWCfg) l28 c28 k28
  have B28 := F28.binds (ps := ["_law_machine", "_law_cell_here"]) fun _ _ _ _ _ _ us hl => match us, hl with | [_, _], _ => rfl
  have F29 := fun_mk (st := sWNext) l29 c29 k29
  have B29 := F29.binds (ps := ["_law_machine", "_law_configuration_here"]) fun _ _ _ _ _ _ us hl => match us, hl with | [_, _], _ => rfl
  have F30 := fun_mk (st := sLaw) l30 c30 k30
  have D : Dfs K mg cT cC cS := {
    isL := ⟨_, _, F0, B0, PySem.W.mg_of X G a0⟩
    ends := ⟨_, _, F1, B1, PySem.W.mg_of X G a1⟩
    cInit := ⟨_, _, F2, B2, ⟨mkC, a2, i2, kcC⟩⟩
    change := ⟨_, _, F3, B3, ⟨a3, i3, k3⟩⟩
    foll := ⟨_, _, F4, B4, ⟨a4, i4, k4⟩⟩
    cStep := ⟨_, _, F5, B5, ⟨a5, i5, k5⟩⟩
    cStop := ⟨_, _, F6, B6, ⟨a6, i6, k6⟩⟩
    cRows := ⟨_, _, F7, B7, ⟨a7, i7, k7⟩⟩
    isI := ⟨_, _, F8, B8, PySem.W.mg_of X G a8⟩
    trim := ⟨_, _, F9, B9, PySem.W.mg_of X G a9⟩
    tInit := ⟨_, _, F10, B10, ⟨mkT, a10, i10, kcT⟩⟩
    isRow := ⟨_, _, F11, B11, ⟨a11, i11, k11⟩⟩
    tRow := ⟨_, _, F12, B12, ⟨a12, i12, k12⟩⟩
    tStop := ⟨_, _, F13, B13, ⟨a13, i13, k13⟩⟩
    ltr := ⟨_, _, F14, B14, PySem.W.mg_of X G a14⟩
    line := ⟨_, _, F15, B15, PySem.W.mg_of X G a15⟩
    mean := ⟨_, _, F16, B16, PySem.W.mg_of X G a16⟩
    sInit := ⟨_, _, F17, B17, ⟨mkS, a17, i17, kcS⟩⟩
    add := ⟨_, _, F18, B18, ⟨a18, i18, k18⟩⟩
    letter := ⟨_, _, F19, B19, ⟨a19, i19, k19⟩⟩
    down := ⟨_, _, F20, B20, ⟨a20, i20, k20⟩⟩
    up := ⟨_, _, F21, B21, ⟨a21, i21, k21⟩⟩
    pace := ⟨_, _, F22, B22, ⟨a22, i22, k22⟩⟩
    wCell := ⟨_, _, F23, B23, PySem.W.mg_of X G a23⟩
    wMix := ⟨_, _, F24, B24, PySem.W.mg_of X G a24⟩
    wDig := ⟨_, _, F25, B25, PySem.W.mg_of X G a25⟩
    wTape := ⟨_, _, F26, B26, PySem.W.mg_of X G a26⟩
    wTrim := ⟨_, _, F27, B27, PySem.W.mg_of X G a27⟩
    wCfg := ⟨_, _, F28, B28, PySem.W.mg_of X G a28⟩
    wNext := ⟨_, _, F29, B29, PySem.W.mg_of X G a29⟩
  }
  exact ⟨_, fun s v => .of_eq rfl, fun base _ _ => ok_law F30 T D⟩
theorem walk {l : PySem.W.OpenLaw} {q : Program} {loose : List Str} {XP : (Str → Option Value) → Heap → Prop} {YP : World → Heap → Prop} {d : DefRec} {K : Params → PySem.W.Frag} (hn : l.most = some 63) (hdf : d.params.defaults = [])
    (hY : ∀ (w : World) (h : Heap), YP w h → (K w.params).In h)
    (F : ∀ (w : World) (mg : Str → Option Value) (fa : Addr) (h : Heap), (K w.params).In h → h.Ns mainGlobals mg → mg d.name = some (.ref fa) →
      ∃ fd : FuncData, (∀ (s : Shared) (u : Value), BindsTo s fd ⟨[u], []⟩ [("_law_script", u)]) ∧ ∀ base : Heap, (K w.params).In base → base.Ns mainGlobals mg → FnOk l.prog w (K w.params) mg base CX0 6 fa fd ["_law_script"] (spLaw (K w.params))) :
    PySem.W.WalkO q loose XP YP l.row.toRowW d [] (fun f vs => PySem.call f vs) :=
  L2.walk_of (n := 63) (k := 6) (x := "_law_script") (CX := fun _ => CX0) (sp := fun w => spLaw (K w.params)) hn (by decide) hdf ⟨rfl, by decide, by decide⟩ hY F (fun _ _ a ns _ _ hS => ⟨a, ns, rfl, hS, fun _ => rfl⟩) fun _ _ _ _ _ z => z
end Sd

set_option Elab.async false
set_option linter.all false
set_option maxRecDepth 100000
open PySem PySem.W PyProof.Rows
set_option maxRecDepth 100000 in
set_option maxHeartbeats 0 in
theorem PySem.Challenge.cw_stepdown_k14_whole_cells_do_the_same_holds : PySem.Challenge.rw_stepdown_k14_whole_cells_do_the_same.Holds := by
  w_on; o_law; k_head; (case hw => w_witness2)
  k_fill
  refine Sd.walk (l := PySem.Challenge.rw_stepdown_k14_whole_cells_do_the_same) rfl rfl (fun w h Y => PySem.W.kIn_of Y) ?F
  case F =>
    intro w mg fa h KX G hmg
    refine' Sd.all_mk KX G hmg ?aT ?aC ?aS ?a0 ?l0 ?c0 ?k0 ?a1 ?l1 ?c1 ?k1 ?a2 ?i2 ?l2 ?c2 ?k2 ?a3 ?i3 ?l3 ?c3 ?k3 ?a4 ?i4 ?l4 ?c4 ?k4 ?a5 ?i5 ?l5 ?c5 ?k5 ?a6 ?i6 ?l6 ?c6 ?k6 ?a7 ?i7 ?l7 ?c7 ?k7 ?a8 ?l8 ?c8 ?k8 ?a9 ?l9 ?c9 ?k9 ?a10 ?i10 ?l10 ?c10 ?k10 ?a11 ?i11 ?l11 ?c11 ?k11 ?a12 ?i12 ?l12 ?c12 ?k12 ?a13 ?i13 ?l13 ?c13 ?k13 ?a14 ?l14 ?c14 ?k14 ?a15 ?l15 ?c15 ?k15 ?a16 ?l16 ?c16 ?k16 ?a17 ?i17 ?l17 ?c17 ?k17 ?a18 ?i18 ?l18 ?c18 ?k18 ?a19 ?i19 ?l19 ?c19 ?k19 ?a20 ?i20 ?l20 ?c20 ?k20 ?a21 ?i21 ?l21 ?c21 ?k21 ?a22 ?i22 ?l22 ?c22 ?k22 ?a23 ?l23 ?c23 ?k23 ?a24 ?l24 ?c24 ?k24 ?a25 ?l25 ?c25 ?k25 ?a26 ?l26 ?c26 ?k26 ?a27 ?l27 ?c27 ?k27 ?a28 ?l28 ?c28 ?k28 ?a29 ?l29 ?c29 ?k29 ?a30 ?l30 ?c30 ?k30 ?pgT ?hdT ?poT ?saT ?mkT ?kcT ?pgC ?hdC ?poC ?saC ?mkC ?kcC ?pgS ?hdS ?poS ?saS ?mkS ?kcS ?nMarks ?nStates ?nRows ?nLetters ?nChanges ?nUpper ?nLower ?b_len ?b_tuple ?b_range ?b_int ?b_bool ?b_isinstance ?b_all ?b_list ?k_MOST_LETTERS ?k_MOST_MARKS ?k_MOST_STATES
    (case aT => k_is)
    (case aC => k_is)
    (case aS => k_is)
    (case a0 => k_is)
    (case l0 => k_is)
    (case c0 => k_is)
    (case k0 => k_is)
    (case a1 => k_is)
    (case l1 => k_is)
    (case c1 => k_is)
    (case k1 => k_is)
    (case a2 => k_is)
    (case i2 => k_is)
    (case l2 => k_is)
    (case c2 => k_is)
    (case k2 => k_is)
    (case a3 => k_is)
    (case i3 => k_is)
    (case l3 => k_is)
    (case c3 => k_is)
    (case k3 => k_is)
    (case a4 => k_is)
    (case i4 => k_is)
    (case l4 => k_is)
    (case c4 => k_is)
    (case k4 => k_is)
    (case a5 => k_is)
    (case i5 => k_is)
    (case l5 => k_is)
    (case c5 => k_is)
    (case k5 => k_is)
    (case a6 => k_is)
    (case i6 => k_is)
    (case l6 => k_is)
    (case c6 => k_is)
    (case k6 => k_is)
    (case a7 => k_is)
    (case i7 => k_is)
    (case l7 => k_is)
    (case c7 => k_is)
    (case k7 => k_is)
    (case a8 => k_is)
    (case l8 => k_is)
    (case c8 => k_is)
    (case k8 => k_is)
    (case a9 => k_is)
    (case l9 => k_is)
    (case c9 => k_is)
    (case k9 => k_is)
    (case a10 => k_is)
    (case i10 => k_is)
    (case l10 => k_is)
    (case c10 => k_is)
    (case k10 => k_is)
    (case a11 => k_is)
    (case i11 => k_is)
    (case l11 => k_is)
    (case c11 => k_is)
    (case k11 => k_is)
    (case a12 => k_is)
    (case i12 => k_is)
    (case l12 => k_is)
    (case c12 => k_is)
    (case k12 => k_is)
    (case a13 => k_is)
    (case i13 => k_is)
    (case l13 => k_is)
    (case c13 => k_is)
    (case k13 => k_is)
    (case a14 => k_is)
    (case l14 => k_is)
    (case c14 => k_is)
    (case k14 => k_is)
    (case a15 => k_is)
    (case l15 => k_is)
    (case c15 => k_is)
    (case k15 => k_is)
    (case a16 => k_is)
    (case l16 => k_is)
    (case c16 => k_is)
    (case k16 => k_is)
    (case a17 => k_is)
    (case i17 => k_is)
    (case l17 => k_is)
    (case c17 => k_is)
    (case k17 => k_is)
    (case a18 => k_is)
    (case i18 => k_is)
    (case l18 => k_is)
    (case c18 => k_is)
    (case k18 => k_is)
    (case a19 => k_is)
    (case i19 => k_is)
    (case l19 => k_is)
    (case c19 => k_is)
    (case k19 => k_is)
    (case a20 => k_is)
    (case i20 => k_is)
    (case l20 => k_is)
    (case c20 => k_is)
    (case k20 => k_is)
    (case a21 => k_is)
    (case i21 => k_is)
    (case l21 => k_is)
    (case c21 => k_is)
    (case k21 => k_is)
    (case a22 => k_is)
    (case i22 => k_is)
    (case l22 => k_is)
    (case c22 => k_is)
    (case k22 => k_is)
    (case a23 => k_is)
    (case l23 => k_is)
    (case c23 => k_is)
    (case k23 => k_is)
    (case a24 => k_is)
    (case l24 => k_is)
    (case c24 => k_is)
    (case k24 => k_is)
    (case a25 => k_is)
    (case l25 => k_is)
    (case c25 => k_is)
    (case k25 => k_is)
    (case a26 => k_is)
    (case l26 => k_is)
    (case c26 => k_is)
    (case k26 => k_is)
    (case a27 => k_is)
    (case l27 => k_is)
    (case c27 => k_is)
    (case k27 => k_is)
    (case a28 => k_is)
    (case l28 => k_is)
    (case c28 => k_is)
    (case k28 => k_is)
    (case a29 => k_is)
    (case l29 => k_is)
    (case c29 => k_is)
    (case k29 => k_is)
    (case a30 => k_is)
    (case l30 => k_is)
    (case c30 => k_is)
    (case k30 => k_is)
    (case pgT => k_is)
    (case hdT => k_is)
    (case poT => k_is)
    (case saT => k_is)
    (case mkT => k_is)
    (case kcT => k_is)
    (case pgC => k_is)
    (case hdC => k_is)
    (case poC => k_is)
    (case saC => k_is)
    (case mkC => k_is)
    (case kcC => k_is)
    (case pgS => k_is)
    (case hdS => k_is)
    (case poS => k_is)
    (case saS => k_is)
    (case mkS => k_is)
    (case kcS => k_is)
    (case nMarks => k_is)
    (case nStates => k_is)
    (case nRows => k_is)
    (case nLetters => k_is)
    (case nChanges => k_is)
    (case nUpper => k_is)
    (case nLower => k_is)
    (case b_len => k_is)
    (case b_tuple => k_is)
    (case b_range => k_is)
    (case b_int => k_is)
    (case b_bool => k_is)
    (case b_isinstance => k_is)
    (case b_all => k_is)
    (case b_list => k_is)
    (case k_MOST_LETTERS => k_is)
    (case k_MOST_MARKS => k_is)
    (case k_MOST_STATES => k_is)
